/- The walk of what the law FnExactFlyGo reaches: laid by a program of this session (ownprint.py). -/
import Derived.Test.YtidenmcoilmbcaaQFnExactFlyGox0
import Derived.Test.YtidenmcoilmbcaaQFnExactFlyGox16
namespace Go.Proofs.Ytidenmcoilmbcaa.QFnExactFlyGo
open Go.RowKit Go.Proofs.YtidenmcoilmbcaaW.PrintWords Go.Proofs.YtidenmcoilmbcaaW.PrintLast Go.Proofs.YtidenmcoilmbcaaW.PrintMore Go.Proofs.Ytidenmcoilmbcaa.Z
attribute [local go_sem] max2_int min2_int max_two min_two max_three min_three max_four min_four zdn   -- for this text's walks alone
set_option linter.unusedVariables false
set_option linter.unusedSimpArgs false
def laws_eqFlyStepS.l0 : Nat → List (S88) → List (S88) → Int → Option (Bool)
 | 0, _, _, _ => none
 | k + 1, x0, x1, x5 => if x5 < (x0.length : Int) then (if 0 ≤ x5 then (if x5 < (x1.length : Int) then ((laws_eqFlyStep.f ((rd_T88 x0 x5).f0) ((rd_T88 x0 x5).f1) ((rd_T88 x0 x5).f2) ((rd_T88 x0 x5).f3) ((rd_T88 x0 x5).f4) ((rd_T88 x0 x5).f5) ((rd_T88 x0 x5).f6) ((rd_T88 x1 x5).f0) ((rd_T88 x1 x5).f1) ((rd_T88 x1 x5).f2) ((rd_T88 x1 x5).f3) ((rd_T88 x1 x5).f4) ((rd_T88 x1 x5).f5) ((rd_T88 x1 x5).f6)).bind fun t373 => (if t373 = true then (laws_eqFlyStepS.l0 k x0 x1 (wrap64 (x5 + 1))) else (some false))) else (none)) else (none)) else (some true)
def laws_eqFlyStepS.f (k : Nat) (l0 : List (S88)) (l1 : List (S88)) : Option (Bool) := if (l0.length : Int) = (l1.length : Int) then (laws_eqFlyStepS.l0 k l0 l1 0) else (some false)
def laws_eqFlyStepS.T6 : Bool × List (List Nat × List Nat) := (true, [([], []), ([], []), ([0, 1], [0, 1]), ([2], [2]), ([], []), ([], []), ([4, 5], [4, 5]), ([6], [6]), ([3, 7], [3, 7]), ([8], [8])])
def laws_eqFlyStepS.B6 : List Nat := [0, 0, 3, 7, 0, 0, 48, 112, 255, 511]
theorem laws_eqFlyStepS.tab6 : rtab .any (opsOf Try.f58 6) = laws_eqFlyStepS.T6 := by kernel_rfl
theorem laws_eqFlyStepS.bits6 : waitsOk laws_eqFlyStepS.T6.2 laws_eqFlyStepS.B6 = true := by kernel_rfl
set_option maxHeartbeats 8000000 in
set_option maxRecDepth 100000 in
theorem laws_eqFlyStepS.calls (k : Nat) (A0 : Option Addr) (c0 : Nat) (l0 : List (S88)) (A1 : Option Addr) (c1 : Nat) (l1 : List (S88)) (r : Bool) (w : World) (hr0 : Kd.C k88 w A0 l0.length l0) (hc0 : l0.length ≤ c0) (hr1 : Kd.C k88 w A1 l1.length l1) (hc1 : l1.length ≤ c1) (h : laws_eqFlyStepS.f k l0 l1 = some r) :
 Calls Try.prog 58 #[.slice A0 l0.length c0, .slice A1 l1.length c1] w fun e w' => e = .returned (.bool r) ∧ Below w.heap.size w w' := by
 have hu88 := Try.underlying88
 have HR0 := zA hr0
 have HC0 := zA hc0
 clear hr0 hc0
 have HR1 := zA hr1
 have HC1 := zA hc1
 clear hr1 hc1
 have HB := zA (Below.refl w.heap.size w)
 have H : (if (l0.length : Int) = (l1.length : Int) then (laws_eqFlyStepS.l0 k l0 l1 0) else (some false)) = some r := h
 clear h
 by_cases c3 : (l0.length : Int) = (l1.length : Int)
 rotate_left
 ·rw [if_neg c3] at H
  have c3b0 : ((l0.length : Int) == (l1.length : Int)) = false := beq_eq_false_iff_ne.mpr c3
  have c3b1 : ((l0.length : Int) != (l1.length : Int)) = true := bne_iff_ne.mpr c3
  have c3b2 : (l0.length == l1.length) = false := by first | simpa using c3 | (simp at c3 ⊢; omega)
  obtain rfl := Option.some.inj H
  go_enter Try.func58, Try.ntmps58
  go_wp2
  go_ret
  exact ⟨ze, zs0 HB⟩
 rw [if_pos c3] at H
 have c3b0 : ((l0.length : Int) == (l1.length : Int)) = true := beq_iff_eq.mpr c3
 have c3b1 : ((l0.length : Int) != (l1.length : Int)) = false := bne_eq_false_iff_eq.mpr c3
 have c3b2 : (l0.length == l1.length) = true := by first | simpa using c3 | (simp at c3 ⊢; omega)
 clear c3
 have H' := zA H
 clear H
 go_enter Try.func58, Try.ntmps58
 go_wp2
 go_loopg [5] k (fun kq v5 w' => ∃ (x5_1 : Int), v5 = .int .i64 x5_1 ∧ Aside0 (laws_eqFlyStepS.l0 kq l0 l1 x5_1 = some r) ∧ Aside0 (kq ≤ k) ∧ Aside0 (Below w.heap.size w w'))
 case atStart => exact ⟨(0), zi, H', ⟨Nat.le_refl _⟩, ⟨zs0 HB⟩⟩
 case round =>
  clear H'
  try clear c1
  try clear p2
  try clear c3
  try clear c3b0
  try clear c3b1
  try clear c3b2
  obtain ⟨x5_1, rfl, HA, HK1, HB⟩ := hrel
  cases gk with
  | zero => exact absurd HA.out (by simp [laws_eqFlyStepS.l0])
  | succ k1 =>
   have H := HA.out
   clear HA
   simp only [laws_eqFlyStepS.l0] at H
   by_cases c4 : x5_1 < (l0.length : Int)
   rotate_left
   ·rw [if_neg c4] at H
    have c4b0 : decide (x5_1 < (l0.length : Int)) = false := decide_eq_false c4
    clear c4
    obtain rfl := Option.some.inj H
    go_wp2
    go_ret
    exact ⟨ze, zs0 HB⟩
   rw [if_pos c4] at H
   have c4b0 : decide (x5_1 < (l0.length : Int)) = true := decide_eq_true c4
   clear c4
   by_cases c5 : 0 ≤ x5_1
   rotate_left
   ·rw [if_neg c5] at H
    exact absurd H (by simp)
   rw [if_pos c5] at H
   have c5b0 : decide (0 ≤ x5_1) = true := decide_eq_true c5
   clear c5
   by_cases c6 : x5_1 < (l1.length : Int)
   rotate_left
   ·rw [if_neg c6] at H
    exact absurd H (by simp)
   rw [if_pos c6] at H
   have c6b0 : decide (x5_1 < (l1.length : Int)) = true := decide_eq_true c6
   clear c6
   replace H := zbd H; obtain ⟨t373, A7, H⟩ := H
   by_cases c8 : t373 = true
   rotate_left
   ·replace c8 := Bool.eq_false_iff.mpr c8
    subst c8
    have H1 : (some false) = some r := by rw [if_neg (show ¬ (false = true) by decide)] at H; exact H
    clear H
    have H := H1
    clear H1
    obtain rfl := Option.some.inj H
    try go_wp2
    replace HB := zA (below_drew1 HB.out)
    have p371 : 0 ≤ (x5_1 : Int) := za
    have q371 : x5_1 < (l0.length : Int) := za
    obtain ⟨ad371, e371, hx371_0, hx371_1, hx371_2, hx371_3, hx371_4, hx371_5, hx371_6⟩ := at_T88 HR0.out x5_1 p371 q371
    have hw371_6 := hx371_6
    have hw371_5 := hx371_5
    have hw371_4 := hx371_4
    have hw371_3 := hx371_3
    have hw371_2 := hx371_2
    have hw371_1 := hx371_1
    have hw371_0 := hx371_0
    cases e371
    replace hx371_0 := zx HB hx371_0
    replace hx371_1 := zx HB hx371_1
    replace hx371_2 := zx HB hx371_2
    replace hx371_3 := zx HB hx371_3
    replace hx371_4 := zx HB hx371_4
    replace hx371_5 := zx HB hx371_5
    replace hx371_6 := zx HB hx371_6
    replace p371 := eq_true p371
    replace q371 := eq_true q371
    have p372 : 0 ≤ (x5_1 : Int) := za
    have q372 : x5_1 < (l1.length : Int) := za
    obtain ⟨ad372, e372, hx372_0, hx372_1, hx372_2, hx372_3, hx372_4, hx372_5, hx372_6⟩ := at_T88 HR1.out x5_1 p372 q372
    have hw372_6 := hx372_6
    have hw372_5 := hx372_5
    have hw372_4 := hx372_4
    have hw372_3 := hx372_3
    have hw372_2 := hx372_2
    have hw372_1 := hx372_1
    have hw372_0 := hx372_0
    cases e372
    replace hx372_0 := zx HB hx372_0
    replace hx372_1 := zx HB hx372_1
    replace hx372_2 := zx HB hx372_2
    replace hx372_3 := zx HB hx372_3
    replace hx372_4 := zx HB hx372_4
    replace hx372_5 := zx HB hx372_5
    replace hx372_6 := zx HB hx372_6
    replace p372 := eq_true p372
    replace q372 := eq_true q372
    refine start_ (n := 10) (S := fun w' => w'.cell? (ad371.add ((x5_1).toNat * 7)) = some (.int .i64 ((rd_T88 l0 x5_1).f0)) ∧ w'.cell? ⟨(ad371.add ((x5_1).toNat * 7)).block, (ad371.add ((x5_1).toNat * 7)).off + 1, none⟩ = some (.int .i64 ((rd_T88 l0 x5_1).f1)) ∧ w'.cell? ⟨(ad371.add ((x5_1).toNat * 7)).block, (ad371.add ((x5_1).toNat * 7)).off + 2, none⟩ = some (.int .i64 ((rd_T88 l0 x5_1).f2)) ∧ w'.cell? ⟨(ad371.add ((x5_1).toNat * 7)).block, (ad371.add ((x5_1).toNat * 7)).off + 3, none⟩ = some (.int .i64 ((rd_T88 l0 x5_1).f3)) ∧ w'.cell? ⟨(ad371.add ((x5_1).toNat * 7)).block, (ad371.add ((x5_1).toNat * 7)).off + 4, none⟩ = some (.int .i64 ((rd_T88 l0 x5_1).f4)) ∧ w'.cell? ⟨(ad371.add ((x5_1).toNat * 7)).block, (ad371.add ((x5_1).toNat * 7)).off + 5, none⟩ = some (.int .i64 ((rd_T88 l0 x5_1).f5)) ∧ w'.cell? ⟨(ad371.add ((x5_1).toNat * 7)).block, (ad371.add ((x5_1).toNat * 7)).off + 6, none⟩ = some (.bool ((rd_T88 l0 x5_1).f6)) ∧ w'.cell? (ad372.add ((x5_1).toNat * 7)) = some (.int .i64 ((rd_T88 l1 x5_1).f0)) ∧ w'.cell? ⟨(ad372.add ((x5_1).toNat * 7)).block, (ad372.add ((x5_1).toNat * 7)).off + 1, none⟩ = some (.int .i64 ((rd_T88 l1 x5_1).f1)) ∧ w'.cell? ⟨(ad372.add ((x5_1).toNat * 7)).block, (ad372.add ((x5_1).toNat * 7)).off + 2, none⟩ = some (.int .i64 ((rd_T88 l1 x5_1).f2)) ∧ w'.cell? ⟨(ad372.add ((x5_1).toNat * 7)).block, (ad372.add ((x5_1).toNat * 7)).off + 3, none⟩ = some (.int .i64 ((rd_T88 l1 x5_1).f3)) ∧ w'.cell? ⟨(ad372.add ((x5_1).toNat * 7)).block, (ad372.add ((x5_1).toNat * 7)).off + 4, none⟩ = some (.int .i64 ((rd_T88 l1 x5_1).f4)) ∧ w'.cell? ⟨(ad372.add ((x5_1).toNat * 7)).block, (ad372.add ((x5_1).toNat * 7)).off + 5, none⟩ = some (.int .i64 ((rd_T88 l1 x5_1).f5)) ∧ w'.cell? ⟨(ad372.add ((x5_1).toNat * 7)).block, (ad372.add ((x5_1).toNat * 7)).off + 6, none⟩ = some (.bool ((rd_T88 l1 x5_1).f6))) (ds := []) #[F,F,F,F,F,F,F,F,F,F] (by kernel_rfl) rfl rfl ⟨(zw HB hw371_0), (zw HB hw371_1), (zw HB hw371_2), (zw HB hw371_3), (zw HB hw371_4), (zw HB hw371_5), (zw HB hw371_6), (zw HB hw372_0), (zw HB hw372_1), (zw HB hw372_2), (zw HB hw372_3), (zw HB hw372_4), (zw HB hw372_5), (zw HB hw372_6)⟩ (fun hHeld => ?_); refine with_tabW laws_eqFlyStepS.tab6 laws_eqFlyStepS.bits6 (fun HT_ HW_ => ?_)
    generalize wr.drew = w11 at HB hx371_0 hx371_1 hx371_2 hx371_3 hx371_4 hx371_5 hx371_6 hx372_0 hx372_1 hx372_2 hx372_3 hx372_4 hx372_5 hx372_6 hHeld ⊢
    refine zq HT_ 0 ?_
    refine zq HT_ 1 ?_
    refine zq HT_ 2 ?_
    refine zq HT_ 4 ?_
    refine zq HT_ 5 ?_
    refine zq HT_ 6 ?_
    refine zk14 HT_ HW_ hHeld 3 ?_
    refine zk14 HT_ HW_ hHeld 7 ?_
    refine zo HT_ 8 (fun K hK => ?_)
    refine zgo Try.func90 #[.agg #[.int .i64 ((rd_T88 l0 x5_1).f0), .int .i64 ((rd_T88 l0 x5_1).f1), .int .i64 ((rd_T88 l0 x5_1).f2), .int .i64 ((rd_T88 l0 x5_1).f3), .int .i64 ((rd_T88 l0 x5_1).f4), .int .i64 ((rd_T88 l0 x5_1).f5), .bool ((rd_T88 l0 x5_1).f6)], .agg #[.int .i64 ((rd_T88 l1 x5_1).f0), .int .i64 ((rd_T88 l1 x5_1).f1), .int .i64 ((rd_T88 l1 x5_1).f2), .int .i64 ((rd_T88 l1 x5_1).f3), .int .i64 ((rd_T88 l1 x5_1).f4), .int .i64 ((rd_T88 l1 x5_1).f5), .bool ((rd_T88 l1 x5_1).f6)]] ?_
    with_reducible refine (laws_eqFlyStep.calls ((rd_T88 l0 x5_1).f0) ((rd_T88 l0 x5_1).f1) ((rd_T88 l0 x5_1).f2) ((rd_T88 l0 x5_1).f3) ((rd_T88 l0 x5_1).f4) ((rd_T88 l0 x5_1).f5) ((rd_T88 l0 x5_1).f6) ((rd_T88 l1 x5_1).f0) ((rd_T88 l1 x5_1).f1) ((rd_T88 l1 x5_1).f2) ((rd_T88 l1 x5_1).f3) ((rd_T88 l1 x5_1).f4) ((rd_T88 l1 x5_1).f5) ((rd_T88 l1 x5_1).f6) false _ A7.out).mono ?_
    rintro e w12 ⟨rfl, hb⟩
    refine ⟨_, rfl, ?_⟩
    replace HB := zE (zs0 HB) hb
    (try clear hb)
    (try clear hb2)
    (try clear hk)
    (try clear hi)
    refine hK.out _ _ ⟨(zw HB hw371_0), (zw HB hw371_1), (zw HB hw371_2), (zw HB hw371_3), (zw HB hw371_4), (zw HB hw371_5), (zw HB hw371_6), (zw HB hw372_0), (zw HB hw372_1), (zw HB hw372_2), (zw HB hw372_3), (zw HB hw372_4), (zw HB hw372_5), (zw HB hw372_6)⟩ (fun hHeld => ?_)
    clear hK K
    refine zN ?_
    refine zq HT_ 9 ?_
    refine done_ (done_of HT_.out (by kernel_rfl)) ?_
    try go_wp2
    go_ret
    exact ⟨ze, zs0 HB⟩
   subst c8
   have H1 : (laws_eqFlyStepS.l0 k1 l0 l1 (wrap64 (x5_1 + 1))) = some r := by rw [if_pos rfl] at H; exact H
   clear H
   have H := H1
   clear H1
   have H' := zA H
   clear H
   try go_wp2
   replace HB := zA (below_drew1 HB.out)
   have p371 : 0 ≤ (x5_1 : Int) := za
   have q371 : x5_1 < (l0.length : Int) := za
   obtain ⟨ad371, e371, hx371_0, hx371_1, hx371_2, hx371_3, hx371_4, hx371_5, hx371_6⟩ := at_T88 HR0.out x5_1 p371 q371
   have hw371_6 := hx371_6
   have hw371_5 := hx371_5
   have hw371_4 := hx371_4
   have hw371_3 := hx371_3
   have hw371_2 := hx371_2
   have hw371_1 := hx371_1
   have hw371_0 := hx371_0
   cases e371
   replace hx371_0 := zx HB hx371_0
   replace hx371_1 := zx HB hx371_1
   replace hx371_2 := zx HB hx371_2
   replace hx371_3 := zx HB hx371_3
   replace hx371_4 := zx HB hx371_4
   replace hx371_5 := zx HB hx371_5
   replace hx371_6 := zx HB hx371_6
   replace p371 := eq_true p371
   replace q371 := eq_true q371
   have p372 : 0 ≤ (x5_1 : Int) := za
   have q372 : x5_1 < (l1.length : Int) := za
   obtain ⟨ad372, e372, hx372_0, hx372_1, hx372_2, hx372_3, hx372_4, hx372_5, hx372_6⟩ := at_T88 HR1.out x5_1 p372 q372
   have hw372_6 := hx372_6
   have hw372_5 := hx372_5
   have hw372_4 := hx372_4
   have hw372_3 := hx372_3
   have hw372_2 := hx372_2
   have hw372_1 := hx372_1
   have hw372_0 := hx372_0
   cases e372
   replace hx372_0 := zx HB hx372_0
   replace hx372_1 := zx HB hx372_1
   replace hx372_2 := zx HB hx372_2
   replace hx372_3 := zx HB hx372_3
   replace hx372_4 := zx HB hx372_4
   replace hx372_5 := zx HB hx372_5
   replace hx372_6 := zx HB hx372_6
   replace p372 := eq_true p372
   replace q372 := eq_true q372
   refine start_ (n := 10) (S := fun w' => w'.cell? (ad371.add ((x5_1).toNat * 7)) = some (.int .i64 ((rd_T88 l0 x5_1).f0)) ∧ w'.cell? ⟨(ad371.add ((x5_1).toNat * 7)).block, (ad371.add ((x5_1).toNat * 7)).off + 1, none⟩ = some (.int .i64 ((rd_T88 l0 x5_1).f1)) ∧ w'.cell? ⟨(ad371.add ((x5_1).toNat * 7)).block, (ad371.add ((x5_1).toNat * 7)).off + 2, none⟩ = some (.int .i64 ((rd_T88 l0 x5_1).f2)) ∧ w'.cell? ⟨(ad371.add ((x5_1).toNat * 7)).block, (ad371.add ((x5_1).toNat * 7)).off + 3, none⟩ = some (.int .i64 ((rd_T88 l0 x5_1).f3)) ∧ w'.cell? ⟨(ad371.add ((x5_1).toNat * 7)).block, (ad371.add ((x5_1).toNat * 7)).off + 4, none⟩ = some (.int .i64 ((rd_T88 l0 x5_1).f4)) ∧ w'.cell? ⟨(ad371.add ((x5_1).toNat * 7)).block, (ad371.add ((x5_1).toNat * 7)).off + 5, none⟩ = some (.int .i64 ((rd_T88 l0 x5_1).f5)) ∧ w'.cell? ⟨(ad371.add ((x5_1).toNat * 7)).block, (ad371.add ((x5_1).toNat * 7)).off + 6, none⟩ = some (.bool ((rd_T88 l0 x5_1).f6)) ∧ w'.cell? (ad372.add ((x5_1).toNat * 7)) = some (.int .i64 ((rd_T88 l1 x5_1).f0)) ∧ w'.cell? ⟨(ad372.add ((x5_1).toNat * 7)).block, (ad372.add ((x5_1).toNat * 7)).off + 1, none⟩ = some (.int .i64 ((rd_T88 l1 x5_1).f1)) ∧ w'.cell? ⟨(ad372.add ((x5_1).toNat * 7)).block, (ad372.add ((x5_1).toNat * 7)).off + 2, none⟩ = some (.int .i64 ((rd_T88 l1 x5_1).f2)) ∧ w'.cell? ⟨(ad372.add ((x5_1).toNat * 7)).block, (ad372.add ((x5_1).toNat * 7)).off + 3, none⟩ = some (.int .i64 ((rd_T88 l1 x5_1).f3)) ∧ w'.cell? ⟨(ad372.add ((x5_1).toNat * 7)).block, (ad372.add ((x5_1).toNat * 7)).off + 4, none⟩ = some (.int .i64 ((rd_T88 l1 x5_1).f4)) ∧ w'.cell? ⟨(ad372.add ((x5_1).toNat * 7)).block, (ad372.add ((x5_1).toNat * 7)).off + 5, none⟩ = some (.int .i64 ((rd_T88 l1 x5_1).f5)) ∧ w'.cell? ⟨(ad372.add ((x5_1).toNat * 7)).block, (ad372.add ((x5_1).toNat * 7)).off + 6, none⟩ = some (.bool ((rd_T88 l1 x5_1).f6))) (ds := []) #[F,F,F,F,F,F,F,F,F,F] (by kernel_rfl) rfl rfl ⟨(zw HB hw371_0), (zw HB hw371_1), (zw HB hw371_2), (zw HB hw371_3), (zw HB hw371_4), (zw HB hw371_5), (zw HB hw371_6), (zw HB hw372_0), (zw HB hw372_1), (zw HB hw372_2), (zw HB hw372_3), (zw HB hw372_4), (zw HB hw372_5), (zw HB hw372_6)⟩ (fun hHeld => ?_); refine with_tabW laws_eqFlyStepS.tab6 laws_eqFlyStepS.bits6 (fun HT_ HW_ => ?_)
   generalize wr.drew = w9 at HB hx371_0 hx371_1 hx371_2 hx371_3 hx371_4 hx371_5 hx371_6 hx372_0 hx372_1 hx372_2 hx372_3 hx372_4 hx372_5 hx372_6 hHeld ⊢
   refine zq HT_ 0 ?_
   refine zq HT_ 1 ?_
   refine zq HT_ 2 ?_
   refine zq HT_ 4 ?_
   refine zq HT_ 5 ?_
   refine zq HT_ 6 ?_
   refine zk14 HT_ HW_ hHeld 3 ?_
   refine zk14 HT_ HW_ hHeld 7 ?_
   refine zo HT_ 8 (fun K hK => ?_)
   refine zgo Try.func90 #[.agg #[.int .i64 ((rd_T88 l0 x5_1).f0), .int .i64 ((rd_T88 l0 x5_1).f1), .int .i64 ((rd_T88 l0 x5_1).f2), .int .i64 ((rd_T88 l0 x5_1).f3), .int .i64 ((rd_T88 l0 x5_1).f4), .int .i64 ((rd_T88 l0 x5_1).f5), .bool ((rd_T88 l0 x5_1).f6)], .agg #[.int .i64 ((rd_T88 l1 x5_1).f0), .int .i64 ((rd_T88 l1 x5_1).f1), .int .i64 ((rd_T88 l1 x5_1).f2), .int .i64 ((rd_T88 l1 x5_1).f3), .int .i64 ((rd_T88 l1 x5_1).f4), .int .i64 ((rd_T88 l1 x5_1).f5), .bool ((rd_T88 l1 x5_1).f6)]] ?_
   with_reducible refine (laws_eqFlyStep.calls ((rd_T88 l0 x5_1).f0) ((rd_T88 l0 x5_1).f1) ((rd_T88 l0 x5_1).f2) ((rd_T88 l0 x5_1).f3) ((rd_T88 l0 x5_1).f4) ((rd_T88 l0 x5_1).f5) ((rd_T88 l0 x5_1).f6) ((rd_T88 l1 x5_1).f0) ((rd_T88 l1 x5_1).f1) ((rd_T88 l1 x5_1).f2) ((rd_T88 l1 x5_1).f3) ((rd_T88 l1 x5_1).f4) ((rd_T88 l1 x5_1).f5) ((rd_T88 l1 x5_1).f6) true _ A7.out).mono ?_
   rintro e w10 ⟨rfl, hb⟩
   refine ⟨_, rfl, ?_⟩
   replace HB := zE (zs0 HB) hb
   (try clear hb)
   (try clear hb2)
   (try clear hk)
   (try clear hi)
   refine hK.out _ _ ⟨(zw HB hw371_0), (zw HB hw371_1), (zw HB hw371_2), (zw HB hw371_3), (zw HB hw371_4), (zw HB hw371_5), (zw HB hw371_6), (zw HB hw372_0), (zw HB hw372_1), (zw HB hw372_2), (zw HB hw372_3), (zw HB hw372_4), (zw HB hw372_5), (zw HB hw372_6)⟩ (fun hHeld => ?_)
   clear hK K
   refine zN ?_
   refine zq HT_ 9 ?_
   refine done_ (done_of HT_.out (by kernel_rfl)) ?_
   try go_wp2
   go_roundg k1
   case measure => have := HK1.out; omega
   case rel => exact ⟨(wrap64 (x5_1 + 1)), zi, H', ⟨by have := HK1.out; omega⟩, ⟨zs0 HB⟩⟩
def laws_eqFlyPath.f (k : Nat) (a0_0 : Int) (a0_1 : Int) (l0_2 : List (S88)) (a0_3 : Int) (a0_4 : Int) (a1_0 : Int) (a1_1 : Int) (l1_2 : List (S88)) (a1_3 : Int) (a1_4 : Int) : Option (Bool) := (laws_eqFlyKind.f a0_0 a0_1 a1_0 a1_1).bind fun t376 => (if t376 = true then ((laws_eqFlyStepS.f k l0_2 l1_2).bind fun t377 => (if t377 = true then (if a0_3 = a1_3 then (if a0_4 = a1_4 then (some true) else (some false)) else (some false)) else (some false))) else (some false))
set_option maxHeartbeats 8000000 in
set_option maxRecDepth 100000 in
theorem laws_eqFlyPath.calls (k : Nat) (a0_0 : Int) (a0_1 : Int) (A0_2 : Option Addr) (c0_2 : Nat) (l0_2 : List (S88)) (a0_3 : Int) (a0_4 : Int) (a1_0 : Int) (a1_1 : Int) (A1_2 : Option Addr) (c1_2 : Nat) (l1_2 : List (S88)) (a1_3 : Int) (a1_4 : Int) (r : Bool) (w : World) (hr0_2 : Kd.C k88 w A0_2 l0_2.length l0_2) (hc0_2 : l0_2.length ≤ c0_2) (hr1_2 : Kd.C k88 w A1_2 l1_2.length l1_2) (hc1_2 : l1_2.length ≤ c1_2) (h : laws_eqFlyPath.f k a0_0 a0_1 l0_2 a0_3 a0_4 a1_0 a1_1 l1_2 a1_3 a1_4 = some r) :
 Calls Try.prog 21 #[.agg #[.int .i64 a0_0, .int .i64 a0_1, .slice A0_2 l0_2.length c0_2, .int .i64 a0_3, .int .i64 a0_4], .agg #[.int .i64 a1_0, .int .i64 a1_1, .slice A1_2 l1_2.length c1_2, .int .i64 a1_3, .int .i64 a1_4]] w fun e w' => e = .returned (.bool r) ∧ Below w.heap.size w w' := by
 have hu34 := Try.underlying34
 have hu31 := Try.underlying31
 have HR0_2 := zA hr0_2
 have HC0_2 := zA hc0_2
 clear hr0_2 hc0_2
 have HR1_2 := zA hr1_2
 have HC1_2 := zA hc1_2
 clear hr1_2 hc1_2
 have HB := zA (Below.refl w.heap.size w)
 have H : ((laws_eqFlyKind.f a0_0 a0_1 a1_0 a1_1).bind fun t376 => (if t376 = true then ((laws_eqFlyStepS.f k l0_2 l1_2).bind fun t377 => (if t377 = true then (if a0_3 = a1_3 then (if a0_4 = a1_4 then (some true) else (some false)) else (some false)) else (some false))) else (some false))) = some r := h
 clear h
 replace H := zbd H; obtain ⟨t376, A3, H⟩ := H
 by_cases c4 : t376 = true
 rotate_left
 ·replace c4 := Bool.eq_false_iff.mpr c4
  subst c4
  have H1 : (some false) = some r := by rw [if_neg (show ¬ (false = true) by decide)] at H; exact H
  clear H
  have H := H1
  clear H1
  obtain rfl := Option.some.inj H
  go_enter Try.func21, Try.ntmps21
  go_wp2_with (first | ((with_reducible refine gate_dst (N := 2) rfl ?_); refine zbx 2 #[.int .i64 a0_0, .int .i64 a0_1, .slice A0_2 l0_2.length c0_2, .int .i64 a0_3, .int .i64 a0_4] 34 ?_; intro gb374 hg w51 hbox hb; have BK374 := zA hbox; have GW374 := zgs hg (zs0 HB); have GE374 := zgs hg (zs0 HB); replace HB := zE (zs0 HB) hb; clear hb hbox hg) | ((with_reducible refine gate_dst (N := 3) rfl ?_); refine zbx 3 #[.int .i64 a1_0, .int .i64 a1_1, .slice A1_2 l1_2.length c1_2, .int .i64 a1_3, .int .i64 a1_4] 34 ?_; intro gb375 hg w52 hbox hb; have BK375 := zA hbox; have GW375 := zgs hg (zs1 HB GE374); have GE375 := zgs hg (zs1 HB GE374); have NB374_375 := zne hg BK374; have NB375_374 := znf hg BK374; replace BK374 := zb BK374 hb; replace HB := zE (zs1 HB GE374) hb; clear hb hbox hg; have hnb53 := NB374_375.out; have hnc53 := NB375_374.out; obtain ⟨hcz54_0, hcz54_1, hcz54_2, hcz54_3, hcz54_4⟩ := zd5 BK374; obtain ⟨hfz54_0, hfz54_1, hfz54_2, hfz54_3, hfz54_4⟩ := zn5 BK374; obtain ⟨hcz55_0, hcz55_1, hcz55_2, hcz55_3, hcz55_4⟩ := zd5 BK375; obtain ⟨hfz55_0, hfz55_1, hfz55_2, hfz55_3, hfz55_4⟩ := zn5 BK375) | ((with_reducible refine gate_callee (f := 57) rfl ?_); refine zgl (N := some 9) Try.func57 #[.agg #[.int .i64 a0_0, .int .i64 a0_1], .agg #[.int .i64 a1_0, .int .i64 a1_1]] ?_; (with_reducible refine (laws_eqFlyKind.calls a0_0 a0_1 a1_0 a1_1 false _ A3.out).mono ?_); rintro e w56 ⟨rfl, hb⟩; refine ⟨_, rfl, ?_⟩; replace BK374 := zb BK374 hb; replace BK375 := zb BK375 hb; replace HB := zE (zs2 HB GE374 GE375) hb; (try clear hb); (try clear hb2); (try clear hk); (try clear hi)))
  go_ret
  exact ⟨ze, zs2 HB GE374 GE375⟩
 subst c4
 have H1 : ((laws_eqFlyStepS.f k l0_2 l1_2).bind fun t377 => (if t377 = true then (if a0_3 = a1_3 then (if a0_4 = a1_4 then (some true) else (some false)) else (some false)) else (some false))) = some r := by rw [if_pos rfl] at H; exact H
 clear H
 have H := H1
 clear H1
 replace H := zbd H; obtain ⟨t377, A5, H⟩ := H
 by_cases c6 : t377 = true
 rotate_left
 ·replace c6 := Bool.eq_false_iff.mpr c6
  subst c6
  have H1 : (some false) = some r := by rw [if_neg (show ¬ (false = true) by decide)] at H; exact H
  clear H
  have H := H1
  clear H1
  obtain rfl := Option.some.inj H
  go_enter Try.func21, Try.ntmps21
  go_wp2_with (first | ((with_reducible refine gate_dst (N := 2) rfl ?_); refine zbx 2 #[.int .i64 a0_0, .int .i64 a0_1, .slice A0_2 l0_2.length c0_2, .int .i64 a0_3, .int .i64 a0_4] 34 ?_; intro gb374 hg w42 hbox hb; have BK374 := zA hbox; have GW374 := zgs hg (zs0 HB); have GE374 := zgs hg (zs0 HB); replace HB := zE (zs0 HB) hb; clear hb hbox hg) | ((with_reducible refine gate_dst (N := 3) rfl ?_); refine zbx 3 #[.int .i64 a1_0, .int .i64 a1_1, .slice A1_2 l1_2.length c1_2, .int .i64 a1_3, .int .i64 a1_4] 34 ?_; intro gb375 hg w43 hbox hb; have BK375 := zA hbox; have GW375 := zgs hg (zs1 HB GE374); have GE375 := zgs hg (zs1 HB GE374); have NB374_375 := zne hg BK374; have NB375_374 := znf hg BK374; replace BK374 := zb BK374 hb; replace HB := zE (zs1 HB GE374) hb; clear hb hbox hg; have hnb44 := NB374_375.out; have hnc44 := NB375_374.out; obtain ⟨hcz45_0, hcz45_1, hcz45_2, hcz45_3, hcz45_4⟩ := zd5 BK374; obtain ⟨hfz45_0, hfz45_1, hfz45_2, hfz45_3, hfz45_4⟩ := zn5 BK374; obtain ⟨hcz46_0, hcz46_1, hcz46_2, hcz46_3, hcz46_4⟩ := zd5 BK375; obtain ⟨hfz46_0, hfz46_1, hfz46_2, hfz46_3, hfz46_4⟩ := zn5 BK375) | ((with_reducible refine gate_callee (f := 57) rfl ?_); refine zgl (N := some 9) Try.func57 #[.agg #[.int .i64 a0_0, .int .i64 a0_1], .agg #[.int .i64 a1_0, .int .i64 a1_1]] ?_; (with_reducible refine (laws_eqFlyKind.calls a0_0 a0_1 a1_0 a1_1 true _ A3.out).mono ?_); rintro e w47 ⟨rfl, hb⟩; refine ⟨_, rfl, ?_⟩; replace BK374 := zb BK374 hb; replace BK375 := zb BK375 hb; replace HB := zE (zs2 HB GE374 GE375) hb; (try clear hb); (try clear hb2); (try clear hk); (try clear hi); obtain ⟨hcz48_0, hcz48_1, hcz48_2, hcz48_3, hcz48_4⟩ := zd5 BK374; obtain ⟨hfz48_0, hfz48_1, hfz48_2, hfz48_3, hfz48_4⟩ := zn5 BK374; obtain ⟨hcz49_0, hcz49_1, hcz49_2, hcz49_3, hcz49_4⟩ := zd5 BK375; obtain ⟨hfz49_0, hfz49_1, hfz49_2, hfz49_3, hfz49_4⟩ := zn5 BK375) | ((with_reducible refine gate_callee (f := 58) rfl ?_); refine zgl (N := some 15) Try.func58 #[.slice A0_2 l0_2.length c0_2, .slice A1_2 l1_2.length c1_2] ?_; (with_reducible refine (laws_eqFlyStepS.calls k _ _ l0_2 _ _ l1_2 false _ ?side1 ?side2 ?side3 ?side4 A5.out).mono ?_); (case side1 => exact zC HR0_2 HB); (case side2 => exact HC0_2.out); (case side3 => exact zC HR1_2 HB); (case side4 => exact HC1_2.out); rintro e w50 ⟨rfl, hb⟩; refine ⟨_, rfl, ?_⟩; replace BK374 := zb BK374 hb; replace BK375 := zb BK375 hb; replace HB := zE (zs2 HB GE374 GE375) hb; (try clear hb); (try clear hb2); (try clear hk); (try clear hi)))
  go_ret
  exact ⟨ze, zs2 HB GE374 GE375⟩
 subst c6
 have H1 : (if a0_3 = a1_3 then (if a0_4 = a1_4 then (some true) else (some false)) else (some false)) = some r := by rw [if_pos rfl] at H; exact H
 clear H
 have H := H1
 clear H1
 by_cases c7 : a0_3 = a1_3
 rotate_left
 ·rw [if_neg c7] at H
  have c7b0 : (a0_3 == a1_3) = false := beq_eq_false_iff_ne.mpr c7
  have c7b1 : (a0_3 != a1_3) = true := bne_iff_ne.mpr c7
  obtain rfl := Option.some.inj H
  go_enter Try.func21, Try.ntmps21
  go_wp2_with (first | ((with_reducible refine gate_dst (N := 2) rfl ?_); refine zbx 2 #[.int .i64 a0_0, .int .i64 a0_1, .slice A0_2 l0_2.length c0_2, .int .i64 a0_3, .int .i64 a0_4] 34 ?_; intro gb374 hg w31 hbox hb; have BK374 := zA hbox; have GW374 := zgs hg (zs0 HB); have GE374 := zgs hg (zs0 HB); replace HB := zE (zs0 HB) hb; clear hb hbox hg) | ((with_reducible refine gate_dst (N := 3) rfl ?_); refine zbx 3 #[.int .i64 a1_0, .int .i64 a1_1, .slice A1_2 l1_2.length c1_2, .int .i64 a1_3, .int .i64 a1_4] 34 ?_; intro gb375 hg w32 hbox hb; have BK375 := zA hbox; have GW375 := zgs hg (zs1 HB GE374); have GE375 := zgs hg (zs1 HB GE374); have NB374_375 := zne hg BK374; have NB375_374 := znf hg BK374; replace BK374 := zb BK374 hb; replace HB := zE (zs1 HB GE374) hb; clear hb hbox hg; have hnb33 := NB374_375.out; have hnc33 := NB375_374.out; obtain ⟨hcz34_0, hcz34_1, hcz34_2, hcz34_3, hcz34_4⟩ := zd5 BK374; obtain ⟨hfz34_0, hfz34_1, hfz34_2, hfz34_3, hfz34_4⟩ := zn5 BK374; obtain ⟨hcz35_0, hcz35_1, hcz35_2, hcz35_3, hcz35_4⟩ := zd5 BK375; obtain ⟨hfz35_0, hfz35_1, hfz35_2, hfz35_3, hfz35_4⟩ := zn5 BK375) | ((with_reducible refine gate_callee (f := 57) rfl ?_); refine zgl (N := some 9) Try.func57 #[.agg #[.int .i64 a0_0, .int .i64 a0_1], .agg #[.int .i64 a1_0, .int .i64 a1_1]] ?_; (with_reducible refine (laws_eqFlyKind.calls a0_0 a0_1 a1_0 a1_1 true _ A3.out).mono ?_); rintro e w36 ⟨rfl, hb⟩; refine ⟨_, rfl, ?_⟩; replace BK374 := zb BK374 hb; replace BK375 := zb BK375 hb; replace HB := zE (zs2 HB GE374 GE375) hb; (try clear hb); (try clear hb2); (try clear hk); (try clear hi); obtain ⟨hcz37_0, hcz37_1, hcz37_2, hcz37_3, hcz37_4⟩ := zd5 BK374; obtain ⟨hfz37_0, hfz37_1, hfz37_2, hfz37_3, hfz37_4⟩ := zn5 BK374; obtain ⟨hcz38_0, hcz38_1, hcz38_2, hcz38_3, hcz38_4⟩ := zd5 BK375; obtain ⟨hfz38_0, hfz38_1, hfz38_2, hfz38_3, hfz38_4⟩ := zn5 BK375) | ((with_reducible refine gate_callee (f := 58) rfl ?_); refine zgl (N := some 15) Try.func58 #[.slice A0_2 l0_2.length c0_2, .slice A1_2 l1_2.length c1_2] ?_; (with_reducible refine (laws_eqFlyStepS.calls k _ _ l0_2 _ _ l1_2 true _ ?side1 ?side2 ?side3 ?side4 A5.out).mono ?_); (case side1 => exact zC HR0_2 HB); (case side2 => exact HC0_2.out); (case side3 => exact zC HR1_2 HB); (case side4 => exact HC1_2.out); rintro e w39 ⟨rfl, hb⟩; refine ⟨_, rfl, ?_⟩; replace BK374 := zb BK374 hb; replace BK375 := zb BK375 hb; replace HB := zE (zs2 HB GE374 GE375) hb; (try clear hb); (try clear hb2); (try clear hk); (try clear hi); obtain ⟨hcz40_0, hcz40_1, hcz40_2, hcz40_3, hcz40_4⟩ := zd5 BK374; obtain ⟨hfz40_0, hfz40_1, hfz40_2, hfz40_3, hfz40_4⟩ := zn5 BK374; obtain ⟨hcz41_0, hcz41_1, hcz41_2, hcz41_3, hcz41_4⟩ := zd5 BK375; obtain ⟨hfz41_0, hfz41_1, hfz41_2, hfz41_3, hfz41_4⟩ := zn5 BK375))
  go_ret
  exact ⟨ze, zs2 HB GE374 GE375⟩
 rw [if_pos c7] at H
 have c7b0 : (a0_3 == a1_3) = true := beq_iff_eq.mpr c7
 have c7b1 : (a0_3 != a1_3) = false := bne_eq_false_iff_eq.mpr c7
 clear c7
 by_cases c8 : a0_4 = a1_4
 rotate_left
 ·rw [if_neg c8] at H
  have c8b0 : (a0_4 == a1_4) = false := beq_eq_false_iff_ne.mpr c8
  have c8b1 : (a0_4 != a1_4) = true := bne_iff_ne.mpr c8
  obtain rfl := Option.some.inj H
  go_enter Try.func21, Try.ntmps21
  go_wp2_with (first | ((with_reducible refine gate_dst (N := 2) rfl ?_); refine zbx 2 #[.int .i64 a0_0, .int .i64 a0_1, .slice A0_2 l0_2.length c0_2, .int .i64 a0_3, .int .i64 a0_4] 34 ?_; intro gb374 hg w20 hbox hb; have BK374 := zA hbox; have GW374 := zgs hg (zs0 HB); have GE374 := zgs hg (zs0 HB); replace HB := zE (zs0 HB) hb; clear hb hbox hg) | ((with_reducible refine gate_dst (N := 3) rfl ?_); refine zbx 3 #[.int .i64 a1_0, .int .i64 a1_1, .slice A1_2 l1_2.length c1_2, .int .i64 a1_3, .int .i64 a1_4] 34 ?_; intro gb375 hg w21 hbox hb; have BK375 := zA hbox; have GW375 := zgs hg (zs1 HB GE374); have GE375 := zgs hg (zs1 HB GE374); have NB374_375 := zne hg BK374; have NB375_374 := znf hg BK374; replace BK374 := zb BK374 hb; replace HB := zE (zs1 HB GE374) hb; clear hb hbox hg; have hnb22 := NB374_375.out; have hnc22 := NB375_374.out; obtain ⟨hcz23_0, hcz23_1, hcz23_2, hcz23_3, hcz23_4⟩ := zd5 BK374; obtain ⟨hfz23_0, hfz23_1, hfz23_2, hfz23_3, hfz23_4⟩ := zn5 BK374; obtain ⟨hcz24_0, hcz24_1, hcz24_2, hcz24_3, hcz24_4⟩ := zd5 BK375; obtain ⟨hfz24_0, hfz24_1, hfz24_2, hfz24_3, hfz24_4⟩ := zn5 BK375) | ((with_reducible refine gate_callee (f := 57) rfl ?_); refine zgl (N := some 9) Try.func57 #[.agg #[.int .i64 a0_0, .int .i64 a0_1], .agg #[.int .i64 a1_0, .int .i64 a1_1]] ?_; (with_reducible refine (laws_eqFlyKind.calls a0_0 a0_1 a1_0 a1_1 true _ A3.out).mono ?_); rintro e w25 ⟨rfl, hb⟩; refine ⟨_, rfl, ?_⟩; replace BK374 := zb BK374 hb; replace BK375 := zb BK375 hb; replace HB := zE (zs2 HB GE374 GE375) hb; (try clear hb); (try clear hb2); (try clear hk); (try clear hi); obtain ⟨hcz26_0, hcz26_1, hcz26_2, hcz26_3, hcz26_4⟩ := zd5 BK374; obtain ⟨hfz26_0, hfz26_1, hfz26_2, hfz26_3, hfz26_4⟩ := zn5 BK374; obtain ⟨hcz27_0, hcz27_1, hcz27_2, hcz27_3, hcz27_4⟩ := zd5 BK375; obtain ⟨hfz27_0, hfz27_1, hfz27_2, hfz27_3, hfz27_4⟩ := zn5 BK375) | ((with_reducible refine gate_callee (f := 58) rfl ?_); refine zgl (N := some 15) Try.func58 #[.slice A0_2 l0_2.length c0_2, .slice A1_2 l1_2.length c1_2] ?_; (with_reducible refine (laws_eqFlyStepS.calls k _ _ l0_2 _ _ l1_2 true _ ?side1 ?side2 ?side3 ?side4 A5.out).mono ?_); (case side1 => exact zC HR0_2 HB); (case side2 => exact HC0_2.out); (case side3 => exact zC HR1_2 HB); (case side4 => exact HC1_2.out); rintro e w28 ⟨rfl, hb⟩; refine ⟨_, rfl, ?_⟩; replace BK374 := zb BK374 hb; replace BK375 := zb BK375 hb; replace HB := zE (zs2 HB GE374 GE375) hb; (try clear hb); (try clear hb2); (try clear hk); (try clear hi); obtain ⟨hcz29_0, hcz29_1, hcz29_2, hcz29_3, hcz29_4⟩ := zd5 BK374; obtain ⟨hfz29_0, hfz29_1, hfz29_2, hfz29_3, hfz29_4⟩ := zn5 BK374; obtain ⟨hcz30_0, hcz30_1, hcz30_2, hcz30_3, hcz30_4⟩ := zd5 BK375; obtain ⟨hfz30_0, hfz30_1, hfz30_2, hfz30_3, hfz30_4⟩ := zn5 BK375))
  go_ret
  exact ⟨ze, zs2 HB GE374 GE375⟩
 rw [if_pos c8] at H
 have c8b0 : (a0_4 == a1_4) = true := beq_iff_eq.mpr c8
 have c8b1 : (a0_4 != a1_4) = false := bne_eq_false_iff_eq.mpr c8
 clear c8
 obtain rfl := Option.some.inj H
 go_enter Try.func21, Try.ntmps21
 go_wp2_with (first | ((with_reducible refine gate_dst (N := 2) rfl ?_); refine zbx 2 #[.int .i64 a0_0, .int .i64 a0_1, .slice A0_2 l0_2.length c0_2, .int .i64 a0_3, .int .i64 a0_4] 34 ?_; intro gb374 hg w9 hbox hb; have BK374 := zA hbox; have GW374 := zgs hg (zs0 HB); have GE374 := zgs hg (zs0 HB); replace HB := zE (zs0 HB) hb; clear hb hbox hg) | ((with_reducible refine gate_dst (N := 3) rfl ?_); refine zbx 3 #[.int .i64 a1_0, .int .i64 a1_1, .slice A1_2 l1_2.length c1_2, .int .i64 a1_3, .int .i64 a1_4] 34 ?_; intro gb375 hg w10 hbox hb; have BK375 := zA hbox; have GW375 := zgs hg (zs1 HB GE374); have GE375 := zgs hg (zs1 HB GE374); have NB374_375 := zne hg BK374; have NB375_374 := znf hg BK374; replace BK374 := zb BK374 hb; replace HB := zE (zs1 HB GE374) hb; clear hb hbox hg; have hnb11 := NB374_375.out; have hnc11 := NB375_374.out; obtain ⟨hcz12_0, hcz12_1, hcz12_2, hcz12_3, hcz12_4⟩ := zd5 BK374; obtain ⟨hfz12_0, hfz12_1, hfz12_2, hfz12_3, hfz12_4⟩ := zn5 BK374; obtain ⟨hcz13_0, hcz13_1, hcz13_2, hcz13_3, hcz13_4⟩ := zd5 BK375; obtain ⟨hfz13_0, hfz13_1, hfz13_2, hfz13_3, hfz13_4⟩ := zn5 BK375) | ((with_reducible refine gate_callee (f := 57) rfl ?_); refine zgl (N := some 9) Try.func57 #[.agg #[.int .i64 a0_0, .int .i64 a0_1], .agg #[.int .i64 a1_0, .int .i64 a1_1]] ?_; (with_reducible refine (laws_eqFlyKind.calls a0_0 a0_1 a1_0 a1_1 true _ A3.out).mono ?_); rintro e w14 ⟨rfl, hb⟩; refine ⟨_, rfl, ?_⟩; replace BK374 := zb BK374 hb; replace BK375 := zb BK375 hb; replace HB := zE (zs2 HB GE374 GE375) hb; (try clear hb); (try clear hb2); (try clear hk); (try clear hi); obtain ⟨hcz15_0, hcz15_1, hcz15_2, hcz15_3, hcz15_4⟩ := zd5 BK374; obtain ⟨hfz15_0, hfz15_1, hfz15_2, hfz15_3, hfz15_4⟩ := zn5 BK374; obtain ⟨hcz16_0, hcz16_1, hcz16_2, hcz16_3, hcz16_4⟩ := zd5 BK375; obtain ⟨hfz16_0, hfz16_1, hfz16_2, hfz16_3, hfz16_4⟩ := zn5 BK375) | ((with_reducible refine gate_callee (f := 58) rfl ?_); refine zgl (N := some 15) Try.func58 #[.slice A0_2 l0_2.length c0_2, .slice A1_2 l1_2.length c1_2] ?_; (with_reducible refine (laws_eqFlyStepS.calls k _ _ l0_2 _ _ l1_2 true _ ?side1 ?side2 ?side3 ?side4 A5.out).mono ?_); (case side1 => exact zC HR0_2 HB); (case side2 => exact HC0_2.out); (case side3 => exact zC HR1_2 HB); (case side4 => exact HC1_2.out); rintro e w17 ⟨rfl, hb⟩; refine ⟨_, rfl, ?_⟩; replace BK374 := zb BK374 hb; replace BK375 := zb BK375 hb; replace HB := zE (zs2 HB GE374 GE375) hb; (try clear hb); (try clear hb2); (try clear hk); (try clear hi); obtain ⟨hcz18_0, hcz18_1, hcz18_2, hcz18_3, hcz18_4⟩ := zd5 BK374; obtain ⟨hfz18_0, hfz18_1, hfz18_2, hfz18_3, hfz18_4⟩ := zn5 BK374; obtain ⟨hcz19_0, hcz19_1, hcz19_2, hcz19_3, hcz19_4⟩ := zd5 BK375; obtain ⟨hfz19_0, hfz19_1, hfz19_2, hfz19_3, hfz19_4⟩ := zn5 BK375))
 go_ret
 exact ⟨ze, zs2 HB GE374 GE375⟩
def laws_markFlyStepS.l0 : Nat → List (S88) → Int → Int → Option (Int × (List (S88)))
 | 0, _, _, _ => none
 | k + 1, x0, x1, x5 => if x5 < (x0.length : Int) then (if 0 ≤ x5 then ((some (x0.set (x5 : Int).toNat (⟨x1, (rd_T88 x0 x5).f1, (rd_T88 x0 x5).f2, (rd_T88 x0 x5).f3, (rd_T88 x0 x5).f4, (rd_T88 x0 x5).f5, (rd_T88 x0 x5).f6⟩ : S88) : List (S88))).bind fun y378 => ((some (y378.set (x5 : Int).toNat (⟨(rd_T88 y378 x5).f0, wrap64 (x1 + 1), (rd_T88 y378 x5).f2, (rd_T88 y378 x5).f3, (rd_T88 y378 x5).f4, (rd_T88 y378 x5).f5, (rd_T88 y378 x5).f6⟩ : S88) : List (S88))).bind fun y379 => ((some (y379.set (x5 : Int).toNat (⟨(rd_T88 y379 x5).f0, (rd_T88 y379 x5).f1, wrap64 ((wrap64 (x1 + 1)) + 1), (rd_T88 y379 x5).f3, (rd_T88 y379 x5).f4, (rd_T88 y379 x5).f5, (rd_T88 y379 x5).f6⟩ : S88) : List (S88))).bind fun y380 => ((some (y380.set (x5 : Int).toNat (⟨(rd_T88 y380 x5).f0, (rd_T88 y380 x5).f1, (rd_T88 y380 x5).f2, wrap64 ((wrap64 ((wrap64 (x1 + 1)) + 1)) + 1), (rd_T88 y380 x5).f4, (rd_T88 y380 x5).f5, (rd_T88 y380 x5).f6⟩ : S88) : List (S88))).bind fun y381 => ((some (y381.set (x5 : Int).toNat (⟨(rd_T88 y381 x5).f0, (rd_T88 y381 x5).f1, (rd_T88 y381 x5).f2, (rd_T88 y381 x5).f3, wrap64 ((wrap64 ((wrap64 ((wrap64 (x1 + 1)) + 1)) + 1)) + 1), (rd_T88 y381 x5).f5, (rd_T88 y381 x5).f6⟩ : S88) : List (S88))).bind fun y382 => ((some (y382.set (x5 : Int).toNat (⟨(rd_T88 y382 x5).f0, (rd_T88 y382 x5).f1, (rd_T88 y382 x5).f2, (rd_T88 y382 x5).f3, (rd_T88 y382 x5).f4, wrap64 ((wrap64 ((wrap64 ((wrap64 ((wrap64 (x1 + 1)) + 1)) + 1)) + 1)) + 1), (rd_T88 y382 x5).f6⟩ : S88) : List (S88))).bind fun y383 => (laws_markFlyStepS.l0 k (y383.set (x5 : Int).toNat (⟨(rd_T88 y383 x5).f0, (rd_T88 y383 x5).f1, (rd_T88 y383 x5).f2, (rd_T88 y383 x5).f3, (rd_T88 y383 x5).f4, (rd_T88 y383 x5).f5, ((Int.tmod (wrap64 ((wrap64 ((wrap64 ((wrap64 ((wrap64 ((wrap64 (x1 + 1)) + 1)) + 1)) + 1)) + 1)) + 1)) 3) == 0)⟩ : S88)) (wrap64 ((wrap64 ((wrap64 ((wrap64 ((wrap64 ((wrap64 ((wrap64 (x1 + 1)) + 1)) + 1)) + 1)) + 1)) + 1)) + 1)) (wrap64 (x5 + 1))))))))) else (none)) else (some (x1, x0))
def laws_markFlyStepS.f (k : Nat) (l0 : List (S88)) (a1 : Int) : Option (Int × (List (S88))) := laws_markFlyStepS.l0 k l0 a1 0
set_option maxHeartbeats 8000000 in
set_option maxRecDepth 100000 in
theorem laws_markFlyStepS.calls (k : Nat) (P0_ : Nat → Prop) (u9000_ : Value) (l0 : List (S88)) (a1 : Int) (r1 : Int) (r2 : List (S88)) (w0 w : World) (hB : Below w0.heap.size w0 w) (ho0 : Kd.R k88 88 w w0.heap.size P0_ u9000_ l0) (h : laws_markFlyStepS.f k l0 a1 = some (r1, r2)) :
 Calls Try.prog 59 #[u9000_, .int .i64 a1] w fun e w' => e = .returned (.int .i64 r1) ∧ Kd.R k88 88 w' w0.heap.size (fun k_ => (P0_ k_ ∨ w.heap.size ≤ k_)) u9000_ r2 ∧ Below w0.heap.size w0 w' ∧ Kept w w' (fun k_ => P0_ k_) := by
 have HO0 := zA (show Kd.R k88 88 w w0.heap.size (fun k_ => (P0_ k_ ∨ w.heap.size ≤ k_)) u9000_ l0 from Kd.R_mono ho0 (fun k_ hk => (.inl hk)))
 have HK := zA (Kept.refl w (fun k_ => P0_ k_))
 have HW0 := zA hB.size
 have HB := zA hB
 clear hB
 have H : (laws_markFlyStepS.l0 k l0 a1 0) = some (r1, r2) := h
 clear h
 have H' := zA H
 clear H
 go_enter Try.func59, Try.ntmps59
 go_wp2
 go_loopg [1, 5] k (fun kq v1 v5 w' => ∃ (x0_1 : List (S88)) (x1_1 : Int) (x5_1 : Int), v1 = .int .i64 x1_1 ∧ v5 = .int .i64 x5_1 ∧ Aside0 (laws_markFlyStepS.l0 kq x0_1 x1_1 x5_1 = some (r1, r2)) ∧ Aside0 (kq ≤ k) ∧ Aside0 (Kd.R k88 88 w' w0.heap.size (fun k_ => (P0_ k_ ∨ w.heap.size ≤ k_)) u9000_ x0_1) ∧ Aside0 (Kept w w' (fun k_ => P0_ k_)) ∧ Aside0 (Below w0.heap.size w0 w'))
 case atStart => exact ⟨(l0), (a1), (0), zi, zi, H', ⟨Nat.le_refl _⟩, ⟨zr HO0⟩, ⟨by repeat (first | (with_reducible first | exact HK.out | apply Kept.alloc | apply Kept.drewN | apply Kept.drew) | exact HK.out)⟩, ⟨zs0 HB⟩⟩
 case round =>
  clear H'
  try clear p2
  obtain ⟨x0_1, x1_1, x5_1, rfl, rfl, HA, HK1, HO_0, HK, HB⟩ := hrel
  cases gk with
  | zero => exact absurd HA.out (by simp [laws_markFlyStepS.l0])
  | succ k1 =>
   have H := HA.out
   clear HA
   simp only [laws_markFlyStepS.l0] at H
   by_cases c3 : x5_1 < (x0_1.length : Int)
   rotate_left
   ·rw [if_neg c3] at H
    have c3b0 : decide (x5_1 < (x0_1.length : Int)) = false := decide_eq_false c3
    clear c3
    simp only [Option.some.injEq, Prod.mk.injEq] at H
    obtain ⟨rfl, rfl⟩ := H
    obtain ⟨Ao27, co27, eo27⟩ := Kd.R_slice HO_0.out
    subst eo27
    go_wp2
    go_ret
    exact ⟨ze, zr HO_0, zs0 HB, by repeat (first | (with_reducible first | exact HK.out | apply Kept.alloc | apply Kept.drewN | apply Kept.drew) | exact HK.out)⟩
   rw [if_pos c3] at H
   have c3b0 : decide (x5_1 < (x0_1.length : Int)) = true := decide_eq_true c3
   clear c3
   by_cases c4 : 0 ≤ x5_1
   rotate_left
   ·rw [if_neg c4] at H
    exact absurd H (by simp)
   rw [if_pos c4] at H
   have c4b0 : decide (0 ≤ x5_1) = true := decide_eq_true c4
   clear c4
   obtain ⟨y378, hy378⟩ : ∃ y_ : List (S88), y_ = (x0_1.set (x5_1 : Int).toNat (⟨x1_1, (rd_T88 x0_1 x5_1).f1, (rd_T88 x0_1 x5_1).f2, (rd_T88 x0_1 x5_1).f3, (rd_T88 x0_1 x5_1).f4, (rd_T88 x0_1 x5_1).f5, (rd_T88 x0_1 x5_1).f6⟩ : S88)) := ⟨_, rfl⟩
   replace H : ((some (y378.set (x5_1 : Int).toNat (⟨(rd_T88 y378 x5_1).f0, wrap64 (x1_1 + 1), (rd_T88 y378 x5_1).f2, (rd_T88 y378 x5_1).f3, (rd_T88 y378 x5_1).f4, (rd_T88 y378 x5_1).f5, (rd_T88 y378 x5_1).f6⟩ : S88) : List (S88))).bind fun y379 => ((some (y379.set (x5_1 : Int).toNat (⟨(rd_T88 y379 x5_1).f0, (rd_T88 y379 x5_1).f1, wrap64 ((wrap64 (x1_1 + 1)) + 1), (rd_T88 y379 x5_1).f3, (rd_T88 y379 x5_1).f4, (rd_T88 y379 x5_1).f5, (rd_T88 y379 x5_1).f6⟩ : S88) : List (S88))).bind fun y380 => ((some (y380.set (x5_1 : Int).toNat (⟨(rd_T88 y380 x5_1).f0, (rd_T88 y380 x5_1).f1, (rd_T88 y380 x5_1).f2, wrap64 ((wrap64 ((wrap64 (x1_1 + 1)) + 1)) + 1), (rd_T88 y380 x5_1).f4, (rd_T88 y380 x5_1).f5, (rd_T88 y380 x5_1).f6⟩ : S88) : List (S88))).bind fun y381 => ((some (y381.set (x5_1 : Int).toNat (⟨(rd_T88 y381 x5_1).f0, (rd_T88 y381 x5_1).f1, (rd_T88 y381 x5_1).f2, (rd_T88 y381 x5_1).f3, wrap64 ((wrap64 ((wrap64 ((wrap64 (x1_1 + 1)) + 1)) + 1)) + 1), (rd_T88 y381 x5_1).f5, (rd_T88 y381 x5_1).f6⟩ : S88) : List (S88))).bind fun y382 => ((some (y382.set (x5_1 : Int).toNat (⟨(rd_T88 y382 x5_1).f0, (rd_T88 y382 x5_1).f1, (rd_T88 y382 x5_1).f2, (rd_T88 y382 x5_1).f3, (rd_T88 y382 x5_1).f4, wrap64 ((wrap64 ((wrap64 ((wrap64 ((wrap64 (x1_1 + 1)) + 1)) + 1)) + 1)) + 1), (rd_T88 y382 x5_1).f6⟩ : S88) : List (S88))).bind fun y383 => (laws_markFlyStepS.l0 k1 (y383.set (x5_1 : Int).toNat (⟨(rd_T88 y383 x5_1).f0, (rd_T88 y383 x5_1).f1, (rd_T88 y383 x5_1).f2, (rd_T88 y383 x5_1).f3, (rd_T88 y383 x5_1).f4, (rd_T88 y383 x5_1).f5, ((Int.tmod (wrap64 ((wrap64 ((wrap64 ((wrap64 ((wrap64 ((wrap64 (x1_1 + 1)) + 1)) + 1)) + 1)) + 1)) + 1)) 3) == 0)⟩ : S88)) (wrap64 ((wrap64 ((wrap64 ((wrap64 ((wrap64 ((wrap64 ((wrap64 (x1_1 + 1)) + 1)) + 1)) + 1)) + 1)) + 1)) + 1)) (wrap64 (x5_1 + 1)))))))) = some (r1, r2) := by first | (rw [hy378]; with_reducible exact H) | (have H2_ := (Option.bind_some _ _).symm.trans H; rw [hy378]; with_reducible exact H2_) | (have H2_ := (Option.bind_some _ _).symm.trans H; with_reducible exact H2_) | with_reducible exact H | (rw [hy378]; exact H) | exact H
   have Ny378 := zA hy378
   clear hy378
   obtain ⟨y379, hy379⟩ : ∃ y_ : List (S88), y_ = (y378.set (x5_1 : Int).toNat (⟨(rd_T88 y378 x5_1).f0, wrap64 (x1_1 + 1), (rd_T88 y378 x5_1).f2, (rd_T88 y378 x5_1).f3, (rd_T88 y378 x5_1).f4, (rd_T88 y378 x5_1).f5, (rd_T88 y378 x5_1).f6⟩ : S88)) := ⟨_, rfl⟩
   replace H : ((some (y379.set (x5_1 : Int).toNat (⟨(rd_T88 y379 x5_1).f0, (rd_T88 y379 x5_1).f1, wrap64 ((wrap64 (x1_1 + 1)) + 1), (rd_T88 y379 x5_1).f3, (rd_T88 y379 x5_1).f4, (rd_T88 y379 x5_1).f5, (rd_T88 y379 x5_1).f6⟩ : S88) : List (S88))).bind fun y380 => ((some (y380.set (x5_1 : Int).toNat (⟨(rd_T88 y380 x5_1).f0, (rd_T88 y380 x5_1).f1, (rd_T88 y380 x5_1).f2, wrap64 ((wrap64 ((wrap64 (x1_1 + 1)) + 1)) + 1), (rd_T88 y380 x5_1).f4, (rd_T88 y380 x5_1).f5, (rd_T88 y380 x5_1).f6⟩ : S88) : List (S88))).bind fun y381 => ((some (y381.set (x5_1 : Int).toNat (⟨(rd_T88 y381 x5_1).f0, (rd_T88 y381 x5_1).f1, (rd_T88 y381 x5_1).f2, (rd_T88 y381 x5_1).f3, wrap64 ((wrap64 ((wrap64 ((wrap64 (x1_1 + 1)) + 1)) + 1)) + 1), (rd_T88 y381 x5_1).f5, (rd_T88 y381 x5_1).f6⟩ : S88) : List (S88))).bind fun y382 => ((some (y382.set (x5_1 : Int).toNat (⟨(rd_T88 y382 x5_1).f0, (rd_T88 y382 x5_1).f1, (rd_T88 y382 x5_1).f2, (rd_T88 y382 x5_1).f3, (rd_T88 y382 x5_1).f4, wrap64 ((wrap64 ((wrap64 ((wrap64 ((wrap64 (x1_1 + 1)) + 1)) + 1)) + 1)) + 1), (rd_T88 y382 x5_1).f6⟩ : S88) : List (S88))).bind fun y383 => (laws_markFlyStepS.l0 k1 (y383.set (x5_1 : Int).toNat (⟨(rd_T88 y383 x5_1).f0, (rd_T88 y383 x5_1).f1, (rd_T88 y383 x5_1).f2, (rd_T88 y383 x5_1).f3, (rd_T88 y383 x5_1).f4, (rd_T88 y383 x5_1).f5, ((Int.tmod (wrap64 ((wrap64 ((wrap64 ((wrap64 ((wrap64 ((wrap64 (x1_1 + 1)) + 1)) + 1)) + 1)) + 1)) + 1)) 3) == 0)⟩ : S88)) (wrap64 ((wrap64 ((wrap64 ((wrap64 ((wrap64 ((wrap64 ((wrap64 (x1_1 + 1)) + 1)) + 1)) + 1)) + 1)) + 1)) + 1)) (wrap64 (x5_1 + 1))))))) = some (r1, r2) := by first | (rw [hy379]; with_reducible exact H) | (have H2_ := (Option.bind_some _ _).symm.trans H; rw [hy379]; with_reducible exact H2_) | (have H2_ := (Option.bind_some _ _).symm.trans H; with_reducible exact H2_) | with_reducible exact H | (rw [hy379]; exact H) | exact H
   have Ny379 := zA hy379
   clear hy379
   obtain ⟨y380, hy380⟩ : ∃ y_ : List (S88), y_ = (y379.set (x5_1 : Int).toNat (⟨(rd_T88 y379 x5_1).f0, (rd_T88 y379 x5_1).f1, wrap64 ((wrap64 (x1_1 + 1)) + 1), (rd_T88 y379 x5_1).f3, (rd_T88 y379 x5_1).f4, (rd_T88 y379 x5_1).f5, (rd_T88 y379 x5_1).f6⟩ : S88)) := ⟨_, rfl⟩
   replace H : ((some (y380.set (x5_1 : Int).toNat (⟨(rd_T88 y380 x5_1).f0, (rd_T88 y380 x5_1).f1, (rd_T88 y380 x5_1).f2, wrap64 ((wrap64 ((wrap64 (x1_1 + 1)) + 1)) + 1), (rd_T88 y380 x5_1).f4, (rd_T88 y380 x5_1).f5, (rd_T88 y380 x5_1).f6⟩ : S88) : List (S88))).bind fun y381 => ((some (y381.set (x5_1 : Int).toNat (⟨(rd_T88 y381 x5_1).f0, (rd_T88 y381 x5_1).f1, (rd_T88 y381 x5_1).f2, (rd_T88 y381 x5_1).f3, wrap64 ((wrap64 ((wrap64 ((wrap64 (x1_1 + 1)) + 1)) + 1)) + 1), (rd_T88 y381 x5_1).f5, (rd_T88 y381 x5_1).f6⟩ : S88) : List (S88))).bind fun y382 => ((some (y382.set (x5_1 : Int).toNat (⟨(rd_T88 y382 x5_1).f0, (rd_T88 y382 x5_1).f1, (rd_T88 y382 x5_1).f2, (rd_T88 y382 x5_1).f3, (rd_T88 y382 x5_1).f4, wrap64 ((wrap64 ((wrap64 ((wrap64 ((wrap64 (x1_1 + 1)) + 1)) + 1)) + 1)) + 1), (rd_T88 y382 x5_1).f6⟩ : S88) : List (S88))).bind fun y383 => (laws_markFlyStepS.l0 k1 (y383.set (x5_1 : Int).toNat (⟨(rd_T88 y383 x5_1).f0, (rd_T88 y383 x5_1).f1, (rd_T88 y383 x5_1).f2, (rd_T88 y383 x5_1).f3, (rd_T88 y383 x5_1).f4, (rd_T88 y383 x5_1).f5, ((Int.tmod (wrap64 ((wrap64 ((wrap64 ((wrap64 ((wrap64 ((wrap64 (x1_1 + 1)) + 1)) + 1)) + 1)) + 1)) + 1)) 3) == 0)⟩ : S88)) (wrap64 ((wrap64 ((wrap64 ((wrap64 ((wrap64 ((wrap64 ((wrap64 (x1_1 + 1)) + 1)) + 1)) + 1)) + 1)) + 1)) + 1)) (wrap64 (x5_1 + 1)))))) = some (r1, r2) := by first | (rw [hy380]; with_reducible exact H) | (have H2_ := (Option.bind_some _ _).symm.trans H; rw [hy380]; with_reducible exact H2_) | (have H2_ := (Option.bind_some _ _).symm.trans H; with_reducible exact H2_) | with_reducible exact H | (rw [hy380]; exact H) | exact H
   have Ny380 := zA hy380
   clear hy380
   obtain ⟨y381, hy381⟩ : ∃ y_ : List (S88), y_ = (y380.set (x5_1 : Int).toNat (⟨(rd_T88 y380 x5_1).f0, (rd_T88 y380 x5_1).f1, (rd_T88 y380 x5_1).f2, wrap64 ((wrap64 ((wrap64 (x1_1 + 1)) + 1)) + 1), (rd_T88 y380 x5_1).f4, (rd_T88 y380 x5_1).f5, (rd_T88 y380 x5_1).f6⟩ : S88)) := ⟨_, rfl⟩
   replace H : ((some (y381.set (x5_1 : Int).toNat (⟨(rd_T88 y381 x5_1).f0, (rd_T88 y381 x5_1).f1, (rd_T88 y381 x5_1).f2, (rd_T88 y381 x5_1).f3, wrap64 ((wrap64 ((wrap64 ((wrap64 (x1_1 + 1)) + 1)) + 1)) + 1), (rd_T88 y381 x5_1).f5, (rd_T88 y381 x5_1).f6⟩ : S88) : List (S88))).bind fun y382 => ((some (y382.set (x5_1 : Int).toNat (⟨(rd_T88 y382 x5_1).f0, (rd_T88 y382 x5_1).f1, (rd_T88 y382 x5_1).f2, (rd_T88 y382 x5_1).f3, (rd_T88 y382 x5_1).f4, wrap64 ((wrap64 ((wrap64 ((wrap64 ((wrap64 (x1_1 + 1)) + 1)) + 1)) + 1)) + 1), (rd_T88 y382 x5_1).f6⟩ : S88) : List (S88))).bind fun y383 => (laws_markFlyStepS.l0 k1 (y383.set (x5_1 : Int).toNat (⟨(rd_T88 y383 x5_1).f0, (rd_T88 y383 x5_1).f1, (rd_T88 y383 x5_1).f2, (rd_T88 y383 x5_1).f3, (rd_T88 y383 x5_1).f4, (rd_T88 y383 x5_1).f5, ((Int.tmod (wrap64 ((wrap64 ((wrap64 ((wrap64 ((wrap64 ((wrap64 (x1_1 + 1)) + 1)) + 1)) + 1)) + 1)) + 1)) 3) == 0)⟩ : S88)) (wrap64 ((wrap64 ((wrap64 ((wrap64 ((wrap64 ((wrap64 ((wrap64 (x1_1 + 1)) + 1)) + 1)) + 1)) + 1)) + 1)) + 1)) (wrap64 (x5_1 + 1))))) = some (r1, r2) := by first | (rw [hy381]; with_reducible exact H) | (have H2_ := (Option.bind_some _ _).symm.trans H; rw [hy381]; with_reducible exact H2_) | (have H2_ := (Option.bind_some _ _).symm.trans H; with_reducible exact H2_) | with_reducible exact H | (rw [hy381]; exact H) | exact H
   have Ny381 := zA hy381
   clear hy381
   obtain ⟨y382, hy382⟩ : ∃ y_ : List (S88), y_ = (y381.set (x5_1 : Int).toNat (⟨(rd_T88 y381 x5_1).f0, (rd_T88 y381 x5_1).f1, (rd_T88 y381 x5_1).f2, (rd_T88 y381 x5_1).f3, wrap64 ((wrap64 ((wrap64 ((wrap64 (x1_1 + 1)) + 1)) + 1)) + 1), (rd_T88 y381 x5_1).f5, (rd_T88 y381 x5_1).f6⟩ : S88)) := ⟨_, rfl⟩
   replace H : ((some (y382.set (x5_1 : Int).toNat (⟨(rd_T88 y382 x5_1).f0, (rd_T88 y382 x5_1).f1, (rd_T88 y382 x5_1).f2, (rd_T88 y382 x5_1).f3, (rd_T88 y382 x5_1).f4, wrap64 ((wrap64 ((wrap64 ((wrap64 ((wrap64 (x1_1 + 1)) + 1)) + 1)) + 1)) + 1), (rd_T88 y382 x5_1).f6⟩ : S88) : List (S88))).bind fun y383 => (laws_markFlyStepS.l0 k1 (y383.set (x5_1 : Int).toNat (⟨(rd_T88 y383 x5_1).f0, (rd_T88 y383 x5_1).f1, (rd_T88 y383 x5_1).f2, (rd_T88 y383 x5_1).f3, (rd_T88 y383 x5_1).f4, (rd_T88 y383 x5_1).f5, ((Int.tmod (wrap64 ((wrap64 ((wrap64 ((wrap64 ((wrap64 ((wrap64 (x1_1 + 1)) + 1)) + 1)) + 1)) + 1)) + 1)) 3) == 0)⟩ : S88)) (wrap64 ((wrap64 ((wrap64 ((wrap64 ((wrap64 ((wrap64 ((wrap64 (x1_1 + 1)) + 1)) + 1)) + 1)) + 1)) + 1)) + 1)) (wrap64 (x5_1 + 1)))) = some (r1, r2) := by first | (rw [hy382]; with_reducible exact H) | (have H2_ := (Option.bind_some _ _).symm.trans H; rw [hy382]; with_reducible exact H2_) | (have H2_ := (Option.bind_some _ _).symm.trans H; with_reducible exact H2_) | with_reducible exact H | (rw [hy382]; exact H) | exact H
   have Ny382 := zA hy382
   clear hy382
   obtain ⟨y383, hy383⟩ : ∃ y_ : List (S88), y_ = (y382.set (x5_1 : Int).toNat (⟨(rd_T88 y382 x5_1).f0, (rd_T88 y382 x5_1).f1, (rd_T88 y382 x5_1).f2, (rd_T88 y382 x5_1).f3, (rd_T88 y382 x5_1).f4, wrap64 ((wrap64 ((wrap64 ((wrap64 ((wrap64 (x1_1 + 1)) + 1)) + 1)) + 1)) + 1), (rd_T88 y382 x5_1).f6⟩ : S88)) := ⟨_, rfl⟩
   replace H : (laws_markFlyStepS.l0 k1 (y383.set (x5_1 : Int).toNat (⟨(rd_T88 y383 x5_1).f0, (rd_T88 y383 x5_1).f1, (rd_T88 y383 x5_1).f2, (rd_T88 y383 x5_1).f3, (rd_T88 y383 x5_1).f4, (rd_T88 y383 x5_1).f5, ((Int.tmod (wrap64 ((wrap64 ((wrap64 ((wrap64 ((wrap64 ((wrap64 (x1_1 + 1)) + 1)) + 1)) + 1)) + 1)) + 1)) 3) == 0)⟩ : S88)) (wrap64 ((wrap64 ((wrap64 ((wrap64 ((wrap64 ((wrap64 ((wrap64 (x1_1 + 1)) + 1)) + 1)) + 1)) + 1)) + 1)) + 1)) (wrap64 (x5_1 + 1))) = some (r1, r2) := by first | (rw [hy383]; with_reducible exact H) | (have H2_ := (Option.bind_some _ _).symm.trans H; rw [hy383]; with_reducible exact H2_) | (have H2_ := (Option.bind_some _ _).symm.trans H; with_reducible exact H2_) | with_reducible exact H | (rw [hy383]; exact H) | exact H
   have Ny383 := zA hy383
   clear hy383
   obtain ⟨y384, hy384⟩ : ∃ y_ : List (S88), y_ = (y383.set (x5_1 : Int).toNat (⟨(rd_T88 y383 x5_1).f0, (rd_T88 y383 x5_1).f1, (rd_T88 y383 x5_1).f2, (rd_T88 y383 x5_1).f3, (rd_T88 y383 x5_1).f4, (rd_T88 y383 x5_1).f5, ((Int.tmod (wrap64 ((wrap64 ((wrap64 ((wrap64 ((wrap64 ((wrap64 (x1_1 + 1)) + 1)) + 1)) + 1)) + 1)) + 1)) 3) == 0)⟩ : S88)) := ⟨_, rfl⟩
   replace H : (laws_markFlyStepS.l0 k1 y384 (wrap64 ((wrap64 ((wrap64 ((wrap64 ((wrap64 ((wrap64 ((wrap64 (x1_1 + 1)) + 1)) + 1)) + 1)) + 1)) + 1)) + 1)) (wrap64 (x5_1 + 1))) = some (r1, r2) := by first | (rw [hy384]; with_reducible exact H) | (have H2_ := (Option.bind_some _ _).symm.trans H; rw [hy384]; with_reducible exact H2_) | (have H2_ := (Option.bind_some _ _).symm.trans H; with_reducible exact H2_) | with_reducible exact H | (rw [hy384]; exact H) | exact H
   have Ny384 := zA hy384
   clear hy384
   have H' := zA H
   clear H
   obtain ⟨Ao12, co12, eo12⟩ := Kd.R_slice HO_0.out
   subst eo12
   have p5 : 0 ≤ (x5_1 : Int) := za
   have q5 : (x5_1 : Int) < ((x0_1.length : Int) : Int) := za
   obtain ⟨go5, co5, eo5, gb5, gl5, cl5, HG5⟩ := Kd.R_form HO_0.out (by omega)
   (first | cases eo5 | (injection eo5 with ea_ en_ ec_; (first | subst ea_ | (injection ea_ with ea_; subst ea_)); subst ec_; clear en_))
   have GB5 := zA gb5
   have GG5 := zA HG5
   clear gb5 gl5 HG5
   have HMgo5 := zA (show (P0_ go5 ∨ w.heap.size ≤ go5) from (HO_0.out.1 _ rfl))
   obtain ⟨ce5, hcl5, hM5, hcc5, hfr5⟩ := Kd.R_elem HO_0.out z88 (x5_1 : Int) p5 q5
   obtain rfl := k88_openM hM5
   have hx5_0 : wr.cell? ⟨go5, (x5_1 : Int).toNat * 7, none⟩ = some (.int .i64 ((rd_T88 x0_1 x5_1).f0)) := hcc5 0 _ rfl
   have hx5_1 : wr.cell? ⟨go5, (x5_1 : Int).toNat * 7 + 1, none⟩ = some (.int .i64 ((rd_T88 x0_1 x5_1).f1)) := hcc5 1 _ rfl
   have hx5_2 : wr.cell? ⟨go5, (x5_1 : Int).toNat * 7 + 2, none⟩ = some (.int .i64 ((rd_T88 x0_1 x5_1).f2)) := hcc5 2 _ rfl
   have hx5_3 : wr.cell? ⟨go5, (x5_1 : Int).toNat * 7 + 3, none⟩ = some (.int .i64 ((rd_T88 x0_1 x5_1).f3)) := hcc5 3 _ rfl
   have hx5_4 : wr.cell? ⟨go5, (x5_1 : Int).toNat * 7 + 4, none⟩ = some (.int .i64 ((rd_T88 x0_1 x5_1).f4)) := hcc5 4 _ rfl
   have hx5_5 : wr.cell? ⟨go5, (x5_1 : Int).toNat * 7 + 5, none⟩ = some (.int .i64 ((rd_T88 x0_1 x5_1).f5)) := hcc5 5 _ rfl
   have hx5_6 : wr.cell? ⟨go5, (x5_1 : Int).toNat * 7 + 6, none⟩ = some (.bool ((rd_T88 x0_1 x5_1).f6)) := hcc5 6 _ rfl
   have hf5_0 : wr.frozen? ⟨go5, (x5_1 : Int).toNat * 7, none⟩ = false := hfr5 0
   have hf5_1 : wr.frozen? ⟨go5, (x5_1 : Int).toNat * 7 + 1, none⟩ = false := hfr5 1
   have hf5_2 : wr.frozen? ⟨go5, (x5_1 : Int).toNat * 7 + 2, none⟩ = false := hfr5 2
   have hf5_3 : wr.frozen? ⟨go5, (x5_1 : Int).toNat * 7 + 3, none⟩ = false := hfr5 3
   have hf5_4 : wr.frozen? ⟨go5, (x5_1 : Int).toNat * 7 + 4, none⟩ = false := hfr5 4
   have hf5_5 : wr.frozen? ⟨go5, (x5_1 : Int).toNat * 7 + 5, none⟩ = false := hfr5 5
   have hf5_6 : wr.frozen? ⟨go5, (x5_1 : Int).toNat * 7 + 6, none⟩ = false := hfr5 6
   clear hcl5 hcc5 hfr5 hM5
   replace p5 := eq_true p5
   replace q5 := eq_true q5
   have HX13 := zA (show Kd.R k88 88 wr w0.heap.size (fun k_ => (P0_ k_ ∨ w.heap.size ≤ k_)) (.slice (some ⟨go5, 0, none⟩) x0_1.length co12) x0_1 from (zr HO_0))
   obtain ⟨ce13, hcl13, hM13, hcc13, hfr13⟩ := Kd.R_elem HX13.out z88 (x5_1 : Int) (za) (by have h_ : (x5_1 : Int) < ((x0_1.length : Int) : Int) := za; first | exact h_ | (have e_ := (Kd.R_reads' HO_0.out).1; omega) | simpa using h_)
   obtain rfl := k88_openM hM13
   have HP13 := Kd.R_seg HX13.out (x5_1 : Int) (za) (by have h_ : (x5_1 : Int) < ((x0_1.length : Int) : Int) := za; first | exact h_ | (have e_ := (Kd.R_reads' HO_0.out).1; omega) | simpa using h_) (seg := [.int .i64 x1_1]) (j := 0) hcl13 hcc13 (show 1 ≤ 7 from by decide) (x' := (⟨x1_1, (rd_T88 x0_1 x5_1).f1, (rd_T88 x0_1 x5_1).f2, (rd_T88 x0_1 x5_1).f3, (rd_T88 x0_1 x5_1).f4, (rd_T88 x0_1 x5_1).f5, (rd_T88 x0_1 x5_1).f6⟩ : S88)) (k88_mkM _ _ _ (⟨x1_1, (rd_T88 x0_1 x5_1).f1, (rd_T88 x0_1 x5_1).f2, (rd_T88 x0_1 x5_1).f3, (rd_T88 x0_1 x5_1).f4, (rd_T88 x0_1 x5_1).f5, (rd_T88 x0_1 x5_1).f6⟩ : S88) ) (fun _ hk => hk)
   have hx13_0 := hcc13 0 _ rfl
   (try simp only [show (k88).sz = 7 from rfl, Nat.mul_one, Nat.add_zero] at hx13_0)
   have hf13_0 := hfr13 0
   (try simp only [show (k88).sz = 7 from rfl, Nat.mul_one, Nat.add_zero] at hf13_0)
   clear hcl13 hcc13 hfr13 hM13
   go_wp2_with (first | ((with_reducible refine gate_store (t := 3) (p := 16) rfl ?_); refine store_event (t := 3) (p := 16) (v := ?vo_w14) (w1 := (wr.setCell ⟨go5, (x5_1 : Int).toNat * 7, none⟩ (.int .i64 x1_1))) ?hg ?ho ?hn ?hr ?_; (case ho => rfl); (case hg => rfl); (case hn => rfl); (case hr => first | (go_simp; done) | (go_simp; rfl)); intro w14 hw; have hg : wr.grownBy w14 (some go5) := (by rw [hw]; exact HP13.2); have hp_ : Kd.R k88 88 w14 w0.heap.size (fun k_ => (P0_ k_ ∨ w.heap.size ≤ k_)) (.slice (some ⟨go5, 0, none⟩) x0_1.length co12) y378 := (by rw [hw, Ny378.out]; exact HP13.1); clear HP13; replace HB := zA ((by rw [hw]; exact below_set (HB.out) GB5.out : Below w0.heap.size w0 w14)); replace HK := zA (Kept.of_grown (S := (fun k_ => P0_ k_)) hg (by repeat (first | (with_reducible first | exact HK.out | apply Kept.alloc | apply Kept.drewN | apply Kept.drew) | exact HK.out)) (fun k_ e_ => (HO_0.out.1 k_ e_))); replace HO_0 := zA (hp_); clear hg hw hp_; have p6 : 0 ≤ (x5_1 : Int) := za; have q6 : (x5_1 : Int) < ((x0_1.length : Int) : Int) := za; obtain ⟨ce6, hcl6, hM6, hcc6, hfr6⟩ := Kd.R_elem HO_0.out z88 (x5_1 : Int) p6 q6; obtain rfl := k88_openM hM6; have hx6_0 : w14.cell? ⟨go5, (x5_1 : Int).toNat * 7, none⟩ = some (.int .i64 ((rd_T88 y378 x5_1).f0)) := hcc6 0 _ rfl; have hx6_1 : w14.cell? ⟨go5, (x5_1 : Int).toNat * 7 + 1, none⟩ = some (.int .i64 ((rd_T88 y378 x5_1).f1)) := hcc6 1 _ rfl; have hx6_2 : w14.cell? ⟨go5, (x5_1 : Int).toNat * 7 + 2, none⟩ = some (.int .i64 ((rd_T88 y378 x5_1).f2)) := hcc6 2 _ rfl; have hx6_3 : w14.cell? ⟨go5, (x5_1 : Int).toNat * 7 + 3, none⟩ = some (.int .i64 ((rd_T88 y378 x5_1).f3)) := hcc6 3 _ rfl; have hx6_4 : w14.cell? ⟨go5, (x5_1 : Int).toNat * 7 + 4, none⟩ = some (.int .i64 ((rd_T88 y378 x5_1).f4)) := hcc6 4 _ rfl; have hx6_5 : w14.cell? ⟨go5, (x5_1 : Int).toNat * 7 + 5, none⟩ = some (.int .i64 ((rd_T88 y378 x5_1).f5)) := hcc6 5 _ rfl; have hx6_6 : w14.cell? ⟨go5, (x5_1 : Int).toNat * 7 + 6, none⟩ = some (.bool ((rd_T88 y378 x5_1).f6)) := hcc6 6 _ rfl; have hf6_0 : w14.frozen? ⟨go5, (x5_1 : Int).toNat * 7, none⟩ = false := hfr6 0; have hf6_1 : w14.frozen? ⟨go5, (x5_1 : Int).toNat * 7 + 1, none⟩ = false := hfr6 1; have hf6_2 : w14.frozen? ⟨go5, (x5_1 : Int).toNat * 7 + 2, none⟩ = false := hfr6 2; have hf6_3 : w14.frozen? ⟨go5, (x5_1 : Int).toNat * 7 + 3, none⟩ = false := hfr6 3; have hf6_4 : w14.frozen? ⟨go5, (x5_1 : Int).toNat * 7 + 4, none⟩ = false := hfr6 4; have hf6_5 : w14.frozen? ⟨go5, (x5_1 : Int).toNat * 7 + 5, none⟩ = false := hfr6 5; have hf6_6 : w14.frozen? ⟨go5, (x5_1 : Int).toNat * 7 + 6, none⟩ = false := hfr6 6; clear hcl6 hcc6 hfr6 hM6; replace p6 := eq_true p6; replace q6 := eq_true q6; have HX15 := zA (show Kd.R k88 88 w14 w0.heap.size (fun k_ => (P0_ k_ ∨ w.heap.size ≤ k_)) (.slice (some ⟨go5, 0, none⟩) x0_1.length co12) y378 from (zr HO_0)); obtain ⟨ce15, hcl15, hM15, hcc15, hfr15⟩ := Kd.R_elem HX15.out z88 (x5_1 : Int) (za) (by have h_ : (x5_1 : Int) < ((x0_1.length : Int) : Int) := za; first | exact h_ | (have e_ := (Kd.R_reads' HO_0.out).1; omega) | simpa using h_); obtain rfl := k88_openM hM15; have HP15 := Kd.R_seg HX15.out (x5_1 : Int) (za) (by have h_ : (x5_1 : Int) < ((x0_1.length : Int) : Int) := za; first | exact h_ | (have e_ := (Kd.R_reads' HO_0.out).1; omega) | simpa using h_) (seg := [.int .i64 (wrap64 (x1_1 + 1))]) (j := 1) hcl15 hcc15 (show 2 ≤ 7 from by decide) (x' := (⟨(rd_T88 y378 x5_1).f0, wrap64 (x1_1 + 1), (rd_T88 y378 x5_1).f2, (rd_T88 y378 x5_1).f3, (rd_T88 y378 x5_1).f4, (rd_T88 y378 x5_1).f5, (rd_T88 y378 x5_1).f6⟩ : S88)) (k88_mkM _ _ _ (⟨(rd_T88 y378 x5_1).f0, wrap64 (x1_1 + 1), (rd_T88 y378 x5_1).f2, (rd_T88 y378 x5_1).f3, (rd_T88 y378 x5_1).f4, (rd_T88 y378 x5_1).f5, (rd_T88 y378 x5_1).f6⟩ : S88) ) (fun _ hk => hk); have hx15_1 := hcc15 1 _ rfl; (try simp only [show (k88).sz = 7 from rfl, Nat.mul_one, Nat.add_zero] at hx15_1); have hf15_1 := hfr15 1; (try simp only [show (k88).sz = 7 from rfl, Nat.mul_one, Nat.add_zero] at hf15_1); clear hcl15 hcc15 hfr15 hM15) | ((with_reducible refine gate_store (t := 3) (p := 23) rfl ?_); refine store_event (t := 3) (p := 23) (v := ?vo_w16) (w1 := (w14.setCell ⟨go5, (x5_1 : Int).toNat * 7 + 1, none⟩ (.int .i64 (wrap64 (x1_1 + 1))))) ?hg ?ho ?hn ?hr ?_; (case ho => rfl); (case hg => rfl); (case hn => rfl); (case hr => first | (go_simp; done) | (go_simp; rfl)); intro w16 hw; have hg : w14.grownBy w16 (some go5) := (by rw [hw]; exact HP15.2); have hp_ : Kd.R k88 88 w16 w0.heap.size (fun k_ => (P0_ k_ ∨ w.heap.size ≤ k_)) (.slice (some ⟨go5, 0, none⟩) x0_1.length co12) y379 := (by rw [hw, Ny379.out]; exact HP15.1); clear HP15; replace HB := zA ((by rw [hw]; exact below_set (HB.out) GB5.out : Below w0.heap.size w0 w16)); replace HK := zA (Kept.of_grown (S := (fun k_ => P0_ k_)) hg (by repeat (first | (with_reducible first | exact HK.out | apply Kept.alloc | apply Kept.drewN | apply Kept.drew) | exact HK.out)) (fun k_ e_ => (HO_0.out.1 k_ e_))); replace HO_0 := zA (hp_); clear hg hw hp_; have p7 : 0 ≤ (x5_1 : Int) := za; have q7 : (x5_1 : Int) < ((x0_1.length : Int) : Int) := za; obtain ⟨ce7, hcl7, hM7, hcc7, hfr7⟩ := Kd.R_elem HO_0.out z88 (x5_1 : Int) p7 q7; obtain rfl := k88_openM hM7; have hx7_0 : w16.cell? ⟨go5, (x5_1 : Int).toNat * 7, none⟩ = some (.int .i64 ((rd_T88 y379 x5_1).f0)) := hcc7 0 _ rfl; have hx7_1 : w16.cell? ⟨go5, (x5_1 : Int).toNat * 7 + 1, none⟩ = some (.int .i64 ((rd_T88 y379 x5_1).f1)) := hcc7 1 _ rfl; have hx7_2 : w16.cell? ⟨go5, (x5_1 : Int).toNat * 7 + 2, none⟩ = some (.int .i64 ((rd_T88 y379 x5_1).f2)) := hcc7 2 _ rfl; have hx7_3 : w16.cell? ⟨go5, (x5_1 : Int).toNat * 7 + 3, none⟩ = some (.int .i64 ((rd_T88 y379 x5_1).f3)) := hcc7 3 _ rfl; have hx7_4 : w16.cell? ⟨go5, (x5_1 : Int).toNat * 7 + 4, none⟩ = some (.int .i64 ((rd_T88 y379 x5_1).f4)) := hcc7 4 _ rfl; have hx7_5 : w16.cell? ⟨go5, (x5_1 : Int).toNat * 7 + 5, none⟩ = some (.int .i64 ((rd_T88 y379 x5_1).f5)) := hcc7 5 _ rfl; have hx7_6 : w16.cell? ⟨go5, (x5_1 : Int).toNat * 7 + 6, none⟩ = some (.bool ((rd_T88 y379 x5_1).f6)) := hcc7 6 _ rfl; have hf7_0 : w16.frozen? ⟨go5, (x5_1 : Int).toNat * 7, none⟩ = false := hfr7 0; have hf7_1 : w16.frozen? ⟨go5, (x5_1 : Int).toNat * 7 + 1, none⟩ = false := hfr7 1; have hf7_2 : w16.frozen? ⟨go5, (x5_1 : Int).toNat * 7 + 2, none⟩ = false := hfr7 2; have hf7_3 : w16.frozen? ⟨go5, (x5_1 : Int).toNat * 7 + 3, none⟩ = false := hfr7 3; have hf7_4 : w16.frozen? ⟨go5, (x5_1 : Int).toNat * 7 + 4, none⟩ = false := hfr7 4; have hf7_5 : w16.frozen? ⟨go5, (x5_1 : Int).toNat * 7 + 5, none⟩ = false := hfr7 5; have hf7_6 : w16.frozen? ⟨go5, (x5_1 : Int).toNat * 7 + 6, none⟩ = false := hfr7 6; clear hcl7 hcc7 hfr7 hM7; replace p7 := eq_true p7; replace q7 := eq_true q7; have HX17 := zA (show Kd.R k88 88 w16 w0.heap.size (fun k_ => (P0_ k_ ∨ w.heap.size ≤ k_)) (.slice (some ⟨go5, 0, none⟩) x0_1.length co12) y379 from (zr HO_0)); obtain ⟨ce17, hcl17, hM17, hcc17, hfr17⟩ := Kd.R_elem HX17.out z88 (x5_1 : Int) (za) (by have h_ : (x5_1 : Int) < ((x0_1.length : Int) : Int) := za; first | exact h_ | (have e_ := (Kd.R_reads' HO_0.out).1; omega) | simpa using h_); obtain rfl := k88_openM hM17; have HP17 := Kd.R_seg HX17.out (x5_1 : Int) (za) (by have h_ : (x5_1 : Int) < ((x0_1.length : Int) : Int) := za; first | exact h_ | (have e_ := (Kd.R_reads' HO_0.out).1; omega) | simpa using h_) (seg := [.int .i64 (wrap64 ((wrap64 (x1_1 + 1)) + 1))]) (j := 2) hcl17 hcc17 (show 3 ≤ 7 from by decide) (x' := (⟨(rd_T88 y379 x5_1).f0, (rd_T88 y379 x5_1).f1, wrap64 ((wrap64 (x1_1 + 1)) + 1), (rd_T88 y379 x5_1).f3, (rd_T88 y379 x5_1).f4, (rd_T88 y379 x5_1).f5, (rd_T88 y379 x5_1).f6⟩ : S88)) (k88_mkM _ _ _ (⟨(rd_T88 y379 x5_1).f0, (rd_T88 y379 x5_1).f1, wrap64 ((wrap64 (x1_1 + 1)) + 1), (rd_T88 y379 x5_1).f3, (rd_T88 y379 x5_1).f4, (rd_T88 y379 x5_1).f5, (rd_T88 y379 x5_1).f6⟩ : S88) ) (fun _ hk => hk); have hx17_2 := hcc17 2 _ rfl; (try simp only [show (k88).sz = 7 from rfl, Nat.mul_one, Nat.add_zero] at hx17_2); have hf17_2 := hfr17 2; (try simp only [show (k88).sz = 7 from rfl, Nat.mul_one, Nat.add_zero] at hf17_2); clear hcl17 hcc17 hfr17 hM17) | ((with_reducible refine gate_store (t := 3) (p := 30) rfl ?_); refine store_event (t := 3) (p := 30) (v := ?vo_w18) (w1 := (w16.setCell ⟨go5, (x5_1 : Int).toNat * 7 + 2, none⟩ (.int .i64 (wrap64 ((wrap64 (x1_1 + 1)) + 1))))) ?hg ?ho ?hn ?hr ?_; (case ho => rfl); (case hg => rfl); (case hn => rfl); (case hr => first | (go_simp; done) | (go_simp; rfl)); intro w18 hw; have hg : w16.grownBy w18 (some go5) := (by rw [hw]; exact HP17.2); have hp_ : Kd.R k88 88 w18 w0.heap.size (fun k_ => (P0_ k_ ∨ w.heap.size ≤ k_)) (.slice (some ⟨go5, 0, none⟩) x0_1.length co12) y380 := (by rw [hw, Ny380.out]; exact HP17.1); clear HP17; replace HB := zA ((by rw [hw]; exact below_set (HB.out) GB5.out : Below w0.heap.size w0 w18)); replace HK := zA (Kept.of_grown (S := (fun k_ => P0_ k_)) hg (by repeat (first | (with_reducible first | exact HK.out | apply Kept.alloc | apply Kept.drewN | apply Kept.drew) | exact HK.out)) (fun k_ e_ => (HO_0.out.1 k_ e_))); replace HO_0 := zA (hp_); clear hg hw hp_; have p8 : 0 ≤ (x5_1 : Int) := za; have q8 : (x5_1 : Int) < ((x0_1.length : Int) : Int) := za; obtain ⟨ce8, hcl8, hM8, hcc8, hfr8⟩ := Kd.R_elem HO_0.out z88 (x5_1 : Int) p8 q8; obtain rfl := k88_openM hM8; have hx8_0 : w18.cell? ⟨go5, (x5_1 : Int).toNat * 7, none⟩ = some (.int .i64 ((rd_T88 y380 x5_1).f0)) := hcc8 0 _ rfl; have hx8_1 : w18.cell? ⟨go5, (x5_1 : Int).toNat * 7 + 1, none⟩ = some (.int .i64 ((rd_T88 y380 x5_1).f1)) := hcc8 1 _ rfl; have hx8_2 : w18.cell? ⟨go5, (x5_1 : Int).toNat * 7 + 2, none⟩ = some (.int .i64 ((rd_T88 y380 x5_1).f2)) := hcc8 2 _ rfl; have hx8_3 : w18.cell? ⟨go5, (x5_1 : Int).toNat * 7 + 3, none⟩ = some (.int .i64 ((rd_T88 y380 x5_1).f3)) := hcc8 3 _ rfl; have hx8_4 : w18.cell? ⟨go5, (x5_1 : Int).toNat * 7 + 4, none⟩ = some (.int .i64 ((rd_T88 y380 x5_1).f4)) := hcc8 4 _ rfl; have hx8_5 : w18.cell? ⟨go5, (x5_1 : Int).toNat * 7 + 5, none⟩ = some (.int .i64 ((rd_T88 y380 x5_1).f5)) := hcc8 5 _ rfl; have hx8_6 : w18.cell? ⟨go5, (x5_1 : Int).toNat * 7 + 6, none⟩ = some (.bool ((rd_T88 y380 x5_1).f6)) := hcc8 6 _ rfl; have hf8_0 : w18.frozen? ⟨go5, (x5_1 : Int).toNat * 7, none⟩ = false := hfr8 0; have hf8_1 : w18.frozen? ⟨go5, (x5_1 : Int).toNat * 7 + 1, none⟩ = false := hfr8 1; have hf8_2 : w18.frozen? ⟨go5, (x5_1 : Int).toNat * 7 + 2, none⟩ = false := hfr8 2; have hf8_3 : w18.frozen? ⟨go5, (x5_1 : Int).toNat * 7 + 3, none⟩ = false := hfr8 3; have hf8_4 : w18.frozen? ⟨go5, (x5_1 : Int).toNat * 7 + 4, none⟩ = false := hfr8 4; have hf8_5 : w18.frozen? ⟨go5, (x5_1 : Int).toNat * 7 + 5, none⟩ = false := hfr8 5; have hf8_6 : w18.frozen? ⟨go5, (x5_1 : Int).toNat * 7 + 6, none⟩ = false := hfr8 6; clear hcl8 hcc8 hfr8 hM8; replace p8 := eq_true p8; replace q8 := eq_true q8; have HX19 := zA (show Kd.R k88 88 w18 w0.heap.size (fun k_ => (P0_ k_ ∨ w.heap.size ≤ k_)) (.slice (some ⟨go5, 0, none⟩) x0_1.length co12) y380 from (zr HO_0)); obtain ⟨ce19, hcl19, hM19, hcc19, hfr19⟩ := Kd.R_elem HX19.out z88 (x5_1 : Int) (za) (by have h_ : (x5_1 : Int) < ((x0_1.length : Int) : Int) := za; first | exact h_ | (have e_ := (Kd.R_reads' HO_0.out).1; omega) | simpa using h_); obtain rfl := k88_openM hM19; have HP19 := Kd.R_seg HX19.out (x5_1 : Int) (za) (by have h_ : (x5_1 : Int) < ((x0_1.length : Int) : Int) := za; first | exact h_ | (have e_ := (Kd.R_reads' HO_0.out).1; omega) | simpa using h_) (seg := [.int .i64 (wrap64 ((wrap64 ((wrap64 (x1_1 + 1)) + 1)) + 1))]) (j := 3) hcl19 hcc19 (show 4 ≤ 7 from by decide) (x' := (⟨(rd_T88 y380 x5_1).f0, (rd_T88 y380 x5_1).f1, (rd_T88 y380 x5_1).f2, wrap64 ((wrap64 ((wrap64 (x1_1 + 1)) + 1)) + 1), (rd_T88 y380 x5_1).f4, (rd_T88 y380 x5_1).f5, (rd_T88 y380 x5_1).f6⟩ : S88)) (k88_mkM _ _ _ (⟨(rd_T88 y380 x5_1).f0, (rd_T88 y380 x5_1).f1, (rd_T88 y380 x5_1).f2, wrap64 ((wrap64 ((wrap64 (x1_1 + 1)) + 1)) + 1), (rd_T88 y380 x5_1).f4, (rd_T88 y380 x5_1).f5, (rd_T88 y380 x5_1).f6⟩ : S88) ) (fun _ hk => hk); have hx19_3 := hcc19 3 _ rfl; (try simp only [show (k88).sz = 7 from rfl, Nat.mul_one, Nat.add_zero] at hx19_3); have hf19_3 := hfr19 3; (try simp only [show (k88).sz = 7 from rfl, Nat.mul_one, Nat.add_zero] at hf19_3); clear hcl19 hcc19 hfr19 hM19) | ((with_reducible refine gate_store (t := 3) (p := 37) rfl ?_); refine store_event (t := 3) (p := 37) (v := ?vo_w20) (w1 := (w18.setCell ⟨go5, (x5_1 : Int).toNat * 7 + 3, none⟩ (.int .i64 (wrap64 ((wrap64 ((wrap64 (x1_1 + 1)) + 1)) + 1))))) ?hg ?ho ?hn ?hr ?_; (case ho => rfl); (case hg => rfl); (case hn => rfl); (case hr => first | (go_simp; done) | (go_simp; rfl)); intro w20 hw; have hg : w18.grownBy w20 (some go5) := (by rw [hw]; exact HP19.2); have hp_ : Kd.R k88 88 w20 w0.heap.size (fun k_ => (P0_ k_ ∨ w.heap.size ≤ k_)) (.slice (some ⟨go5, 0, none⟩) x0_1.length co12) y381 := (by rw [hw, Ny381.out]; exact HP19.1); clear HP19; replace HB := zA ((by rw [hw]; exact below_set (HB.out) GB5.out : Below w0.heap.size w0 w20)); replace HK := zA (Kept.of_grown (S := (fun k_ => P0_ k_)) hg (by repeat (first | (with_reducible first | exact HK.out | apply Kept.alloc | apply Kept.drewN | apply Kept.drew) | exact HK.out)) (fun k_ e_ => (HO_0.out.1 k_ e_))); replace HO_0 := zA (hp_); clear hg hw hp_; have p9 : 0 ≤ (x5_1 : Int) := za; have q9 : (x5_1 : Int) < ((x0_1.length : Int) : Int) := za; obtain ⟨ce9, hcl9, hM9, hcc9, hfr9⟩ := Kd.R_elem HO_0.out z88 (x5_1 : Int) p9 q9; obtain rfl := k88_openM hM9; have hx9_0 : w20.cell? ⟨go5, (x5_1 : Int).toNat * 7, none⟩ = some (.int .i64 ((rd_T88 y381 x5_1).f0)) := hcc9 0 _ rfl; have hx9_1 : w20.cell? ⟨go5, (x5_1 : Int).toNat * 7 + 1, none⟩ = some (.int .i64 ((rd_T88 y381 x5_1).f1)) := hcc9 1 _ rfl; have hx9_2 : w20.cell? ⟨go5, (x5_1 : Int).toNat * 7 + 2, none⟩ = some (.int .i64 ((rd_T88 y381 x5_1).f2)) := hcc9 2 _ rfl; have hx9_3 : w20.cell? ⟨go5, (x5_1 : Int).toNat * 7 + 3, none⟩ = some (.int .i64 ((rd_T88 y381 x5_1).f3)) := hcc9 3 _ rfl; have hx9_4 : w20.cell? ⟨go5, (x5_1 : Int).toNat * 7 + 4, none⟩ = some (.int .i64 ((rd_T88 y381 x5_1).f4)) := hcc9 4 _ rfl; have hx9_5 : w20.cell? ⟨go5, (x5_1 : Int).toNat * 7 + 5, none⟩ = some (.int .i64 ((rd_T88 y381 x5_1).f5)) := hcc9 5 _ rfl; have hx9_6 : w20.cell? ⟨go5, (x5_1 : Int).toNat * 7 + 6, none⟩ = some (.bool ((rd_T88 y381 x5_1).f6)) := hcc9 6 _ rfl; have hf9_0 : w20.frozen? ⟨go5, (x5_1 : Int).toNat * 7, none⟩ = false := hfr9 0; have hf9_1 : w20.frozen? ⟨go5, (x5_1 : Int).toNat * 7 + 1, none⟩ = false := hfr9 1; have hf9_2 : w20.frozen? ⟨go5, (x5_1 : Int).toNat * 7 + 2, none⟩ = false := hfr9 2; have hf9_3 : w20.frozen? ⟨go5, (x5_1 : Int).toNat * 7 + 3, none⟩ = false := hfr9 3; have hf9_4 : w20.frozen? ⟨go5, (x5_1 : Int).toNat * 7 + 4, none⟩ = false := hfr9 4; have hf9_5 : w20.frozen? ⟨go5, (x5_1 : Int).toNat * 7 + 5, none⟩ = false := hfr9 5; have hf9_6 : w20.frozen? ⟨go5, (x5_1 : Int).toNat * 7 + 6, none⟩ = false := hfr9 6; clear hcl9 hcc9 hfr9 hM9; replace p9 := eq_true p9; replace q9 := eq_true q9; have HX21 := zA (show Kd.R k88 88 w20 w0.heap.size (fun k_ => (P0_ k_ ∨ w.heap.size ≤ k_)) (.slice (some ⟨go5, 0, none⟩) x0_1.length co12) y381 from (zr HO_0)); obtain ⟨ce21, hcl21, hM21, hcc21, hfr21⟩ := Kd.R_elem HX21.out z88 (x5_1 : Int) (za) (by have h_ : (x5_1 : Int) < ((x0_1.length : Int) : Int) := za; first | exact h_ | (have e_ := (Kd.R_reads' HO_0.out).1; omega) | simpa using h_); obtain rfl := k88_openM hM21; have HP21 := Kd.R_seg HX21.out (x5_1 : Int) (za) (by have h_ : (x5_1 : Int) < ((x0_1.length : Int) : Int) := za; first | exact h_ | (have e_ := (Kd.R_reads' HO_0.out).1; omega) | simpa using h_) (seg := [.int .i64 (wrap64 ((wrap64 ((wrap64 ((wrap64 (x1_1 + 1)) + 1)) + 1)) + 1))]) (j := 4) hcl21 hcc21 (show 5 ≤ 7 from by decide) (x' := (⟨(rd_T88 y381 x5_1).f0, (rd_T88 y381 x5_1).f1, (rd_T88 y381 x5_1).f2, (rd_T88 y381 x5_1).f3, wrap64 ((wrap64 ((wrap64 ((wrap64 (x1_1 + 1)) + 1)) + 1)) + 1), (rd_T88 y381 x5_1).f5, (rd_T88 y381 x5_1).f6⟩ : S88)) (k88_mkM _ _ _ (⟨(rd_T88 y381 x5_1).f0, (rd_T88 y381 x5_1).f1, (rd_T88 y381 x5_1).f2, (rd_T88 y381 x5_1).f3, wrap64 ((wrap64 ((wrap64 ((wrap64 (x1_1 + 1)) + 1)) + 1)) + 1), (rd_T88 y381 x5_1).f5, (rd_T88 y381 x5_1).f6⟩ : S88) ) (fun _ hk => hk); have hx21_4 := hcc21 4 _ rfl; (try simp only [show (k88).sz = 7 from rfl, Nat.mul_one, Nat.add_zero] at hx21_4); have hf21_4 := hfr21 4; (try simp only [show (k88).sz = 7 from rfl, Nat.mul_one, Nat.add_zero] at hf21_4); clear hcl21 hcc21 hfr21 hM21) | ((with_reducible refine gate_store (t := 3) (p := 44) rfl ?_); refine store_event (t := 3) (p := 44) (v := ?vo_w22) (w1 := (w20.setCell ⟨go5, (x5_1 : Int).toNat * 7 + 4, none⟩ (.int .i64 (wrap64 ((wrap64 ((wrap64 ((wrap64 (x1_1 + 1)) + 1)) + 1)) + 1))))) ?hg ?ho ?hn ?hr ?_; (case ho => rfl); (case hg => rfl); (case hn => rfl); (case hr => first | (go_simp; done) | (go_simp; rfl)); intro w22 hw; have hg : w20.grownBy w22 (some go5) := (by rw [hw]; exact HP21.2); have hp_ : Kd.R k88 88 w22 w0.heap.size (fun k_ => (P0_ k_ ∨ w.heap.size ≤ k_)) (.slice (some ⟨go5, 0, none⟩) x0_1.length co12) y382 := (by rw [hw, Ny382.out]; exact HP21.1); clear HP21; replace HB := zA ((by rw [hw]; exact below_set (HB.out) GB5.out : Below w0.heap.size w0 w22)); replace HK := zA (Kept.of_grown (S := (fun k_ => P0_ k_)) hg (by repeat (first | (with_reducible first | exact HK.out | apply Kept.alloc | apply Kept.drewN | apply Kept.drew) | exact HK.out)) (fun k_ e_ => (HO_0.out.1 k_ e_))); replace HO_0 := zA (hp_); clear hg hw hp_; have p10 : 0 ≤ (x5_1 : Int) := za; have q10 : (x5_1 : Int) < ((x0_1.length : Int) : Int) := za; obtain ⟨ce10, hcl10, hM10, hcc10, hfr10⟩ := Kd.R_elem HO_0.out z88 (x5_1 : Int) p10 q10; obtain rfl := k88_openM hM10; have hx10_0 : w22.cell? ⟨go5, (x5_1 : Int).toNat * 7, none⟩ = some (.int .i64 ((rd_T88 y382 x5_1).f0)) := hcc10 0 _ rfl; have hx10_1 : w22.cell? ⟨go5, (x5_1 : Int).toNat * 7 + 1, none⟩ = some (.int .i64 ((rd_T88 y382 x5_1).f1)) := hcc10 1 _ rfl; have hx10_2 : w22.cell? ⟨go5, (x5_1 : Int).toNat * 7 + 2, none⟩ = some (.int .i64 ((rd_T88 y382 x5_1).f2)) := hcc10 2 _ rfl; have hx10_3 : w22.cell? ⟨go5, (x5_1 : Int).toNat * 7 + 3, none⟩ = some (.int .i64 ((rd_T88 y382 x5_1).f3)) := hcc10 3 _ rfl; have hx10_4 : w22.cell? ⟨go5, (x5_1 : Int).toNat * 7 + 4, none⟩ = some (.int .i64 ((rd_T88 y382 x5_1).f4)) := hcc10 4 _ rfl; have hx10_5 : w22.cell? ⟨go5, (x5_1 : Int).toNat * 7 + 5, none⟩ = some (.int .i64 ((rd_T88 y382 x5_1).f5)) := hcc10 5 _ rfl; have hx10_6 : w22.cell? ⟨go5, (x5_1 : Int).toNat * 7 + 6, none⟩ = some (.bool ((rd_T88 y382 x5_1).f6)) := hcc10 6 _ rfl; have hf10_0 : w22.frozen? ⟨go5, (x5_1 : Int).toNat * 7, none⟩ = false := hfr10 0; have hf10_1 : w22.frozen? ⟨go5, (x5_1 : Int).toNat * 7 + 1, none⟩ = false := hfr10 1; have hf10_2 : w22.frozen? ⟨go5, (x5_1 : Int).toNat * 7 + 2, none⟩ = false := hfr10 2; have hf10_3 : w22.frozen? ⟨go5, (x5_1 : Int).toNat * 7 + 3, none⟩ = false := hfr10 3; have hf10_4 : w22.frozen? ⟨go5, (x5_1 : Int).toNat * 7 + 4, none⟩ = false := hfr10 4; have hf10_5 : w22.frozen? ⟨go5, (x5_1 : Int).toNat * 7 + 5, none⟩ = false := hfr10 5; have hf10_6 : w22.frozen? ⟨go5, (x5_1 : Int).toNat * 7 + 6, none⟩ = false := hfr10 6; clear hcl10 hcc10 hfr10 hM10; replace p10 := eq_true p10; replace q10 := eq_true q10; have HX23 := zA (show Kd.R k88 88 w22 w0.heap.size (fun k_ => (P0_ k_ ∨ w.heap.size ≤ k_)) (.slice (some ⟨go5, 0, none⟩) x0_1.length co12) y382 from (zr HO_0)); obtain ⟨ce23, hcl23, hM23, hcc23, hfr23⟩ := Kd.R_elem HX23.out z88 (x5_1 : Int) (za) (by have h_ : (x5_1 : Int) < ((x0_1.length : Int) : Int) := za; first | exact h_ | (have e_ := (Kd.R_reads' HO_0.out).1; omega) | simpa using h_); obtain rfl := k88_openM hM23; have HP23 := Kd.R_seg HX23.out (x5_1 : Int) (za) (by have h_ : (x5_1 : Int) < ((x0_1.length : Int) : Int) := za; first | exact h_ | (have e_ := (Kd.R_reads' HO_0.out).1; omega) | simpa using h_) (seg := [.int .i64 (wrap64 ((wrap64 ((wrap64 ((wrap64 ((wrap64 (x1_1 + 1)) + 1)) + 1)) + 1)) + 1))]) (j := 5) hcl23 hcc23 (show 6 ≤ 7 from by decide) (x' := (⟨(rd_T88 y382 x5_1).f0, (rd_T88 y382 x5_1).f1, (rd_T88 y382 x5_1).f2, (rd_T88 y382 x5_1).f3, (rd_T88 y382 x5_1).f4, wrap64 ((wrap64 ((wrap64 ((wrap64 ((wrap64 (x1_1 + 1)) + 1)) + 1)) + 1)) + 1), (rd_T88 y382 x5_1).f6⟩ : S88)) (k88_mkM _ _ _ (⟨(rd_T88 y382 x5_1).f0, (rd_T88 y382 x5_1).f1, (rd_T88 y382 x5_1).f2, (rd_T88 y382 x5_1).f3, (rd_T88 y382 x5_1).f4, wrap64 ((wrap64 ((wrap64 ((wrap64 ((wrap64 (x1_1 + 1)) + 1)) + 1)) + 1)) + 1), (rd_T88 y382 x5_1).f6⟩ : S88) ) (fun _ hk => hk); have hx23_5 := hcc23 5 _ rfl; (try simp only [show (k88).sz = 7 from rfl, Nat.mul_one, Nat.add_zero] at hx23_5); have hf23_5 := hfr23 5; (try simp only [show (k88).sz = 7 from rfl, Nat.mul_one, Nat.add_zero] at hf23_5); clear hcl23 hcc23 hfr23 hM23) | ((with_reducible refine gate_store (t := 3) (p := 51) rfl ?_); refine store_event (t := 3) (p := 51) (v := ?vo_w24) (w1 := (w22.setCell ⟨go5, (x5_1 : Int).toNat * 7 + 5, none⟩ (.int .i64 (wrap64 ((wrap64 ((wrap64 ((wrap64 ((wrap64 (x1_1 + 1)) + 1)) + 1)) + 1)) + 1))))) ?hg ?ho ?hn ?hr ?_; (case ho => rfl); (case hg => rfl); (case hn => rfl); (case hr => first | (go_simp; done) | (go_simp; rfl)); intro w24 hw; have hg : w22.grownBy w24 (some go5) := (by rw [hw]; exact HP23.2); have hp_ : Kd.R k88 88 w24 w0.heap.size (fun k_ => (P0_ k_ ∨ w.heap.size ≤ k_)) (.slice (some ⟨go5, 0, none⟩) x0_1.length co12) y383 := (by rw [hw, Ny383.out]; exact HP23.1); clear HP23; replace HB := zA ((by rw [hw]; exact below_set (HB.out) GB5.out : Below w0.heap.size w0 w24)); replace HK := zA (Kept.of_grown (S := (fun k_ => P0_ k_)) hg (by repeat (first | (with_reducible first | exact HK.out | apply Kept.alloc | apply Kept.drewN | apply Kept.drew) | exact HK.out)) (fun k_ e_ => (HO_0.out.1 k_ e_))); replace HO_0 := zA (hp_); clear hg hw hp_; have p11 : 0 ≤ (x5_1 : Int) := za; have q11 : (x5_1 : Int) < ((x0_1.length : Int) : Int) := za; obtain ⟨ce11, hcl11, hM11, hcc11, hfr11⟩ := Kd.R_elem HO_0.out z88 (x5_1 : Int) p11 q11; obtain rfl := k88_openM hM11; have hx11_0 : w24.cell? ⟨go5, (x5_1 : Int).toNat * 7, none⟩ = some (.int .i64 ((rd_T88 y383 x5_1).f0)) := hcc11 0 _ rfl; have hx11_1 : w24.cell? ⟨go5, (x5_1 : Int).toNat * 7 + 1, none⟩ = some (.int .i64 ((rd_T88 y383 x5_1).f1)) := hcc11 1 _ rfl; have hx11_2 : w24.cell? ⟨go5, (x5_1 : Int).toNat * 7 + 2, none⟩ = some (.int .i64 ((rd_T88 y383 x5_1).f2)) := hcc11 2 _ rfl; have hx11_3 : w24.cell? ⟨go5, (x5_1 : Int).toNat * 7 + 3, none⟩ = some (.int .i64 ((rd_T88 y383 x5_1).f3)) := hcc11 3 _ rfl; have hx11_4 : w24.cell? ⟨go5, (x5_1 : Int).toNat * 7 + 4, none⟩ = some (.int .i64 ((rd_T88 y383 x5_1).f4)) := hcc11 4 _ rfl; have hx11_5 : w24.cell? ⟨go5, (x5_1 : Int).toNat * 7 + 5, none⟩ = some (.int .i64 ((rd_T88 y383 x5_1).f5)) := hcc11 5 _ rfl; have hx11_6 : w24.cell? ⟨go5, (x5_1 : Int).toNat * 7 + 6, none⟩ = some (.bool ((rd_T88 y383 x5_1).f6)) := hcc11 6 _ rfl; have hf11_0 : w24.frozen? ⟨go5, (x5_1 : Int).toNat * 7, none⟩ = false := hfr11 0; have hf11_1 : w24.frozen? ⟨go5, (x5_1 : Int).toNat * 7 + 1, none⟩ = false := hfr11 1; have hf11_2 : w24.frozen? ⟨go5, (x5_1 : Int).toNat * 7 + 2, none⟩ = false := hfr11 2; have hf11_3 : w24.frozen? ⟨go5, (x5_1 : Int).toNat * 7 + 3, none⟩ = false := hfr11 3; have hf11_4 : w24.frozen? ⟨go5, (x5_1 : Int).toNat * 7 + 4, none⟩ = false := hfr11 4; have hf11_5 : w24.frozen? ⟨go5, (x5_1 : Int).toNat * 7 + 5, none⟩ = false := hfr11 5; have hf11_6 : w24.frozen? ⟨go5, (x5_1 : Int).toNat * 7 + 6, none⟩ = false := hfr11 6; clear hcl11 hcc11 hfr11 hM11; replace p11 := eq_true p11; replace q11 := eq_true q11; have HX25 := zA (show Kd.R k88 88 w24 w0.heap.size (fun k_ => (P0_ k_ ∨ w.heap.size ≤ k_)) (.slice (some ⟨go5, 0, none⟩) x0_1.length co12) y383 from (zr HO_0)); obtain ⟨ce25, hcl25, hM25, hcc25, hfr25⟩ := Kd.R_elem HX25.out z88 (x5_1 : Int) (za) (by have h_ : (x5_1 : Int) < ((x0_1.length : Int) : Int) := za; first | exact h_ | (have e_ := (Kd.R_reads' HO_0.out).1; omega) | simpa using h_); obtain rfl := k88_openM hM25; have HP25 := Kd.R_seg HX25.out (x5_1 : Int) (za) (by have h_ : (x5_1 : Int) < ((x0_1.length : Int) : Int) := za; first | exact h_ | (have e_ := (Kd.R_reads' HO_0.out).1; omega) | simpa using h_) (seg := [.bool ((Int.tmod (wrap64 ((wrap64 ((wrap64 ((wrap64 ((wrap64 ((wrap64 (x1_1 + 1)) + 1)) + 1)) + 1)) + 1)) + 1)) 3) == 0)]) (j := 6) hcl25 hcc25 (show 7 ≤ 7 from by decide) (x' := (⟨(rd_T88 y383 x5_1).f0, (rd_T88 y383 x5_1).f1, (rd_T88 y383 x5_1).f2, (rd_T88 y383 x5_1).f3, (rd_T88 y383 x5_1).f4, (rd_T88 y383 x5_1).f5, ((Int.tmod (wrap64 ((wrap64 ((wrap64 ((wrap64 ((wrap64 ((wrap64 (x1_1 + 1)) + 1)) + 1)) + 1)) + 1)) + 1)) 3) == 0)⟩ : S88)) (k88_mkM _ _ _ (⟨(rd_T88 y383 x5_1).f0, (rd_T88 y383 x5_1).f1, (rd_T88 y383 x5_1).f2, (rd_T88 y383 x5_1).f3, (rd_T88 y383 x5_1).f4, (rd_T88 y383 x5_1).f5, ((Int.tmod (wrap64 ((wrap64 ((wrap64 ((wrap64 ((wrap64 ((wrap64 (x1_1 + 1)) + 1)) + 1)) + 1)) + 1)) + 1)) 3) == 0)⟩ : S88) ) (fun _ hk => hk); have hx25_6 := hcc25 6 _ rfl; (try simp only [show (k88).sz = 7 from rfl, Nat.mul_one, Nat.add_zero] at hx25_6); have hf25_6 := hfr25 6; (try simp only [show (k88).sz = 7 from rfl, Nat.mul_one, Nat.add_zero] at hf25_6); clear hcl25 hcc25 hfr25 hM25) | ((with_reducible refine gate_store (t := 4) (p := 60) rfl ?_); refine store_event (t := 4) (p := 60) (v := ?vo_w26) (w1 := (w24.setCell ⟨go5, (x5_1 : Int).toNat * 7 + 6, none⟩ (.bool ((Int.tmod (wrap64 ((wrap64 ((wrap64 ((wrap64 ((wrap64 ((wrap64 (x1_1 + 1)) + 1)) + 1)) + 1)) + 1)) + 1)) 3) == 0)))) ?hg ?ho ?hn ?hr ?_; (case ho => rfl); (case hg => rfl); (case hn => rfl); (case hr => first | (go_simp; done) | (go_simp; rfl)); intro w26 hw; have hg : w24.grownBy w26 (some go5) := (by rw [hw]; exact HP25.2); have hp_ : Kd.R k88 88 w26 w0.heap.size (fun k_ => (P0_ k_ ∨ w.heap.size ≤ k_)) (.slice (some ⟨go5, 0, none⟩) x0_1.length co12) y384 := (by rw [hw, Ny384.out]; exact HP25.1); clear HP25; replace HB := zA ((by rw [hw]; exact below_set (HB.out) GB5.out : Below w0.heap.size w0 w26)); replace HK := zA (Kept.of_grown (S := (fun k_ => P0_ k_)) hg (by repeat (first | (with_reducible first | exact HK.out | apply Kept.alloc | apply Kept.drewN | apply Kept.drew) | exact HK.out)) (fun k_ e_ => (HO_0.out.1 k_ e_))); replace HO_0 := zA (hp_); clear hg hw hp_))
   go_roundg k1
   case measure => have := HK1.out; omega
   case rel => exact ⟨(y384), (wrap64 ((wrap64 ((wrap64 ((wrap64 ((wrap64 ((wrap64 ((wrap64 (x1_1 + 1)) + 1)) + 1)) + 1)) + 1)) + 1)) + 1)), (wrap64 (x5_1 + 1)), zi, zi, H', ⟨by have := HK1.out; omega⟩, ⟨zr HO_0⟩, ⟨by repeat (first | (with_reducible first | exact HK.out | apply Kept.alloc | apply Kept.drewN | apply Kept.drew) | exact HK.out)⟩, ⟨zs0 HB⟩⟩
end Go.Proofs.Ytidenmcoilmbcaa.QFnExactFlyGo
