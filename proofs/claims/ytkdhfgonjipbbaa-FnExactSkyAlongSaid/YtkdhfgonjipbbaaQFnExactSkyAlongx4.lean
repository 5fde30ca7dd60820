/- The walk of what the law FnExactSkyAlong reaches: laid by a program of this session (ownprint.py). -/
import Derived.Test.YtkdhfgonjipbbaaQFnExactSkyAlongx0
import Derived.Test.YtkdhfgonjipbbaaQFnExactSkyAlongx3
namespace Go.Proofs.Ytkdhfgonjipbbaa.QFnExactSkyAlong
open Go.RowKit Go.Proofs.YtkdhfgonjipbbaaW.PrintWords Go.Proofs.YtkdhfgonjipbbaaW.PrintLast Go.Proofs.YtkdhfgonjipbbaaW.PrintMore Go.Proofs.Ytkdhfgonjipbbaa.Z
attribute [local go_sem] max2_int min2_int max_two min_two max_three min_three max_four min_four zdn   -- for this text's walks alone
set_option linter.unusedVariables false
set_option linter.unusedSimpArgs false
def laws_eqSkyRunS.l0 : Nat → List (S72) → List (S72) → Int → Option (Bool)
 | 0, _, _, _ => none
 | k + 1, x0, x1, x5 => if x5 < (x0.length : Int) then (if 0 ≤ x5 then (if x5 < (x1.length : Int) then ((laws_eqSkyRun.f ((rd_T72 x0 x5).f0) ((rd_T72 x0 x5).f1) ((rd_T72 x0 x5).f2) ((rd_T72 x1 x5).f0) ((rd_T72 x1 x5).f1) ((rd_T72 x1 x5).f2)).bind fun t201 => (if t201 = true then (laws_eqSkyRunS.l0 k x0 x1 (wrap64 (x5 + 1))) else (some false))) else (none)) else (none)) else (some true)
def laws_eqSkyRunS.f (k : Nat) (l0 : List (S72)) (l1 : List (S72)) : Option (Bool) := if (l0.length : Int) = (l1.length : Int) then (laws_eqSkyRunS.l0 k l0 l1 0) else (some false)
def laws_eqSkyRunS.T6 : Bool × List (List Nat × List Nat) := (true, [([], []), ([], []), ([0, 1], [0, 1]), ([2], [2]), ([], []), ([], []), ([4, 5], [4, 5]), ([6], [6]), ([3, 7], [3, 7]), ([8], [8])])
def laws_eqSkyRunS.B6 : List Nat := [0, 0, 3, 7, 0, 0, 48, 112, 255, 511]
theorem laws_eqSkyRunS.tab6 : rtab .any (opsOf Try.f34 6) = laws_eqSkyRunS.T6 := by kernel_rfl
theorem laws_eqSkyRunS.bits6 : waitsOk laws_eqSkyRunS.T6.2 laws_eqSkyRunS.B6 = true := by kernel_rfl
set_option maxHeartbeats 8000000 in
set_option maxRecDepth 100000 in
theorem laws_eqSkyRunS.calls (k : Nat) (A0 : Option Addr) (c0 : Nat) (l0 : List (S72)) (A1 : Option Addr) (c1 : Nat) (l1 : List (S72)) (r : Bool) (w : World) (hr0 : Kd.C k72 w A0 l0.length l0) (hc0 : l0.length ≤ c0) (hr1 : Kd.C k72 w A1 l1.length l1) (hc1 : l1.length ≤ c1) (h : laws_eqSkyRunS.f k l0 l1 = some r) :
 Calls Try.prog 34 #[.slice A0 l0.length c0, .slice A1 l1.length c1] w fun e w' => e = .returned (.bool r) ∧ Below w.heap.size w w' := by
 have hu72 := Try.underlying72
 have HR0 := Aside0.mk hr0
 have HC0 := Aside0.mk hc0
 clear hr0 hc0
 have HR1 := Aside0.mk hr1
 have HC1 := Aside0.mk hc1
 clear hr1 hc1
 have HB := Aside0.mk (Below.refl w.heap.size w)
 have H : (if (l0.length : Int) = (l1.length : Int) then (laws_eqSkyRunS.l0 k l0 l1 0) else (some false)) = some r := h
 clear h
 by_cases c3 : (l0.length : Int) = (l1.length : Int)
 rotate_left
 ·rw [if_neg c3] at H
  have c3b0 : ((l0.length : Int) == (l1.length : Int)) = false := beq_eq_false_iff_ne.mpr c3
  have c3b1 : ((l0.length : Int) != (l1.length : Int)) = true := bne_iff_ne.mpr c3
  have c3b2 : (l0.length == l1.length) = false := by first | simpa using c3 | (simp at c3 ⊢; omega)
  obtain rfl := Option.some.inj H
  go_enter Try.func34, Try.ntmps34
  go_wp2
  go_ret
  exact ⟨ze, zs0 HB⟩
 rw [if_pos c3] at H
 have c3b0 : ((l0.length : Int) == (l1.length : Int)) = true := beq_iff_eq.mpr c3
 have c3b1 : ((l0.length : Int) != (l1.length : Int)) = false := bne_eq_false_iff_eq.mpr c3
 have c3b2 : (l0.length == l1.length) = true := by first | simpa using c3 | (simp at c3 ⊢; omega)
 clear c3
 have H' := Aside0.mk H
 clear H
 go_enter Try.func34, Try.ntmps34
 go_wp2
 go_loopg [5] k (fun kq v5 w' => ∃ (x5_1 : Int), v5 = .int .i64 x5_1 ∧ Aside0 (laws_eqSkyRunS.l0 kq l0 l1 x5_1 = some r) ∧ Aside0 (kq ≤ k) ∧ Aside0 (Below w.heap.size w w'))
 case atStart => exact ⟨(0), zi, H', ⟨Nat.le_refl _⟩, ⟨zs0 HB⟩⟩
 case round =>
  clear H'
  try clear c1
  try clear p2
  try clear c3
  try clear c3b0
  try clear c3b1
  try clear c3b2
  obtain ⟨x5_1, rfl, HA, HK1, HB⟩ := hrel
  cases gk with
  | zero => exact absurd HA.out (by simp [laws_eqSkyRunS.l0])
  | succ k1 =>
   have H := HA.out
   clear HA
   simp only [laws_eqSkyRunS.l0] at H
   by_cases c4 : x5_1 < (l0.length : Int)
   rotate_left
   ·rw [if_neg c4] at H
    have c4b0 : decide (x5_1 < (l0.length : Int)) = false := decide_eq_false c4
    clear c4
    obtain rfl := Option.some.inj H
    go_wp2
    go_ret
    exact ⟨ze, zs0 HB⟩
   rw [if_pos c4] at H
   have c4b0 : decide (x5_1 < (l0.length : Int)) = true := decide_eq_true c4
   clear c4
   by_cases c5 : 0 ≤ x5_1
   rotate_left
   ·rw [if_neg c5] at H
    exact absurd H (by simp)
   rw [if_pos c5] at H
   have c5b0 : decide (0 ≤ x5_1) = true := decide_eq_true c5
   clear c5
   by_cases c6 : x5_1 < (l1.length : Int)
   rotate_left
   ·rw [if_neg c6] at H
    exact absurd H (by simp)
   rw [if_pos c6] at H
   have c6b0 : decide (x5_1 < (l1.length : Int)) = true := decide_eq_true c6
   clear c6
   replace H := zbd H; obtain ⟨t201, A7, H⟩ := H
   by_cases c8 : t201 = true
   rotate_left
   ·replace c8 := Bool.eq_false_iff.mpr c8
    subst c8
    have H1 : (some false) = some r := by rw [if_neg (show ¬ (false = true) by decide)] at H; exact H
    clear H
    have H := H1
    clear H1
    obtain rfl := Option.some.inj H
    try go_wp2
    replace HB := Aside0.mk (below_drew1 HB.out)
    have p199 : 0 ≤ (x5_1 : Int) := za
    have q199 : x5_1 < (l0.length : Int) := za
    obtain ⟨ad199, e199, hx199_0, hx199_1, hx199_2⟩ := at_T72 HR0.out x5_1 p199 q199
    have hw199_2 := hx199_2
    have hw199_1 := hx199_1
    have hw199_0 := hx199_0
    cases e199
    replace hx199_0 := zx HB hx199_0
    replace hx199_1 := zx HB hx199_1
    replace hx199_2 := zx HB hx199_2
    replace p199 := eq_true p199
    replace q199 := eq_true q199
    have p200 : 0 ≤ (x5_1 : Int) := za
    have q200 : x5_1 < (l1.length : Int) := za
    obtain ⟨ad200, e200, hx200_0, hx200_1, hx200_2⟩ := at_T72 HR1.out x5_1 p200 q200
    have hw200_2 := hx200_2
    have hw200_1 := hx200_1
    have hw200_0 := hx200_0
    cases e200
    replace hx200_0 := zx HB hx200_0
    replace hx200_1 := zx HB hx200_1
    replace hx200_2 := zx HB hx200_2
    replace p200 := eq_true p200
    replace q200 := eq_true q200
    refine start_ (n := 10) (S := fun w' => w'.cell? (ad199.add ((x5_1).toNat * 3)) = some (.int .i64 ((rd_T72 l0 x5_1).f0)) ∧ w'.cell? ⟨(ad199.add ((x5_1).toNat * 3)).block, (ad199.add ((x5_1).toNat * 3)).off + 1, none⟩ = some (.int .i64 ((rd_T72 l0 x5_1).f1)) ∧ w'.cell? ⟨(ad199.add ((x5_1).toNat * 3)).block, (ad199.add ((x5_1).toNat * 3)).off + 2, none⟩ = some (.string ((rd_T72 l0 x5_1).f2)) ∧ w'.cell? (ad200.add ((x5_1).toNat * 3)) = some (.int .i64 ((rd_T72 l1 x5_1).f0)) ∧ w'.cell? ⟨(ad200.add ((x5_1).toNat * 3)).block, (ad200.add ((x5_1).toNat * 3)).off + 1, none⟩ = some (.int .i64 ((rd_T72 l1 x5_1).f1)) ∧ w'.cell? ⟨(ad200.add ((x5_1).toNat * 3)).block, (ad200.add ((x5_1).toNat * 3)).off + 2, none⟩ = some (.string ((rd_T72 l1 x5_1).f2))) (ds := []) #[false, false, false, false, false, false, false, false, false, false] (by kernel_rfl) rfl rfl ⟨(zw HB hw199_0), (zw HB hw199_1), (zw HB hw199_2), (zw HB hw200_0), (zw HB hw200_1), (zw HB hw200_2)⟩ (fun hHeld => ?_); refine with_tabW laws_eqSkyRunS.tab6 laws_eqSkyRunS.bits6 (fun HT_ HW_ => ?_)
    generalize wr.drew = w11 at HB hx199_0 hx199_1 hx199_2 hx200_0 hx200_1 hx200_2 hHeld ⊢
    refine zq HT_ 0 ?_
    refine zq HT_ 1 ?_
    refine zq HT_ 2 ?_
    refine zq HT_ 4 ?_
    refine zq HT_ 5 ?_
    refine zq HT_ 6 ?_
    refine zk6 HT_ HW_ hHeld 3 ?_
    refine zk6 HT_ HW_ hHeld 7 ?_
    refine zo HT_ 8 (fun K hK => ?_)
    refine zgo Try.func37 #[.agg #[.int .i64 ((rd_T72 l0 x5_1).f0), .int .i64 ((rd_T72 l0 x5_1).f1), .string ((rd_T72 l0 x5_1).f2)], .agg #[.int .i64 ((rd_T72 l1 x5_1).f0), .int .i64 ((rd_T72 l1 x5_1).f1), .string ((rd_T72 l1 x5_1).f2)]] ?_
    with_reducible refine (laws_eqSkyRun.calls ((rd_T72 l0 x5_1).f0) ((rd_T72 l0 x5_1).f1) ((rd_T72 l0 x5_1).f2) ((rd_T72 l1 x5_1).f0) ((rd_T72 l1 x5_1).f1) ((rd_T72 l1 x5_1).f2) false _ A7.out).mono ?_
    rintro e w12 ⟨rfl, hb⟩
    refine ⟨_, rfl, ?_⟩
    replace HB := zE (zs0 HB) hb
    (try clear hb)
    (try clear hb2)
    (try clear hk)
    (try clear hi)
    refine hK.out _ _ ⟨(zw HB hw199_0), (zw HB hw199_1), (zw HB hw199_2), (zw HB hw200_0), (zw HB hw200_1), (zw HB hw200_2)⟩ (fun hHeld => ?_)
    clear hK K
    refine zN ?_
    refine zq HT_ 9 ?_
    refine done_ (done_of HT_.out (by kernel_rfl)) ?_
    try go_wp2
    go_ret
    exact ⟨ze, zs0 HB⟩
   subst c8
   have H1 : (laws_eqSkyRunS.l0 k1 l0 l1 (wrap64 (x5_1 + 1))) = some r := by rw [if_pos rfl] at H; exact H
   clear H
   have H := H1
   clear H1
   have H' := Aside0.mk H
   clear H
   try go_wp2
   replace HB := Aside0.mk (below_drew1 HB.out)
   have p199 : 0 ≤ (x5_1 : Int) := za
   have q199 : x5_1 < (l0.length : Int) := za
   obtain ⟨ad199, e199, hx199_0, hx199_1, hx199_2⟩ := at_T72 HR0.out x5_1 p199 q199
   have hw199_2 := hx199_2
   have hw199_1 := hx199_1
   have hw199_0 := hx199_0
   cases e199
   replace hx199_0 := zx HB hx199_0
   replace hx199_1 := zx HB hx199_1
   replace hx199_2 := zx HB hx199_2
   replace p199 := eq_true p199
   replace q199 := eq_true q199
   have p200 : 0 ≤ (x5_1 : Int) := za
   have q200 : x5_1 < (l1.length : Int) := za
   obtain ⟨ad200, e200, hx200_0, hx200_1, hx200_2⟩ := at_T72 HR1.out x5_1 p200 q200
   have hw200_2 := hx200_2
   have hw200_1 := hx200_1
   have hw200_0 := hx200_0
   cases e200
   replace hx200_0 := zx HB hx200_0
   replace hx200_1 := zx HB hx200_1
   replace hx200_2 := zx HB hx200_2
   replace p200 := eq_true p200
   replace q200 := eq_true q200
   refine start_ (n := 10) (S := fun w' => w'.cell? (ad199.add ((x5_1).toNat * 3)) = some (.int .i64 ((rd_T72 l0 x5_1).f0)) ∧ w'.cell? ⟨(ad199.add ((x5_1).toNat * 3)).block, (ad199.add ((x5_1).toNat * 3)).off + 1, none⟩ = some (.int .i64 ((rd_T72 l0 x5_1).f1)) ∧ w'.cell? ⟨(ad199.add ((x5_1).toNat * 3)).block, (ad199.add ((x5_1).toNat * 3)).off + 2, none⟩ = some (.string ((rd_T72 l0 x5_1).f2)) ∧ w'.cell? (ad200.add ((x5_1).toNat * 3)) = some (.int .i64 ((rd_T72 l1 x5_1).f0)) ∧ w'.cell? ⟨(ad200.add ((x5_1).toNat * 3)).block, (ad200.add ((x5_1).toNat * 3)).off + 1, none⟩ = some (.int .i64 ((rd_T72 l1 x5_1).f1)) ∧ w'.cell? ⟨(ad200.add ((x5_1).toNat * 3)).block, (ad200.add ((x5_1).toNat * 3)).off + 2, none⟩ = some (.string ((rd_T72 l1 x5_1).f2))) (ds := []) #[false, false, false, false, false, false, false, false, false, false] (by kernel_rfl) rfl rfl ⟨(zw HB hw199_0), (zw HB hw199_1), (zw HB hw199_2), (zw HB hw200_0), (zw HB hw200_1), (zw HB hw200_2)⟩ (fun hHeld => ?_); refine with_tabW laws_eqSkyRunS.tab6 laws_eqSkyRunS.bits6 (fun HT_ HW_ => ?_)
   generalize wr.drew = w9 at HB hx199_0 hx199_1 hx199_2 hx200_0 hx200_1 hx200_2 hHeld ⊢
   refine zq HT_ 0 ?_
   refine zq HT_ 1 ?_
   refine zq HT_ 2 ?_
   refine zq HT_ 4 ?_
   refine zq HT_ 5 ?_
   refine zq HT_ 6 ?_
   refine zk6 HT_ HW_ hHeld 3 ?_
   refine zk6 HT_ HW_ hHeld 7 ?_
   refine zo HT_ 8 (fun K hK => ?_)
   refine zgo Try.func37 #[.agg #[.int .i64 ((rd_T72 l0 x5_1).f0), .int .i64 ((rd_T72 l0 x5_1).f1), .string ((rd_T72 l0 x5_1).f2)], .agg #[.int .i64 ((rd_T72 l1 x5_1).f0), .int .i64 ((rd_T72 l1 x5_1).f1), .string ((rd_T72 l1 x5_1).f2)]] ?_
   with_reducible refine (laws_eqSkyRun.calls ((rd_T72 l0 x5_1).f0) ((rd_T72 l0 x5_1).f1) ((rd_T72 l0 x5_1).f2) ((rd_T72 l1 x5_1).f0) ((rd_T72 l1 x5_1).f1) ((rd_T72 l1 x5_1).f2) true _ A7.out).mono ?_
   rintro e w10 ⟨rfl, hb⟩
   refine ⟨_, rfl, ?_⟩
   replace HB := zE (zs0 HB) hb
   (try clear hb)
   (try clear hb2)
   (try clear hk)
   (try clear hi)
   refine hK.out _ _ ⟨(zw HB hw199_0), (zw HB hw199_1), (zw HB hw199_2), (zw HB hw200_0), (zw HB hw200_1), (zw HB hw200_2)⟩ (fun hHeld => ?_)
   clear hK K
   refine zN ?_
   refine zq HT_ 9 ?_
   refine done_ (done_of HT_.out (by kernel_rfl)) ?_
   try go_wp2
   go_roundg k1
   case measure => have := HK1.out; omega
   case rel => exact ⟨(wrap64 (x5_1 + 1)), zi, H', ⟨by have := HK1.out; omega⟩, ⟨zs0 HB⟩⟩
def laws_eqSkyRow.f (k : Nat) (a0_0 : Int) (a0_1 : Int) (l0_2 : List (S72)) (a1_0 : Int) (a1_1 : Int) (l1_2 : List (S72)) : Option (Bool) := if a0_0 = a1_0 then (if a0_1 = a1_1 then ((laws_eqSkyRunS.f k l0_2 l1_2).bind fun t204 => (if t204 = true then (some true) else (some false))) else (some false)) else (some false)
set_option maxHeartbeats 8000000 in
set_option maxRecDepth 100000 in
theorem laws_eqSkyRow.calls (k : Nat) (a0_0 : Int) (a0_1 : Int) (A0_2 : Option Addr) (c0_2 : Nat) (l0_2 : List (S72)) (a1_0 : Int) (a1_1 : Int) (A1_2 : Option Addr) (c1_2 : Nat) (l1_2 : List (S72)) (r : Bool) (w : World) (hr0_2 : Kd.C k72 w A0_2 l0_2.length l0_2) (hc0_2 : l0_2.length ≤ c0_2) (hr1_2 : Kd.C k72 w A1_2 l1_2.length l1_2) (hc1_2 : l1_2.length ≤ c1_2) (h : laws_eqSkyRow.f k a0_0 a0_1 l0_2 a1_0 a1_1 l1_2 = some r) :
 Calls Try.prog 29 #[.agg #[.int .i64 a0_0, .int .i64 a0_1, .slice A0_2 l0_2.length c0_2], .agg #[.int .i64 a1_0, .int .i64 a1_1, .slice A1_2 l1_2.length c1_2]] w fun e w' => e = .returned (.bool r) ∧ Below w.heap.size w w' := by
 have hu61 := Try.underlying61
 have HR0_2 := Aside0.mk hr0_2
 have HC0_2 := Aside0.mk hc0_2
 clear hr0_2 hc0_2
 have HR1_2 := Aside0.mk hr1_2
 have HC1_2 := Aside0.mk hc1_2
 clear hr1_2 hc1_2
 have HB := Aside0.mk (Below.refl w.heap.size w)
 have H : (if a0_0 = a1_0 then (if a0_1 = a1_1 then ((laws_eqSkyRunS.f k l0_2 l1_2).bind fun t204 => (if t204 = true then (some true) else (some false))) else (some false)) else (some false)) = some r := h
 clear h
 by_cases c3 : a0_0 = a1_0
 rotate_left
 ·rw [if_neg c3] at H
  have c3b0 : (a0_0 == a1_0) = false := beq_eq_false_iff_ne.mpr c3
  have c3b1 : (a0_0 != a1_0) = true := bne_iff_ne.mpr c3
  obtain rfl := Option.some.inj H
  go_enter Try.func29, Try.ntmps29
  go_wp2_with (first | ((with_reducible refine gate_dst (N := 2) rfl ?_); refine zbx 2 #[.int .i64 a0_0, .int .i64 a0_1, .slice A0_2 l0_2.length c0_2] 61 ?_; intro gb202 hg w24 hbox hb; have BK202 := zA hbox; have GW202 := zgs hg (zs0 HB); have GE202 := zgs hg (zs0 HB); replace HB := zE (zs0 HB) hb; clear hb hbox hg) | ((with_reducible refine gate_dst (N := 3) rfl ?_); refine zbx 3 #[.int .i64 a1_0, .int .i64 a1_1, .slice A1_2 l1_2.length c1_2] 61 ?_; intro gb203 hg w25 hbox hb; have BK203 := zA hbox; have GW203 := zgs hg (zs1 HB GE202); have GE203 := zgs hg (zs1 HB GE202); have NB202_203 := zne hg BK202; have NB203_202 := znf hg BK202; replace BK202 := zb BK202 hb; replace HB := zE (zs1 HB GE202) hb; clear hb hbox hg; have hnb26 := NB202_203.out; have hnc26 := NB203_202.out; obtain ⟨hcz27_0, hcz27_1, hcz27_2⟩ := zd3 BK202; obtain ⟨hfz27_0, hfz27_1, hfz27_2⟩ := zn3 BK202; obtain ⟨hcz28_0, hcz28_1, hcz28_2⟩ := zd3 BK203; obtain ⟨hfz28_0, hfz28_1, hfz28_2⟩ := zn3 BK203))
  go_ret
  exact ⟨ze, zs2 HB GE202 GE203⟩
 rw [if_pos c3] at H
 have c3b0 : (a0_0 == a1_0) = true := beq_iff_eq.mpr c3
 have c3b1 : (a0_0 != a1_0) = false := bne_eq_false_iff_eq.mpr c3
 clear c3
 by_cases c4 : a0_1 = a1_1
 rotate_left
 ·rw [if_neg c4] at H
  have c4b0 : (a0_1 == a1_1) = false := beq_eq_false_iff_ne.mpr c4
  have c4b1 : (a0_1 != a1_1) = true := bne_iff_ne.mpr c4
  obtain rfl := Option.some.inj H
  go_enter Try.func29, Try.ntmps29
  go_wp2_with (first | ((with_reducible refine gate_dst (N := 2) rfl ?_); refine zbx 2 #[.int .i64 a0_0, .int .i64 a0_1, .slice A0_2 l0_2.length c0_2] 61 ?_; intro gb202 hg w19 hbox hb; have BK202 := zA hbox; have GW202 := zgs hg (zs0 HB); have GE202 := zgs hg (zs0 HB); replace HB := zE (zs0 HB) hb; clear hb hbox hg) | ((with_reducible refine gate_dst (N := 3) rfl ?_); refine zbx 3 #[.int .i64 a1_0, .int .i64 a1_1, .slice A1_2 l1_2.length c1_2] 61 ?_; intro gb203 hg w20 hbox hb; have BK203 := zA hbox; have GW203 := zgs hg (zs1 HB GE202); have GE203 := zgs hg (zs1 HB GE202); have NB202_203 := zne hg BK202; have NB203_202 := znf hg BK202; replace BK202 := zb BK202 hb; replace HB := zE (zs1 HB GE202) hb; clear hb hbox hg; have hnb21 := NB202_203.out; have hnc21 := NB203_202.out; obtain ⟨hcz22_0, hcz22_1, hcz22_2⟩ := zd3 BK202; obtain ⟨hfz22_0, hfz22_1, hfz22_2⟩ := zn3 BK202; obtain ⟨hcz23_0, hcz23_1, hcz23_2⟩ := zd3 BK203; obtain ⟨hfz23_0, hfz23_1, hfz23_2⟩ := zn3 BK203))
  go_ret
  exact ⟨ze, zs2 HB GE202 GE203⟩
 rw [if_pos c4] at H
 have c4b0 : (a0_1 == a1_1) = true := beq_iff_eq.mpr c4
 have c4b1 : (a0_1 != a1_1) = false := bne_eq_false_iff_eq.mpr c4
 clear c4
 replace H := zbd H; obtain ⟨t204, A5, H⟩ := H
 by_cases c6 : t204 = true
 ·subst c6
  have H1 : (some true) = some r := by rw [if_pos rfl] at H; exact H
  clear H
  have H := H1
  clear H1
  obtain rfl := Option.some.inj H
  go_enter Try.func29, Try.ntmps29
  go_wp2_with (first | ((with_reducible refine gate_dst (N := 2) rfl ?_); refine zbx 2 #[.int .i64 a0_0, .int .i64 a0_1, .slice A0_2 l0_2.length c0_2] 61 ?_; intro gb202 hg w7 hbox hb; have BK202 := zA hbox; have GW202 := zgs hg (zs0 HB); have GE202 := zgs hg (zs0 HB); replace HB := zE (zs0 HB) hb; clear hb hbox hg) | ((with_reducible refine gate_dst (N := 3) rfl ?_); refine zbx 3 #[.int .i64 a1_0, .int .i64 a1_1, .slice A1_2 l1_2.length c1_2] 61 ?_; intro gb203 hg w8 hbox hb; have BK203 := zA hbox; have GW203 := zgs hg (zs1 HB GE202); have GE203 := zgs hg (zs1 HB GE202); have NB202_203 := zne hg BK202; have NB203_202 := znf hg BK202; replace BK202 := zb BK202 hb; replace HB := zE (zs1 HB GE202) hb; clear hb hbox hg; have hnb9 := NB202_203.out; have hnc9 := NB203_202.out; obtain ⟨hcz10_0, hcz10_1, hcz10_2⟩ := zd3 BK202; obtain ⟨hfz10_0, hfz10_1, hfz10_2⟩ := zn3 BK202; obtain ⟨hcz11_0, hcz11_1, hcz11_2⟩ := zd3 BK203; obtain ⟨hfz11_0, hfz11_1, hfz11_2⟩ := zn3 BK203) | ((with_reducible refine gate_callee (f := 34) rfl ?_); refine zgl (N := some 19) Try.func34 #[.slice A0_2 l0_2.length c0_2, .slice A1_2 l1_2.length c1_2] ?_; (with_reducible refine (laws_eqSkyRunS.calls k _ _ l0_2 _ _ l1_2 true _ ?side1 ?side2 ?side3 ?side4 A5.out).mono ?_); (case side1 => exact zC HR0_2 HB); (case side2 => exact HC0_2.out); (case side3 => exact zC HR1_2 HB); (case side4 => exact HC1_2.out); rintro e w12 ⟨rfl, hb⟩; refine ⟨_, rfl, ?_⟩; replace BK202 := zb BK202 hb; replace BK203 := zb BK203 hb; replace HB := zE (zs2 HB GE202 GE203) hb; (try clear hb); (try clear hb2); (try clear hk); (try clear hi)))
  go_ret
  exact ⟨ze, zs2 HB GE202 GE203⟩
 replace c6 := Bool.eq_false_iff.mpr c6
 subst c6
 have H1 : (some false) = some r := by rw [if_neg (show ¬ (false = true) by decide)] at H; exact H
 clear H
 have H := H1
 clear H1
 obtain rfl := Option.some.inj H
 go_enter Try.func29, Try.ntmps29
 go_wp2_with (first | ((with_reducible refine gate_dst (N := 2) rfl ?_); refine zbx 2 #[.int .i64 a0_0, .int .i64 a0_1, .slice A0_2 l0_2.length c0_2] 61 ?_; intro gb202 hg w13 hbox hb; have BK202 := zA hbox; have GW202 := zgs hg (zs0 HB); have GE202 := zgs hg (zs0 HB); replace HB := zE (zs0 HB) hb; clear hb hbox hg) | ((with_reducible refine gate_dst (N := 3) rfl ?_); refine zbx 3 #[.int .i64 a1_0, .int .i64 a1_1, .slice A1_2 l1_2.length c1_2] 61 ?_; intro gb203 hg w14 hbox hb; have BK203 := zA hbox; have GW203 := zgs hg (zs1 HB GE202); have GE203 := zgs hg (zs1 HB GE202); have NB202_203 := zne hg BK202; have NB203_202 := znf hg BK202; replace BK202 := zb BK202 hb; replace HB := zE (zs1 HB GE202) hb; clear hb hbox hg; have hnb15 := NB202_203.out; have hnc15 := NB203_202.out; obtain ⟨hcz16_0, hcz16_1, hcz16_2⟩ := zd3 BK202; obtain ⟨hfz16_0, hfz16_1, hfz16_2⟩ := zn3 BK202; obtain ⟨hcz17_0, hcz17_1, hcz17_2⟩ := zd3 BK203; obtain ⟨hfz17_0, hfz17_1, hfz17_2⟩ := zn3 BK203) | ((with_reducible refine gate_callee (f := 34) rfl ?_); refine zgl (N := some 19) Try.func34 #[.slice A0_2 l0_2.length c0_2, .slice A1_2 l1_2.length c1_2] ?_; (with_reducible refine (laws_eqSkyRunS.calls k _ _ l0_2 _ _ l1_2 false _ ?side1 ?side2 ?side3 ?side4 A5.out).mono ?_); (case side1 => exact zC HR0_2 HB); (case side2 => exact HC0_2.out); (case side3 => exact zC HR1_2 HB); (case side4 => exact HC1_2.out); rintro e w18 ⟨rfl, hb⟩; refine ⟨_, rfl, ?_⟩; replace BK202 := zb BK202 hb; replace BK203 := zb BK203 hb; replace HB := zE (zs2 HB GE202 GE203) hb; (try clear hb); (try clear hb2); (try clear hk); (try clear hi)))
 go_ret
 exact ⟨ze, zs2 HB GE202 GE203⟩
end Go.Proofs.Ytkdhfgonjipbbaa.QFnExactSkyAlong
