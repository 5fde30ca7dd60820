/- The walk of what the law FnExactHandWordOk reaches: laid by a program of this session (ownprint.py). -/
import Derived.Test.YtbgcpbdnmpnjhaaQFnExactHandWordOkx0
import Derived.Test.YtbgcpbdnmpnjhaaQFnExactHandWordOkx10
namespace Go.Proofs.Ytbgcpbdnmpnjhaa.QFnExactHandWordOk
open Go.RowKit Go.Proofs.YtbgcpbdnmpnjhaaW.PrintWords Go.Proofs.YtbgcpbdnmpnjhaaW.PrintLast Go.Proofs.YtbgcpbdnmpnjhaaW.PrintMore Go.Proofs.Ytbgcpbdnmpnjhaa.Z
attribute [local go_sem] max2_int min2_int max_two min_two max_three min_three max_four min_four zdn   -- for this text's walks alone
set_option linter.unusedVariables false
set_option linter.unusedSimpArgs false
def laws_eqHandBoxS.l0 : Nat → List (S56) → List (S56) → Int → Option (Bool)
 | 0, _, _, _ => none
 | k + 1, x0, x1, x5 => if x5 < (x0.length : Int) then (if 0 ≤ x5 then (if x5 < (x1.length : Int) then ((laws_eqHandBox.f ((rd_T56 x0 x5).f0) ((rd_T56 x0 x5).f1) ((rd_T56 x0 x5).f2) ((rd_T56 x0 x5).f3) ((rd_T56 x0 x5).f4) ((rd_T56 x0 x5).f5) ((rd_T56 x1 x5).f0) ((rd_T56 x1 x5).f1) ((rd_T56 x1 x5).f2) ((rd_T56 x1 x5).f3) ((rd_T56 x1 x5).f4) ((rd_T56 x1 x5).f5)).bind fun t224 => (if t224 = true then (laws_eqHandBoxS.l0 k x0 x1 (wrap64 (x5 + 1))) else (some false))) else (none)) else (none)) else (some true)
def laws_eqHandBoxS.f (k : Nat) (l0 : List (S56)) (l1 : List (S56)) : Option (Bool) := if (l0.length : Int) = (l1.length : Int) then (laws_eqHandBoxS.l0 k l0 l1 0) else (some false)
def laws_eqHandBoxS.T6 : Bool × List (List Nat × List Nat) := (true, [([], []), ([], []), ([0, 1], [0, 1]), ([2], [2]), ([], []), ([], []), ([4, 5], [4, 5]), ([6], [6]), ([3, 7], [3, 7]), ([8], [8])])
def laws_eqHandBoxS.B6 : List Nat := [0, 0, 3, 7, 0, 0, 48, 112, 255, 511]
theorem laws_eqHandBoxS.tab6 : rtab .any (opsOf Try.f26 6) = laws_eqHandBoxS.T6 := by kernel_rfl
theorem laws_eqHandBoxS.bits6 : waitsOk laws_eqHandBoxS.T6.2 laws_eqHandBoxS.B6 = true := by kernel_rfl
set_option maxHeartbeats 8000000 in
set_option maxRecDepth 100000 in
theorem laws_eqHandBoxS.calls (k : Nat) (A0 : Option Addr) (c0 : Nat) (l0 : List (S56)) (A1 : Option Addr) (c1 : Nat) (l1 : List (S56)) (r : Bool) (w : World) (hr0 : Kd.C k56 w A0 l0.length l0) (hc0 : l0.length ≤ c0) (hr1 : Kd.C k56 w A1 l1.length l1) (hc1 : l1.length ≤ c1) (h : laws_eqHandBoxS.f k l0 l1 = some r) :
 Calls Try.prog 26 #[.slice A0 l0.length c0, .slice A1 l1.length c1] w fun e w' => e = .returned (.bool r) ∧ Below w.heap.size w w' := by
 have hu56 := Try.underlying56
 have HR0 := Aside0.mk hr0
 have HC0 := Aside0.mk hc0
 clear hr0 hc0
 have HR1 := Aside0.mk hr1
 have HC1 := Aside0.mk hc1
 clear hr1 hc1
 have HB := Aside0.mk (Below.refl w.heap.size w)
 have H : (if (l0.length : Int) = (l1.length : Int) then (laws_eqHandBoxS.l0 k l0 l1 0) else (some false)) = some r := h
 clear h
 by_cases c3 : (l0.length : Int) = (l1.length : Int)
 rotate_left
 ·rw [if_neg c3] at H
  have c3b0 : ((l0.length : Int) == (l1.length : Int)) = false := beq_eq_false_iff_ne.mpr c3
  have c3b1 : ((l0.length : Int) != (l1.length : Int)) = true := bne_iff_ne.mpr c3
  have c3b2 : (l0.length == l1.length) = false := by first | simpa using c3 | (simp at c3 ⊢; omega)
  obtain rfl := Option.some.inj H
  go_enter Try.func26, Try.ntmps26
  go_wp2
  go_ret
  exact ⟨ze, zs0 HB⟩
 rw [if_pos c3] at H
 have c3b0 : ((l0.length : Int) == (l1.length : Int)) = true := beq_iff_eq.mpr c3
 have c3b1 : ((l0.length : Int) != (l1.length : Int)) = false := bne_eq_false_iff_eq.mpr c3
 have c3b2 : (l0.length == l1.length) = true := by first | simpa using c3 | (simp at c3 ⊢; omega)
 clear c3
 have H' := Aside0.mk H
 clear H
 go_enter Try.func26, Try.ntmps26
 go_wp2
 go_loopg [5] k (fun kq v5 w' => ∃ (x5_1 : Int), v5 = .int .i64 x5_1 ∧ Aside0 (laws_eqHandBoxS.l0 kq l0 l1 x5_1 = some r) ∧ Aside0 (kq ≤ k) ∧ Aside0 (Below w.heap.size w w'))
 case atStart => exact ⟨(0), zi, H', ⟨Nat.le_refl _⟩, ⟨zs0 HB⟩⟩
 case round =>
  clear H'
  try clear c1
  try clear c2
  try clear p2
  try clear c3
  try clear c3b0
  try clear c3b1
  try clear c3b2
  obtain ⟨x5_1, rfl, HA, HK1, HB⟩ := hrel
  cases gk with
  | zero => exact absurd HA.out (by simp [laws_eqHandBoxS.l0])
  | succ k1 =>
   have H := HA.out
   clear HA
   simp only [laws_eqHandBoxS.l0] at H
   by_cases c4 : x5_1 < (l0.length : Int)
   rotate_left
   ·rw [if_neg c4] at H
    have c4b0 : decide (x5_1 < (l0.length : Int)) = false := decide_eq_false c4
    clear c4
    obtain rfl := Option.some.inj H
    go_wp2
    go_ret
    exact ⟨ze, zs0 HB⟩
   rw [if_pos c4] at H
   have c4b0 : decide (x5_1 < (l0.length : Int)) = true := decide_eq_true c4
   clear c4
   by_cases c5 : 0 ≤ x5_1
   rotate_left
   ·rw [if_neg c5] at H
    exact absurd H (by simp)
   rw [if_pos c5] at H
   have c5b0 : decide (0 ≤ x5_1) = true := decide_eq_true c5
   clear c5
   by_cases c6 : x5_1 < (l1.length : Int)
   rotate_left
   ·rw [if_neg c6] at H
    exact absurd H (by simp)
   rw [if_pos c6] at H
   have c6b0 : decide (x5_1 < (l1.length : Int)) = true := decide_eq_true c6
   clear c6
   replace H := zbd H; obtain ⟨t224, A7, H⟩ := H
   by_cases c8 : t224 = true
   rotate_left
   ·replace c8 := Bool.eq_false_iff.mpr c8
    subst c8
    have H1 : (some false) = some r := by rw [if_neg (show ¬ (false = true) by decide)] at H; exact H
    clear H
    have H := H1
    clear H1
    obtain rfl := Option.some.inj H
    try go_wp2
    replace HB := Aside0.mk (below_drew1 HB.out)
    have p222 : 0 ≤ (x5_1 : Int) := za
    have q222 : x5_1 < (l0.length : Int) := za
    obtain ⟨ad222, e222, hx222_0, hx222_1, hx222_2, hx222_3, hx222_4, hx222_5⟩ := at_T56 HR0.out x5_1 p222 q222
    have hw222_5 := hx222_5
    have hw222_4 := hx222_4
    have hw222_3 := hx222_3
    have hw222_2 := hx222_2
    have hw222_1 := hx222_1
    have hw222_0 := hx222_0
    cases e222
    replace hx222_0 := zx HB hx222_0
    replace hx222_1 := zx HB hx222_1
    replace hx222_2 := zx HB hx222_2
    replace hx222_3 := zx HB hx222_3
    replace hx222_4 := zx HB hx222_4
    replace hx222_5 := zx HB hx222_5
    replace p222 := eq_true p222
    replace q222 := eq_true q222
    have p223 : 0 ≤ (x5_1 : Int) := za
    have q223 : x5_1 < (l1.length : Int) := za
    obtain ⟨ad223, e223, hx223_0, hx223_1, hx223_2, hx223_3, hx223_4, hx223_5⟩ := at_T56 HR1.out x5_1 p223 q223
    have hw223_5 := hx223_5
    have hw223_4 := hx223_4
    have hw223_3 := hx223_3
    have hw223_2 := hx223_2
    have hw223_1 := hx223_1
    have hw223_0 := hx223_0
    cases e223
    replace hx223_0 := zx HB hx223_0
    replace hx223_1 := zx HB hx223_1
    replace hx223_2 := zx HB hx223_2
    replace hx223_3 := zx HB hx223_3
    replace hx223_4 := zx HB hx223_4
    replace hx223_5 := zx HB hx223_5
    replace p223 := eq_true p223
    replace q223 := eq_true q223
    refine start_ (n := 10) (S := fun w' => w'.cell? (ad222.add ((x5_1).toNat * 6)) = some (.int .i64 ((rd_T56 l0 x5_1).f0)) ∧ w'.cell? ⟨(ad222.add ((x5_1).toNat * 6)).block, (ad222.add ((x5_1).toNat * 6)).off + 1, none⟩ = some (.int .i64 ((rd_T56 l0 x5_1).f1)) ∧ w'.cell? ⟨(ad222.add ((x5_1).toNat * 6)).block, (ad222.add ((x5_1).toNat * 6)).off + 2, none⟩ = some (.int .i64 ((rd_T56 l0 x5_1).f2)) ∧ w'.cell? ⟨(ad222.add ((x5_1).toNat * 6)).block, (ad222.add ((x5_1).toNat * 6)).off + 3, none⟩ = some (.int .i64 ((rd_T56 l0 x5_1).f3)) ∧ w'.cell? ⟨(ad222.add ((x5_1).toNat * 6)).block, (ad222.add ((x5_1).toNat * 6)).off + 4, none⟩ = some (.int .i64 ((rd_T56 l0 x5_1).f4)) ∧ w'.cell? ⟨(ad222.add ((x5_1).toNat * 6)).block, (ad222.add ((x5_1).toNat * 6)).off + 5, none⟩ = some (.int .i64 ((rd_T56 l0 x5_1).f5)) ∧ w'.cell? (ad223.add ((x5_1).toNat * 6)) = some (.int .i64 ((rd_T56 l1 x5_1).f0)) ∧ w'.cell? ⟨(ad223.add ((x5_1).toNat * 6)).block, (ad223.add ((x5_1).toNat * 6)).off + 1, none⟩ = some (.int .i64 ((rd_T56 l1 x5_1).f1)) ∧ w'.cell? ⟨(ad223.add ((x5_1).toNat * 6)).block, (ad223.add ((x5_1).toNat * 6)).off + 2, none⟩ = some (.int .i64 ((rd_T56 l1 x5_1).f2)) ∧ w'.cell? ⟨(ad223.add ((x5_1).toNat * 6)).block, (ad223.add ((x5_1).toNat * 6)).off + 3, none⟩ = some (.int .i64 ((rd_T56 l1 x5_1).f3)) ∧ w'.cell? ⟨(ad223.add ((x5_1).toNat * 6)).block, (ad223.add ((x5_1).toNat * 6)).off + 4, none⟩ = some (.int .i64 ((rd_T56 l1 x5_1).f4)) ∧ w'.cell? ⟨(ad223.add ((x5_1).toNat * 6)).block, (ad223.add ((x5_1).toNat * 6)).off + 5, none⟩ = some (.int .i64 ((rd_T56 l1 x5_1).f5))) (ds := []) #[false, false, false, false, false, false, false, false, false, false] (by kernel_rfl) rfl rfl ⟨(zw HB hw222_0), (zw HB hw222_1), (zw HB hw222_2), (zw HB hw222_3), (zw HB hw222_4), (zw HB hw222_5), (zw HB hw223_0), (zw HB hw223_1), (zw HB hw223_2), (zw HB hw223_3), (zw HB hw223_4), (zw HB hw223_5)⟩ (fun hHeld => ?_); refine with_tabW laws_eqHandBoxS.tab6 laws_eqHandBoxS.bits6 (fun HT_ HW_ => ?_)
    generalize wr.drew = w11 at HB hx222_0 hx222_1 hx222_2 hx222_3 hx222_4 hx222_5 hx223_0 hx223_1 hx223_2 hx223_3 hx223_4 hx223_5 hHeld ⊢
    refine zq HT_ 0 ?_
    refine zq HT_ 1 ?_
    refine zq HT_ 2 ?_
    refine zq HT_ 4 ?_
    refine zq HT_ 5 ?_
    refine zq HT_ 6 ?_
    refine zk12 HT_ HW_ hHeld 3 ?_
    refine zk12 HT_ HW_ hHeld 7 ?_
    refine zo HT_ 8 (fun K hK => ?_)
    refine zgo Try.func37 #[.agg #[.int .i64 ((rd_T56 l0 x5_1).f0), .int .i64 ((rd_T56 l0 x5_1).f1), .int .i64 ((rd_T56 l0 x5_1).f2), .int .i64 ((rd_T56 l0 x5_1).f3), .int .i64 ((rd_T56 l0 x5_1).f4), .int .i64 ((rd_T56 l0 x5_1).f5)], .agg #[.int .i64 ((rd_T56 l1 x5_1).f0), .int .i64 ((rd_T56 l1 x5_1).f1), .int .i64 ((rd_T56 l1 x5_1).f2), .int .i64 ((rd_T56 l1 x5_1).f3), .int .i64 ((rd_T56 l1 x5_1).f4), .int .i64 ((rd_T56 l1 x5_1).f5)]] ?_
    with_reducible refine (laws_eqHandBox.calls ((rd_T56 l0 x5_1).f0) ((rd_T56 l0 x5_1).f1) ((rd_T56 l0 x5_1).f2) ((rd_T56 l0 x5_1).f3) ((rd_T56 l0 x5_1).f4) ((rd_T56 l0 x5_1).f5) ((rd_T56 l1 x5_1).f0) ((rd_T56 l1 x5_1).f1) ((rd_T56 l1 x5_1).f2) ((rd_T56 l1 x5_1).f3) ((rd_T56 l1 x5_1).f4) ((rd_T56 l1 x5_1).f5) false _ A7.out).mono ?_
    rintro e w12 ⟨rfl, hb⟩
    refine ⟨_, rfl, ?_⟩
    replace HB := zE (zs0 HB) hb
    (try clear hb)
    (try clear hb2)
    (try clear hk)
    (try clear hi)
    refine hK.out _ _ ⟨(zw HB hw222_0), (zw HB hw222_1), (zw HB hw222_2), (zw HB hw222_3), (zw HB hw222_4), (zw HB hw222_5), (zw HB hw223_0), (zw HB hw223_1), (zw HB hw223_2), (zw HB hw223_3), (zw HB hw223_4), (zw HB hw223_5)⟩ (fun hHeld => ?_)
    clear hK K
    refine zN ?_
    refine zq HT_ 9 ?_
    refine done_ (done_of HT_.out (by kernel_rfl)) ?_
    try go_wp2
    go_ret
    exact ⟨ze, zs0 HB⟩
   subst c8
   have H1 : (laws_eqHandBoxS.l0 k1 l0 l1 (wrap64 (x5_1 + 1))) = some r := by rw [if_pos rfl] at H; exact H
   clear H
   have H := H1
   clear H1
   have H' := Aside0.mk H
   clear H
   try go_wp2
   replace HB := Aside0.mk (below_drew1 HB.out)
   have p222 : 0 ≤ (x5_1 : Int) := za
   have q222 : x5_1 < (l0.length : Int) := za
   obtain ⟨ad222, e222, hx222_0, hx222_1, hx222_2, hx222_3, hx222_4, hx222_5⟩ := at_T56 HR0.out x5_1 p222 q222
   have hw222_5 := hx222_5
   have hw222_4 := hx222_4
   have hw222_3 := hx222_3
   have hw222_2 := hx222_2
   have hw222_1 := hx222_1
   have hw222_0 := hx222_0
   cases e222
   replace hx222_0 := zx HB hx222_0
   replace hx222_1 := zx HB hx222_1
   replace hx222_2 := zx HB hx222_2
   replace hx222_3 := zx HB hx222_3
   replace hx222_4 := zx HB hx222_4
   replace hx222_5 := zx HB hx222_5
   replace p222 := eq_true p222
   replace q222 := eq_true q222
   have p223 : 0 ≤ (x5_1 : Int) := za
   have q223 : x5_1 < (l1.length : Int) := za
   obtain ⟨ad223, e223, hx223_0, hx223_1, hx223_2, hx223_3, hx223_4, hx223_5⟩ := at_T56 HR1.out x5_1 p223 q223
   have hw223_5 := hx223_5
   have hw223_4 := hx223_4
   have hw223_3 := hx223_3
   have hw223_2 := hx223_2
   have hw223_1 := hx223_1
   have hw223_0 := hx223_0
   cases e223
   replace hx223_0 := zx HB hx223_0
   replace hx223_1 := zx HB hx223_1
   replace hx223_2 := zx HB hx223_2
   replace hx223_3 := zx HB hx223_3
   replace hx223_4 := zx HB hx223_4
   replace hx223_5 := zx HB hx223_5
   replace p223 := eq_true p223
   replace q223 := eq_true q223
   refine start_ (n := 10) (S := fun w' => w'.cell? (ad222.add ((x5_1).toNat * 6)) = some (.int .i64 ((rd_T56 l0 x5_1).f0)) ∧ w'.cell? ⟨(ad222.add ((x5_1).toNat * 6)).block, (ad222.add ((x5_1).toNat * 6)).off + 1, none⟩ = some (.int .i64 ((rd_T56 l0 x5_1).f1)) ∧ w'.cell? ⟨(ad222.add ((x5_1).toNat * 6)).block, (ad222.add ((x5_1).toNat * 6)).off + 2, none⟩ = some (.int .i64 ((rd_T56 l0 x5_1).f2)) ∧ w'.cell? ⟨(ad222.add ((x5_1).toNat * 6)).block, (ad222.add ((x5_1).toNat * 6)).off + 3, none⟩ = some (.int .i64 ((rd_T56 l0 x5_1).f3)) ∧ w'.cell? ⟨(ad222.add ((x5_1).toNat * 6)).block, (ad222.add ((x5_1).toNat * 6)).off + 4, none⟩ = some (.int .i64 ((rd_T56 l0 x5_1).f4)) ∧ w'.cell? ⟨(ad222.add ((x5_1).toNat * 6)).block, (ad222.add ((x5_1).toNat * 6)).off + 5, none⟩ = some (.int .i64 ((rd_T56 l0 x5_1).f5)) ∧ w'.cell? (ad223.add ((x5_1).toNat * 6)) = some (.int .i64 ((rd_T56 l1 x5_1).f0)) ∧ w'.cell? ⟨(ad223.add ((x5_1).toNat * 6)).block, (ad223.add ((x5_1).toNat * 6)).off + 1, none⟩ = some (.int .i64 ((rd_T56 l1 x5_1).f1)) ∧ w'.cell? ⟨(ad223.add ((x5_1).toNat * 6)).block, (ad223.add ((x5_1).toNat * 6)).off + 2, none⟩ = some (.int .i64 ((rd_T56 l1 x5_1).f2)) ∧ w'.cell? ⟨(ad223.add ((x5_1).toNat * 6)).block, (ad223.add ((x5_1).toNat * 6)).off + 3, none⟩ = some (.int .i64 ((rd_T56 l1 x5_1).f3)) ∧ w'.cell? ⟨(ad223.add ((x5_1).toNat * 6)).block, (ad223.add ((x5_1).toNat * 6)).off + 4, none⟩ = some (.int .i64 ((rd_T56 l1 x5_1).f4)) ∧ w'.cell? ⟨(ad223.add ((x5_1).toNat * 6)).block, (ad223.add ((x5_1).toNat * 6)).off + 5, none⟩ = some (.int .i64 ((rd_T56 l1 x5_1).f5))) (ds := []) #[false, false, false, false, false, false, false, false, false, false] (by kernel_rfl) rfl rfl ⟨(zw HB hw222_0), (zw HB hw222_1), (zw HB hw222_2), (zw HB hw222_3), (zw HB hw222_4), (zw HB hw222_5), (zw HB hw223_0), (zw HB hw223_1), (zw HB hw223_2), (zw HB hw223_3), (zw HB hw223_4), (zw HB hw223_5)⟩ (fun hHeld => ?_); refine with_tabW laws_eqHandBoxS.tab6 laws_eqHandBoxS.bits6 (fun HT_ HW_ => ?_)
   generalize wr.drew = w9 at HB hx222_0 hx222_1 hx222_2 hx222_3 hx222_4 hx222_5 hx223_0 hx223_1 hx223_2 hx223_3 hx223_4 hx223_5 hHeld ⊢
   refine zq HT_ 0 ?_
   refine zq HT_ 1 ?_
   refine zq HT_ 2 ?_
   refine zq HT_ 4 ?_
   refine zq HT_ 5 ?_
   refine zq HT_ 6 ?_
   refine zk12 HT_ HW_ hHeld 3 ?_
   refine zk12 HT_ HW_ hHeld 7 ?_
   refine zo HT_ 8 (fun K hK => ?_)
   refine zgo Try.func37 #[.agg #[.int .i64 ((rd_T56 l0 x5_1).f0), .int .i64 ((rd_T56 l0 x5_1).f1), .int .i64 ((rd_T56 l0 x5_1).f2), .int .i64 ((rd_T56 l0 x5_1).f3), .int .i64 ((rd_T56 l0 x5_1).f4), .int .i64 ((rd_T56 l0 x5_1).f5)], .agg #[.int .i64 ((rd_T56 l1 x5_1).f0), .int .i64 ((rd_T56 l1 x5_1).f1), .int .i64 ((rd_T56 l1 x5_1).f2), .int .i64 ((rd_T56 l1 x5_1).f3), .int .i64 ((rd_T56 l1 x5_1).f4), .int .i64 ((rd_T56 l1 x5_1).f5)]] ?_
   with_reducible refine (laws_eqHandBox.calls ((rd_T56 l0 x5_1).f0) ((rd_T56 l0 x5_1).f1) ((rd_T56 l0 x5_1).f2) ((rd_T56 l0 x5_1).f3) ((rd_T56 l0 x5_1).f4) ((rd_T56 l0 x5_1).f5) ((rd_T56 l1 x5_1).f0) ((rd_T56 l1 x5_1).f1) ((rd_T56 l1 x5_1).f2) ((rd_T56 l1 x5_1).f3) ((rd_T56 l1 x5_1).f4) ((rd_T56 l1 x5_1).f5) true _ A7.out).mono ?_
   rintro e w10 ⟨rfl, hb⟩
   refine ⟨_, rfl, ?_⟩
   replace HB := zE (zs0 HB) hb
   (try clear hb)
   (try clear hb2)
   (try clear hk)
   (try clear hi)
   refine hK.out _ _ ⟨(zw HB hw222_0), (zw HB hw222_1), (zw HB hw222_2), (zw HB hw222_3), (zw HB hw222_4), (zw HB hw222_5), (zw HB hw223_0), (zw HB hw223_1), (zw HB hw223_2), (zw HB hw223_3), (zw HB hw223_4), (zw HB hw223_5)⟩ (fun hHeld => ?_)
   clear hK K
   refine zN ?_
   refine zq HT_ 9 ?_
   refine done_ (done_of HT_.out (by kernel_rfl)) ?_
   try go_wp2
   go_roundg k1
   case measure => have := HK1.out; omega
   case rel => exact ⟨(wrap64 (x5_1 + 1)), zi, H', ⟨by have := HK1.out; omega⟩, ⟨zs0 HB⟩⟩
def laws_eqHandWord.f (k : Nat) (a0_0 : Int) (a0_1 : ByteArray) (a0_2 : ByteArray) (a0_3 : ByteArray) (a0_4 : Int) (a0_5 : Int) (a0_6 : Int) (l0_7 : List (S56)) (a1_0 : Int) (a1_1 : ByteArray) (a1_2 : ByteArray) (a1_3 : ByteArray) (a1_4 : Int) (a1_5 : Int) (a1_6 : Int) (l1_7 : List (S56)) : Option (Bool) := if a0_0 = a1_0 then (if a0_1.toList = a1_1.toList then (if a0_2.toList = a1_2.toList then (if a0_3.toList = a1_3.toList then (if a0_4 = a1_4 then (if a0_5 = a1_5 then (if a0_6 = a1_6 then ((laws_eqHandBoxS.f k l0_7 l1_7).bind fun t227 => (if t227 = true then (some true) else (some false))) else (some false)) else (some false)) else (some false)) else (some false)) else (some false)) else (some false)) else (some false)
set_option maxHeartbeats 8000000 in
set_option maxRecDepth 100000 in
theorem laws_eqHandWord.calls (k : Nat) (a0_0 : Int) (a0_1 : ByteArray) (a0_2 : ByteArray) (a0_3 : ByteArray) (a0_4 : Int) (a0_5 : Int) (a0_6 : Int) (A0_7 : Option Addr) (c0_7 : Nat) (l0_7 : List (S56)) (a1_0 : Int) (a1_1 : ByteArray) (a1_2 : ByteArray) (a1_3 : ByteArray) (a1_4 : Int) (a1_5 : Int) (a1_6 : Int) (A1_7 : Option Addr) (c1_7 : Nat) (l1_7 : List (S56)) (r : Bool) (w : World) (hr0_7 : Kd.C k56 w A0_7 l0_7.length l0_7) (hc0_7 : l0_7.length ≤ c0_7) (hr1_7 : Kd.C k56 w A1_7 l1_7.length l1_7) (hc1_7 : l1_7.length ≤ c1_7) (h : laws_eqHandWord.f k a0_0 a0_1 a0_2 a0_3 a0_4 a0_5 a0_6 l0_7 a1_0 a1_1 a1_2 a1_3 a1_4 a1_5 a1_6 l1_7 = some r) :
 Calls Try.prog 11 #[.agg #[.int .i64 a0_0, .string a0_1, .string a0_2, .string a0_3, .int .i64 a0_4, .int .i64 a0_5, .int .i64 a0_6, .slice A0_7 l0_7.length c0_7], .agg #[.int .i64 a1_0, .string a1_1, .string a1_2, .string a1_3, .int .i64 a1_4, .int .i64 a1_5, .int .i64 a1_6, .slice A1_7 l1_7.length c1_7]] w fun e w' => e = .returned (.bool r) ∧ Below w.heap.size w w' := by
 have hu33 := Try.underlying33
 have HR0_7 := Aside0.mk hr0_7
 have HC0_7 := Aside0.mk hc0_7
 clear hr0_7 hc0_7
 have HR1_7 := Aside0.mk hr1_7
 have HC1_7 := Aside0.mk hc1_7
 clear hr1_7 hc1_7
 have HB := Aside0.mk (Below.refl w.heap.size w)
 have H : (if a0_0 = a1_0 then (if a0_1.toList = a1_1.toList then (if a0_2.toList = a1_2.toList then (if a0_3.toList = a1_3.toList then (if a0_4 = a1_4 then (if a0_5 = a1_5 then (if a0_6 = a1_6 then ((laws_eqHandBoxS.f k l0_7 l1_7).bind fun t227 => (if t227 = true then (some true) else (some false))) else (some false)) else (some false)) else (some false)) else (some false)) else (some false)) else (some false)) else (some false)) = some r := h
 clear h
 by_cases c3 : a0_0 = a1_0
 rotate_left
 ·rw [if_neg c3] at H
  have c3b0 : (a0_0 == a1_0) = false := beq_eq_false_iff_ne.mpr c3
  have c3b1 : (a0_0 != a1_0) = true := bne_iff_ne.mpr c3
  obtain rfl := Option.some.inj H
  go_enter Try.func11, Try.ntmps11
  go_wp2_with (first | ((with_reducible refine gate_dst (N := 2) rfl ?_); refine zbx 2 #[.int .i64 a0_0, .string a0_1, .string a0_2, .string a0_3, .int .i64 a0_4, .int .i64 a0_5, .int .i64 a0_6, .slice A0_7 l0_7.length c0_7] 33 ?_; intro gb225 hg w54 hbox hb; have BK225 := zA hbox; have GW225 := zgs hg (zs0 HB); have GE225 := zgs hg (zs0 HB); replace HB := zE (zs0 HB) hb; clear hb hbox hg) | ((with_reducible refine gate_dst (N := 3) rfl ?_); refine zbx 3 #[.int .i64 a1_0, .string a1_1, .string a1_2, .string a1_3, .int .i64 a1_4, .int .i64 a1_5, .int .i64 a1_6, .slice A1_7 l1_7.length c1_7] 33 ?_; intro gb226 hg w55 hbox hb; have BK226 := zA hbox; have GW226 := zgs hg (zs1 HB GE225); have GE226 := zgs hg (zs1 HB GE225); have NB225_226 := zne hg BK225; have NB226_225 := znf hg BK225; replace BK225 := zb BK225 hb; replace HB := zE (zs1 HB GE225) hb; clear hb hbox hg; have hnb56 := NB225_226.out; have hnc56 := NB226_225.out; obtain ⟨hcz57_0, hcz57_1, hcz57_2, hcz57_3, hcz57_4, hcz57_5, hcz57_6, hcz57_7⟩ := zd8 BK225; obtain ⟨hfz57_0, hfz57_1, hfz57_2, hfz57_3, hfz57_4, hfz57_5, hfz57_6, hfz57_7⟩ := zn8 BK225; obtain ⟨hcz58_0, hcz58_1, hcz58_2, hcz58_3, hcz58_4, hcz58_5, hcz58_6, hcz58_7⟩ := zd8 BK226; obtain ⟨hfz58_0, hfz58_1, hfz58_2, hfz58_3, hfz58_4, hfz58_5, hfz58_6, hfz58_7⟩ := zn8 BK226))
  go_ret
  exact ⟨ze, zs2 HB GE225 GE226⟩
 rw [if_pos c3] at H
 have c3b0 : (a0_0 == a1_0) = true := beq_iff_eq.mpr c3
 have c3b1 : (a0_0 != a1_0) = false := bne_eq_false_iff_eq.mpr c3
 clear c3
 by_cases c4 : a0_1.toList = a1_1.toList
 rotate_left
 ·rw [if_neg c4] at H
  have c4b0 : (a0_1.toList == a1_1.toList) = false := beq_eq_false_iff_ne.mpr c4
  have c4b1 : (a0_1.toList != a1_1.toList) = true := bne_iff_ne.mpr c4
  obtain rfl := Option.some.inj H
  go_enter Try.func11, Try.ntmps11
  go_wp2_with (first | ((with_reducible refine gate_dst (N := 2) rfl ?_); refine zbx 2 #[.int .i64 a0_0, .string a0_1, .string a0_2, .string a0_3, .int .i64 a0_4, .int .i64 a0_5, .int .i64 a0_6, .slice A0_7 l0_7.length c0_7] 33 ?_; intro gb225 hg w49 hbox hb; have BK225 := zA hbox; have GW225 := zgs hg (zs0 HB); have GE225 := zgs hg (zs0 HB); replace HB := zE (zs0 HB) hb; clear hb hbox hg) | ((with_reducible refine gate_dst (N := 3) rfl ?_); refine zbx 3 #[.int .i64 a1_0, .string a1_1, .string a1_2, .string a1_3, .int .i64 a1_4, .int .i64 a1_5, .int .i64 a1_6, .slice A1_7 l1_7.length c1_7] 33 ?_; intro gb226 hg w50 hbox hb; have BK226 := zA hbox; have GW226 := zgs hg (zs1 HB GE225); have GE226 := zgs hg (zs1 HB GE225); have NB225_226 := zne hg BK225; have NB226_225 := znf hg BK225; replace BK225 := zb BK225 hb; replace HB := zE (zs1 HB GE225) hb; clear hb hbox hg; have hnb51 := NB225_226.out; have hnc51 := NB226_225.out; obtain ⟨hcz52_0, hcz52_1, hcz52_2, hcz52_3, hcz52_4, hcz52_5, hcz52_6, hcz52_7⟩ := zd8 BK225; obtain ⟨hfz52_0, hfz52_1, hfz52_2, hfz52_3, hfz52_4, hfz52_5, hfz52_6, hfz52_7⟩ := zn8 BK225; obtain ⟨hcz53_0, hcz53_1, hcz53_2, hcz53_3, hcz53_4, hcz53_5, hcz53_6, hcz53_7⟩ := zd8 BK226; obtain ⟨hfz53_0, hfz53_1, hfz53_2, hfz53_3, hfz53_4, hfz53_5, hfz53_6, hfz53_7⟩ := zn8 BK226))
  go_ret
  exact ⟨ze, zs2 HB GE225 GE226⟩
 rw [if_pos c4] at H
 have c4b0 : (a0_1.toList == a1_1.toList) = true := beq_iff_eq.mpr c4
 have c4b1 : (a0_1.toList != a1_1.toList) = false := bne_eq_false_iff_eq.mpr c4
 clear c4
 by_cases c5 : a0_2.toList = a1_2.toList
 rotate_left
 ·rw [if_neg c5] at H
  have c5b0 : (a0_2.toList == a1_2.toList) = false := beq_eq_false_iff_ne.mpr c5
  have c5b1 : (a0_2.toList != a1_2.toList) = true := bne_iff_ne.mpr c5
  obtain rfl := Option.some.inj H
  go_enter Try.func11, Try.ntmps11
  go_wp2_with (first | ((with_reducible refine gate_dst (N := 2) rfl ?_); refine zbx 2 #[.int .i64 a0_0, .string a0_1, .string a0_2, .string a0_3, .int .i64 a0_4, .int .i64 a0_5, .int .i64 a0_6, .slice A0_7 l0_7.length c0_7] 33 ?_; intro gb225 hg w44 hbox hb; have BK225 := zA hbox; have GW225 := zgs hg (zs0 HB); have GE225 := zgs hg (zs0 HB); replace HB := zE (zs0 HB) hb; clear hb hbox hg) | ((with_reducible refine gate_dst (N := 3) rfl ?_); refine zbx 3 #[.int .i64 a1_0, .string a1_1, .string a1_2, .string a1_3, .int .i64 a1_4, .int .i64 a1_5, .int .i64 a1_6, .slice A1_7 l1_7.length c1_7] 33 ?_; intro gb226 hg w45 hbox hb; have BK226 := zA hbox; have GW226 := zgs hg (zs1 HB GE225); have GE226 := zgs hg (zs1 HB GE225); have NB225_226 := zne hg BK225; have NB226_225 := znf hg BK225; replace BK225 := zb BK225 hb; replace HB := zE (zs1 HB GE225) hb; clear hb hbox hg; have hnb46 := NB225_226.out; have hnc46 := NB226_225.out; obtain ⟨hcz47_0, hcz47_1, hcz47_2, hcz47_3, hcz47_4, hcz47_5, hcz47_6, hcz47_7⟩ := zd8 BK225; obtain ⟨hfz47_0, hfz47_1, hfz47_2, hfz47_3, hfz47_4, hfz47_5, hfz47_6, hfz47_7⟩ := zn8 BK225; obtain ⟨hcz48_0, hcz48_1, hcz48_2, hcz48_3, hcz48_4, hcz48_5, hcz48_6, hcz48_7⟩ := zd8 BK226; obtain ⟨hfz48_0, hfz48_1, hfz48_2, hfz48_3, hfz48_4, hfz48_5, hfz48_6, hfz48_7⟩ := zn8 BK226))
  go_ret
  exact ⟨ze, zs2 HB GE225 GE226⟩
 rw [if_pos c5] at H
 have c5b0 : (a0_2.toList == a1_2.toList) = true := beq_iff_eq.mpr c5
 have c5b1 : (a0_2.toList != a1_2.toList) = false := bne_eq_false_iff_eq.mpr c5
 clear c5
 by_cases c6 : a0_3.toList = a1_3.toList
 rotate_left
 ·rw [if_neg c6] at H
  have c6b0 : (a0_3.toList == a1_3.toList) = false := beq_eq_false_iff_ne.mpr c6
  have c6b1 : (a0_3.toList != a1_3.toList) = true := bne_iff_ne.mpr c6
  obtain rfl := Option.some.inj H
  go_enter Try.func11, Try.ntmps11
  go_wp2_with (first | ((with_reducible refine gate_dst (N := 2) rfl ?_); refine zbx 2 #[.int .i64 a0_0, .string a0_1, .string a0_2, .string a0_3, .int .i64 a0_4, .int .i64 a0_5, .int .i64 a0_6, .slice A0_7 l0_7.length c0_7] 33 ?_; intro gb225 hg w39 hbox hb; have BK225 := zA hbox; have GW225 := zgs hg (zs0 HB); have GE225 := zgs hg (zs0 HB); replace HB := zE (zs0 HB) hb; clear hb hbox hg) | ((with_reducible refine gate_dst (N := 3) rfl ?_); refine zbx 3 #[.int .i64 a1_0, .string a1_1, .string a1_2, .string a1_3, .int .i64 a1_4, .int .i64 a1_5, .int .i64 a1_6, .slice A1_7 l1_7.length c1_7] 33 ?_; intro gb226 hg w40 hbox hb; have BK226 := zA hbox; have GW226 := zgs hg (zs1 HB GE225); have GE226 := zgs hg (zs1 HB GE225); have NB225_226 := zne hg BK225; have NB226_225 := znf hg BK225; replace BK225 := zb BK225 hb; replace HB := zE (zs1 HB GE225) hb; clear hb hbox hg; have hnb41 := NB225_226.out; have hnc41 := NB226_225.out; obtain ⟨hcz42_0, hcz42_1, hcz42_2, hcz42_3, hcz42_4, hcz42_5, hcz42_6, hcz42_7⟩ := zd8 BK225; obtain ⟨hfz42_0, hfz42_1, hfz42_2, hfz42_3, hfz42_4, hfz42_5, hfz42_6, hfz42_7⟩ := zn8 BK225; obtain ⟨hcz43_0, hcz43_1, hcz43_2, hcz43_3, hcz43_4, hcz43_5, hcz43_6, hcz43_7⟩ := zd8 BK226; obtain ⟨hfz43_0, hfz43_1, hfz43_2, hfz43_3, hfz43_4, hfz43_5, hfz43_6, hfz43_7⟩ := zn8 BK226))
  go_ret
  exact ⟨ze, zs2 HB GE225 GE226⟩
 rw [if_pos c6] at H
 have c6b0 : (a0_3.toList == a1_3.toList) = true := beq_iff_eq.mpr c6
 have c6b1 : (a0_3.toList != a1_3.toList) = false := bne_eq_false_iff_eq.mpr c6
 clear c6
 by_cases c7 : a0_4 = a1_4
 rotate_left
 ·rw [if_neg c7] at H
  have c7b0 : (a0_4 == a1_4) = false := beq_eq_false_iff_ne.mpr c7
  have c7b1 : (a0_4 != a1_4) = true := bne_iff_ne.mpr c7
  obtain rfl := Option.some.inj H
  go_enter Try.func11, Try.ntmps11
  go_wp2_with (first | ((with_reducible refine gate_dst (N := 2) rfl ?_); refine zbx 2 #[.int .i64 a0_0, .string a0_1, .string a0_2, .string a0_3, .int .i64 a0_4, .int .i64 a0_5, .int .i64 a0_6, .slice A0_7 l0_7.length c0_7] 33 ?_; intro gb225 hg w34 hbox hb; have BK225 := zA hbox; have GW225 := zgs hg (zs0 HB); have GE225 := zgs hg (zs0 HB); replace HB := zE (zs0 HB) hb; clear hb hbox hg) | ((with_reducible refine gate_dst (N := 3) rfl ?_); refine zbx 3 #[.int .i64 a1_0, .string a1_1, .string a1_2, .string a1_3, .int .i64 a1_4, .int .i64 a1_5, .int .i64 a1_6, .slice A1_7 l1_7.length c1_7] 33 ?_; intro gb226 hg w35 hbox hb; have BK226 := zA hbox; have GW226 := zgs hg (zs1 HB GE225); have GE226 := zgs hg (zs1 HB GE225); have NB225_226 := zne hg BK225; have NB226_225 := znf hg BK225; replace BK225 := zb BK225 hb; replace HB := zE (zs1 HB GE225) hb; clear hb hbox hg; have hnb36 := NB225_226.out; have hnc36 := NB226_225.out; obtain ⟨hcz37_0, hcz37_1, hcz37_2, hcz37_3, hcz37_4, hcz37_5, hcz37_6, hcz37_7⟩ := zd8 BK225; obtain ⟨hfz37_0, hfz37_1, hfz37_2, hfz37_3, hfz37_4, hfz37_5, hfz37_6, hfz37_7⟩ := zn8 BK225; obtain ⟨hcz38_0, hcz38_1, hcz38_2, hcz38_3, hcz38_4, hcz38_5, hcz38_6, hcz38_7⟩ := zd8 BK226; obtain ⟨hfz38_0, hfz38_1, hfz38_2, hfz38_3, hfz38_4, hfz38_5, hfz38_6, hfz38_7⟩ := zn8 BK226))
  go_ret
  exact ⟨ze, zs2 HB GE225 GE226⟩
 rw [if_pos c7] at H
 have c7b0 : (a0_4 == a1_4) = true := beq_iff_eq.mpr c7
 have c7b1 : (a0_4 != a1_4) = false := bne_eq_false_iff_eq.mpr c7
 clear c7
 by_cases c8 : a0_5 = a1_5
 rotate_left
 ·rw [if_neg c8] at H
  have c8b0 : (a0_5 == a1_5) = false := beq_eq_false_iff_ne.mpr c8
  have c8b1 : (a0_5 != a1_5) = true := bne_iff_ne.mpr c8
  obtain rfl := Option.some.inj H
  go_enter Try.func11, Try.ntmps11
  go_wp2_with (first | ((with_reducible refine gate_dst (N := 2) rfl ?_); refine zbx 2 #[.int .i64 a0_0, .string a0_1, .string a0_2, .string a0_3, .int .i64 a0_4, .int .i64 a0_5, .int .i64 a0_6, .slice A0_7 l0_7.length c0_7] 33 ?_; intro gb225 hg w29 hbox hb; have BK225 := zA hbox; have GW225 := zgs hg (zs0 HB); have GE225 := zgs hg (zs0 HB); replace HB := zE (zs0 HB) hb; clear hb hbox hg) | ((with_reducible refine gate_dst (N := 3) rfl ?_); refine zbx 3 #[.int .i64 a1_0, .string a1_1, .string a1_2, .string a1_3, .int .i64 a1_4, .int .i64 a1_5, .int .i64 a1_6, .slice A1_7 l1_7.length c1_7] 33 ?_; intro gb226 hg w30 hbox hb; have BK226 := zA hbox; have GW226 := zgs hg (zs1 HB GE225); have GE226 := zgs hg (zs1 HB GE225); have NB225_226 := zne hg BK225; have NB226_225 := znf hg BK225; replace BK225 := zb BK225 hb; replace HB := zE (zs1 HB GE225) hb; clear hb hbox hg; have hnb31 := NB225_226.out; have hnc31 := NB226_225.out; obtain ⟨hcz32_0, hcz32_1, hcz32_2, hcz32_3, hcz32_4, hcz32_5, hcz32_6, hcz32_7⟩ := zd8 BK225; obtain ⟨hfz32_0, hfz32_1, hfz32_2, hfz32_3, hfz32_4, hfz32_5, hfz32_6, hfz32_7⟩ := zn8 BK225; obtain ⟨hcz33_0, hcz33_1, hcz33_2, hcz33_3, hcz33_4, hcz33_5, hcz33_6, hcz33_7⟩ := zd8 BK226; obtain ⟨hfz33_0, hfz33_1, hfz33_2, hfz33_3, hfz33_4, hfz33_5, hfz33_6, hfz33_7⟩ := zn8 BK226))
  go_ret
  exact ⟨ze, zs2 HB GE225 GE226⟩
 rw [if_pos c8] at H
 have c8b0 : (a0_5 == a1_5) = true := beq_iff_eq.mpr c8
 have c8b1 : (a0_5 != a1_5) = false := bne_eq_false_iff_eq.mpr c8
 clear c8
 by_cases c9 : a0_6 = a1_6
 rotate_left
 ·rw [if_neg c9] at H
  have c9b0 : (a0_6 == a1_6) = false := beq_eq_false_iff_ne.mpr c9
  have c9b1 : (a0_6 != a1_6) = true := bne_iff_ne.mpr c9
  obtain rfl := Option.some.inj H
  go_enter Try.func11, Try.ntmps11
  go_wp2_with (first | ((with_reducible refine gate_dst (N := 2) rfl ?_); refine zbx 2 #[.int .i64 a0_0, .string a0_1, .string a0_2, .string a0_3, .int .i64 a0_4, .int .i64 a0_5, .int .i64 a0_6, .slice A0_7 l0_7.length c0_7] 33 ?_; intro gb225 hg w24 hbox hb; have BK225 := zA hbox; have GW225 := zgs hg (zs0 HB); have GE225 := zgs hg (zs0 HB); replace HB := zE (zs0 HB) hb; clear hb hbox hg) | ((with_reducible refine gate_dst (N := 3) rfl ?_); refine zbx 3 #[.int .i64 a1_0, .string a1_1, .string a1_2, .string a1_3, .int .i64 a1_4, .int .i64 a1_5, .int .i64 a1_6, .slice A1_7 l1_7.length c1_7] 33 ?_; intro gb226 hg w25 hbox hb; have BK226 := zA hbox; have GW226 := zgs hg (zs1 HB GE225); have GE226 := zgs hg (zs1 HB GE225); have NB225_226 := zne hg BK225; have NB226_225 := znf hg BK225; replace BK225 := zb BK225 hb; replace HB := zE (zs1 HB GE225) hb; clear hb hbox hg; have hnb26 := NB225_226.out; have hnc26 := NB226_225.out; obtain ⟨hcz27_0, hcz27_1, hcz27_2, hcz27_3, hcz27_4, hcz27_5, hcz27_6, hcz27_7⟩ := zd8 BK225; obtain ⟨hfz27_0, hfz27_1, hfz27_2, hfz27_3, hfz27_4, hfz27_5, hfz27_6, hfz27_7⟩ := zn8 BK225; obtain ⟨hcz28_0, hcz28_1, hcz28_2, hcz28_3, hcz28_4, hcz28_5, hcz28_6, hcz28_7⟩ := zd8 BK226; obtain ⟨hfz28_0, hfz28_1, hfz28_2, hfz28_3, hfz28_4, hfz28_5, hfz28_6, hfz28_7⟩ := zn8 BK226))
  go_ret
  exact ⟨ze, zs2 HB GE225 GE226⟩
 rw [if_pos c9] at H
 have c9b0 : (a0_6 == a1_6) = true := beq_iff_eq.mpr c9
 have c9b1 : (a0_6 != a1_6) = false := bne_eq_false_iff_eq.mpr c9
 clear c9
 replace H := zbd H; obtain ⟨t227, A10, H⟩ := H
 by_cases c11 : t227 = true
 ·subst c11
  have H1 : (some true) = some r := by rw [if_pos rfl] at H; exact H
  clear H
  have H := H1
  clear H1
  obtain rfl := Option.some.inj H
  go_enter Try.func11, Try.ntmps11
  go_wp2_with (first | ((with_reducible refine gate_dst (N := 2) rfl ?_); refine zbx 2 #[.int .i64 a0_0, .string a0_1, .string a0_2, .string a0_3, .int .i64 a0_4, .int .i64 a0_5, .int .i64 a0_6, .slice A0_7 l0_7.length c0_7] 33 ?_; intro gb225 hg w12 hbox hb; have BK225 := zA hbox; have GW225 := zgs hg (zs0 HB); have GE225 := zgs hg (zs0 HB); replace HB := zE (zs0 HB) hb; clear hb hbox hg) | ((with_reducible refine gate_dst (N := 3) rfl ?_); refine zbx 3 #[.int .i64 a1_0, .string a1_1, .string a1_2, .string a1_3, .int .i64 a1_4, .int .i64 a1_5, .int .i64 a1_6, .slice A1_7 l1_7.length c1_7] 33 ?_; intro gb226 hg w13 hbox hb; have BK226 := zA hbox; have GW226 := zgs hg (zs1 HB GE225); have GE226 := zgs hg (zs1 HB GE225); have NB225_226 := zne hg BK225; have NB226_225 := znf hg BK225; replace BK225 := zb BK225 hb; replace HB := zE (zs1 HB GE225) hb; clear hb hbox hg; have hnb14 := NB225_226.out; have hnc14 := NB226_225.out; obtain ⟨hcz15_0, hcz15_1, hcz15_2, hcz15_3, hcz15_4, hcz15_5, hcz15_6, hcz15_7⟩ := zd8 BK225; obtain ⟨hfz15_0, hfz15_1, hfz15_2, hfz15_3, hfz15_4, hfz15_5, hfz15_6, hfz15_7⟩ := zn8 BK225; obtain ⟨hcz16_0, hcz16_1, hcz16_2, hcz16_3, hcz16_4, hcz16_5, hcz16_6, hcz16_7⟩ := zd8 BK226; obtain ⟨hfz16_0, hfz16_1, hfz16_2, hfz16_3, hfz16_4, hfz16_5, hfz16_6, hfz16_7⟩ := zn8 BK226) | ((with_reducible refine gate_callee (f := 26) rfl ?_); refine zgl (N := some 44) Try.func26 #[.slice A0_7 l0_7.length c0_7, .slice A1_7 l1_7.length c1_7] ?_; (with_reducible refine (laws_eqHandBoxS.calls k _ _ l0_7 _ _ l1_7 true _ ?side1 ?side2 ?side3 ?side4 A10.out).mono ?_); (case side1 => exact zC HR0_7 HB); (case side2 => exact HC0_7.out); (case side3 => exact zC HR1_7 HB); (case side4 => exact HC1_7.out); rintro e w17 ⟨rfl, hb⟩; refine ⟨_, rfl, ?_⟩; replace BK225 := zb BK225 hb; replace BK226 := zb BK226 hb; replace HB := zE (zs2 HB GE225 GE226) hb; (try clear hb); (try clear hb2); (try clear hk); (try clear hi)))
  go_ret
  exact ⟨ze, zs2 HB GE225 GE226⟩
 replace c11 := Bool.eq_false_iff.mpr c11
 subst c11
 have H1 : (some false) = some r := by rw [if_neg (show ¬ (false = true) by decide)] at H; exact H
 clear H
 have H := H1
 clear H1
 obtain rfl := Option.some.inj H
 go_enter Try.func11, Try.ntmps11
 go_wp2_with (first | ((with_reducible refine gate_dst (N := 2) rfl ?_); refine zbx 2 #[.int .i64 a0_0, .string a0_1, .string a0_2, .string a0_3, .int .i64 a0_4, .int .i64 a0_5, .int .i64 a0_6, .slice A0_7 l0_7.length c0_7] 33 ?_; intro gb225 hg w18 hbox hb; have BK225 := zA hbox; have GW225 := zgs hg (zs0 HB); have GE225 := zgs hg (zs0 HB); replace HB := zE (zs0 HB) hb; clear hb hbox hg) | ((with_reducible refine gate_dst (N := 3) rfl ?_); refine zbx 3 #[.int .i64 a1_0, .string a1_1, .string a1_2, .string a1_3, .int .i64 a1_4, .int .i64 a1_5, .int .i64 a1_6, .slice A1_7 l1_7.length c1_7] 33 ?_; intro gb226 hg w19 hbox hb; have BK226 := zA hbox; have GW226 := zgs hg (zs1 HB GE225); have GE226 := zgs hg (zs1 HB GE225); have NB225_226 := zne hg BK225; have NB226_225 := znf hg BK225; replace BK225 := zb BK225 hb; replace HB := zE (zs1 HB GE225) hb; clear hb hbox hg; have hnb20 := NB225_226.out; have hnc20 := NB226_225.out; obtain ⟨hcz21_0, hcz21_1, hcz21_2, hcz21_3, hcz21_4, hcz21_5, hcz21_6, hcz21_7⟩ := zd8 BK225; obtain ⟨hfz21_0, hfz21_1, hfz21_2, hfz21_3, hfz21_4, hfz21_5, hfz21_6, hfz21_7⟩ := zn8 BK225; obtain ⟨hcz22_0, hcz22_1, hcz22_2, hcz22_3, hcz22_4, hcz22_5, hcz22_6, hcz22_7⟩ := zd8 BK226; obtain ⟨hfz22_0, hfz22_1, hfz22_2, hfz22_3, hfz22_4, hfz22_5, hfz22_6, hfz22_7⟩ := zn8 BK226) | ((with_reducible refine gate_callee (f := 26) rfl ?_); refine zgl (N := some 44) Try.func26 #[.slice A0_7 l0_7.length c0_7, .slice A1_7 l1_7.length c1_7] ?_; (with_reducible refine (laws_eqHandBoxS.calls k _ _ l0_7 _ _ l1_7 false _ ?side1 ?side2 ?side3 ?side4 A10.out).mono ?_); (case side1 => exact zC HR0_7 HB); (case side2 => exact HC0_7.out); (case side3 => exact zC HR1_7 HB); (case side4 => exact HC1_7.out); rintro e w23 ⟨rfl, hb⟩; refine ⟨_, rfl, ?_⟩; replace BK225 := zb BK225 hb; replace BK226 := zb BK226 hb; replace HB := zE (zs2 HB GE225 GE226) hb; (try clear hb); (try clear hb2); (try clear hk); (try clear hi)))
 go_ret
 exact ⟨ze, zs2 HB GE225 GE226⟩
end Go.Proofs.Ytbgcpbdnmpnjhaa.QFnExactHandWordOk
