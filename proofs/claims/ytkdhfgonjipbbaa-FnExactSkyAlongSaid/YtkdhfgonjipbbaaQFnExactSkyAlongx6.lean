/- The walk of what the law FnExactSkyAlong reaches: laid by a program of this session (ownprint.py). -/
import Derived.Test.YtkdhfgonjipbbaaQFnExactSkyAlongx0
import Derived.Test.YtkdhfgonjipbbaaQFnExactSkyAlongx5
namespace Go.Proofs.Ytkdhfgonjipbbaa.QFnExactSkyAlong
open Go.RowKit Go.Proofs.YtkdhfgonjipbbaaW.PrintWords Go.Proofs.YtkdhfgonjipbbaaW.PrintLast Go.Proofs.YtkdhfgonjipbbaaW.PrintMore Go.Proofs.Ytkdhfgonjipbbaa.Z
attribute [local go_sem] max2_int min2_int max_two min_two max_three min_three max_four min_four zdn   -- for this text's walks alone
set_option linter.unusedVariables false
set_option linter.unusedSimpArgs false
def laws_eqSkyHopS.l0 : Nat → List (S43) → List (S43) → Int → Option (Bool)
 | 0, _, _, _ => none
 | k + 1, x0, x1, x5 => if x5 < (x0.length : Int) then (if 0 ≤ x5 then (if x5 < (x1.length : Int) then ((laws_eqSkyHop.f ((rd_T43 x0 x5).f0) ((rd_T43 x0 x5).f1) ((rd_T43 x0 x5).f2) ((rd_T43 x0 x5).f3) ((rd_T43 x1 x5).f0) ((rd_T43 x1 x5).f1) ((rd_T43 x1 x5).f2) ((rd_T43 x1 x5).f3)).bind fun t212 => (if t212 = true then (laws_eqSkyHopS.l0 k x0 x1 (wrap64 (x5 + 1))) else (some false))) else (none)) else (none)) else (some true)
def laws_eqSkyHopS.f (k : Nat) (l0 : List (S43)) (l1 : List (S43)) : Option (Bool) := if (l0.length : Int) = (l1.length : Int) then (laws_eqSkyHopS.l0 k l0 l1 0) else (some false)
def laws_eqSkyHopS.T6 : Bool × List (List Nat × List Nat) := (true, [([], []), ([], []), ([0, 1], [0, 1]), ([2], [2]), ([], []), ([], []), ([4, 5], [4, 5]), ([6], [6]), ([3, 7], [3, 7]), ([8], [8])])
def laws_eqSkyHopS.B6 : List Nat := [0, 0, 3, 7, 0, 0, 48, 112, 255, 511]
theorem laws_eqSkyHopS.tab6 : rtab .any (opsOf Try.f21 6) = laws_eqSkyHopS.T6 := by kernel_rfl
theorem laws_eqSkyHopS.bits6 : waitsOk laws_eqSkyHopS.T6.2 laws_eqSkyHopS.B6 = true := by kernel_rfl
set_option maxHeartbeats 8000000 in
set_option maxRecDepth 100000 in
theorem laws_eqSkyHopS.calls (k : Nat) (A0 : Option Addr) (c0 : Nat) (l0 : List (S43)) (A1 : Option Addr) (c1 : Nat) (l1 : List (S43)) (r : Bool) (w : World) (hr0 : Kd.C k43 w A0 l0.length l0) (hc0 : l0.length ≤ c0) (hr1 : Kd.C k43 w A1 l1.length l1) (hc1 : l1.length ≤ c1) (h : laws_eqSkyHopS.f k l0 l1 = some r) :
 Calls Try.prog 21 #[.slice A0 l0.length c0, .slice A1 l1.length c1] w fun e w' => e = .returned (.bool r) ∧ Below w.heap.size w w' := by
 have hu43 := Try.underlying43
 have HR0 := Aside0.mk hr0
 have HC0 := Aside0.mk hc0
 clear hr0 hc0
 have HR1 := Aside0.mk hr1
 have HC1 := Aside0.mk hc1
 clear hr1 hc1
 have HB := Aside0.mk (Below.refl w.heap.size w)
 have H : (if (l0.length : Int) = (l1.length : Int) then (laws_eqSkyHopS.l0 k l0 l1 0) else (some false)) = some r := h
 clear h
 by_cases c3 : (l0.length : Int) = (l1.length : Int)
 rotate_left
 ·rw [if_neg c3] at H
  have c3b0 : ((l0.length : Int) == (l1.length : Int)) = false := beq_eq_false_iff_ne.mpr c3
  have c3b1 : ((l0.length : Int) != (l1.length : Int)) = true := bne_iff_ne.mpr c3
  have c3b2 : (l0.length == l1.length) = false := by first | simpa using c3 | (simp at c3 ⊢; omega)
  obtain rfl := Option.some.inj H
  go_enter Try.func21, Try.ntmps21
  go_wp2
  go_ret
  exact ⟨ze, zs0 HB⟩
 rw [if_pos c3] at H
 have c3b0 : ((l0.length : Int) == (l1.length : Int)) = true := beq_iff_eq.mpr c3
 have c3b1 : ((l0.length : Int) != (l1.length : Int)) = false := bne_eq_false_iff_eq.mpr c3
 have c3b2 : (l0.length == l1.length) = true := by first | simpa using c3 | (simp at c3 ⊢; omega)
 clear c3
 have H' := Aside0.mk H
 clear H
 go_enter Try.func21, Try.ntmps21
 go_wp2
 go_loopg [5] k (fun kq v5 w' => ∃ (x5_1 : Int), v5 = .int .i64 x5_1 ∧ Aside0 (laws_eqSkyHopS.l0 kq l0 l1 x5_1 = some r) ∧ Aside0 (kq ≤ k) ∧ Aside0 (Below w.heap.size w w'))
 case atStart => exact ⟨(0), zi, H', ⟨Nat.le_refl _⟩, ⟨zs0 HB⟩⟩
 case round =>
  clear H'
  try clear c1
  try clear c2
  try clear p2
  try clear c3
  try clear c3b0
  try clear c3b1
  try clear c3b2
  obtain ⟨x5_1, rfl, HA, HK1, HB⟩ := hrel
  cases gk with
  | zero => exact absurd HA.out (by simp [laws_eqSkyHopS.l0])
  | succ k1 =>
   have H := HA.out
   clear HA
   simp only [laws_eqSkyHopS.l0] at H
   by_cases c4 : x5_1 < (l0.length : Int)
   rotate_left
   ·rw [if_neg c4] at H
    have c4b0 : decide (x5_1 < (l0.length : Int)) = false := decide_eq_false c4
    clear c4
    obtain rfl := Option.some.inj H
    go_wp2
    go_ret
    exact ⟨ze, zs0 HB⟩
   rw [if_pos c4] at H
   have c4b0 : decide (x5_1 < (l0.length : Int)) = true := decide_eq_true c4
   clear c4
   by_cases c5 : 0 ≤ x5_1
   rotate_left
   ·rw [if_neg c5] at H
    exact absurd H (by simp)
   rw [if_pos c5] at H
   have c5b0 : decide (0 ≤ x5_1) = true := decide_eq_true c5
   clear c5
   by_cases c6 : x5_1 < (l1.length : Int)
   rotate_left
   ·rw [if_neg c6] at H
    exact absurd H (by simp)
   rw [if_pos c6] at H
   have c6b0 : decide (x5_1 < (l1.length : Int)) = true := decide_eq_true c6
   clear c6
   replace H := zbd H; obtain ⟨t212, A7, H⟩ := H
   by_cases c8 : t212 = true
   rotate_left
   ·replace c8 := Bool.eq_false_iff.mpr c8
    subst c8
    have H1 : (some false) = some r := by rw [if_neg (show ¬ (false = true) by decide)] at H; exact H
    clear H
    have H := H1
    clear H1
    obtain rfl := Option.some.inj H
    try go_wp2
    replace HB := Aside0.mk (below_drew1 HB.out)
    have p210 : 0 ≤ (x5_1 : Int) := za
    have q210 : x5_1 < (l0.length : Int) := za
    obtain ⟨ad210, e210, hx210_0, hx210_1, hx210_2, hx210_3⟩ := at_T43 HR0.out x5_1 p210 q210
    have hw210_3 := hx210_3
    have hw210_2 := hx210_2
    have hw210_1 := hx210_1
    have hw210_0 := hx210_0
    cases e210
    replace hx210_0 := zx HB hx210_0
    replace hx210_1 := zx HB hx210_1
    replace hx210_2 := zx HB hx210_2
    replace hx210_3 := zx HB hx210_3
    replace p210 := eq_true p210
    replace q210 := eq_true q210
    have p211 : 0 ≤ (x5_1 : Int) := za
    have q211 : x5_1 < (l1.length : Int) := za
    obtain ⟨ad211, e211, hx211_0, hx211_1, hx211_2, hx211_3⟩ := at_T43 HR1.out x5_1 p211 q211
    have hw211_3 := hx211_3
    have hw211_2 := hx211_2
    have hw211_1 := hx211_1
    have hw211_0 := hx211_0
    cases e211
    replace hx211_0 := zx HB hx211_0
    replace hx211_1 := zx HB hx211_1
    replace hx211_2 := zx HB hx211_2
    replace hx211_3 := zx HB hx211_3
    replace p211 := eq_true p211
    replace q211 := eq_true q211
    refine start_ (n := 10) (S := fun w' => w'.cell? (ad210.add ((x5_1).toNat * 4)) = some (.string ((rd_T43 l0 x5_1).f0)) ∧ w'.cell? ⟨(ad210.add ((x5_1).toNat * 4)).block, (ad210.add ((x5_1).toNat * 4)).off + 1, none⟩ = some (.string ((rd_T43 l0 x5_1).f1)) ∧ w'.cell? ⟨(ad210.add ((x5_1).toNat * 4)).block, (ad210.add ((x5_1).toNat * 4)).off + 2, none⟩ = some (.int .i64 ((rd_T43 l0 x5_1).f2)) ∧ w'.cell? ⟨(ad210.add ((x5_1).toNat * 4)).block, (ad210.add ((x5_1).toNat * 4)).off + 3, none⟩ = some (.string ((rd_T43 l0 x5_1).f3)) ∧ w'.cell? (ad211.add ((x5_1).toNat * 4)) = some (.string ((rd_T43 l1 x5_1).f0)) ∧ w'.cell? ⟨(ad211.add ((x5_1).toNat * 4)).block, (ad211.add ((x5_1).toNat * 4)).off + 1, none⟩ = some (.string ((rd_T43 l1 x5_1).f1)) ∧ w'.cell? ⟨(ad211.add ((x5_1).toNat * 4)).block, (ad211.add ((x5_1).toNat * 4)).off + 2, none⟩ = some (.int .i64 ((rd_T43 l1 x5_1).f2)) ∧ w'.cell? ⟨(ad211.add ((x5_1).toNat * 4)).block, (ad211.add ((x5_1).toNat * 4)).off + 3, none⟩ = some (.string ((rd_T43 l1 x5_1).f3))) (ds := []) #[false, false, false, false, false, false, false, false, false, false] (by kernel_rfl) rfl rfl ⟨(zw HB hw210_0), (zw HB hw210_1), (zw HB hw210_2), (zw HB hw210_3), (zw HB hw211_0), (zw HB hw211_1), (zw HB hw211_2), (zw HB hw211_3)⟩ (fun hHeld => ?_); refine with_tabW laws_eqSkyHopS.tab6 laws_eqSkyHopS.bits6 (fun HT_ HW_ => ?_)
    generalize wr.drew = w11 at HB hx210_0 hx210_1 hx210_2 hx210_3 hx211_0 hx211_1 hx211_2 hx211_3 hHeld ⊢
    refine zq HT_ 0 ?_
    refine zq HT_ 1 ?_
    refine zq HT_ 2 ?_
    refine zq HT_ 4 ?_
    refine zq HT_ 5 ?_
    refine zq HT_ 6 ?_
    refine zk8 HT_ HW_ hHeld 3 ?_
    refine zk8 HT_ HW_ hHeld 7 ?_
    refine zo HT_ 8 (fun K hK => ?_)
    refine zgo Try.func30 #[.agg #[.string ((rd_T43 l0 x5_1).f0), .string ((rd_T43 l0 x5_1).f1), .int .i64 ((rd_T43 l0 x5_1).f2), .string ((rd_T43 l0 x5_1).f3)], .agg #[.string ((rd_T43 l1 x5_1).f0), .string ((rd_T43 l1 x5_1).f1), .int .i64 ((rd_T43 l1 x5_1).f2), .string ((rd_T43 l1 x5_1).f3)]] ?_
    with_reducible refine (laws_eqSkyHop.calls ((rd_T43 l0 x5_1).f0) ((rd_T43 l0 x5_1).f1) ((rd_T43 l0 x5_1).f2) ((rd_T43 l0 x5_1).f3) ((rd_T43 l1 x5_1).f0) ((rd_T43 l1 x5_1).f1) ((rd_T43 l1 x5_1).f2) ((rd_T43 l1 x5_1).f3) false _ A7.out).mono ?_
    rintro e w12 ⟨rfl, hb⟩
    refine ⟨_, rfl, ?_⟩
    replace HB := zE (zs0 HB) hb
    (try clear hb)
    (try clear hb2)
    (try clear hk)
    (try clear hi)
    refine hK.out _ _ ⟨(zw HB hw210_0), (zw HB hw210_1), (zw HB hw210_2), (zw HB hw210_3), (zw HB hw211_0), (zw HB hw211_1), (zw HB hw211_2), (zw HB hw211_3)⟩ (fun hHeld => ?_)
    clear hK K
    refine zN ?_
    refine zq HT_ 9 ?_
    refine done_ (done_of HT_.out (by kernel_rfl)) ?_
    try go_wp2
    go_ret
    exact ⟨ze, zs0 HB⟩
   subst c8
   have H1 : (laws_eqSkyHopS.l0 k1 l0 l1 (wrap64 (x5_1 + 1))) = some r := by rw [if_pos rfl] at H; exact H
   clear H
   have H := H1
   clear H1
   have H' := Aside0.mk H
   clear H
   try go_wp2
   replace HB := Aside0.mk (below_drew1 HB.out)
   have p210 : 0 ≤ (x5_1 : Int) := za
   have q210 : x5_1 < (l0.length : Int) := za
   obtain ⟨ad210, e210, hx210_0, hx210_1, hx210_2, hx210_3⟩ := at_T43 HR0.out x5_1 p210 q210
   have hw210_3 := hx210_3
   have hw210_2 := hx210_2
   have hw210_1 := hx210_1
   have hw210_0 := hx210_0
   cases e210
   replace hx210_0 := zx HB hx210_0
   replace hx210_1 := zx HB hx210_1
   replace hx210_2 := zx HB hx210_2
   replace hx210_3 := zx HB hx210_3
   replace p210 := eq_true p210
   replace q210 := eq_true q210
   have p211 : 0 ≤ (x5_1 : Int) := za
   have q211 : x5_1 < (l1.length : Int) := za
   obtain ⟨ad211, e211, hx211_0, hx211_1, hx211_2, hx211_3⟩ := at_T43 HR1.out x5_1 p211 q211
   have hw211_3 := hx211_3
   have hw211_2 := hx211_2
   have hw211_1 := hx211_1
   have hw211_0 := hx211_0
   cases e211
   replace hx211_0 := zx HB hx211_0
   replace hx211_1 := zx HB hx211_1
   replace hx211_2 := zx HB hx211_2
   replace hx211_3 := zx HB hx211_3
   replace p211 := eq_true p211
   replace q211 := eq_true q211
   refine start_ (n := 10) (S := fun w' => w'.cell? (ad210.add ((x5_1).toNat * 4)) = some (.string ((rd_T43 l0 x5_1).f0)) ∧ w'.cell? ⟨(ad210.add ((x5_1).toNat * 4)).block, (ad210.add ((x5_1).toNat * 4)).off + 1, none⟩ = some (.string ((rd_T43 l0 x5_1).f1)) ∧ w'.cell? ⟨(ad210.add ((x5_1).toNat * 4)).block, (ad210.add ((x5_1).toNat * 4)).off + 2, none⟩ = some (.int .i64 ((rd_T43 l0 x5_1).f2)) ∧ w'.cell? ⟨(ad210.add ((x5_1).toNat * 4)).block, (ad210.add ((x5_1).toNat * 4)).off + 3, none⟩ = some (.string ((rd_T43 l0 x5_1).f3)) ∧ w'.cell? (ad211.add ((x5_1).toNat * 4)) = some (.string ((rd_T43 l1 x5_1).f0)) ∧ w'.cell? ⟨(ad211.add ((x5_1).toNat * 4)).block, (ad211.add ((x5_1).toNat * 4)).off + 1, none⟩ = some (.string ((rd_T43 l1 x5_1).f1)) ∧ w'.cell? ⟨(ad211.add ((x5_1).toNat * 4)).block, (ad211.add ((x5_1).toNat * 4)).off + 2, none⟩ = some (.int .i64 ((rd_T43 l1 x5_1).f2)) ∧ w'.cell? ⟨(ad211.add ((x5_1).toNat * 4)).block, (ad211.add ((x5_1).toNat * 4)).off + 3, none⟩ = some (.string ((rd_T43 l1 x5_1).f3))) (ds := []) #[false, false, false, false, false, false, false, false, false, false] (by kernel_rfl) rfl rfl ⟨(zw HB hw210_0), (zw HB hw210_1), (zw HB hw210_2), (zw HB hw210_3), (zw HB hw211_0), (zw HB hw211_1), (zw HB hw211_2), (zw HB hw211_3)⟩ (fun hHeld => ?_); refine with_tabW laws_eqSkyHopS.tab6 laws_eqSkyHopS.bits6 (fun HT_ HW_ => ?_)
   generalize wr.drew = w9 at HB hx210_0 hx210_1 hx210_2 hx210_3 hx211_0 hx211_1 hx211_2 hx211_3 hHeld ⊢
   refine zq HT_ 0 ?_
   refine zq HT_ 1 ?_
   refine zq HT_ 2 ?_
   refine zq HT_ 4 ?_
   refine zq HT_ 5 ?_
   refine zq HT_ 6 ?_
   refine zk8 HT_ HW_ hHeld 3 ?_
   refine zk8 HT_ HW_ hHeld 7 ?_
   refine zo HT_ 8 (fun K hK => ?_)
   refine zgo Try.func30 #[.agg #[.string ((rd_T43 l0 x5_1).f0), .string ((rd_T43 l0 x5_1).f1), .int .i64 ((rd_T43 l0 x5_1).f2), .string ((rd_T43 l0 x5_1).f3)], .agg #[.string ((rd_T43 l1 x5_1).f0), .string ((rd_T43 l1 x5_1).f1), .int .i64 ((rd_T43 l1 x5_1).f2), .string ((rd_T43 l1 x5_1).f3)]] ?_
   with_reducible refine (laws_eqSkyHop.calls ((rd_T43 l0 x5_1).f0) ((rd_T43 l0 x5_1).f1) ((rd_T43 l0 x5_1).f2) ((rd_T43 l0 x5_1).f3) ((rd_T43 l1 x5_1).f0) ((rd_T43 l1 x5_1).f1) ((rd_T43 l1 x5_1).f2) ((rd_T43 l1 x5_1).f3) true _ A7.out).mono ?_
   rintro e w10 ⟨rfl, hb⟩
   refine ⟨_, rfl, ?_⟩
   replace HB := zE (zs0 HB) hb
   (try clear hb)
   (try clear hb2)
   (try clear hk)
   (try clear hi)
   refine hK.out _ _ ⟨(zw HB hw210_0), (zw HB hw210_1), (zw HB hw210_2), (zw HB hw210_3), (zw HB hw211_0), (zw HB hw211_1), (zw HB hw211_2), (zw HB hw211_3)⟩ (fun hHeld => ?_)
   clear hK K
   refine zN ?_
   refine zq HT_ 9 ?_
   refine done_ (done_of HT_.out (by kernel_rfl)) ?_
   try go_wp2
   go_roundg k1
   case measure => have := HK1.out; omega
   case rel => exact ⟨(wrap64 (x5_1 + 1)), zi, H', ⟨by have := HK1.out; omega⟩, ⟨zs0 HB⟩⟩
def laws_eqSkyIndex.f (k : Nat) (l0_0 : List (S61)) (l0_1 : List (S43)) (l1_0 : List (S61)) (l1_1 : List (S43)) : Option (Bool) := (laws_eqSkyRowS.f k l0_0 l1_0).bind fun t215 => (if t215 = true then ((laws_eqSkyHopS.f k l0_1 l1_1).bind fun t216 => (if t216 = true then (some true) else (some false))) else (some false))
set_option maxHeartbeats 8000000 in
set_option maxRecDepth 100000 in
theorem laws_eqSkyIndex.calls (k : Nat) (A0_0 : Option Addr) (c0_0 : Nat) (l0_0 : List (S61)) (A0_1 : Option Addr) (c0_1 : Nat) (l0_1 : List (S43)) (A1_0 : Option Addr) (c1_0 : Nat) (l1_0 : List (S61)) (A1_1 : Option Addr) (c1_1 : Nat) (l1_1 : List (S43)) (r : Bool) (w : World) (hr0_0 : Kd.C k61 w A0_0 l0_0.length l0_0) (hc0_0 : l0_0.length ≤ c0_0) (hr0_1 : Kd.C k43 w A0_1 l0_1.length l0_1) (hc0_1 : l0_1.length ≤ c0_1) (hr1_0 : Kd.C k61 w A1_0 l1_0.length l1_0) (hc1_0 : l1_0.length ≤ c1_0) (hr1_1 : Kd.C k43 w A1_1 l1_1.length l1_1) (hc1_1 : l1_1.length ≤ c1_1) (h : laws_eqSkyIndex.f k l0_0 l0_1 l1_0 l1_1 = some r) :
 Calls Try.prog 9 #[.agg #[.slice A0_0 l0_0.length c0_0, .slice A0_1 l0_1.length c0_1], .agg #[.slice A1_0 l1_0.length c1_0, .slice A1_1 l1_1.length c1_1]] w fun e w' => e = .returned (.bool r) ∧ Below w.heap.size w w' := by
 have hu32 := Try.underlying32
 have HR0_0 := Aside0.mk hr0_0
 have HC0_0 := Aside0.mk hc0_0
 clear hr0_0 hc0_0
 have HR0_1 := Aside0.mk hr0_1
 have HC0_1 := Aside0.mk hc0_1
 clear hr0_1 hc0_1
 have HR1_0 := Aside0.mk hr1_0
 have HC1_0 := Aside0.mk hc1_0
 clear hr1_0 hc1_0
 have HR1_1 := Aside0.mk hr1_1
 have HC1_1 := Aside0.mk hc1_1
 clear hr1_1 hc1_1
 have HB := Aside0.mk (Below.refl w.heap.size w)
 have H : ((laws_eqSkyRowS.f k l0_0 l1_0).bind fun t215 => (if t215 = true then ((laws_eqSkyHopS.f k l0_1 l1_1).bind fun t216 => (if t216 = true then (some true) else (some false))) else (some false))) = some r := h
 clear h
 replace H := zbd H; obtain ⟨t215, A3, H⟩ := H
 by_cases c4 : t215 = true
 rotate_left
 ·replace c4 := Bool.eq_false_iff.mpr c4
  subst c4
  have H1 : (some false) = some r := by rw [if_neg (show ¬ (false = true) by decide)] at H; exact H
  clear H
  have H := H1
  clear H1
  obtain rfl := Option.some.inj H
  go_enter Try.func9, Try.ntmps9
  go_wp2_with (first | ((with_reducible refine gate_dst (N := 2) rfl ?_); refine zbx 2 #[.slice A0_0 l0_0.length c0_0, .slice A0_1 l0_1.length c0_1] 32 ?_; intro gb213 hg w25 hbox hb; have BK213 := zA hbox; have GW213 := zgs hg (zs0 HB); have GE213 := zgs hg (zs0 HB); replace HB := zE (zs0 HB) hb; clear hb hbox hg) | ((with_reducible refine gate_dst (N := 3) rfl ?_); refine zbx 3 #[.slice A1_0 l1_0.length c1_0, .slice A1_1 l1_1.length c1_1] 32 ?_; intro gb214 hg w26 hbox hb; have BK214 := zA hbox; have GW214 := zgs hg (zs1 HB GE213); have GE214 := zgs hg (zs1 HB GE213); have NB213_214 := zne hg BK213; have NB214_213 := znf hg BK213; replace BK213 := zb BK213 hb; replace HB := zE (zs1 HB GE213) hb; clear hb hbox hg; have hnb27 := NB213_214.out; have hnc27 := NB214_213.out; obtain ⟨hcz28_0, hcz28_1⟩ := zd2 BK213; obtain ⟨hfz28_0, hfz28_1⟩ := zn2 BK213; obtain ⟨hcz29_0, hcz29_1⟩ := zd2 BK214; obtain ⟨hfz29_0, hfz29_1⟩ := zn2 BK214) | ((with_reducible refine gate_callee (f := 20) rfl ?_); refine zgl (N := some 9) Try.func20 #[.slice A0_0 l0_0.length c0_0, .slice A1_0 l1_0.length c1_0] ?_; (with_reducible refine (laws_eqSkyRowS.calls k _ _ l0_0 _ _ l1_0 false _ ?side1 ?side2 ?side3 ?side4 A3.out).mono ?_); (case side1 => exact zC HR0_0 HB); (case side2 => exact HC0_0.out); (case side3 => exact zC HR1_0 HB); (case side4 => exact HC1_0.out); rintro e w30 ⟨rfl, hb⟩; refine ⟨_, rfl, ?_⟩; replace BK213 := zb BK213 hb; replace BK214 := zb BK214 hb; replace HB := zE (zs2 HB GE213 GE214) hb; (try clear hb); (try clear hb2); (try clear hk); (try clear hi)))
  go_ret
  exact ⟨ze, zs2 HB GE213 GE214⟩
 subst c4
 have H1 : ((laws_eqSkyHopS.f k l0_1 l1_1).bind fun t216 => (if t216 = true then (some true) else (some false))) = some r := by rw [if_pos rfl] at H; exact H
 clear H
 have H := H1
 clear H1
 replace H := zbd H; obtain ⟨t216, A5, H⟩ := H
 by_cases c6 : t216 = true
 ·subst c6
  have H1 : (some true) = some r := by rw [if_pos rfl] at H; exact H
  clear H
  have H := H1
  clear H1
  obtain rfl := Option.some.inj H
  go_enter Try.func9, Try.ntmps9
  go_wp2_with (first | ((with_reducible refine gate_dst (N := 2) rfl ?_); refine zbx 2 #[.slice A0_0 l0_0.length c0_0, .slice A0_1 l0_1.length c0_1] 32 ?_; intro gb213 hg w7 hbox hb; have BK213 := zA hbox; have GW213 := zgs hg (zs0 HB); have GE213 := zgs hg (zs0 HB); replace HB := zE (zs0 HB) hb; clear hb hbox hg) | ((with_reducible refine gate_dst (N := 3) rfl ?_); refine zbx 3 #[.slice A1_0 l1_0.length c1_0, .slice A1_1 l1_1.length c1_1] 32 ?_; intro gb214 hg w8 hbox hb; have BK214 := zA hbox; have GW214 := zgs hg (zs1 HB GE213); have GE214 := zgs hg (zs1 HB GE213); have NB213_214 := zne hg BK213; have NB214_213 := znf hg BK213; replace BK213 := zb BK213 hb; replace HB := zE (zs1 HB GE213) hb; clear hb hbox hg; have hnb9 := NB213_214.out; have hnc9 := NB214_213.out; obtain ⟨hcz10_0, hcz10_1⟩ := zd2 BK213; obtain ⟨hfz10_0, hfz10_1⟩ := zn2 BK213; obtain ⟨hcz11_0, hcz11_1⟩ := zd2 BK214; obtain ⟨hfz11_0, hfz11_1⟩ := zn2 BK214) | ((with_reducible refine gate_callee (f := 20) rfl ?_); refine zgl (N := some 9) Try.func20 #[.slice A0_0 l0_0.length c0_0, .slice A1_0 l1_0.length c1_0] ?_; (with_reducible refine (laws_eqSkyRowS.calls k _ _ l0_0 _ _ l1_0 true _ ?side1 ?side2 ?side3 ?side4 A3.out).mono ?_); (case side1 => exact zC HR0_0 HB); (case side2 => exact HC0_0.out); (case side3 => exact zC HR1_0 HB); (case side4 => exact HC1_0.out); rintro e w12 ⟨rfl, hb⟩; refine ⟨_, rfl, ?_⟩; replace BK213 := zb BK213 hb; replace BK214 := zb BK214 hb; replace HB := zE (zs2 HB GE213 GE214) hb; (try clear hb); (try clear hb2); (try clear hk); (try clear hi); obtain ⟨hcz13_0, hcz13_1⟩ := zd2 BK213; obtain ⟨hfz13_0, hfz13_1⟩ := zn2 BK213; obtain ⟨hcz14_0, hcz14_1⟩ := zd2 BK214; obtain ⟨hfz14_0, hfz14_1⟩ := zn2 BK214) | ((with_reducible refine gate_callee (f := 21) rfl ?_); refine zgl (N := some 15) Try.func21 #[.slice A0_1 l0_1.length c0_1, .slice A1_1 l1_1.length c1_1] ?_; (with_reducible refine (laws_eqSkyHopS.calls k _ _ l0_1 _ _ l1_1 true _ ?side1 ?side2 ?side3 ?side4 A5.out).mono ?_); (case side1 => exact zC HR0_1 HB); (case side2 => exact HC0_1.out); (case side3 => exact zC HR1_1 HB); (case side4 => exact HC1_1.out); rintro e w15 ⟨rfl, hb⟩; refine ⟨_, rfl, ?_⟩; replace BK213 := zb BK213 hb; replace BK214 := zb BK214 hb; replace HB := zE (zs2 HB GE213 GE214) hb; (try clear hb); (try clear hb2); (try clear hk); (try clear hi)))
  go_ret
  exact ⟨ze, zs2 HB GE213 GE214⟩
 replace c6 := Bool.eq_false_iff.mpr c6
 subst c6
 have H1 : (some false) = some r := by rw [if_neg (show ¬ (false = true) by decide)] at H; exact H
 clear H
 have H := H1
 clear H1
 obtain rfl := Option.some.inj H
 go_enter Try.func9, Try.ntmps9
 go_wp2_with (first | ((with_reducible refine gate_dst (N := 2) rfl ?_); refine zbx 2 #[.slice A0_0 l0_0.length c0_0, .slice A0_1 l0_1.length c0_1] 32 ?_; intro gb213 hg w16 hbox hb; have BK213 := zA hbox; have GW213 := zgs hg (zs0 HB); have GE213 := zgs hg (zs0 HB); replace HB := zE (zs0 HB) hb; clear hb hbox hg) | ((with_reducible refine gate_dst (N := 3) rfl ?_); refine zbx 3 #[.slice A1_0 l1_0.length c1_0, .slice A1_1 l1_1.length c1_1] 32 ?_; intro gb214 hg w17 hbox hb; have BK214 := zA hbox; have GW214 := zgs hg (zs1 HB GE213); have GE214 := zgs hg (zs1 HB GE213); have NB213_214 := zne hg BK213; have NB214_213 := znf hg BK213; replace BK213 := zb BK213 hb; replace HB := zE (zs1 HB GE213) hb; clear hb hbox hg; have hnb18 := NB213_214.out; have hnc18 := NB214_213.out; obtain ⟨hcz19_0, hcz19_1⟩ := zd2 BK213; obtain ⟨hfz19_0, hfz19_1⟩ := zn2 BK213; obtain ⟨hcz20_0, hcz20_1⟩ := zd2 BK214; obtain ⟨hfz20_0, hfz20_1⟩ := zn2 BK214) | ((with_reducible refine gate_callee (f := 20) rfl ?_); refine zgl (N := some 9) Try.func20 #[.slice A0_0 l0_0.length c0_0, .slice A1_0 l1_0.length c1_0] ?_; (with_reducible refine (laws_eqSkyRowS.calls k _ _ l0_0 _ _ l1_0 true _ ?side1 ?side2 ?side3 ?side4 A3.out).mono ?_); (case side1 => exact zC HR0_0 HB); (case side2 => exact HC0_0.out); (case side3 => exact zC HR1_0 HB); (case side4 => exact HC1_0.out); rintro e w21 ⟨rfl, hb⟩; refine ⟨_, rfl, ?_⟩; replace BK213 := zb BK213 hb; replace BK214 := zb BK214 hb; replace HB := zE (zs2 HB GE213 GE214) hb; (try clear hb); (try clear hb2); (try clear hk); (try clear hi); obtain ⟨hcz22_0, hcz22_1⟩ := zd2 BK213; obtain ⟨hfz22_0, hfz22_1⟩ := zn2 BK213; obtain ⟨hcz23_0, hcz23_1⟩ := zd2 BK214; obtain ⟨hfz23_0, hfz23_1⟩ := zn2 BK214) | ((with_reducible refine gate_callee (f := 21) rfl ?_); refine zgl (N := some 15) Try.func21 #[.slice A0_1 l0_1.length c0_1, .slice A1_1 l1_1.length c1_1] ?_; (with_reducible refine (laws_eqSkyHopS.calls k _ _ l0_1 _ _ l1_1 false _ ?side1 ?side2 ?side3 ?side4 A5.out).mono ?_); (case side1 => exact zC HR0_1 HB); (case side2 => exact HC0_1.out); (case side3 => exact zC HR1_1 HB); (case side4 => exact HC1_1.out); rintro e w24 ⟨rfl, hb⟩; refine ⟨_, rfl, ?_⟩; replace BK213 := zb BK213 hb; replace BK214 := zb BK214 hb; replace HB := zE (zs2 HB GE213 GE214) hb; (try clear hb); (try clear hb2); (try clear hk); (try clear hi)))
 go_ret
 exact ⟨ze, zs2 HB GE213 GE214⟩
def laws_markText.l0 : Nat → Int → ByteArray → Option (ByteArray)
 | 0, _, _ => none
 | k + 1, x0, x3 => if x0 > 0 then ((some (([(wrap64 (48 + (Int.tmod x0 10))) % 256] : List Int) : List Int)).bind fun y217 => (if (strOfNums y217).size + x3.size ≤ 9223372036854775807 then (laws_markText.l0 k (wrap64 (Int.tdiv x0 10)) ((strOfNums y217) ++ x3)) else (none))) else (if 1 + x3.size ≤ 9223372036854775807 then (some ((⟨#[109]⟩ : ByteArray) ++ x3)) else (none))
def laws_markText.f (k : Nat) (a0 : Int) : Option (ByteArray) := if a0 ≤ 0 then (some (⟨#[109, 48]⟩ : ByteArray)) else (laws_markText.l0 k a0 (⟨#[]⟩ : ByteArray))
set_option maxHeartbeats 8000000 in
set_option maxRecDepth 100000 in
theorem laws_markText.calls (k : Nat) (a0 : Int) (r : ByteArray) (w : World) (h : laws_markText.f k a0 = some r) :
 Calls Try.prog 24 #[.int .i64 a0] w fun e w' => e = .returned (.string r) ∧ Below w.heap.size w w' := by
 have HB := Aside0.mk (Below.refl w.heap.size w)
 have H : (if a0 ≤ 0 then (some (⟨#[109, 48]⟩ : ByteArray)) else (laws_markText.l0 k a0 (⟨#[]⟩ : ByteArray))) = some r := h
 clear h
 by_cases c2 : a0 ≤ 0
 ·rw [if_pos c2] at H
  have c2b0 : decide (a0 ≤ 0) = true := decide_eq_true c2
  clear c2
  obtain rfl := Option.some.inj H
  go_enter Try.func24, Try.ntmps24
  go_wp2
  go_ret
  exact ⟨ze, zs0 HB⟩
 rw [if_neg c2] at H
 have c2b0 : decide (a0 ≤ 0) = false := decide_eq_false c2
 clear c2
 have H' := Aside0.mk H
 clear H
 go_enter Try.func24, Try.ntmps24
 go_wp2
 go_loopg [0, 3] k (fun kq v0 v3 w' => ∃ (x0_1 : Int) (x3_1 : ByteArray), v0 = .int .i64 x0_1 ∧ v3 = .string x3_1 ∧ Aside0 (laws_markText.l0 kq x0_1 x3_1 = some r) ∧ Aside0 (kq ≤ k) ∧ Aside0 (Below w.heap.size w w'))
 case atStart => exact ⟨(a0), ((⟨#[]⟩ : ByteArray)), zi, zi, H', ⟨Nat.le_refl _⟩, ⟨zs0 HB⟩⟩
 case round =>
  clear H'
  try clear c2
  try clear c2b0
  try clear p2
  obtain ⟨x0_1, x3_1, rfl, rfl, HA, HK1, HB⟩ := hrel
  cases gk with
  | zero => exact absurd HA.out (by simp [laws_markText.l0])
  | succ k1 =>
   have H := HA.out
   clear HA
   simp only [laws_markText.l0] at H
   by_cases c3 : x0_1 > 0
   rotate_left
   ·rw [if_neg c3] at H
    have c3b0 : decide (0 < x0_1) = false := decide_eq_false c3
    clear c3
    by_cases c8 : 1 + x3_1.size ≤ 9223372036854775807
    rotate_left
    ·rw [if_neg c8] at H
     exact absurd H (by simp)
    rw [if_pos c8] at H
    have c8b0 := eq_true c8
    have c8b1 : decide (1 + x3_1.size ≤ 9223372036854775807) = true := decide_eq_true c8
    try have c8b2 : (9223372036854775807 < 1 + x3_1.size) = False := eq_false (Nat.not_lt.2 c8)
    obtain rfl := Option.some.inj H
    go_wp2
    go_ret
    exact ⟨ze, zs0 HB⟩
   rw [if_pos c3] at H
   have c3b0 : decide (0 < x0_1) = true := decide_eq_true c3
   clear c3
   obtain ⟨y217, hy217⟩ : ∃ y_ : List Int, y_ = (([(wrap64 (48 + (Int.tmod x0_1 10))) % 256] : List Int)) := ⟨_, rfl⟩
   replace H : (if (strOfNums y217).size + x3_1.size ≤ 9223372036854775807 then (laws_markText.l0 k1 (wrap64 (Int.tdiv x0_1 10)) ((strOfNums y217) ++ x3_1)) else (none)) = some r := by first | (rw [hy217]; with_reducible exact H) | (have H2_ := (Option.bind_some _ _).symm.trans H; rw [hy217]; with_reducible exact H2_) | (have H2_ := (Option.bind_some _ _).symm.trans H; with_reducible exact H2_) | with_reducible exact H | (rw [hy217]; exact H) | exact H
   have Ny217 := Aside0.mk hy217
   clear hy217
   by_cases c4 : (strOfNums y217).size + x3_1.size ≤ 9223372036854775807
   rotate_left
   ·rw [if_neg c4] at H
    exact absurd H (by simp)
   rw [if_pos c4] at H
   have c4b0 := eq_true c4
   have c4b1 : decide ((strOfNums y217).size + x3_1.size ≤ 9223372036854775807) = true := decide_eq_true c4
   try have c4b2 : (9223372036854775807 < (strOfNums y217).size + x3_1.size) = False := eq_false (Nat.not_lt.2 c4)
   have H' := Aside0.mk H
   clear H
   go_wp2_with (first | ((with_reducible refine gate_dst (N := 12) rfl ?_); refine Kd.R_lit (Kd.int .u8) _ 5 ?hg (N := 12) ?hd (xs := ([(wrap64 (48 + (Int.tmod x0_1 10))) % 256] : List Int)) (inner := [.int .u8 ((wrap64 (48 + (Int.tmod x0_1 10))) % 256)]) (ok := fun _ => True) (okp := fun _ => True) ?hr ?hp (fun _ hk => hk) trivial (Below.refl _ _) (Nat.le_refl _) (by simp) ?_; (case hd => rfl); (case hg => rfl); (case hr => first | (go_simp; done) | (go_simp; rfl)); (case hp => exact (Reps.one (show Kd.M (Kd.int .u8) _ _ _ ((wrap64 (48 + (Int.tmod x0_1 10))) % 256) [.int .u8 ((wrap64 (48 + (Int.tmod x0_1 10))) % 256)] from rfl) (Reps.none _ _))); intro v218 w5 ho6 hb hg_ hnew_; clear hg_ hnew_; (first | rw [← Ny217.out] at ho6 | (simp only [Int.reduceToNat] at ho6; rw [← Ny217.out] at ho6)); have HO219 := Aside0.mk (Kd.R_lower ho6 (below_size (zs0 HB))); replace HB := zE (zs0 HB) hb; clear hb ho6; have hcv7 := own_string (P := Try.prog) Try.underlying67 Try.underlying5 Try.underlying9 (Kd.own_of_R HO219.out)))
   go_roundg k1
   case measure => have := HK1.out; omega
   case rel => exact ⟨(wrap64 (Int.tdiv x0_1 10)), ((strOfNums y217) ++ x3_1), zi, zi, H', ⟨by have := HK1.out; omega⟩, ⟨zs0 HB⟩⟩
end Go.Proofs.Ytkdhfgonjipbbaa.QFnExactSkyAlong
