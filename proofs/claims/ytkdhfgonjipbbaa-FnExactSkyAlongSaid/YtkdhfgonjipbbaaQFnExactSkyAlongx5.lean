/- The walk of what the law FnExactSkyAlong reaches: laid by a program of this session (ownprint.py). -/
import Derived.Test.YtkdhfgonjipbbaaQFnExactSkyAlongx0
import Derived.Test.YtkdhfgonjipbbaaQFnExactSkyAlongx4
namespace Go.Proofs.Ytkdhfgonjipbbaa.QFnExactSkyAlong
open Go.RowKit Go.Proofs.YtkdhfgonjipbbaaW.PrintWords Go.Proofs.YtkdhfgonjipbbaaW.PrintLast Go.Proofs.YtkdhfgonjipbbaaW.PrintMore Go.Proofs.Ytkdhfgonjipbbaa.Z
attribute [local go_sem] max2_int min2_int max_two min_two max_three min_three max_four min_four zdn   -- for this text's walks alone
set_option linter.unusedVariables false
set_option linter.unusedSimpArgs false
def laws_eqSkyRowS.l0 : Nat → List (S61) → List (S61) → Int → Option (Bool)
 | 0, _, _, _ => none
 | k + 1, x0, x1, x5 => if x5 < (x0.length : Int) then (if 0 ≤ x5 then (if x5 < (x1.length : Int) then ((laws_eqSkyRow.f k ((rd_T61 x0 x5).f0) ((rd_T61 x0 x5).f1) ((rd_T61 x0 x5).f2) ((rd_T61 x1 x5).f0) ((rd_T61 x1 x5).f1) ((rd_T61 x1 x5).f2)).bind fun t207 => (if t207 = true then (laws_eqSkyRowS.l0 k x0 x1 (wrap64 (x5 + 1))) else (some false))) else (none)) else (none)) else (some true)
def laws_eqSkyRowS.f (k : Nat) (l0 : List (S61)) (l1 : List (S61)) : Option (Bool) := if (l0.length : Int) = (l1.length : Int) then (laws_eqSkyRowS.l0 k l0 l1 0) else (some false)
def laws_eqSkyRowS.T6 : Bool × List (List Nat × List Nat) := (true, [([], []), ([], []), ([0, 1], [0, 1]), ([2], [2]), ([], []), ([], []), ([4, 5], [4, 5]), ([6], [6]), ([3, 7], [3, 7]), ([8], [8])])
def laws_eqSkyRowS.B6 : List Nat := [0, 0, 3, 7, 0, 0, 48, 112, 255, 511]
theorem laws_eqSkyRowS.tab6 : rtab .any (opsOf Try.f20 6) = laws_eqSkyRowS.T6 := by kernel_rfl
theorem laws_eqSkyRowS.bits6 : waitsOk laws_eqSkyRowS.T6.2 laws_eqSkyRowS.B6 = true := by kernel_rfl
set_option maxHeartbeats 8000000 in
set_option maxRecDepth 100000 in
theorem laws_eqSkyRowS.calls (k : Nat) (A0 : Option Addr) (c0 : Nat) (l0 : List (S61)) (A1 : Option Addr) (c1 : Nat) (l1 : List (S61)) (r : Bool) (w : World) (hr0 : Kd.C k61 w A0 l0.length l0) (hc0 : l0.length ≤ c0) (hr1 : Kd.C k61 w A1 l1.length l1) (hc1 : l1.length ≤ c1) (h : laws_eqSkyRowS.f k l0 l1 = some r) :
 Calls Try.prog 20 #[.slice A0 l0.length c0, .slice A1 l1.length c1] w fun e w' => e = .returned (.bool r) ∧ Below w.heap.size w w' := by
 have hu61 := Try.underlying61
 have HR0 := Aside0.mk hr0
 have HC0 := Aside0.mk hc0
 clear hr0 hc0
 have HR1 := Aside0.mk hr1
 have HC1 := Aside0.mk hc1
 clear hr1 hc1
 have HB := Aside0.mk (Below.refl w.heap.size w)
 have H : (if (l0.length : Int) = (l1.length : Int) then (laws_eqSkyRowS.l0 k l0 l1 0) else (some false)) = some r := h
 clear h
 by_cases c3 : (l0.length : Int) = (l1.length : Int)
 rotate_left
 ·rw [if_neg c3] at H
  have c3b0 : ((l0.length : Int) == (l1.length : Int)) = false := beq_eq_false_iff_ne.mpr c3
  have c3b1 : ((l0.length : Int) != (l1.length : Int)) = true := bne_iff_ne.mpr c3
  have c3b2 : (l0.length == l1.length) = false := by first | simpa using c3 | (simp at c3 ⊢; omega)
  obtain rfl := Option.some.inj H
  go_enter Try.func20, Try.ntmps20
  go_wp2
  go_ret
  exact ⟨ze, zs0 HB⟩
 rw [if_pos c3] at H
 have c3b0 : ((l0.length : Int) == (l1.length : Int)) = true := beq_iff_eq.mpr c3
 have c3b1 : ((l0.length : Int) != (l1.length : Int)) = false := bne_eq_false_iff_eq.mpr c3
 have c3b2 : (l0.length == l1.length) = true := by first | simpa using c3 | (simp at c3 ⊢; omega)
 clear c3
 have H' := Aside0.mk H
 clear H
 go_enter Try.func20, Try.ntmps20
 go_wp2
 go_loopg [5] k (fun kq v5 w' => ∃ (x5_1 : Int), v5 = .int .i64 x5_1 ∧ Aside0 (laws_eqSkyRowS.l0 kq l0 l1 x5_1 = some r) ∧ Aside0 (kq ≤ k) ∧ Aside0 (Below w.heap.size w w'))
 case atStart => exact ⟨(0), zi, H', ⟨Nat.le_refl _⟩, ⟨zs0 HB⟩⟩
 case round =>
  clear H'
  try clear c1
  try clear c2
  try clear p2
  try clear c3
  try clear c3b0
  try clear c3b1
  try clear c3b2
  obtain ⟨x5_1, rfl, HA, HK1, HB⟩ := hrel
  cases gk with
  | zero => exact absurd HA.out (by simp [laws_eqSkyRowS.l0])
  | succ k1 =>
   have H := HA.out
   clear HA
   simp only [laws_eqSkyRowS.l0] at H
   by_cases c4 : x5_1 < (l0.length : Int)
   rotate_left
   ·rw [if_neg c4] at H
    have c4b0 : decide (x5_1 < (l0.length : Int)) = false := decide_eq_false c4
    clear c4
    obtain rfl := Option.some.inj H
    go_wp2
    go_ret
    exact ⟨ze, zs0 HB⟩
   rw [if_pos c4] at H
   have c4b0 : decide (x5_1 < (l0.length : Int)) = true := decide_eq_true c4
   clear c4
   by_cases c5 : 0 ≤ x5_1
   rotate_left
   ·rw [if_neg c5] at H
    exact absurd H (by simp)
   rw [if_pos c5] at H
   have c5b0 : decide (0 ≤ x5_1) = true := decide_eq_true c5
   clear c5
   by_cases c6 : x5_1 < (l1.length : Int)
   rotate_left
   ·rw [if_neg c6] at H
    exact absurd H (by simp)
   rw [if_pos c6] at H
   have c6b0 : decide (x5_1 < (l1.length : Int)) = true := decide_eq_true c6
   clear c6
   replace H := zbd H; obtain ⟨t207, A7, H⟩ := H
   by_cases c8 : t207 = true
   rotate_left
   ·replace c8 := Bool.eq_false_iff.mpr c8
    subst c8
    have H1 : (some false) = some r := by rw [if_neg (show ¬ (false = true) by decide)] at H; exact H
    clear H
    have H := H1
    clear H1
    obtain rfl := Option.some.inj H
    try go_wp2
    replace HB := Aside0.mk (below_drew1 HB.out)
    have p205 : 0 ≤ (x5_1 : Int) := za
    have q205 : x5_1 < (l0.length : Int) := za
    obtain ⟨ad205, A205_2, c205_2, e205, hx205_0, hx205_1, hx205_2, hl205_2, hi205_2⟩ := at_T61 HR0.out x5_1 p205 q205
    have hw205_2 := hx205_2
    have hw205_1 := hx205_1
    have hw205_0 := hx205_0
    cases e205
    replace hx205_0 := zx HB hx205_0
    replace hx205_1 := zx HB hx205_1
    replace hx205_2 := zx HB hx205_2
    have HR205_2 := Aside0.mk hi205_2
    have HC205_2 := Aside0.mk hl205_2
    clear hi205_2 hl205_2
    replace p205 := eq_true p205
    replace q205 := eq_true q205
    have p206 : 0 ≤ (x5_1 : Int) := za
    have q206 : x5_1 < (l1.length : Int) := za
    obtain ⟨ad206, A206_2, c206_2, e206, hx206_0, hx206_1, hx206_2, hl206_2, hi206_2⟩ := at_T61 HR1.out x5_1 p206 q206
    have hw206_2 := hx206_2
    have hw206_1 := hx206_1
    have hw206_0 := hx206_0
    cases e206
    replace hx206_0 := zx HB hx206_0
    replace hx206_1 := zx HB hx206_1
    replace hx206_2 := zx HB hx206_2
    have HR206_2 := Aside0.mk hi206_2
    have HC206_2 := Aside0.mk hl206_2
    clear hi206_2 hl206_2
    replace p206 := eq_true p206
    replace q206 := eq_true q206
    refine start_ (n := 10) (S := fun w' => w'.cell? (ad205.add ((x5_1).toNat * 3)) = some (.int .i64 ((rd_T61 l0 x5_1).f0)) ∧ w'.cell? ⟨(ad205.add ((x5_1).toNat * 3)).block, (ad205.add ((x5_1).toNat * 3)).off + 1, none⟩ = some (.int .i64 ((rd_T61 l0 x5_1).f1)) ∧ w'.cell? ⟨(ad205.add ((x5_1).toNat * 3)).block, (ad205.add ((x5_1).toNat * 3)).off + 2, none⟩ = some (.slice A205_2 ((rd_T61 l0 x5_1).f2).length c205_2) ∧ w'.cell? (ad206.add ((x5_1).toNat * 3)) = some (.int .i64 ((rd_T61 l1 x5_1).f0)) ∧ w'.cell? ⟨(ad206.add ((x5_1).toNat * 3)).block, (ad206.add ((x5_1).toNat * 3)).off + 1, none⟩ = some (.int .i64 ((rd_T61 l1 x5_1).f1)) ∧ w'.cell? ⟨(ad206.add ((x5_1).toNat * 3)).block, (ad206.add ((x5_1).toNat * 3)).off + 2, none⟩ = some (.slice A206_2 ((rd_T61 l1 x5_1).f2).length c206_2)) (ds := []) #[false, false, false, false, false, false, false, false, false, false] (by kernel_rfl) rfl rfl ⟨(zw HB hw205_0), (zw HB hw205_1), (zw HB hw205_2), (zw HB hw206_0), (zw HB hw206_1), (zw HB hw206_2)⟩ (fun hHeld => ?_); refine with_tabW laws_eqSkyRowS.tab6 laws_eqSkyRowS.bits6 (fun HT_ HW_ => ?_)
    generalize wr.drew = w11 at HB HR205_2 HR206_2 hx205_0 hx205_1 hx205_2 hx206_0 hx206_1 hx206_2 hHeld ⊢
    refine zq HT_ 0 ?_
    refine zq HT_ 1 ?_
    refine zq HT_ 2 ?_
    refine zq HT_ 4 ?_
    refine zq HT_ 5 ?_
    refine zq HT_ 6 ?_
    refine zk6 HT_ HW_ hHeld 3 ?_
    refine zk6 HT_ HW_ hHeld 7 ?_
    refine zo HT_ 8 (fun K hK => ?_)
    refine zgo Try.func29 #[.agg #[.int .i64 ((rd_T61 l0 x5_1).f0), .int .i64 ((rd_T61 l0 x5_1).f1), .slice A205_2 ((rd_T61 l0 x5_1).f2).length c205_2], .agg #[.int .i64 ((rd_T61 l1 x5_1).f0), .int .i64 ((rd_T61 l1 x5_1).f1), .slice A206_2 ((rd_T61 l1 x5_1).f2).length c206_2]] ?_
    with_reducible refine (laws_eqSkyRow.calls k1 ((rd_T61 l0 x5_1).f0) ((rd_T61 l0 x5_1).f1) _ _ ((rd_T61 l0 x5_1).f2) ((rd_T61 l1 x5_1).f0) ((rd_T61 l1 x5_1).f1) _ _ ((rd_T61 l1 x5_1).f2) false _ ?side1 ?side2 ?side3 ?side4 A7.out).mono ?_
    (case side1 => exact zC HR205_2 HB)
    (case side2 => exact HC205_2.out)
    (case side3 => exact zC HR206_2 HB)
    (case side4 => exact HC206_2.out)
    rintro e w12 ⟨rfl, hb⟩
    refine ⟨_, rfl, ?_⟩
    replace HB := zE (zs0 HB) hb
    (try clear hb)
    (try clear hb2)
    (try clear hk)
    (try clear hi)
    refine hK.out _ _ ⟨(zw HB hw205_0), (zw HB hw205_1), (zw HB hw205_2), (zw HB hw206_0), (zw HB hw206_1), (zw HB hw206_2)⟩ (fun hHeld => ?_)
    clear hK K
    refine zN ?_
    refine zq HT_ 9 ?_
    refine done_ (done_of HT_.out (by kernel_rfl)) ?_
    try go_wp2
    go_ret
    exact ⟨ze, zs0 HB⟩
   subst c8
   have H1 : (laws_eqSkyRowS.l0 k1 l0 l1 (wrap64 (x5_1 + 1))) = some r := by rw [if_pos rfl] at H; exact H
   clear H
   have H := H1
   clear H1
   have H' := Aside0.mk H
   clear H
   try go_wp2
   replace HB := Aside0.mk (below_drew1 HB.out)
   have p205 : 0 ≤ (x5_1 : Int) := za
   have q205 : x5_1 < (l0.length : Int) := za
   obtain ⟨ad205, A205_2, c205_2, e205, hx205_0, hx205_1, hx205_2, hl205_2, hi205_2⟩ := at_T61 HR0.out x5_1 p205 q205
   have hw205_2 := hx205_2
   have hw205_1 := hx205_1
   have hw205_0 := hx205_0
   cases e205
   replace hx205_0 := zx HB hx205_0
   replace hx205_1 := zx HB hx205_1
   replace hx205_2 := zx HB hx205_2
   have HR205_2 := Aside0.mk hi205_2
   have HC205_2 := Aside0.mk hl205_2
   clear hi205_2 hl205_2
   replace p205 := eq_true p205
   replace q205 := eq_true q205
   have p206 : 0 ≤ (x5_1 : Int) := za
   have q206 : x5_1 < (l1.length : Int) := za
   obtain ⟨ad206, A206_2, c206_2, e206, hx206_0, hx206_1, hx206_2, hl206_2, hi206_2⟩ := at_T61 HR1.out x5_1 p206 q206
   have hw206_2 := hx206_2
   have hw206_1 := hx206_1
   have hw206_0 := hx206_0
   cases e206
   replace hx206_0 := zx HB hx206_0
   replace hx206_1 := zx HB hx206_1
   replace hx206_2 := zx HB hx206_2
   have HR206_2 := Aside0.mk hi206_2
   have HC206_2 := Aside0.mk hl206_2
   clear hi206_2 hl206_2
   replace p206 := eq_true p206
   replace q206 := eq_true q206
   refine start_ (n := 10) (S := fun w' => w'.cell? (ad205.add ((x5_1).toNat * 3)) = some (.int .i64 ((rd_T61 l0 x5_1).f0)) ∧ w'.cell? ⟨(ad205.add ((x5_1).toNat * 3)).block, (ad205.add ((x5_1).toNat * 3)).off + 1, none⟩ = some (.int .i64 ((rd_T61 l0 x5_1).f1)) ∧ w'.cell? ⟨(ad205.add ((x5_1).toNat * 3)).block, (ad205.add ((x5_1).toNat * 3)).off + 2, none⟩ = some (.slice A205_2 ((rd_T61 l0 x5_1).f2).length c205_2) ∧ w'.cell? (ad206.add ((x5_1).toNat * 3)) = some (.int .i64 ((rd_T61 l1 x5_1).f0)) ∧ w'.cell? ⟨(ad206.add ((x5_1).toNat * 3)).block, (ad206.add ((x5_1).toNat * 3)).off + 1, none⟩ = some (.int .i64 ((rd_T61 l1 x5_1).f1)) ∧ w'.cell? ⟨(ad206.add ((x5_1).toNat * 3)).block, (ad206.add ((x5_1).toNat * 3)).off + 2, none⟩ = some (.slice A206_2 ((rd_T61 l1 x5_1).f2).length c206_2)) (ds := []) #[false, false, false, false, false, false, false, false, false, false] (by kernel_rfl) rfl rfl ⟨(zw HB hw205_0), (zw HB hw205_1), (zw HB hw205_2), (zw HB hw206_0), (zw HB hw206_1), (zw HB hw206_2)⟩ (fun hHeld => ?_); refine with_tabW laws_eqSkyRowS.tab6 laws_eqSkyRowS.bits6 (fun HT_ HW_ => ?_)
   generalize wr.drew = w9 at HB HR205_2 HR206_2 hx205_0 hx205_1 hx205_2 hx206_0 hx206_1 hx206_2 hHeld ⊢
   refine zq HT_ 0 ?_
   refine zq HT_ 1 ?_
   refine zq HT_ 2 ?_
   refine zq HT_ 4 ?_
   refine zq HT_ 5 ?_
   refine zq HT_ 6 ?_
   refine zk6 HT_ HW_ hHeld 3 ?_
   refine zk6 HT_ HW_ hHeld 7 ?_
   refine zo HT_ 8 (fun K hK => ?_)
   refine zgo Try.func29 #[.agg #[.int .i64 ((rd_T61 l0 x5_1).f0), .int .i64 ((rd_T61 l0 x5_1).f1), .slice A205_2 ((rd_T61 l0 x5_1).f2).length c205_2], .agg #[.int .i64 ((rd_T61 l1 x5_1).f0), .int .i64 ((rd_T61 l1 x5_1).f1), .slice A206_2 ((rd_T61 l1 x5_1).f2).length c206_2]] ?_
   with_reducible refine (laws_eqSkyRow.calls k1 ((rd_T61 l0 x5_1).f0) ((rd_T61 l0 x5_1).f1) _ _ ((rd_T61 l0 x5_1).f2) ((rd_T61 l1 x5_1).f0) ((rd_T61 l1 x5_1).f1) _ _ ((rd_T61 l1 x5_1).f2) true _ ?side1 ?side2 ?side3 ?side4 A7.out).mono ?_
   (case side1 => exact zC HR205_2 HB)
   (case side2 => exact HC205_2.out)
   (case side3 => exact zC HR206_2 HB)
   (case side4 => exact HC206_2.out)
   rintro e w10 ⟨rfl, hb⟩
   refine ⟨_, rfl, ?_⟩
   replace HB := zE (zs0 HB) hb
   (try clear hb)
   (try clear hb2)
   (try clear hk)
   (try clear hi)
   refine hK.out _ _ ⟨(zw HB hw205_0), (zw HB hw205_1), (zw HB hw205_2), (zw HB hw206_0), (zw HB hw206_1), (zw HB hw206_2)⟩ (fun hHeld => ?_)
   clear hK K
   refine zN ?_
   refine zq HT_ 9 ?_
   refine done_ (done_of HT_.out (by kernel_rfl)) ?_
   try go_wp2
   go_roundg k1
   case measure => have := HK1.out; omega
   case rel => exact ⟨(wrap64 (x5_1 + 1)), zi, H', ⟨by have := HK1.out; omega⟩, ⟨zs0 HB⟩⟩
def laws_eqSkyHop.f (a0_0 : ByteArray) (a0_1 : ByteArray) (a0_2 : Int) (a0_3 : ByteArray) (a1_0 : ByteArray) (a1_1 : ByteArray) (a1_2 : Int) (a1_3 : ByteArray) : Option (Bool) := if a0_0.toList = a1_0.toList then (if a0_1.toList = a1_1.toList then (if a0_2 = a1_2 then (if a0_3.toList = a1_3.toList then (some true) else (some false)) else (some false)) else (some false)) else (some false)
set_option maxHeartbeats 8000000 in
set_option maxRecDepth 100000 in
theorem laws_eqSkyHop.calls (a0_0 : ByteArray) (a0_1 : ByteArray) (a0_2 : Int) (a0_3 : ByteArray) (a1_0 : ByteArray) (a1_1 : ByteArray) (a1_2 : Int) (a1_3 : ByteArray) (r : Bool) (w : World) (h : laws_eqSkyHop.f a0_0 a0_1 a0_2 a0_3 a1_0 a1_1 a1_2 a1_3 = some r) :
 Calls Try.prog 30 #[.agg #[.string a0_0, .string a0_1, .int .i64 a0_2, .string a0_3], .agg #[.string a1_0, .string a1_1, .int .i64 a1_2, .string a1_3]] w fun e w' => e = .returned (.bool r) ∧ Below w.heap.size w w' := by
 have hu43 := Try.underlying43
 have HB := Aside0.mk (Below.refl w.heap.size w)
 have H : (if a0_0.toList = a1_0.toList then (if a0_1.toList = a1_1.toList then (if a0_2 = a1_2 then (if a0_3.toList = a1_3.toList then (some true) else (some false)) else (some false)) else (some false)) else (some false)) = some r := h
 clear h
 by_cases c3 : a0_0.toList = a1_0.toList
 rotate_left
 ·rw [if_neg c3] at H
  have c3b0 : (a0_0.toList == a1_0.toList) = false := beq_eq_false_iff_ne.mpr c3
  have c3b1 : (a0_0.toList != a1_0.toList) = true := bne_iff_ne.mpr c3
  obtain rfl := Option.some.inj H
  go_enter Try.func30, Try.ntmps30
  go_wp2_with (first | ((with_reducible refine gate_dst (N := 2) rfl ?_); refine zbx 2 #[.string a0_0, .string a0_1, .int .i64 a0_2, .string a0_3] 43 ?_; intro gb208 hg w27 hbox hb; have BK208 := zA hbox; have GW208 := zgs hg (zs0 HB); have GE208 := zgs hg (zs0 HB); replace HB := zE (zs0 HB) hb; clear hb hbox hg) | ((with_reducible refine gate_dst (N := 3) rfl ?_); refine zbx 3 #[.string a1_0, .string a1_1, .int .i64 a1_2, .string a1_3] 43 ?_; intro gb209 hg w28 hbox hb; have BK209 := zA hbox; have GW209 := zgs hg (zs1 HB GE208); have GE209 := zgs hg (zs1 HB GE208); have NB208_209 := zne hg BK208; have NB209_208 := znf hg BK208; replace BK208 := zb BK208 hb; replace HB := zE (zs1 HB GE208) hb; clear hb hbox hg; have hnb29 := NB208_209.out; have hnc29 := NB209_208.out; obtain ⟨hcz30_0, hcz30_1, hcz30_2, hcz30_3⟩ := zd4 BK208; obtain ⟨hfz30_0, hfz30_1, hfz30_2, hfz30_3⟩ := zn4 BK208; obtain ⟨hcz31_0, hcz31_1, hcz31_2, hcz31_3⟩ := zd4 BK209; obtain ⟨hfz31_0, hfz31_1, hfz31_2, hfz31_3⟩ := zn4 BK209))
  go_ret
  exact ⟨ze, zs2 HB GE208 GE209⟩
 rw [if_pos c3] at H
 have c3b0 : (a0_0.toList == a1_0.toList) = true := beq_iff_eq.mpr c3
 have c3b1 : (a0_0.toList != a1_0.toList) = false := bne_eq_false_iff_eq.mpr c3
 clear c3
 by_cases c4 : a0_1.toList = a1_1.toList
 rotate_left
 ·rw [if_neg c4] at H
  have c4b0 : (a0_1.toList == a1_1.toList) = false := beq_eq_false_iff_ne.mpr c4
  have c4b1 : (a0_1.toList != a1_1.toList) = true := bne_iff_ne.mpr c4
  obtain rfl := Option.some.inj H
  go_enter Try.func30, Try.ntmps30
  go_wp2_with (first | ((with_reducible refine gate_dst (N := 2) rfl ?_); refine zbx 2 #[.string a0_0, .string a0_1, .int .i64 a0_2, .string a0_3] 43 ?_; intro gb208 hg w22 hbox hb; have BK208 := zA hbox; have GW208 := zgs hg (zs0 HB); have GE208 := zgs hg (zs0 HB); replace HB := zE (zs0 HB) hb; clear hb hbox hg) | ((with_reducible refine gate_dst (N := 3) rfl ?_); refine zbx 3 #[.string a1_0, .string a1_1, .int .i64 a1_2, .string a1_3] 43 ?_; intro gb209 hg w23 hbox hb; have BK209 := zA hbox; have GW209 := zgs hg (zs1 HB GE208); have GE209 := zgs hg (zs1 HB GE208); have NB208_209 := zne hg BK208; have NB209_208 := znf hg BK208; replace BK208 := zb BK208 hb; replace HB := zE (zs1 HB GE208) hb; clear hb hbox hg; have hnb24 := NB208_209.out; have hnc24 := NB209_208.out; obtain ⟨hcz25_0, hcz25_1, hcz25_2, hcz25_3⟩ := zd4 BK208; obtain ⟨hfz25_0, hfz25_1, hfz25_2, hfz25_3⟩ := zn4 BK208; obtain ⟨hcz26_0, hcz26_1, hcz26_2, hcz26_3⟩ := zd4 BK209; obtain ⟨hfz26_0, hfz26_1, hfz26_2, hfz26_3⟩ := zn4 BK209))
  go_ret
  exact ⟨ze, zs2 HB GE208 GE209⟩
 rw [if_pos c4] at H
 have c4b0 : (a0_1.toList == a1_1.toList) = true := beq_iff_eq.mpr c4
 have c4b1 : (a0_1.toList != a1_1.toList) = false := bne_eq_false_iff_eq.mpr c4
 clear c4
 by_cases c5 : a0_2 = a1_2
 rotate_left
 ·rw [if_neg c5] at H
  have c5b0 : (a0_2 == a1_2) = false := beq_eq_false_iff_ne.mpr c5
  have c5b1 : (a0_2 != a1_2) = true := bne_iff_ne.mpr c5
  obtain rfl := Option.some.inj H
  go_enter Try.func30, Try.ntmps30
  go_wp2_with (first | ((with_reducible refine gate_dst (N := 2) rfl ?_); refine zbx 2 #[.string a0_0, .string a0_1, .int .i64 a0_2, .string a0_3] 43 ?_; intro gb208 hg w17 hbox hb; have BK208 := zA hbox; have GW208 := zgs hg (zs0 HB); have GE208 := zgs hg (zs0 HB); replace HB := zE (zs0 HB) hb; clear hb hbox hg) | ((with_reducible refine gate_dst (N := 3) rfl ?_); refine zbx 3 #[.string a1_0, .string a1_1, .int .i64 a1_2, .string a1_3] 43 ?_; intro gb209 hg w18 hbox hb; have BK209 := zA hbox; have GW209 := zgs hg (zs1 HB GE208); have GE209 := zgs hg (zs1 HB GE208); have NB208_209 := zne hg BK208; have NB209_208 := znf hg BK208; replace BK208 := zb BK208 hb; replace HB := zE (zs1 HB GE208) hb; clear hb hbox hg; have hnb19 := NB208_209.out; have hnc19 := NB209_208.out; obtain ⟨hcz20_0, hcz20_1, hcz20_2, hcz20_3⟩ := zd4 BK208; obtain ⟨hfz20_0, hfz20_1, hfz20_2, hfz20_3⟩ := zn4 BK208; obtain ⟨hcz21_0, hcz21_1, hcz21_2, hcz21_3⟩ := zd4 BK209; obtain ⟨hfz21_0, hfz21_1, hfz21_2, hfz21_3⟩ := zn4 BK209))
  go_ret
  exact ⟨ze, zs2 HB GE208 GE209⟩
 rw [if_pos c5] at H
 have c5b0 : (a0_2 == a1_2) = true := beq_iff_eq.mpr c5
 have c5b1 : (a0_2 != a1_2) = false := bne_eq_false_iff_eq.mpr c5
 clear c5
 by_cases c6 : a0_3.toList = a1_3.toList
 rotate_left
 ·rw [if_neg c6] at H
  have c6b0 : (a0_3.toList == a1_3.toList) = false := beq_eq_false_iff_ne.mpr c6
  have c6b1 : (a0_3.toList != a1_3.toList) = true := bne_iff_ne.mpr c6
  obtain rfl := Option.some.inj H
  go_enter Try.func30, Try.ntmps30
  go_wp2_with (first | ((with_reducible refine gate_dst (N := 2) rfl ?_); refine zbx 2 #[.string a0_0, .string a0_1, .int .i64 a0_2, .string a0_3] 43 ?_; intro gb208 hg w12 hbox hb; have BK208 := zA hbox; have GW208 := zgs hg (zs0 HB); have GE208 := zgs hg (zs0 HB); replace HB := zE (zs0 HB) hb; clear hb hbox hg) | ((with_reducible refine gate_dst (N := 3) rfl ?_); refine zbx 3 #[.string a1_0, .string a1_1, .int .i64 a1_2, .string a1_3] 43 ?_; intro gb209 hg w13 hbox hb; have BK209 := zA hbox; have GW209 := zgs hg (zs1 HB GE208); have GE209 := zgs hg (zs1 HB GE208); have NB208_209 := zne hg BK208; have NB209_208 := znf hg BK208; replace BK208 := zb BK208 hb; replace HB := zE (zs1 HB GE208) hb; clear hb hbox hg; have hnb14 := NB208_209.out; have hnc14 := NB209_208.out; obtain ⟨hcz15_0, hcz15_1, hcz15_2, hcz15_3⟩ := zd4 BK208; obtain ⟨hfz15_0, hfz15_1, hfz15_2, hfz15_3⟩ := zn4 BK208; obtain ⟨hcz16_0, hcz16_1, hcz16_2, hcz16_3⟩ := zd4 BK209; obtain ⟨hfz16_0, hfz16_1, hfz16_2, hfz16_3⟩ := zn4 BK209))
  go_ret
  exact ⟨ze, zs2 HB GE208 GE209⟩
 rw [if_pos c6] at H
 have c6b0 : (a0_3.toList == a1_3.toList) = true := beq_iff_eq.mpr c6
 have c6b1 : (a0_3.toList != a1_3.toList) = false := bne_eq_false_iff_eq.mpr c6
 clear c6
 obtain rfl := Option.some.inj H
 go_enter Try.func30, Try.ntmps30
 go_wp2_with (first | ((with_reducible refine gate_dst (N := 2) rfl ?_); refine zbx 2 #[.string a0_0, .string a0_1, .int .i64 a0_2, .string a0_3] 43 ?_; intro gb208 hg w7 hbox hb; have BK208 := zA hbox; have GW208 := zgs hg (zs0 HB); have GE208 := zgs hg (zs0 HB); replace HB := zE (zs0 HB) hb; clear hb hbox hg) | ((with_reducible refine gate_dst (N := 3) rfl ?_); refine zbx 3 #[.string a1_0, .string a1_1, .int .i64 a1_2, .string a1_3] 43 ?_; intro gb209 hg w8 hbox hb; have BK209 := zA hbox; have GW209 := zgs hg (zs1 HB GE208); have GE209 := zgs hg (zs1 HB GE208); have NB208_209 := zne hg BK208; have NB209_208 := znf hg BK208; replace BK208 := zb BK208 hb; replace HB := zE (zs1 HB GE208) hb; clear hb hbox hg; have hnb9 := NB208_209.out; have hnc9 := NB209_208.out; obtain ⟨hcz10_0, hcz10_1, hcz10_2, hcz10_3⟩ := zd4 BK208; obtain ⟨hfz10_0, hfz10_1, hfz10_2, hfz10_3⟩ := zn4 BK208; obtain ⟨hcz11_0, hcz11_1, hcz11_2, hcz11_3⟩ := zd4 BK209; obtain ⟨hfz11_0, hfz11_1, hfz11_2, hfz11_3⟩ := zn4 BK209))
 go_ret
 exact ⟨ze, zs2 HB GE208 GE209⟩
end Go.Proofs.Ytkdhfgonjipbbaa.QFnExactSkyAlong
