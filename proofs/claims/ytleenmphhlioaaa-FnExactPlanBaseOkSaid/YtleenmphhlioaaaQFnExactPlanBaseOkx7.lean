/- The walk of what the law FnExactPlanBaseOk reaches: laid by a program of this session (ownprint.py). -/
import Derived.Test.YtleenmphhlioaaaQFnExactPlanBaseOkx0
namespace Go.Proofs.Ytleenmphhlioaaa.QFnExactPlanBaseOk
open Go.RowKit Go.Proofs.YtleenmphhlioaaaW.PrintWords Go.Proofs.YtleenmphhlioaaaW.PrintLast Go.Proofs.YtleenmphhlioaaaW.PrintMore Go.Proofs.Ytleenmphhlioaaa.Z
attribute [local go_sem] max2_int min2_int max_two min_two max_three min_three max_four min_four zdn   -- for this text's walks alone
set_option linter.unusedVariables false
set_option linter.unusedSimpArgs false
def laws_eqPlanKind.f (a0_0 : ByteArray) (a0_1 : Int) (a0_2 : Int) (a1_0 : ByteArray) (a1_1 : Int) (a1_2 : Int) : Option (Bool) := if a0_0.toList = a1_0.toList then (if a0_1 = a1_1 then (if a0_2 = a1_2 then (some true) else (some false)) else (some false)) else (some false)
set_option maxHeartbeats 8000000 in
set_option maxRecDepth 100000 in
theorem laws_eqPlanKind.calls (a0_0 : ByteArray) (a0_1 : Int) (a0_2 : Int) (a1_0 : ByteArray) (a1_1 : Int) (a1_2 : Int) (r : Bool) (w : World) (h : laws_eqPlanKind.f a0_0 a0_1 a0_2 a1_0 a1_1 a1_2 = some r) :
 Calls Try.prog 27 #[.agg #[.string a0_0, .int .i64 a0_1, .int .i64 a0_2], .agg #[.string a1_0, .int .i64 a1_1, .int .i64 a1_2]] w fun e w' => e = .returned (.bool r) ∧ Below w.heap.size w w' := by
 have hu39 := Try.underlying39
 have HB := Aside0.mk (Below.refl w.heap.size w)
 have H : (if a0_0.toList = a1_0.toList then (if a0_1 = a1_1 then (if a0_2 = a1_2 then (some true) else (some false)) else (some false)) else (some false)) = some r := h
 clear h
 by_cases c3 : a0_0.toList = a1_0.toList
 rotate_left
 ·rw [if_neg c3] at H
  have c3b0 : (a0_0.toList == a1_0.toList) = false := beq_eq_false_iff_ne.mpr c3
  have c3b1 : (a0_0.toList != a1_0.toList) = true := bne_iff_ne.mpr c3
  obtain rfl := Option.some.inj H
  go_enter Try.func27, Try.ntmps27
  go_wp2_with (first | ((with_reducible refine gate_dst (N := 2) rfl ?_); refine zbx 2 #[.string a0_0, .int .i64 a0_1, .int .i64 a0_2] 39 ?_; intro gb178 hg w21 hbox hb; have BK178 := zA hbox; have GW178 := zgs hg (zs0 HB); have GE178 := zgs hg (zs0 HB); replace HB := zE (zs0 HB) hb; clear hb hbox hg) | ((with_reducible refine gate_dst (N := 3) rfl ?_); refine zbx 3 #[.string a1_0, .int .i64 a1_1, .int .i64 a1_2] 39 ?_; intro gb179 hg w22 hbox hb; have BK179 := zA hbox; have GW179 := zgs hg (zs1 HB GE178); have GE179 := zgs hg (zs1 HB GE178); have NB178_179 := zne hg BK178; have NB179_178 := znf hg BK178; replace BK178 := zb BK178 hb; replace HB := zE (zs1 HB GE178) hb; clear hb hbox hg; have hnb23 := NB178_179.out; have hnc23 := NB179_178.out; obtain ⟨hcz24_0, hcz24_1, hcz24_2⟩ := zd3 BK178; obtain ⟨hfz24_0, hfz24_1, hfz24_2⟩ := zn3 BK178; obtain ⟨hcz25_0, hcz25_1, hcz25_2⟩ := zd3 BK179; obtain ⟨hfz25_0, hfz25_1, hfz25_2⟩ := zn3 BK179))
  go_ret
  exact ⟨ze, zs2 HB GE178 GE179⟩
 rw [if_pos c3] at H
 have c3b0 : (a0_0.toList == a1_0.toList) = true := beq_iff_eq.mpr c3
 have c3b1 : (a0_0.toList != a1_0.toList) = false := bne_eq_false_iff_eq.mpr c3
 clear c3
 by_cases c4 : a0_1 = a1_1
 rotate_left
 ·rw [if_neg c4] at H
  have c4b0 : (a0_1 == a1_1) = false := beq_eq_false_iff_ne.mpr c4
  have c4b1 : (a0_1 != a1_1) = true := bne_iff_ne.mpr c4
  obtain rfl := Option.some.inj H
  go_enter Try.func27, Try.ntmps27
  go_wp2_with (first | ((with_reducible refine gate_dst (N := 2) rfl ?_); refine zbx 2 #[.string a0_0, .int .i64 a0_1, .int .i64 a0_2] 39 ?_; intro gb178 hg w16 hbox hb; have BK178 := zA hbox; have GW178 := zgs hg (zs0 HB); have GE178 := zgs hg (zs0 HB); replace HB := zE (zs0 HB) hb; clear hb hbox hg) | ((with_reducible refine gate_dst (N := 3) rfl ?_); refine zbx 3 #[.string a1_0, .int .i64 a1_1, .int .i64 a1_2] 39 ?_; intro gb179 hg w17 hbox hb; have BK179 := zA hbox; have GW179 := zgs hg (zs1 HB GE178); have GE179 := zgs hg (zs1 HB GE178); have NB178_179 := zne hg BK178; have NB179_178 := znf hg BK178; replace BK178 := zb BK178 hb; replace HB := zE (zs1 HB GE178) hb; clear hb hbox hg; have hnb18 := NB178_179.out; have hnc18 := NB179_178.out; obtain ⟨hcz19_0, hcz19_1, hcz19_2⟩ := zd3 BK178; obtain ⟨hfz19_0, hfz19_1, hfz19_2⟩ := zn3 BK178; obtain ⟨hcz20_0, hcz20_1, hcz20_2⟩ := zd3 BK179; obtain ⟨hfz20_0, hfz20_1, hfz20_2⟩ := zn3 BK179))
  go_ret
  exact ⟨ze, zs2 HB GE178 GE179⟩
 rw [if_pos c4] at H
 have c4b0 : (a0_1 == a1_1) = true := beq_iff_eq.mpr c4
 have c4b1 : (a0_1 != a1_1) = false := bne_eq_false_iff_eq.mpr c4
 clear c4
 by_cases c5 : a0_2 = a1_2
 rotate_left
 ·rw [if_neg c5] at H
  have c5b0 : (a0_2 == a1_2) = false := beq_eq_false_iff_ne.mpr c5
  have c5b1 : (a0_2 != a1_2) = true := bne_iff_ne.mpr c5
  obtain rfl := Option.some.inj H
  go_enter Try.func27, Try.ntmps27
  go_wp2_with (first | ((with_reducible refine gate_dst (N := 2) rfl ?_); refine zbx 2 #[.string a0_0, .int .i64 a0_1, .int .i64 a0_2] 39 ?_; intro gb178 hg w11 hbox hb; have BK178 := zA hbox; have GW178 := zgs hg (zs0 HB); have GE178 := zgs hg (zs0 HB); replace HB := zE (zs0 HB) hb; clear hb hbox hg) | ((with_reducible refine gate_dst (N := 3) rfl ?_); refine zbx 3 #[.string a1_0, .int .i64 a1_1, .int .i64 a1_2] 39 ?_; intro gb179 hg w12 hbox hb; have BK179 := zA hbox; have GW179 := zgs hg (zs1 HB GE178); have GE179 := zgs hg (zs1 HB GE178); have NB178_179 := zne hg BK178; have NB179_178 := znf hg BK178; replace BK178 := zb BK178 hb; replace HB := zE (zs1 HB GE178) hb; clear hb hbox hg; have hnb13 := NB178_179.out; have hnc13 := NB179_178.out; obtain ⟨hcz14_0, hcz14_1, hcz14_2⟩ := zd3 BK178; obtain ⟨hfz14_0, hfz14_1, hfz14_2⟩ := zn3 BK178; obtain ⟨hcz15_0, hcz15_1, hcz15_2⟩ := zd3 BK179; obtain ⟨hfz15_0, hfz15_1, hfz15_2⟩ := zn3 BK179))
  go_ret
  exact ⟨ze, zs2 HB GE178 GE179⟩
 rw [if_pos c5] at H
 have c5b0 : (a0_2 == a1_2) = true := beq_iff_eq.mpr c5
 have c5b1 : (a0_2 != a1_2) = false := bne_eq_false_iff_eq.mpr c5
 clear c5
 obtain rfl := Option.some.inj H
 go_enter Try.func27, Try.ntmps27
 go_wp2_with (first | ((with_reducible refine gate_dst (N := 2) rfl ?_); refine zbx 2 #[.string a0_0, .int .i64 a0_1, .int .i64 a0_2] 39 ?_; intro gb178 hg w6 hbox hb; have BK178 := zA hbox; have GW178 := zgs hg (zs0 HB); have GE178 := zgs hg (zs0 HB); replace HB := zE (zs0 HB) hb; clear hb hbox hg) | ((with_reducible refine gate_dst (N := 3) rfl ?_); refine zbx 3 #[.string a1_0, .int .i64 a1_1, .int .i64 a1_2] 39 ?_; intro gb179 hg w7 hbox hb; have BK179 := zA hbox; have GW179 := zgs hg (zs1 HB GE178); have GE179 := zgs hg (zs1 HB GE178); have NB178_179 := zne hg BK178; have NB179_178 := znf hg BK178; replace BK178 := zb BK178 hb; replace HB := zE (zs1 HB GE178) hb; clear hb hbox hg; have hnb8 := NB178_179.out; have hnc8 := NB179_178.out; obtain ⟨hcz9_0, hcz9_1, hcz9_2⟩ := zd3 BK178; obtain ⟨hfz9_0, hfz9_1, hfz9_2⟩ := zn3 BK178; obtain ⟨hcz10_0, hcz10_1, hcz10_2⟩ := zd3 BK179; obtain ⟨hfz10_0, hfz10_1, hfz10_2⟩ := zn3 BK179))
 go_ret
 exact ⟨ze, zs2 HB GE178 GE179⟩
def laws_eqPlanKindS.l0 : Nat → List (S39) → List (S39) → Int → Option (Bool)
 | 0, _, _, _ => none
 | k + 1, x0, x1, x5 => if x5 < (x0.length : Int) then (if 0 ≤ x5 then (if x5 < (x1.length : Int) then ((laws_eqPlanKind.f ((rd_T39 x0 x5).f0) ((rd_T39 x0 x5).f1) ((rd_T39 x0 x5).f2) ((rd_T39 x1 x5).f0) ((rd_T39 x1 x5).f1) ((rd_T39 x1 x5).f2)).bind fun t182 => (if t182 = true then (laws_eqPlanKindS.l0 k x0 x1 (wrap64 (x5 + 1))) else (some false))) else (none)) else (none)) else (some true)
def laws_eqPlanKindS.f (k : Nat) (l0 : List (S39)) (l1 : List (S39)) : Option (Bool) := if (l0.length : Int) = (l1.length : Int) then (laws_eqPlanKindS.l0 k l0 l1 0) else (some false)
def laws_eqPlanKindS.T6 : Bool × List (List Nat × List Nat) := (true, [([], []), ([], []), ([0, 1], [0, 1]), ([2], [2]), ([], []), ([], []), ([4, 5], [4, 5]), ([6], [6]), ([3, 7], [3, 7]), ([8], [8])])
def laws_eqPlanKindS.B6 : List Nat := [0, 0, 3, 7, 0, 0, 48, 112, 255, 511]
theorem laws_eqPlanKindS.tab6 : rtab .any (opsOf Try.f17 6) = laws_eqPlanKindS.T6 := by kernel_rfl
theorem laws_eqPlanKindS.bits6 : waitsOk laws_eqPlanKindS.T6.2 laws_eqPlanKindS.B6 = true := by kernel_rfl
set_option maxHeartbeats 8000000 in
set_option maxRecDepth 100000 in
theorem laws_eqPlanKindS.calls (k : Nat) (A0 : Option Addr) (c0 : Nat) (l0 : List (S39)) (A1 : Option Addr) (c1 : Nat) (l1 : List (S39)) (r : Bool) (w : World) (hr0 : Kd.C k39 w A0 l0.length l0) (hc0 : l0.length ≤ c0) (hr1 : Kd.C k39 w A1 l1.length l1) (hc1 : l1.length ≤ c1) (h : laws_eqPlanKindS.f k l0 l1 = some r) :
 Calls Try.prog 17 #[.slice A0 l0.length c0, .slice A1 l1.length c1] w fun e w' => e = .returned (.bool r) ∧ Below w.heap.size w w' := by
 have hu39 := Try.underlying39
 have HR0 := Aside0.mk hr0
 have HC0 := Aside0.mk hc0
 clear hr0 hc0
 have HR1 := Aside0.mk hr1
 have HC1 := Aside0.mk hc1
 clear hr1 hc1
 have HB := Aside0.mk (Below.refl w.heap.size w)
 have H : (if (l0.length : Int) = (l1.length : Int) then (laws_eqPlanKindS.l0 k l0 l1 0) else (some false)) = some r := h
 clear h
 by_cases c3 : (l0.length : Int) = (l1.length : Int)
 rotate_left
 ·rw [if_neg c3] at H
  have c3b0 : ((l0.length : Int) == (l1.length : Int)) = false := beq_eq_false_iff_ne.mpr c3
  have c3b1 : ((l0.length : Int) != (l1.length : Int)) = true := bne_iff_ne.mpr c3
  have c3b2 : (l0.length == l1.length) = false := by first | simpa using c3 | (simp at c3 ⊢; omega)
  obtain rfl := Option.some.inj H
  go_enter Try.func17, Try.ntmps17
  go_wp2
  go_ret
  exact ⟨ze, zs0 HB⟩
 rw [if_pos c3] at H
 have c3b0 : ((l0.length : Int) == (l1.length : Int)) = true := beq_iff_eq.mpr c3
 have c3b1 : ((l0.length : Int) != (l1.length : Int)) = false := bne_eq_false_iff_eq.mpr c3
 have c3b2 : (l0.length == l1.length) = true := by first | simpa using c3 | (simp at c3 ⊢; omega)
 clear c3
 have H' := Aside0.mk H
 clear H
 go_enter Try.func17, Try.ntmps17
 go_wp2
 go_loopg [5] k (fun kq v5 w' => ∃ (x5_1 : Int), v5 = .int .i64 x5_1 ∧ Aside0 (laws_eqPlanKindS.l0 kq l0 l1 x5_1 = some r) ∧ Aside0 (kq ≤ k) ∧ Aside0 (Below w.heap.size w w'))
 case atStart => exact ⟨(0), zi, H', ⟨Nat.le_refl _⟩, ⟨zs0 HB⟩⟩
 case round =>
  clear H'
  try clear c1
  try clear p2
  try clear c3
  try clear c3b0
  try clear c3b1
  try clear c3b2
  obtain ⟨x5_1, rfl, HA, HK1, HB⟩ := hrel
  cases gk with
  | zero => exact absurd HA.out (by simp [laws_eqPlanKindS.l0])
  | succ k1 =>
   have H := HA.out
   clear HA
   simp only [laws_eqPlanKindS.l0] at H
   by_cases c4 : x5_1 < (l0.length : Int)
   rotate_left
   ·rw [if_neg c4] at H
    have c4b0 : decide (x5_1 < (l0.length : Int)) = false := decide_eq_false c4
    clear c4
    obtain rfl := Option.some.inj H
    go_wp2
    go_ret
    exact ⟨ze, zs0 HB⟩
   rw [if_pos c4] at H
   have c4b0 : decide (x5_1 < (l0.length : Int)) = true := decide_eq_true c4
   clear c4
   by_cases c5 : 0 ≤ x5_1
   rotate_left
   ·rw [if_neg c5] at H
    exact absurd H (by simp)
   rw [if_pos c5] at H
   have c5b0 : decide (0 ≤ x5_1) = true := decide_eq_true c5
   clear c5
   by_cases c6 : x5_1 < (l1.length : Int)
   rotate_left
   ·rw [if_neg c6] at H
    exact absurd H (by simp)
   rw [if_pos c6] at H
   have c6b0 : decide (x5_1 < (l1.length : Int)) = true := decide_eq_true c6
   clear c6
   replace H := zbd H; obtain ⟨t182, A7, H⟩ := H
   by_cases c8 : t182 = true
   rotate_left
   ·replace c8 := Bool.eq_false_iff.mpr c8
    subst c8
    have H1 : (some false) = some r := by rw [if_neg (show ¬ (false = true) by decide)] at H; exact H
    clear H
    have H := H1
    clear H1
    obtain rfl := Option.some.inj H
    try go_wp2
    replace HB := Aside0.mk (below_drew1 HB.out)
    have p180 : 0 ≤ (x5_1 : Int) := za
    have q180 : x5_1 < (l0.length : Int) := za
    obtain ⟨ad180, e180, hx180_0, hx180_1, hx180_2⟩ := at_T39 HR0.out x5_1 p180 q180
    have hw180_2 := hx180_2
    have hw180_1 := hx180_1
    have hw180_0 := hx180_0
    cases e180
    replace hx180_0 := zx HB hx180_0
    replace hx180_1 := zx HB hx180_1
    replace hx180_2 := zx HB hx180_2
    replace p180 := eq_true p180
    replace q180 := eq_true q180
    have p181 : 0 ≤ (x5_1 : Int) := za
    have q181 : x5_1 < (l1.length : Int) := za
    obtain ⟨ad181, e181, hx181_0, hx181_1, hx181_2⟩ := at_T39 HR1.out x5_1 p181 q181
    have hw181_2 := hx181_2
    have hw181_1 := hx181_1
    have hw181_0 := hx181_0
    cases e181
    replace hx181_0 := zx HB hx181_0
    replace hx181_1 := zx HB hx181_1
    replace hx181_2 := zx HB hx181_2
    replace p181 := eq_true p181
    replace q181 := eq_true q181
    refine start_ (n := 10) (S := fun w' => w'.cell? (ad180.add ((x5_1).toNat * 3)) = some (.string ((rd_T39 l0 x5_1).f0)) ∧ w'.cell? ⟨(ad180.add ((x5_1).toNat * 3)).block, (ad180.add ((x5_1).toNat * 3)).off + 1, none⟩ = some (.int .i64 ((rd_T39 l0 x5_1).f1)) ∧ w'.cell? ⟨(ad180.add ((x5_1).toNat * 3)).block, (ad180.add ((x5_1).toNat * 3)).off + 2, none⟩ = some (.int .i64 ((rd_T39 l0 x5_1).f2)) ∧ w'.cell? (ad181.add ((x5_1).toNat * 3)) = some (.string ((rd_T39 l1 x5_1).f0)) ∧ w'.cell? ⟨(ad181.add ((x5_1).toNat * 3)).block, (ad181.add ((x5_1).toNat * 3)).off + 1, none⟩ = some (.int .i64 ((rd_T39 l1 x5_1).f1)) ∧ w'.cell? ⟨(ad181.add ((x5_1).toNat * 3)).block, (ad181.add ((x5_1).toNat * 3)).off + 2, none⟩ = some (.int .i64 ((rd_T39 l1 x5_1).f2))) (ds := []) #[false, false, false, false, false, false, false, false, false, false] (by kernel_rfl) rfl rfl ⟨(zw HB hw180_0), (zw HB hw180_1), (zw HB hw180_2), (zw HB hw181_0), (zw HB hw181_1), (zw HB hw181_2)⟩ (fun hHeld => ?_); refine with_tabW laws_eqPlanKindS.tab6 laws_eqPlanKindS.bits6 (fun HT_ HW_ => ?_)
    generalize wr.drew = w11 at HB hx180_0 hx180_1 hx180_2 hx181_0 hx181_1 hx181_2 hHeld ⊢
    refine zq HT_ 0 ?_
    refine zq HT_ 1 ?_
    refine zq HT_ 2 ?_
    refine zq HT_ 4 ?_
    refine zq HT_ 5 ?_
    refine zq HT_ 6 ?_
    refine zk6 HT_ HW_ hHeld 3 ?_
    refine zk6 HT_ HW_ hHeld 7 ?_
    refine zo HT_ 8 (fun K hK => ?_)
    refine zgo Try.func27 #[.agg #[.string ((rd_T39 l0 x5_1).f0), .int .i64 ((rd_T39 l0 x5_1).f1), .int .i64 ((rd_T39 l0 x5_1).f2)], .agg #[.string ((rd_T39 l1 x5_1).f0), .int .i64 ((rd_T39 l1 x5_1).f1), .int .i64 ((rd_T39 l1 x5_1).f2)]] ?_
    with_reducible refine (laws_eqPlanKind.calls ((rd_T39 l0 x5_1).f0) ((rd_T39 l0 x5_1).f1) ((rd_T39 l0 x5_1).f2) ((rd_T39 l1 x5_1).f0) ((rd_T39 l1 x5_1).f1) ((rd_T39 l1 x5_1).f2) false _ A7.out).mono ?_
    rintro e w12 ⟨rfl, hb⟩
    refine ⟨_, rfl, ?_⟩
    replace HB := zE (zs0 HB) hb
    (try clear hb)
    (try clear hb2)
    (try clear hk)
    (try clear hi)
    refine hK.out _ _ ⟨(zw HB hw180_0), (zw HB hw180_1), (zw HB hw180_2), (zw HB hw181_0), (zw HB hw181_1), (zw HB hw181_2)⟩ (fun hHeld => ?_)
    clear hK K
    refine zN ?_
    refine zq HT_ 9 ?_
    refine done_ (done_of HT_.out (by kernel_rfl)) ?_
    try go_wp2
    go_ret
    exact ⟨ze, zs0 HB⟩
   subst c8
   have H1 : (laws_eqPlanKindS.l0 k1 l0 l1 (wrap64 (x5_1 + 1))) = some r := by rw [if_pos rfl] at H; exact H
   clear H
   have H := H1
   clear H1
   have H' := Aside0.mk H
   clear H
   try go_wp2
   replace HB := Aside0.mk (below_drew1 HB.out)
   have p180 : 0 ≤ (x5_1 : Int) := za
   have q180 : x5_1 < (l0.length : Int) := za
   obtain ⟨ad180, e180, hx180_0, hx180_1, hx180_2⟩ := at_T39 HR0.out x5_1 p180 q180
   have hw180_2 := hx180_2
   have hw180_1 := hx180_1
   have hw180_0 := hx180_0
   cases e180
   replace hx180_0 := zx HB hx180_0
   replace hx180_1 := zx HB hx180_1
   replace hx180_2 := zx HB hx180_2
   replace p180 := eq_true p180
   replace q180 := eq_true q180
   have p181 : 0 ≤ (x5_1 : Int) := za
   have q181 : x5_1 < (l1.length : Int) := za
   obtain ⟨ad181, e181, hx181_0, hx181_1, hx181_2⟩ := at_T39 HR1.out x5_1 p181 q181
   have hw181_2 := hx181_2
   have hw181_1 := hx181_1
   have hw181_0 := hx181_0
   cases e181
   replace hx181_0 := zx HB hx181_0
   replace hx181_1 := zx HB hx181_1
   replace hx181_2 := zx HB hx181_2
   replace p181 := eq_true p181
   replace q181 := eq_true q181
   refine start_ (n := 10) (S := fun w' => w'.cell? (ad180.add ((x5_1).toNat * 3)) = some (.string ((rd_T39 l0 x5_1).f0)) ∧ w'.cell? ⟨(ad180.add ((x5_1).toNat * 3)).block, (ad180.add ((x5_1).toNat * 3)).off + 1, none⟩ = some (.int .i64 ((rd_T39 l0 x5_1).f1)) ∧ w'.cell? ⟨(ad180.add ((x5_1).toNat * 3)).block, (ad180.add ((x5_1).toNat * 3)).off + 2, none⟩ = some (.int .i64 ((rd_T39 l0 x5_1).f2)) ∧ w'.cell? (ad181.add ((x5_1).toNat * 3)) = some (.string ((rd_T39 l1 x5_1).f0)) ∧ w'.cell? ⟨(ad181.add ((x5_1).toNat * 3)).block, (ad181.add ((x5_1).toNat * 3)).off + 1, none⟩ = some (.int .i64 ((rd_T39 l1 x5_1).f1)) ∧ w'.cell? ⟨(ad181.add ((x5_1).toNat * 3)).block, (ad181.add ((x5_1).toNat * 3)).off + 2, none⟩ = some (.int .i64 ((rd_T39 l1 x5_1).f2))) (ds := []) #[false, false, false, false, false, false, false, false, false, false] (by kernel_rfl) rfl rfl ⟨(zw HB hw180_0), (zw HB hw180_1), (zw HB hw180_2), (zw HB hw181_0), (zw HB hw181_1), (zw HB hw181_2)⟩ (fun hHeld => ?_); refine with_tabW laws_eqPlanKindS.tab6 laws_eqPlanKindS.bits6 (fun HT_ HW_ => ?_)
   generalize wr.drew = w9 at HB hx180_0 hx180_1 hx180_2 hx181_0 hx181_1 hx181_2 hHeld ⊢
   refine zq HT_ 0 ?_
   refine zq HT_ 1 ?_
   refine zq HT_ 2 ?_
   refine zq HT_ 4 ?_
   refine zq HT_ 5 ?_
   refine zq HT_ 6 ?_
   refine zk6 HT_ HW_ hHeld 3 ?_
   refine zk6 HT_ HW_ hHeld 7 ?_
   refine zo HT_ 8 (fun K hK => ?_)
   refine zgo Try.func27 #[.agg #[.string ((rd_T39 l0 x5_1).f0), .int .i64 ((rd_T39 l0 x5_1).f1), .int .i64 ((rd_T39 l0 x5_1).f2)], .agg #[.string ((rd_T39 l1 x5_1).f0), .int .i64 ((rd_T39 l1 x5_1).f1), .int .i64 ((rd_T39 l1 x5_1).f2)]] ?_
   with_reducible refine (laws_eqPlanKind.calls ((rd_T39 l0 x5_1).f0) ((rd_T39 l0 x5_1).f1) ((rd_T39 l0 x5_1).f2) ((rd_T39 l1 x5_1).f0) ((rd_T39 l1 x5_1).f1) ((rd_T39 l1 x5_1).f2) true _ A7.out).mono ?_
   rintro e w10 ⟨rfl, hb⟩
   refine ⟨_, rfl, ?_⟩
   replace HB := zE (zs0 HB) hb
   (try clear hb)
   (try clear hb2)
   (try clear hk)
   (try clear hi)
   refine hK.out _ _ ⟨(zw HB hw180_0), (zw HB hw180_1), (zw HB hw180_2), (zw HB hw181_0), (zw HB hw181_1), (zw HB hw181_2)⟩ (fun hHeld => ?_)
   clear hK K
   refine zN ?_
   refine zq HT_ 9 ?_
   refine done_ (done_of HT_.out (by kernel_rfl)) ?_
   try go_wp2
   go_roundg k1
   case measure => have := HK1.out; omega
   case rel => exact ⟨(wrap64 (x5_1 + 1)), zi, H', ⟨by have := HK1.out; omega⟩, ⟨zs0 HB⟩⟩
def laws_eqPlanPoint.f (a0_0 : ByteArray) (a0_1 : Int) (a0_2 : Int) (a1_0 : ByteArray) (a1_1 : Int) (a1_2 : Int) : Option (Bool) := if a0_0.toList = a1_0.toList then (if a0_1 = a1_1 then (if a0_2 = a1_2 then (some true) else (some false)) else (some false)) else (some false)
set_option maxHeartbeats 8000000 in
set_option maxRecDepth 100000 in
theorem laws_eqPlanPoint.calls (a0_0 : ByteArray) (a0_1 : Int) (a0_2 : Int) (a1_0 : ByteArray) (a1_1 : Int) (a1_2 : Int) (r : Bool) (w : World) (h : laws_eqPlanPoint.f a0_0 a0_1 a0_2 a1_0 a1_1 a1_2 = some r) :
 Calls Try.prog 28 #[.agg #[.string a0_0, .int .i64 a0_1, .int .i64 a0_2], .agg #[.string a1_0, .int .i64 a1_1, .int .i64 a1_2]] w fun e w' => e = .returned (.bool r) ∧ Below w.heap.size w w' := by
 have hu42 := Try.underlying42
 have HB := Aside0.mk (Below.refl w.heap.size w)
 have H : (if a0_0.toList = a1_0.toList then (if a0_1 = a1_1 then (if a0_2 = a1_2 then (some true) else (some false)) else (some false)) else (some false)) = some r := h
 clear h
 by_cases c3 : a0_0.toList = a1_0.toList
 rotate_left
 ·rw [if_neg c3] at H
  have c3b0 : (a0_0.toList == a1_0.toList) = false := beq_eq_false_iff_ne.mpr c3
  have c3b1 : (a0_0.toList != a1_0.toList) = true := bne_iff_ne.mpr c3
  obtain rfl := Option.some.inj H
  go_enter Try.func28, Try.ntmps28
  go_wp2_with (first | ((with_reducible refine gate_dst (N := 2) rfl ?_); refine zbx 2 #[.string a0_0, .int .i64 a0_1, .int .i64 a0_2] 42 ?_; intro gb183 hg w21 hbox hb; have BK183 := zA hbox; have GW183 := zgs hg (zs0 HB); have GE183 := zgs hg (zs0 HB); replace HB := zE (zs0 HB) hb; clear hb hbox hg) | ((with_reducible refine gate_dst (N := 3) rfl ?_); refine zbx 3 #[.string a1_0, .int .i64 a1_1, .int .i64 a1_2] 42 ?_; intro gb184 hg w22 hbox hb; have BK184 := zA hbox; have GW184 := zgs hg (zs1 HB GE183); have GE184 := zgs hg (zs1 HB GE183); have NB183_184 := zne hg BK183; have NB184_183 := znf hg BK183; replace BK183 := zb BK183 hb; replace HB := zE (zs1 HB GE183) hb; clear hb hbox hg; have hnb23 := NB183_184.out; have hnc23 := NB184_183.out; obtain ⟨hcz24_0, hcz24_1, hcz24_2⟩ := zd3 BK183; obtain ⟨hfz24_0, hfz24_1, hfz24_2⟩ := zn3 BK183; obtain ⟨hcz25_0, hcz25_1, hcz25_2⟩ := zd3 BK184; obtain ⟨hfz25_0, hfz25_1, hfz25_2⟩ := zn3 BK184))
  go_ret
  exact ⟨ze, zs2 HB GE183 GE184⟩
 rw [if_pos c3] at H
 have c3b0 : (a0_0.toList == a1_0.toList) = true := beq_iff_eq.mpr c3
 have c3b1 : (a0_0.toList != a1_0.toList) = false := bne_eq_false_iff_eq.mpr c3
 clear c3
 by_cases c4 : a0_1 = a1_1
 rotate_left
 ·rw [if_neg c4] at H
  have c4b0 : (a0_1 == a1_1) = false := beq_eq_false_iff_ne.mpr c4
  have c4b1 : (a0_1 != a1_1) = true := bne_iff_ne.mpr c4
  obtain rfl := Option.some.inj H
  go_enter Try.func28, Try.ntmps28
  go_wp2_with (first | ((with_reducible refine gate_dst (N := 2) rfl ?_); refine zbx 2 #[.string a0_0, .int .i64 a0_1, .int .i64 a0_2] 42 ?_; intro gb183 hg w16 hbox hb; have BK183 := zA hbox; have GW183 := zgs hg (zs0 HB); have GE183 := zgs hg (zs0 HB); replace HB := zE (zs0 HB) hb; clear hb hbox hg) | ((with_reducible refine gate_dst (N := 3) rfl ?_); refine zbx 3 #[.string a1_0, .int .i64 a1_1, .int .i64 a1_2] 42 ?_; intro gb184 hg w17 hbox hb; have BK184 := zA hbox; have GW184 := zgs hg (zs1 HB GE183); have GE184 := zgs hg (zs1 HB GE183); have NB183_184 := zne hg BK183; have NB184_183 := znf hg BK183; replace BK183 := zb BK183 hb; replace HB := zE (zs1 HB GE183) hb; clear hb hbox hg; have hnb18 := NB183_184.out; have hnc18 := NB184_183.out; obtain ⟨hcz19_0, hcz19_1, hcz19_2⟩ := zd3 BK183; obtain ⟨hfz19_0, hfz19_1, hfz19_2⟩ := zn3 BK183; obtain ⟨hcz20_0, hcz20_1, hcz20_2⟩ := zd3 BK184; obtain ⟨hfz20_0, hfz20_1, hfz20_2⟩ := zn3 BK184))
  go_ret
  exact ⟨ze, zs2 HB GE183 GE184⟩
 rw [if_pos c4] at H
 have c4b0 : (a0_1 == a1_1) = true := beq_iff_eq.mpr c4
 have c4b1 : (a0_1 != a1_1) = false := bne_eq_false_iff_eq.mpr c4
 clear c4
 by_cases c5 : a0_2 = a1_2
 rotate_left
 ·rw [if_neg c5] at H
  have c5b0 : (a0_2 == a1_2) = false := beq_eq_false_iff_ne.mpr c5
  have c5b1 : (a0_2 != a1_2) = true := bne_iff_ne.mpr c5
  obtain rfl := Option.some.inj H
  go_enter Try.func28, Try.ntmps28
  go_wp2_with (first | ((with_reducible refine gate_dst (N := 2) rfl ?_); refine zbx 2 #[.string a0_0, .int .i64 a0_1, .int .i64 a0_2] 42 ?_; intro gb183 hg w11 hbox hb; have BK183 := zA hbox; have GW183 := zgs hg (zs0 HB); have GE183 := zgs hg (zs0 HB); replace HB := zE (zs0 HB) hb; clear hb hbox hg) | ((with_reducible refine gate_dst (N := 3) rfl ?_); refine zbx 3 #[.string a1_0, .int .i64 a1_1, .int .i64 a1_2] 42 ?_; intro gb184 hg w12 hbox hb; have BK184 := zA hbox; have GW184 := zgs hg (zs1 HB GE183); have GE184 := zgs hg (zs1 HB GE183); have NB183_184 := zne hg BK183; have NB184_183 := znf hg BK183; replace BK183 := zb BK183 hb; replace HB := zE (zs1 HB GE183) hb; clear hb hbox hg; have hnb13 := NB183_184.out; have hnc13 := NB184_183.out; obtain ⟨hcz14_0, hcz14_1, hcz14_2⟩ := zd3 BK183; obtain ⟨hfz14_0, hfz14_1, hfz14_2⟩ := zn3 BK183; obtain ⟨hcz15_0, hcz15_1, hcz15_2⟩ := zd3 BK184; obtain ⟨hfz15_0, hfz15_1, hfz15_2⟩ := zn3 BK184))
  go_ret
  exact ⟨ze, zs2 HB GE183 GE184⟩
 rw [if_pos c5] at H
 have c5b0 : (a0_2 == a1_2) = true := beq_iff_eq.mpr c5
 have c5b1 : (a0_2 != a1_2) = false := bne_eq_false_iff_eq.mpr c5
 clear c5
 obtain rfl := Option.some.inj H
 go_enter Try.func28, Try.ntmps28
 go_wp2_with (first | ((with_reducible refine gate_dst (N := 2) rfl ?_); refine zbx 2 #[.string a0_0, .int .i64 a0_1, .int .i64 a0_2] 42 ?_; intro gb183 hg w6 hbox hb; have BK183 := zA hbox; have GW183 := zgs hg (zs0 HB); have GE183 := zgs hg (zs0 HB); replace HB := zE (zs0 HB) hb; clear hb hbox hg) | ((with_reducible refine gate_dst (N := 3) rfl ?_); refine zbx 3 #[.string a1_0, .int .i64 a1_1, .int .i64 a1_2] 42 ?_; intro gb184 hg w7 hbox hb; have BK184 := zA hbox; have GW184 := zgs hg (zs1 HB GE183); have GE184 := zgs hg (zs1 HB GE183); have NB183_184 := zne hg BK183; have NB184_183 := znf hg BK183; replace BK183 := zb BK183 hb; replace HB := zE (zs1 HB GE183) hb; clear hb hbox hg; have hnb8 := NB183_184.out; have hnc8 := NB184_183.out; obtain ⟨hcz9_0, hcz9_1, hcz9_2⟩ := zd3 BK183; obtain ⟨hfz9_0, hfz9_1, hfz9_2⟩ := zn3 BK183; obtain ⟨hcz10_0, hcz10_1, hcz10_2⟩ := zd3 BK184; obtain ⟨hfz10_0, hfz10_1, hfz10_2⟩ := zn3 BK184))
 go_ret
 exact ⟨ze, zs2 HB GE183 GE184⟩
end Go.Proofs.Ytleenmphhlioaaa.QFnExactPlanBaseOk
