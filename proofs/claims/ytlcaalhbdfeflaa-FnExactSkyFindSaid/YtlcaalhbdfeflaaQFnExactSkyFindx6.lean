/- The walk of what the law FnExactSkyFind reaches: laid by a program of this session (ownprint.py). -/
import Derived.Test.YtlcaalhbdfeflaaQFnExactSkyFindx0
import Derived.Test.YtlcaalhbdfeflaaQFnExactSkyFindx5
namespace Go.Proofs.Ytlcaalhbdfeflaa.QFnExactSkyFind
open Go.RowKit Go.Proofs.YtlcaalhbdfeflaaW.PrintWords Go.Proofs.YtlcaalhbdfeflaaW.PrintLast Go.Proofs.YtlcaalhbdfeflaaW.PrintMore Go.Proofs.Ytlcaalhbdfeflaa.Z
attribute [local go_sem] max2_int min2_int max_two min_two max_three min_three max_four min_four zdn   -- for this text's walks alone
set_option linter.unusedVariables false
set_option linter.unusedSimpArgs false
def laws_eqSkyRowS.l0 : Nat → List (S44) → List (S44) → Int → Option (Bool)
 | 0, _, _, _ => none
 | k + 1, x0, x1, x5 => if x5 < (x0.length : Int) then (if 0 ≤ x5 then (if x5 < (x1.length : Int) then ((laws_eqSkyRow.f k ((rd_T44 x0 x5).f0) ((rd_T44 x0 x5).f1) ((rd_T44 x0 x5).f2) ((rd_T44 x1 x5).f0) ((rd_T44 x1 x5).f1) ((rd_T44 x1 x5).f2)).bind fun t193 => (if t193 = true then (laws_eqSkyRowS.l0 k x0 x1 (wrap64 (x5 + 1))) else (some false))) else (none)) else (none)) else (some true)
def laws_eqSkyRowS.f (k : Nat) (l0 : List (S44)) (l1 : List (S44)) : Option (Bool) := if (l0.length : Int) = (l1.length : Int) then (laws_eqSkyRowS.l0 k l0 l1 0) else (some false)
def laws_eqSkyRowS.T6 : Bool × List (List Nat × List Nat) := (true, [([], []), ([], []), ([0, 1], [0, 1]), ([2], [2]), ([], []), ([], []), ([4, 5], [4, 5]), ([6], [6]), ([3, 7], [3, 7]), ([8], [8])])
def laws_eqSkyRowS.B6 : List Nat := [0, 0, 3, 7, 0, 0, 48, 112, 255, 511]
theorem laws_eqSkyRowS.tab6 : rtab .any (opsOf Try.f15 6) = laws_eqSkyRowS.T6 := by kernel_rfl
theorem laws_eqSkyRowS.bits6 : waitsOk laws_eqSkyRowS.T6.2 laws_eqSkyRowS.B6 = true := by kernel_rfl
set_option maxHeartbeats 8000000 in
set_option maxRecDepth 100000 in
theorem laws_eqSkyRowS.calls (k : Nat) (A0 : Option Addr) (c0 : Nat) (l0 : List (S44)) (A1 : Option Addr) (c1 : Nat) (l1 : List (S44)) (r : Bool) (w : World) (hr0 : Kd.C k44 w A0 l0.length l0) (hc0 : l0.length ≤ c0) (hr1 : Kd.C k44 w A1 l1.length l1) (hc1 : l1.length ≤ c1) (h : laws_eqSkyRowS.f k l0 l1 = some r) :
 Calls Try.prog 15 #[.slice A0 l0.length c0, .slice A1 l1.length c1] w fun e w' => e = .returned (.bool r) ∧ Below w.heap.size w w' := by
 have hu44 := Try.underlying44
 have HR0 := zA hr0
 have HC0 := zA hc0
 clear hr0 hc0
 have HR1 := zA hr1
 have HC1 := zA hc1
 clear hr1 hc1
 have HB := zA (Below.refl w.heap.size w)
 have H : (if (l0.length : Int) = (l1.length : Int) then (laws_eqSkyRowS.l0 k l0 l1 0) else (some false)) = some r := h
 clear h
 by_cases c3 : (l0.length : Int) = (l1.length : Int)
 rotate_left
 ·rw [if_neg c3] at H
  have c3b0 : ((l0.length : Int) == (l1.length : Int)) = false := beq_eq_false_iff_ne.mpr c3
  have c3b1 : ((l0.length : Int) != (l1.length : Int)) = true := bne_iff_ne.mpr c3
  have c3b2 : (l0.length == l1.length) = false := by first | simpa using c3 | (simp at c3 ⊢; omega)
  obtain rfl := Option.some.inj H
  go_enter Try.func15, Try.ntmps15
  go_wp2
  go_ret
  exact ⟨ze, zs0 HB⟩
 rw [if_pos c3] at H
 have c3b0 : ((l0.length : Int) == (l1.length : Int)) = true := beq_iff_eq.mpr c3
 have c3b1 : ((l0.length : Int) != (l1.length : Int)) = false := bne_eq_false_iff_eq.mpr c3
 have c3b2 : (l0.length == l1.length) = true := by first | simpa using c3 | (simp at c3 ⊢; omega)
 clear c3
 have H' := zA H
 clear H
 go_enter Try.func15, Try.ntmps15
 go_wp2
 go_loopg [5] k (fun kq v5 w' => ∃ (x5_1 : Int), v5 = .int .i64 x5_1 ∧ Aside0 (laws_eqSkyRowS.l0 kq l0 l1 x5_1 = some r) ∧ Aside0 (kq ≤ k) ∧ Aside0 (Below w.heap.size w w'))
 case atStart => exact ⟨(0), zi, H', ⟨Nat.le_refl _⟩, ⟨zs0 HB⟩⟩
 case round =>
  clear H'
  try clear c1
  try clear p2
  try clear c3
  try clear c3b0
  try clear c3b1
  try clear c3b2
  obtain ⟨x5_1, rfl, HA, HK1, HB⟩ := hrel
  cases gk with
  | zero => exact absurd HA.out (by simp [laws_eqSkyRowS.l0])
  | succ k1 =>
   have H := HA.out
   clear HA
   simp only [laws_eqSkyRowS.l0] at H
   by_cases c4 : x5_1 < (l0.length : Int)
   rotate_left
   ·rw [if_neg c4] at H
    have c4b0 : decide (x5_1 < (l0.length : Int)) = false := decide_eq_false c4
    clear c4
    obtain rfl := Option.some.inj H
    go_wp2
    go_ret
    exact ⟨ze, zs0 HB⟩
   rw [if_pos c4] at H
   have c4b0 : decide (x5_1 < (l0.length : Int)) = true := decide_eq_true c4
   clear c4
   by_cases c5 : 0 ≤ x5_1
   rotate_left
   ·rw [if_neg c5] at H
    exact absurd H (by simp)
   rw [if_pos c5] at H
   have c5b0 : decide (0 ≤ x5_1) = true := decide_eq_true c5
   clear c5
   by_cases c6 : x5_1 < (l1.length : Int)
   rotate_left
   ·rw [if_neg c6] at H
    exact absurd H (by simp)
   rw [if_pos c6] at H
   have c6b0 : decide (x5_1 < (l1.length : Int)) = true := decide_eq_true c6
   clear c6
   replace H := zbd H; obtain ⟨t193, A7, H⟩ := H
   by_cases c8 : t193 = true
   rotate_left
   ·replace c8 := Bool.eq_false_iff.mpr c8
    subst c8
    have H1 : (some false) = some r := by rw [if_neg (show ¬ (false = true) by decide)] at H; exact H
    clear H
    have H := H1
    clear H1
    obtain rfl := Option.some.inj H
    try go_wp2
    replace HB := zA (below_drew1 HB.out)
    have p191 : 0 ≤ (x5_1 : Int) := za
    have q191 : x5_1 < (l0.length : Int) := za
    obtain ⟨ad191, A191_2, c191_2, e191, hx191_0, hx191_1, hx191_2, hl191_2, hi191_2⟩ := at_T44 HR0.out x5_1 p191 q191
    have hw191_2 := hx191_2
    have hw191_1 := hx191_1
    have hw191_0 := hx191_0
    cases e191
    replace hx191_0 := zx HB hx191_0
    replace hx191_1 := zx HB hx191_1
    replace hx191_2 := zx HB hx191_2
    have HR191_2 := zA hi191_2
    have HC191_2 := zA hl191_2
    clear hi191_2 hl191_2
    replace p191 := eq_true p191
    replace q191 := eq_true q191
    have p192 : 0 ≤ (x5_1 : Int) := za
    have q192 : x5_1 < (l1.length : Int) := za
    obtain ⟨ad192, A192_2, c192_2, e192, hx192_0, hx192_1, hx192_2, hl192_2, hi192_2⟩ := at_T44 HR1.out x5_1 p192 q192
    have hw192_2 := hx192_2
    have hw192_1 := hx192_1
    have hw192_0 := hx192_0
    cases e192
    replace hx192_0 := zx HB hx192_0
    replace hx192_1 := zx HB hx192_1
    replace hx192_2 := zx HB hx192_2
    have HR192_2 := zA hi192_2
    have HC192_2 := zA hl192_2
    clear hi192_2 hl192_2
    replace p192 := eq_true p192
    replace q192 := eq_true q192
    refine start_ (n := 10) (S := fun w' => w'.cell? (ad191.add ((x5_1).toNat * 3)) = some (.int .i64 ((rd_T44 l0 x5_1).f0)) ∧ w'.cell? ⟨(ad191.add ((x5_1).toNat * 3)).block, (ad191.add ((x5_1).toNat * 3)).off + 1, none⟩ = some (.int .i64 ((rd_T44 l0 x5_1).f1)) ∧ w'.cell? ⟨(ad191.add ((x5_1).toNat * 3)).block, (ad191.add ((x5_1).toNat * 3)).off + 2, none⟩ = some (.slice A191_2 ((rd_T44 l0 x5_1).f2).length c191_2) ∧ w'.cell? (ad192.add ((x5_1).toNat * 3)) = some (.int .i64 ((rd_T44 l1 x5_1).f0)) ∧ w'.cell? ⟨(ad192.add ((x5_1).toNat * 3)).block, (ad192.add ((x5_1).toNat * 3)).off + 1, none⟩ = some (.int .i64 ((rd_T44 l1 x5_1).f1)) ∧ w'.cell? ⟨(ad192.add ((x5_1).toNat * 3)).block, (ad192.add ((x5_1).toNat * 3)).off + 2, none⟩ = some (.slice A192_2 ((rd_T44 l1 x5_1).f2).length c192_2)) (ds := []) #[F,F,F,F,F,F,F,F,F,F] (by kernel_rfl) rfl rfl ⟨(zw HB hw191_0), (zw HB hw191_1), (zw HB hw191_2), (zw HB hw192_0), (zw HB hw192_1), (zw HB hw192_2)⟩ (fun hHeld => ?_); refine with_tabW laws_eqSkyRowS.tab6 laws_eqSkyRowS.bits6 (fun HT_ HW_ => ?_)
    generalize wr.drew = w11 at HB HR191_2 HR192_2 hx191_0 hx191_1 hx191_2 hx192_0 hx192_1 hx192_2 hHeld ⊢
    refine zq HT_ 0 ?_
    refine zq HT_ 1 ?_
    refine zq HT_ 2 ?_
    refine zq HT_ 4 ?_
    refine zq HT_ 5 ?_
    refine zq HT_ 6 ?_
    refine zk6 HT_ HW_ hHeld 3 ?_
    refine zk6 HT_ HW_ hHeld 7 ?_
    refine zo HT_ 8 (fun K hK => ?_)
    refine zgo Try.func21 #[.agg #[.int .i64 ((rd_T44 l0 x5_1).f0), .int .i64 ((rd_T44 l0 x5_1).f1), .slice A191_2 ((rd_T44 l0 x5_1).f2).length c191_2], .agg #[.int .i64 ((rd_T44 l1 x5_1).f0), .int .i64 ((rd_T44 l1 x5_1).f1), .slice A192_2 ((rd_T44 l1 x5_1).f2).length c192_2]] ?_
    with_reducible refine (laws_eqSkyRow.calls k1 ((rd_T44 l0 x5_1).f0) ((rd_T44 l0 x5_1).f1) _ _ ((rd_T44 l0 x5_1).f2) ((rd_T44 l1 x5_1).f0) ((rd_T44 l1 x5_1).f1) _ _ ((rd_T44 l1 x5_1).f2) false _ ?side1 ?side2 ?side3 ?side4 A7.out).mono ?_
    (case side1 => exact zC HR191_2 HB)
    (case side2 => exact HC191_2.out)
    (case side3 => exact zC HR192_2 HB)
    (case side4 => exact HC192_2.out)
    rintro e w12 ⟨rfl, hb⟩
    refine ⟨_, rfl, ?_⟩
    replace HB := zE (zs0 HB) hb
    (try clear hb)
    (try clear hb2)
    (try clear hk)
    (try clear hi)
    refine hK.out _ _ ⟨(zw HB hw191_0), (zw HB hw191_1), (zw HB hw191_2), (zw HB hw192_0), (zw HB hw192_1), (zw HB hw192_2)⟩ (fun hHeld => ?_)
    clear hK K
    refine zN ?_
    refine zq HT_ 9 ?_
    refine done_ (done_of HT_.out (by kernel_rfl)) ?_
    try go_wp2
    go_ret
    exact ⟨ze, zs0 HB⟩
   subst c8
   have H1 : (laws_eqSkyRowS.l0 k1 l0 l1 (wrap64 (x5_1 + 1))) = some r := by rw [if_pos rfl] at H; exact H
   clear H
   have H := H1
   clear H1
   have H' := zA H
   clear H
   try go_wp2
   replace HB := zA (below_drew1 HB.out)
   have p191 : 0 ≤ (x5_1 : Int) := za
   have q191 : x5_1 < (l0.length : Int) := za
   obtain ⟨ad191, A191_2, c191_2, e191, hx191_0, hx191_1, hx191_2, hl191_2, hi191_2⟩ := at_T44 HR0.out x5_1 p191 q191
   have hw191_2 := hx191_2
   have hw191_1 := hx191_1
   have hw191_0 := hx191_0
   cases e191
   replace hx191_0 := zx HB hx191_0
   replace hx191_1 := zx HB hx191_1
   replace hx191_2 := zx HB hx191_2
   have HR191_2 := zA hi191_2
   have HC191_2 := zA hl191_2
   clear hi191_2 hl191_2
   replace p191 := eq_true p191
   replace q191 := eq_true q191
   have p192 : 0 ≤ (x5_1 : Int) := za
   have q192 : x5_1 < (l1.length : Int) := za
   obtain ⟨ad192, A192_2, c192_2, e192, hx192_0, hx192_1, hx192_2, hl192_2, hi192_2⟩ := at_T44 HR1.out x5_1 p192 q192
   have hw192_2 := hx192_2
   have hw192_1 := hx192_1
   have hw192_0 := hx192_0
   cases e192
   replace hx192_0 := zx HB hx192_0
   replace hx192_1 := zx HB hx192_1
   replace hx192_2 := zx HB hx192_2
   have HR192_2 := zA hi192_2
   have HC192_2 := zA hl192_2
   clear hi192_2 hl192_2
   replace p192 := eq_true p192
   replace q192 := eq_true q192
   refine start_ (n := 10) (S := fun w' => w'.cell? (ad191.add ((x5_1).toNat * 3)) = some (.int .i64 ((rd_T44 l0 x5_1).f0)) ∧ w'.cell? ⟨(ad191.add ((x5_1).toNat * 3)).block, (ad191.add ((x5_1).toNat * 3)).off + 1, none⟩ = some (.int .i64 ((rd_T44 l0 x5_1).f1)) ∧ w'.cell? ⟨(ad191.add ((x5_1).toNat * 3)).block, (ad191.add ((x5_1).toNat * 3)).off + 2, none⟩ = some (.slice A191_2 ((rd_T44 l0 x5_1).f2).length c191_2) ∧ w'.cell? (ad192.add ((x5_1).toNat * 3)) = some (.int .i64 ((rd_T44 l1 x5_1).f0)) ∧ w'.cell? ⟨(ad192.add ((x5_1).toNat * 3)).block, (ad192.add ((x5_1).toNat * 3)).off + 1, none⟩ = some (.int .i64 ((rd_T44 l1 x5_1).f1)) ∧ w'.cell? ⟨(ad192.add ((x5_1).toNat * 3)).block, (ad192.add ((x5_1).toNat * 3)).off + 2, none⟩ = some (.slice A192_2 ((rd_T44 l1 x5_1).f2).length c192_2)) (ds := []) #[F,F,F,F,F,F,F,F,F,F] (by kernel_rfl) rfl rfl ⟨(zw HB hw191_0), (zw HB hw191_1), (zw HB hw191_2), (zw HB hw192_0), (zw HB hw192_1), (zw HB hw192_2)⟩ (fun hHeld => ?_); refine with_tabW laws_eqSkyRowS.tab6 laws_eqSkyRowS.bits6 (fun HT_ HW_ => ?_)
   generalize wr.drew = w9 at HB HR191_2 HR192_2 hx191_0 hx191_1 hx191_2 hx192_0 hx192_1 hx192_2 hHeld ⊢
   refine zq HT_ 0 ?_
   refine zq HT_ 1 ?_
   refine zq HT_ 2 ?_
   refine zq HT_ 4 ?_
   refine zq HT_ 5 ?_
   refine zq HT_ 6 ?_
   refine zk6 HT_ HW_ hHeld 3 ?_
   refine zk6 HT_ HW_ hHeld 7 ?_
   refine zo HT_ 8 (fun K hK => ?_)
   refine zgo Try.func21 #[.agg #[.int .i64 ((rd_T44 l0 x5_1).f0), .int .i64 ((rd_T44 l0 x5_1).f1), .slice A191_2 ((rd_T44 l0 x5_1).f2).length c191_2], .agg #[.int .i64 ((rd_T44 l1 x5_1).f0), .int .i64 ((rd_T44 l1 x5_1).f1), .slice A192_2 ((rd_T44 l1 x5_1).f2).length c192_2]] ?_
   with_reducible refine (laws_eqSkyRow.calls k1 ((rd_T44 l0 x5_1).f0) ((rd_T44 l0 x5_1).f1) _ _ ((rd_T44 l0 x5_1).f2) ((rd_T44 l1 x5_1).f0) ((rd_T44 l1 x5_1).f1) _ _ ((rd_T44 l1 x5_1).f2) true _ ?side1 ?side2 ?side3 ?side4 A7.out).mono ?_
   (case side1 => exact zC HR191_2 HB)
   (case side2 => exact HC191_2.out)
   (case side3 => exact zC HR192_2 HB)
   (case side4 => exact HC192_2.out)
   rintro e w10 ⟨rfl, hb⟩
   refine ⟨_, rfl, ?_⟩
   replace HB := zE (zs0 HB) hb
   (try clear hb)
   (try clear hb2)
   (try clear hk)
   (try clear hi)
   refine hK.out _ _ ⟨(zw HB hw191_0), (zw HB hw191_1), (zw HB hw191_2), (zw HB hw192_0), (zw HB hw192_1), (zw HB hw192_2)⟩ (fun hHeld => ?_)
   clear hK K
   refine zN ?_
   refine zq HT_ 9 ?_
   refine done_ (done_of HT_.out (by kernel_rfl)) ?_
   try go_wp2
   go_roundg k1
   case measure => have := HK1.out; omega
   case rel => exact ⟨(wrap64 (x5_1 + 1)), zi, H', ⟨by have := HK1.out; omega⟩, ⟨zs0 HB⟩⟩
def laws_eqSkyHop.f (a0_0 : ByteArray) (a0_1 : ByteArray) (a0_2 : Int) (a0_3 : ByteArray) (a1_0 : ByteArray) (a1_1 : ByteArray) (a1_2 : Int) (a1_3 : ByteArray) : Option (Bool) := if a0_0.toList = a1_0.toList then (if a0_1.toList = a1_1.toList then (if a0_2 = a1_2 then (if a0_3.toList = a1_3.toList then (some true) else (some false)) else (some false)) else (some false)) else (some false)
set_option maxHeartbeats 8000000 in
set_option maxRecDepth 100000 in
theorem laws_eqSkyHop.calls (a0_0 : ByteArray) (a0_1 : ByteArray) (a0_2 : Int) (a0_3 : ByteArray) (a1_0 : ByteArray) (a1_1 : ByteArray) (a1_2 : Int) (a1_3 : ByteArray) (r : Bool) (w : World) (h : laws_eqSkyHop.f a0_0 a0_1 a0_2 a0_3 a1_0 a1_1 a1_2 a1_3 = some r) :
 Calls Try.prog 22 #[.agg #[.string a0_0, .string a0_1, .int .i64 a0_2, .string a0_3], .agg #[.string a1_0, .string a1_1, .int .i64 a1_2, .string a1_3]] w fun e w' => e = .returned (.bool r) ∧ Below w.heap.size w w' := by
 have hu60 := Try.underlying60
 have HB := zA (Below.refl w.heap.size w)
 have H : (if a0_0.toList = a1_0.toList then (if a0_1.toList = a1_1.toList then (if a0_2 = a1_2 then (if a0_3.toList = a1_3.toList then (some true) else (some false)) else (some false)) else (some false)) else (some false)) = some r := h
 clear h
 by_cases c3 : a0_0.toList = a1_0.toList
 rotate_left
 ·rw [if_neg c3] at H
  have c3b0 : (a0_0.toList == a1_0.toList) = false := beq_eq_false_iff_ne.mpr c3
  have c3b1 : (a0_0.toList != a1_0.toList) = true := bne_iff_ne.mpr c3
  obtain rfl := Option.some.inj H
  go_enter Try.func22, Try.ntmps22
  go_wp2_with (first | ((with_reducible refine gate_dst (N := 2) rfl ?_); refine zbx 2 #[.string a0_0, .string a0_1, .int .i64 a0_2, .string a0_3] 60 ?_; intro gb194 hg w27 hbox hb; have BK194 := zA hbox; have GW194 := zgs hg (zs0 HB); have GE194 := zgs hg (zs0 HB); replace HB := zE (zs0 HB) hb; clear hb hbox hg) | ((with_reducible refine gate_dst (N := 3) rfl ?_); refine zbx 3 #[.string a1_0, .string a1_1, .int .i64 a1_2, .string a1_3] 60 ?_; intro gb195 hg w28 hbox hb; have BK195 := zA hbox; have GW195 := zgs hg (zs1 HB GE194); have GE195 := zgs hg (zs1 HB GE194); have NB194_195 := zne hg BK194; have NB195_194 := znf hg BK194; replace BK194 := zb BK194 hb; replace HB := zE (zs1 HB GE194) hb; clear hb hbox hg; have hnb29 := NB194_195.out; have hnc29 := NB195_194.out; obtain ⟨hcz30_0, hcz30_1, hcz30_2, hcz30_3⟩ := zd4 BK194; obtain ⟨hfz30_0, hfz30_1, hfz30_2, hfz30_3⟩ := zn4 BK194; obtain ⟨hcz31_0, hcz31_1, hcz31_2, hcz31_3⟩ := zd4 BK195; obtain ⟨hfz31_0, hfz31_1, hfz31_2, hfz31_3⟩ := zn4 BK195))
  go_ret
  exact ⟨ze, zs2 HB GE194 GE195⟩
 rw [if_pos c3] at H
 have c3b0 : (a0_0.toList == a1_0.toList) = true := beq_iff_eq.mpr c3
 have c3b1 : (a0_0.toList != a1_0.toList) = false := bne_eq_false_iff_eq.mpr c3
 clear c3
 by_cases c4 : a0_1.toList = a1_1.toList
 rotate_left
 ·rw [if_neg c4] at H
  have c4b0 : (a0_1.toList == a1_1.toList) = false := beq_eq_false_iff_ne.mpr c4
  have c4b1 : (a0_1.toList != a1_1.toList) = true := bne_iff_ne.mpr c4
  obtain rfl := Option.some.inj H
  go_enter Try.func22, Try.ntmps22
  go_wp2_with (first | ((with_reducible refine gate_dst (N := 2) rfl ?_); refine zbx 2 #[.string a0_0, .string a0_1, .int .i64 a0_2, .string a0_3] 60 ?_; intro gb194 hg w22 hbox hb; have BK194 := zA hbox; have GW194 := zgs hg (zs0 HB); have GE194 := zgs hg (zs0 HB); replace HB := zE (zs0 HB) hb; clear hb hbox hg) | ((with_reducible refine gate_dst (N := 3) rfl ?_); refine zbx 3 #[.string a1_0, .string a1_1, .int .i64 a1_2, .string a1_3] 60 ?_; intro gb195 hg w23 hbox hb; have BK195 := zA hbox; have GW195 := zgs hg (zs1 HB GE194); have GE195 := zgs hg (zs1 HB GE194); have NB194_195 := zne hg BK194; have NB195_194 := znf hg BK194; replace BK194 := zb BK194 hb; replace HB := zE (zs1 HB GE194) hb; clear hb hbox hg; have hnb24 := NB194_195.out; have hnc24 := NB195_194.out; obtain ⟨hcz25_0, hcz25_1, hcz25_2, hcz25_3⟩ := zd4 BK194; obtain ⟨hfz25_0, hfz25_1, hfz25_2, hfz25_3⟩ := zn4 BK194; obtain ⟨hcz26_0, hcz26_1, hcz26_2, hcz26_3⟩ := zd4 BK195; obtain ⟨hfz26_0, hfz26_1, hfz26_2, hfz26_3⟩ := zn4 BK195))
  go_ret
  exact ⟨ze, zs2 HB GE194 GE195⟩
 rw [if_pos c4] at H
 have c4b0 : (a0_1.toList == a1_1.toList) = true := beq_iff_eq.mpr c4
 have c4b1 : (a0_1.toList != a1_1.toList) = false := bne_eq_false_iff_eq.mpr c4
 clear c4
 by_cases c5 : a0_2 = a1_2
 rotate_left
 ·rw [if_neg c5] at H
  have c5b0 : (a0_2 == a1_2) = false := beq_eq_false_iff_ne.mpr c5
  have c5b1 : (a0_2 != a1_2) = true := bne_iff_ne.mpr c5
  obtain rfl := Option.some.inj H
  go_enter Try.func22, Try.ntmps22
  go_wp2_with (first | ((with_reducible refine gate_dst (N := 2) rfl ?_); refine zbx 2 #[.string a0_0, .string a0_1, .int .i64 a0_2, .string a0_3] 60 ?_; intro gb194 hg w17 hbox hb; have BK194 := zA hbox; have GW194 := zgs hg (zs0 HB); have GE194 := zgs hg (zs0 HB); replace HB := zE (zs0 HB) hb; clear hb hbox hg) | ((with_reducible refine gate_dst (N := 3) rfl ?_); refine zbx 3 #[.string a1_0, .string a1_1, .int .i64 a1_2, .string a1_3] 60 ?_; intro gb195 hg w18 hbox hb; have BK195 := zA hbox; have GW195 := zgs hg (zs1 HB GE194); have GE195 := zgs hg (zs1 HB GE194); have NB194_195 := zne hg BK194; have NB195_194 := znf hg BK194; replace BK194 := zb BK194 hb; replace HB := zE (zs1 HB GE194) hb; clear hb hbox hg; have hnb19 := NB194_195.out; have hnc19 := NB195_194.out; obtain ⟨hcz20_0, hcz20_1, hcz20_2, hcz20_3⟩ := zd4 BK194; obtain ⟨hfz20_0, hfz20_1, hfz20_2, hfz20_3⟩ := zn4 BK194; obtain ⟨hcz21_0, hcz21_1, hcz21_2, hcz21_3⟩ := zd4 BK195; obtain ⟨hfz21_0, hfz21_1, hfz21_2, hfz21_3⟩ := zn4 BK195))
  go_ret
  exact ⟨ze, zs2 HB GE194 GE195⟩
 rw [if_pos c5] at H
 have c5b0 : (a0_2 == a1_2) = true := beq_iff_eq.mpr c5
 have c5b1 : (a0_2 != a1_2) = false := bne_eq_false_iff_eq.mpr c5
 clear c5
 by_cases c6 : a0_3.toList = a1_3.toList
 rotate_left
 ·rw [if_neg c6] at H
  have c6b0 : (a0_3.toList == a1_3.toList) = false := beq_eq_false_iff_ne.mpr c6
  have c6b1 : (a0_3.toList != a1_3.toList) = true := bne_iff_ne.mpr c6
  obtain rfl := Option.some.inj H
  go_enter Try.func22, Try.ntmps22
  go_wp2_with (first | ((with_reducible refine gate_dst (N := 2) rfl ?_); refine zbx 2 #[.string a0_0, .string a0_1, .int .i64 a0_2, .string a0_3] 60 ?_; intro gb194 hg w12 hbox hb; have BK194 := zA hbox; have GW194 := zgs hg (zs0 HB); have GE194 := zgs hg (zs0 HB); replace HB := zE (zs0 HB) hb; clear hb hbox hg) | ((with_reducible refine gate_dst (N := 3) rfl ?_); refine zbx 3 #[.string a1_0, .string a1_1, .int .i64 a1_2, .string a1_3] 60 ?_; intro gb195 hg w13 hbox hb; have BK195 := zA hbox; have GW195 := zgs hg (zs1 HB GE194); have GE195 := zgs hg (zs1 HB GE194); have NB194_195 := zne hg BK194; have NB195_194 := znf hg BK194; replace BK194 := zb BK194 hb; replace HB := zE (zs1 HB GE194) hb; clear hb hbox hg; have hnb14 := NB194_195.out; have hnc14 := NB195_194.out; obtain ⟨hcz15_0, hcz15_1, hcz15_2, hcz15_3⟩ := zd4 BK194; obtain ⟨hfz15_0, hfz15_1, hfz15_2, hfz15_3⟩ := zn4 BK194; obtain ⟨hcz16_0, hcz16_1, hcz16_2, hcz16_3⟩ := zd4 BK195; obtain ⟨hfz16_0, hfz16_1, hfz16_2, hfz16_3⟩ := zn4 BK195))
  go_ret
  exact ⟨ze, zs2 HB GE194 GE195⟩
 rw [if_pos c6] at H
 have c6b0 : (a0_3.toList == a1_3.toList) = true := beq_iff_eq.mpr c6
 have c6b1 : (a0_3.toList != a1_3.toList) = false := bne_eq_false_iff_eq.mpr c6
 clear c6
 obtain rfl := Option.some.inj H
 go_enter Try.func22, Try.ntmps22
 go_wp2_with (first | ((with_reducible refine gate_dst (N := 2) rfl ?_); refine zbx 2 #[.string a0_0, .string a0_1, .int .i64 a0_2, .string a0_3] 60 ?_; intro gb194 hg w7 hbox hb; have BK194 := zA hbox; have GW194 := zgs hg (zs0 HB); have GE194 := zgs hg (zs0 HB); replace HB := zE (zs0 HB) hb; clear hb hbox hg) | ((with_reducible refine gate_dst (N := 3) rfl ?_); refine zbx 3 #[.string a1_0, .string a1_1, .int .i64 a1_2, .string a1_3] 60 ?_; intro gb195 hg w8 hbox hb; have BK195 := zA hbox; have GW195 := zgs hg (zs1 HB GE194); have GE195 := zgs hg (zs1 HB GE194); have NB194_195 := zne hg BK194; have NB195_194 := znf hg BK194; replace BK194 := zb BK194 hb; replace HB := zE (zs1 HB GE194) hb; clear hb hbox hg; have hnb9 := NB194_195.out; have hnc9 := NB195_194.out; obtain ⟨hcz10_0, hcz10_1, hcz10_2, hcz10_3⟩ := zd4 BK194; obtain ⟨hfz10_0, hfz10_1, hfz10_2, hfz10_3⟩ := zn4 BK194; obtain ⟨hcz11_0, hcz11_1, hcz11_2, hcz11_3⟩ := zd4 BK195; obtain ⟨hfz11_0, hfz11_1, hfz11_2, hfz11_3⟩ := zn4 BK195))
 go_ret
 exact ⟨ze, zs2 HB GE194 GE195⟩
end Go.Proofs.Ytlcaalhbdfeflaa.QFnExactSkyFind
