/- The walk of what the law FnExactPlanBaseOk reaches: laid by a program of this session (ownprint.py). -/
import Derived.Test.YtleenmphhlioaaaQFnExactPlanBaseOkx0
import Derived.Test.YtleenmphhlioaaaQFnExactPlanBaseOkx5
import Derived.Test.YtleenmphhlioaaaMapSet
namespace Go.Proofs.Ytleenmphhlioaaa.QFnExactPlanBaseOk
open Go Go.RowKit Go.Proofs.YtleenmphhlioaaaW.PrintWords Go.Proofs.YtleenmphhlioaaaW.PrintLast Go.Proofs.YtleenmphhlioaaaW.PrintMore Go.Proofs.Ytleenmphhlioaaa.Z
attribute [local go_sem] max2_int min2_int max_two min_two max_three min_three max_four min_four zdn   -- for this text's walks alone
attribute [-go_sem] Go.binOp_string_leq
attribute [local go_sem] leq_alt
set_option linter.unusedVariables false
set_option linter.unusedSimpArgs false
def seenT (l : List S42) (i : Int) : List (Int × Int) := (l.take i.toNat).map fun p => (p.f1, p.f2)
theorem seenT_step {l : List S42} {i : Int} (h0 : 0 ≤ i) (h1 : i < (l.length : Int)) (h2 : (l.length : Int) ≤ 16) : seenT l i ++ [((rd_T42 l i).f1, (rd_T42 l i).f2)] = seenT l (wrap64 (i + 1)) := by
  have hi : i.toNat < l.length := by omega
  have e : wrap64 (i + 1) = i + 1 := w64_ (by omega) (by omega)
  have er : rd_T42 l i = l[i.toNat] := by
    show l.getD i.toNat _ = _
    rw [List.getD_eq_getElem?_getD, List.getElem?_eq_getElem hi]; rfl
  unfold seenT
  rw [e, er, show (i + 1).toNat = i.toNat + 1 by omega, List.take_add_one, List.getElem?_eq_getElem hi, List.map_append]
  rfl
theorem point_range {k : Nat} {a : ByteArray} {x y : Int} (h : impl_pointOk.f k a x y = some true) : (0 ≤ x ∧ x ≤ 15) ∧ (0 ≤ y ∧ y ≤ 15) := by
  have win : ∀ v r, impl_within.f v 0 15 = some r → r = true → 0 ≤ v ∧ v ≤ 15 := by
    intro v r h hr
    unfold impl_within.f at h
    split at h
    · have := Option.some.inj h
      rw [hr] at this
      have := of_decide_eq_true this
      omega
    · have := Option.some.inj h
      rw [hr] at this
      cases this
  unfold impl_pointOk.f at h
  obtain ⟨b1, _, h⟩ := Option.bind_eq_some_iff.1 h
  split at h
  · obtain ⟨b2, h2, h⟩ := Option.bind_eq_some_iff.1 h
    split at h
    · rename_i hb2
      obtain ⟨b3, h3, h⟩ := Option.bind_eq_some_iff.1 h
      exact ⟨win _ _ h2 hb2, win _ _ h3 (Option.some.inj h)⟩
    · cases h
  · cases h
mutual
def impl_PlanBaseOk.j0 : Nat → Bool → List (S39) → List (S42) → Option (Bool)
 | 0, _, _, _ => none
 | k + 1, x18, x169000, x169001 => if x18 = true then (some false) else (impl_PlanBaseOk.l0 k x169000 (x169000.length : Int) 0 x169000 x169001)
def impl_PlanBaseOk.l0 : Nat → List (S39) → Int → Int → List (S39) → List (S42) → Option (Bool)
 | 0, _, _, _, _, _ => none
 | k + 1, x20, x21, x22, x169000, x169001 => if x22 < x21 then (if 0 ≤ x22 then (if x22 < (x20.length : Int) then ((impl_kindOk.f k ((rd_T39 x20 x22).f0) ((rd_T39 x20 x22).f1) ((rd_T39 x20 x22).f2)).bind fun t171 => (if t171 = true then (if x22 > 0 then (if 0 ≤ (wrap64 (x22 - 1)) then (if (wrap64 (x22 - 1)) < (x169000.length : Int) then (if ((Op.bytesLess (((rd_T39 x169000 (wrap64 (x22 - 1))).f0).toList) (((rd_T39 x20 x22).f0).toList)) = true) then (impl_PlanBaseOk.l0 k x20 x21 (wrap64 (x22 + 1)) x169000 x169001) else (some false)) else (none)) else (none)) else (impl_PlanBaseOk.l0 k x20 x21 (wrap64 (x22 + 1)) x169000 x169001)) else (some false))) else (none)) else (none)) else (impl_PlanBaseOk.l1 k x169001 (x169001.length : Int) 0 x169000 x169001)
def impl_PlanBaseOk.l1 : Nat → List (S42) → Int → Int → List (S39) → List (S42) → Option (Bool)
 | 0, _, _, _, _, _ => none
 | k + 1, x49, x50, x51, x169000, x169001 => if x51 < x50 then (if 0 ≤ x51 then (if x51 < (x49.length : Int) then ((impl_pointOk.f k ((rd_T42 x49 x51).f0) ((rd_T42 x49 x51).f1) ((rd_T42 x49 x51).f2)).bind fun t176 => (if t176 = true then (if (((rd_T42 x49 x51).f1), ((rd_T42 x49 x51).f2)) ∈ seenT x49 x51 then (some false) else (if x51 > 0 then (if 0 ≤ (wrap64 (x51 - 1)) then (if (wrap64 (x51 - 1)) < (x169001.length : Int) then (if ((Op.bytesLess (((rd_T42 x169001 (wrap64 (x51 - 1))).f0).toList) (((rd_T42 x49 x51).f0).toList)) = true) then (impl_PlanBaseOk.l1 k x49 x50 (wrap64 (x51 + 1)) x169000 x169001) else (some false)) else (none)) else (none)) else (impl_PlanBaseOk.l1 k x49 x50 (wrap64 (x51 + 1)) x169000 x169001))) else (some false))) else (none)) else (none)) else (some true)
end
def impl_PlanBaseOk.f (k : Nat) (l0_0 : List (S39)) (l0_1 : List (S42)) : Option (Bool) := if (l0_0.length : Int) > 6 then (impl_PlanBaseOk.j0 k true l0_0 l0_1) else (impl_PlanBaseOk.j0 k (decide ((l0_1.length : Int) > 16)) l0_0 l0_1)
def impl_PlanBaseOk.T6 : Bool × List (List Nat × List Nat) := (true, [([], []), ([0], [0]), ([1], [1]), ([2, 1], [2]), ([3], [3]), ([4, 3], [3, 4]), ([5, 3, 3], [3, 5]), ([6], [6]), ([7, 6], [6, 7]), ([6], [6]), ([9, 6], [6, 9]), ([6], [6]), ([11, 6], [6, 11]), ([10, 12, 6], [6, 10, 12]), ([13, 6], [6, 13]), ([14, 6], [6, 14]), ([8, 15, 6], [6, 8, 15]), ([6, 16, 3], [3, 6, 16]), ([3, 17], [3, 17])])
def impl_PlanBaseOk.B6 : List Nat := [0, 1, 3, 7, 15, 31, 63, 127, 255, 127, 639, 127, 2175, 7807, 15999, 32383, 65535, 131071, 262143]
theorem impl_PlanBaseOk.tab6 : rtab .any (opsOf Try.f7 6) = impl_PlanBaseOk.T6 := by kernel_rfl
theorem impl_PlanBaseOk.bits6 : waitsOk impl_PlanBaseOk.T6.2 impl_PlanBaseOk.B6 = true := by kernel_rfl
def impl_PlanBaseOk.T14 : Bool × List (List Nat × List Nat) := (true, [([], []), ([0], [0]), ([1], [1]), ([2, 1], [2]), ([3], [3]), ([3], [3]), ([4, 5, 3], [3, 4, 5]), ([3, 6], [3, 6]), ([7, 3], [7]), ([8], [8]), ([9, 8], [8, 9]), ([10, 8, 8], [8, 10]), ([11], [11]), ([12, 11], [11, 12]), ([11], [11]), ([14, 11], [11, 14]), ([11], [11]), ([16, 11], [11, 16]), ([15, 17, 11], [11, 15, 17]), ([18, 11], [11, 18]), ([19, 11], [11, 19]), ([13, 20, 11], [11, 13, 20]), ([11, 21, 8], [8, 11, 21]), ([8, 22], [8, 22])])
def impl_PlanBaseOk.B14 : List Nat := [0, 1, 3, 7, 15, 15, 63, 127, 255, 511, 1023, 2047, 4095, 8191, 4095, 20479, 4095, 69631, 249855, 511999, 1036287, 2097151, 4194303, 8388607]
theorem impl_PlanBaseOk.tab14 : rtab .any (opsOf Try.f7 14) = impl_PlanBaseOk.T14 := by kernel_rfl
theorem impl_PlanBaseOk.bits14 : waitsOk impl_PlanBaseOk.T14.2 impl_PlanBaseOk.B14 = true := by kernel_rfl
set_option maxHeartbeats 8000000 in
set_option maxRecDepth 100000 in
theorem impl_PlanBaseOk.calls (k : Nat) (A0_0 : Option Addr) (c0_0 : Nat) (l0_0 : List (S39)) (A0_1 : Option Addr) (c0_1 : Nat) (l0_1 : List (S42)) (r : Bool) (w : World) (hr0_0 : Kd.C k39 w A0_0 l0_0.length l0_0) (hc0_0 : l0_0.length ≤ c0_0) (hr0_1 : Kd.C k42 w A0_1 l0_1.length l0_1) (hc0_1 : l0_1.length ≤ c0_1) (h : impl_PlanBaseOk.f k l0_0 l0_1 = some r) :
 Calls Try.prog 7 #[.agg #[.slice A0_0 l0_0.length c0_0, .slice A0_1 l0_1.length c0_1]] w fun e w' => e = .returned (.bool r) ∧ Below w.heap.size w w' := by
 have hu31 := Try.underlying31
 have hu39 := Try.underlying39
 have hu42 := Try.underlying42
 have hu46 := Try.underlying46
 have HR0_0 := Aside0.mk hr0_0
 have HC0_0 := Aside0.mk hc0_0
 clear hr0_0 hc0_0
 have HR0_1 := Aside0.mk hr0_1
 have HC0_1 := Aside0.mk hc0_1
 clear hr0_1 hc0_1
 have HB := Aside0.mk (Below.refl w.heap.size w)
 have H : (if (l0_0.length : Int) > 6 then (impl_PlanBaseOk.j0 k true l0_0 l0_1) else (impl_PlanBaseOk.j0 k (decide ((l0_1.length : Int) > 16)) l0_0 l0_1)) = some r := h
 clear h
 have HC2 := Aside0.mk H
 clear H
 go_enter Try.func7, Try.ntmps7
 go_upto_region 1 with (first | ((with_reducible refine gate_dst (N := 1) rfl ?_); (try (refine gate_guard (by rfl) ?_; dsimp only)); refine zbx 1 #[.slice A0_0 l0_0.length c0_0, .slice A0_1 l0_1.length c0_1] 31 ?_; intro gb168 hg w3 hbox hb; have BK168 := zA hbox; have GW168 := zgs hg (zs0 HB); have GE168 := zgs hg (zs0 HB); replace HB := zE (zs0 HB) hb; clear hb hbox hg))
 (try simp only [Act.put, List.setIfInBounds_toArray, List.set_cons_zero, List.set_cons_succ])
 go_cut [18] (fun v18 wc => ∃ (kq : Nat) (x18_1 : Bool), v18 = .bool x18_1 ∧ Aside0 (x18_1 = false → (l0_1.length : Int) ≤ 16) ∧ Aside0 (impl_PlanBaseOk.j0 kq x18_1 l0_0 l0_1 = some r) ∧ Aside0 (kq ≤ k) ∧ Aside0 (wc.heap[gb168]? = some (.cells #[(.slice A0_0 l0_0.length c0_0), (.slice A0_1 l0_1.length c0_1)] 31 (0, 0))) ∧ Aside0 (Below w.heap.size w wc))
 case first =>
  have H := HC2.out
  clear HC2
  by_cases c4 : (l0_0.length : Int) > 6
  ·rw [if_pos c4] at H
   have c4b0 : decide (6 < (l0_0.length : Int)) = true := decide_eq_true c4
   have c4b1 : decide (6 < l0_0.length) = true := decide_eq_true (by omega)
   clear c4
   (first | rw [c4b0] | (simp only [i64_w, i32_w]; rw [c4b0]) | skip)
   have H' := Aside0.mk H
   clear H
   obtain ⟨hcz5_0, hcz5_1⟩ := zd2 BK168
   obtain ⟨hfz5_0, hfz5_1⟩ := zn2 BK168
   go_wp2
   go_meet
   case rel => exact ⟨_, (true), zi, ⟨fun e => by cases e⟩, H', ⟨by first | omega | exact Nat.le_refl _⟩, ⟨zh BK168⟩, ⟨zs1 HB GE168⟩⟩
  rw [if_neg c4] at H
  have c4b0 : decide (6 < (l0_0.length : Int)) = false := decide_eq_false c4
  have c4b1 : decide (6 < l0_0.length) = false := decide_eq_false (by omega)
  clear c4
  (first | rw [c4b0] | (simp only [i64_w, i32_w]; rw [c4b0]) | skip)
  have H' := Aside0.mk H
  clear H
  obtain ⟨hcz6_0, hcz6_1⟩ := zd2 BK168
  obtain ⟨hfz6_0, hfz6_1⟩ := zn2 BK168
  go_wp2
  go_meet
  case rel => exact ⟨_, (decide ((l0_1.length : Int) > 16)), zi, ⟨fun e => by have := of_decide_eq_false e; omega⟩, H', ⟨by first | omega | exact Nat.le_refl _⟩, ⟨zh BK168⟩, ⟨zs1 HB GE168⟩⟩
 case rest =>
  clear HC2
  try clear p2
  try clear c4
  try clear c4b0
  try clear c4b1
  try clear hcz5_0 hcz5_1
  try clear hcz6_0 hcz6_1
  try clear hfz5_0 hfz5_1
  try clear hfz6_0 hfz6_1
  obtain ⟨kq, x18_1, rfl, HL16, HA, HJ1, BK168, HB⟩ := hcut
  cases kq with
  | zero => exact absurd HA.out (by simp [impl_PlanBaseOk.j0])
  | succ kj1 =>
   have H := HA.out
   clear HA
   simp only [impl_PlanBaseOk.j0] at H
   by_cases c7 : x18_1 = true
   ·subst c7
    have H1 : (some false) = some r := by rw [if_pos rfl] at H; exact H
    clear H
    have H := H1
    clear H1
    obtain rfl := Option.some.inj H
    go_wp2
    go_ret
    exact ⟨ze, zs1 HB GE168⟩
   replace c7 := Bool.eq_false_iff.mpr c7
   subst c7
   have H1 : (impl_PlanBaseOk.l0 kj1 l0_0 (l0_0.length : Int) 0 l0_0 l0_1) = some r := by rw [if_neg (show ¬ (false = true) by decide)] at H; exact H
   clear H
   have H := H1
   clear H1
   have H' := Aside0.mk H
   clear H
   obtain ⟨hcz8_0, hcz8_1⟩ := zd2 BK168
   obtain ⟨hfz8_0, hfz8_1⟩ := zn2 BK168
   go_wp2
   go_loopg [22] kj1 (fun kq v22 w' => ∃ (x22_2 : Int), v22 = .int .i64 x22_2 ∧ Aside0 (impl_PlanBaseOk.l0 kq l0_0 (l0_0.length : Int) x22_2 l0_0 l0_1 = some r) ∧ Aside0 (kq ≤ kj1) ∧ Aside0 (w'.heap[gb168]? = some (.cells #[(.slice A0_0 l0_0.length c0_0), (.slice A0_1 l0_1.length c0_1)] 31 (0, 0))) ∧ Aside0 (Below w.heap.size w w'))
   case atStart => exact ⟨(0), zi, H', ⟨Nat.le_refl _⟩, ⟨zh BK168⟩, ⟨zs1 HB GE168⟩⟩
   case round =>
    clear H'
    try clear p2
    try clear c4
    try clear c4b0
    try clear c4b1
    try clear c7
    try clear hcz5_0 hcz5_1
    try clear hcz6_0 hcz6_1
    try clear hcz8_0 hcz8_1
    try clear hfz5_0 hfz5_1
    try clear hfz6_0 hfz6_1
    try clear hfz8_0 hfz8_1
    try clear p2
    obtain ⟨x22_2, rfl, HA, HK2, BK168, HB⟩ := hrel
    cases gk with
    | zero => exact absurd HA.out (by simp [impl_PlanBaseOk.l0])
    | succ k2 =>
     have H := HA.out
     clear HA
     simp only [impl_PlanBaseOk.l0] at H
     by_cases c9 : x22_2 < (l0_0.length : Int)
     ·rw [if_pos c9] at H
      have c9b0 : decide (x22_2 < (l0_0.length : Int)) = true := decide_eq_true c9
      clear c9
      by_cases c10 : 0 ≤ x22_2
      rotate_left
      ·rw [if_neg c10] at H
       exact absurd H (by simp)
      rw [if_pos c10] at H
      have c10b0 : decide (0 ≤ x22_2) = true := decide_eq_true c10
      clear c10
      by_cases c11 : x22_2 < (l0_0.length : Int)
      rotate_left
      ·rw [if_neg c11] at H
       exact absurd H (by simp)
      rw [if_pos c11] at H
      have c11b0 : decide (x22_2 < (l0_0.length : Int)) = true := decide_eq_true c11
      clear c11
      replace H := zbd H; obtain ⟨t171, A12, H⟩ := H
      by_cases c13 : t171 = true
      rotate_left
      ·replace c13 := Bool.eq_false_iff.mpr c13
       subst c13
       have H1 : (some false) = some r := by rw [if_neg (show ¬ (false = true) by decide)] at H; exact H
       clear H
       have H := H1
       clear H1
       obtain rfl := Option.some.inj H
       have p169 : 0 ≤ (x22_2 : Int) := za
       have q169 : x22_2 < (l0_0.length : Int) := za
       obtain ⟨ad169, e169, hx169_0, hx169_1, hx169_2⟩ := at_T39 HR0_0.out x22_2 p169 q169
       cases e169
       replace hx169_0 := zx HB hx169_0
       replace hx169_1 := zx HB hx169_1
       replace hx169_2 := zx HB hx169_2
       replace p169 := eq_true p169
       replace q169 := eq_true q169
       try go_wp2_with (first | ((with_reducible refine gate_dst (N := 4) rfl ?_); (try (refine gate_guard (by rfl) ?_; dsimp only)); refine zbx 4 #[.string (⟨#[]⟩ : ByteArray), .int .i64 0, .int .i64 0] 39 ?_; intro gb170 hg w37 hbox hb; have BK170 := zA hbox; have GW170 := zgs hg (zs1 HB GE168); have GE170 := zgs hg (zs1 HB GE168); have NB168_170 := zne hg BK168; have NB170_168 := znf hg BK168; replace BK168 := zb BK168 hb; replace HB := zE (zs1 HB GE168) hb; clear hb hbox hg; have hnb38 := NB170_168.out; have hnc38 := NB168_170.out; obtain ⟨hcz39_0, hcz39_1, hcz39_2⟩ := zd3 BK170; obtain ⟨hfz39_0, hfz39_1, hfz39_2⟩ := zn3 BK170))
       obtain ⟨w40, e_⟩ : ∃ x, x = (((w37.setCell ⟨gb170, 0, none⟩ (.string ((rd_T39 l0_0 x22_2).f0))).setCell ⟨gb170, 1, none⟩ (.int .i64 ((rd_T39 l0_0 x22_2).f1))).setCell ⟨gb170, 2, none⟩ (.int .i64 ((rd_T39 l0_0 x22_2).f2))) := ⟨_, rfl⟩
       have n0_ : Aside0 (w40.heap[gb168]? = some (.cells #[.slice (some ad169) l0_0.length c0_0, .slice A0_1 l0_1.length c0_1] 31 (0, 0))) := by rw [e_]; exact ⟨zpf BK168 NB168_170⟩
       have n1_ : Aside0 (w40.heap[gb170]? = some (.cells #[.string ((rd_T39 l0_0 x22_2).f0), .int .i64 ((rd_T39 l0_0 x22_2).f1), .int .i64 ((rd_T39 l0_0 x22_2).f2)] 39 (0, 0))) := by rw [e_]; exact ⟨zpb BK170⟩
       have n2_ : Aside0 (Below w.heap.size w w40) := by rw [e_]; exact ⟨zs2 HB GE168 GE170⟩
       (try clear BK168)
       (try clear BK170)
       (try clear HB)
       rw [← e_]; clear e_
       have BK168 := n0_
       have BK170 := n1_
       have HB := n2_
       clear n0_ n1_ n2_
       replace BK168 := Aside0.mk (blk_drew BK168.out)
       replace BK170 := Aside0.mk (blk_drew BK170.out)
       replace HB := Aside0.mk (below_drew1 HB.out)
       refine start_ (n := 19) (S := fun w' => w'.cell? ⟨gb170, 0, none⟩ = some (.string ((rd_T39 l0_0 x22_2).f0)) ∧ w'.cell? ⟨gb170, 1, none⟩ = some (.int .i64 ((rd_T39 l0_0 x22_2).f1)) ∧ w'.cell? ⟨gb170, 2, none⟩ = some (.int .i64 ((rd_T39 l0_0 x22_2).f2))) (ds := []) #[false, false, false, false, false, false, false, false, false, false, false, false, false, false, false, false, false, false, false] (by kernel_rfl) rfl rfl ⟨zc0 BK170, zc1 BK170, zc2 BK170⟩ (fun hHeld => ?_); refine with_tabW impl_PlanBaseOk.tab6 impl_PlanBaseOk.bits6 (fun HT_ HW_ => ?_)
       generalize w40.drew = w41 at BK168 BK170 HB hHeld ⊢
       refine zk3 HT_ HW_ hHeld 0 ?_
       refine zo HT_ 1 (fun K hK => ?_)
       refine zgo Try.func15 #[.agg #[.string ((rd_T39 l0_0 x22_2).f0), .int .i64 ((rd_T39 l0_0 x22_2).f1), .int .i64 ((rd_T39 l0_0 x22_2).f2)]] ?_
       with_reducible refine (impl_kindOk.calls k2 ((rd_T39 l0_0 x22_2).f0) ((rd_T39 l0_0 x22_2).f1) ((rd_T39 l0_0 x22_2).f2) false _ A12.out).mono ?_
       rintro e w42 ⟨rfl, hb⟩
       refine ⟨_, rfl, ?_⟩
       replace BK168 := zb BK168 hb
       replace BK170 := zb BK170 hb
       replace HB := zE (zs2 HB GE168 GE170) hb
       (try clear hb)
       (try clear hb2)
       (try clear hk)
       (try clear hi)
       refine hK.out _ _ ⟨zc0 BK170, zc1 BK170, zc2 BK170⟩ (fun hHeld => ?_)
       clear hK K
       refine zN ?_
       refine zq HT_ 2 ?_
       refine zq HT_ 3 ?_
       refine zu HT_ 4 ?_
       refine zu HT_ 5 ?_
       refine zu HT_ 6 ?_
       refine zu HT_ 7 ?_
       refine zu HT_ 8 ?_
       refine zu HT_ 9 ?_
       refine zu HT_ 10 ?_
       refine zu HT_ 11 ?_
       refine zu HT_ 12 ?_
       refine zu HT_ 13 ?_
       refine zu HT_ 14 ?_
       refine zu HT_ 15 ?_
       refine zu HT_ 16 ?_
       refine zu HT_ 17 ?_
       refine zq HT_ 18 ?_
       refine done_ (done_of HT_.out (by kernel_rfl)) ?_
       try go_wp2
       go_ret
       exact ⟨ze, zs2 HB GE168 GE170⟩
      subst c13
      have H1 : (if x22_2 > 0 then (if 0 ≤ (wrap64 (x22_2 - 1)) then (if (wrap64 (x22_2 - 1)) < (l0_0.length : Int) then (if ((Op.bytesLess (((rd_T39 l0_0 (wrap64 (x22_2 - 1))).f0).toList) (((rd_T39 l0_0 x22_2).f0).toList)) = true) then (impl_PlanBaseOk.l0 k2 l0_0 (l0_0.length : Int) (wrap64 (x22_2 + 1)) l0_0 l0_1) else (some false)) else (none)) else (none)) else (impl_PlanBaseOk.l0 k2 l0_0 (l0_0.length : Int) (wrap64 (x22_2 + 1)) l0_0 l0_1)) = some r := by rw [if_pos rfl] at H; exact H
      clear H
      have H := H1
      clear H1
      by_cases c14 : x22_2 > 0
      rotate_left
      ·rw [if_neg c14] at H
       have c14b0 : decide (0 < x22_2) = false := decide_eq_false c14
       clear c14
       have H' := Aside0.mk H
       clear H
       have p169 : 0 ≤ (x22_2 : Int) := za
       have q169 : x22_2 < (l0_0.length : Int) := za
       obtain ⟨ad169, e169, hx169_0, hx169_1, hx169_2⟩ := at_T39 HR0_0.out x22_2 p169 q169
       cases e169
       replace hx169_0 := zx HB hx169_0
       replace hx169_1 := zx HB hx169_1
       replace hx169_2 := zx HB hx169_2
       replace p169 := eq_true p169
       replace q169 := eq_true q169
       try go_wp2_with (first | ((with_reducible refine gate_dst (N := 4) rfl ?_); (try (refine gate_guard (by rfl) ?_; dsimp only)); refine zbx 4 #[.string (⟨#[]⟩ : ByteArray), .int .i64 0, .int .i64 0] 39 ?_; intro gb170 hg w31 hbox hb; have BK170 := zA hbox; have GW170 := zgs hg (zs1 HB GE168); have GE170 := zgs hg (zs1 HB GE168); have NB168_170 := zne hg BK168; have NB170_168 := znf hg BK168; replace BK168 := zb BK168 hb; replace HB := zE (zs1 HB GE168) hb; clear hb hbox hg; have hnb32 := NB170_168.out; have hnc32 := NB168_170.out; obtain ⟨hcz33_0, hcz33_1, hcz33_2⟩ := zd3 BK170; obtain ⟨hfz33_0, hfz33_1, hfz33_2⟩ := zn3 BK170))
       obtain ⟨w34, e_⟩ : ∃ x, x = (((w31.setCell ⟨gb170, 0, none⟩ (.string ((rd_T39 l0_0 x22_2).f0))).setCell ⟨gb170, 1, none⟩ (.int .i64 ((rd_T39 l0_0 x22_2).f1))).setCell ⟨gb170, 2, none⟩ (.int .i64 ((rd_T39 l0_0 x22_2).f2))) := ⟨_, rfl⟩
       have n0_ : Aside0 (w34.heap[gb168]? = some (.cells #[.slice (some ad169) l0_0.length c0_0, .slice A0_1 l0_1.length c0_1] 31 (0, 0))) := by rw [e_]; exact ⟨zpf BK168 NB168_170⟩
       have n1_ : Aside0 (w34.heap[gb170]? = some (.cells #[.string ((rd_T39 l0_0 x22_2).f0), .int .i64 ((rd_T39 l0_0 x22_2).f1), .int .i64 ((rd_T39 l0_0 x22_2).f2)] 39 (0, 0))) := by rw [e_]; exact ⟨zpb BK170⟩
       have n2_ : Aside0 (Below w.heap.size w w34) := by rw [e_]; exact ⟨zs2 HB GE168 GE170⟩
       (try clear BK168)
       (try clear BK170)
       (try clear HB)
       rw [← e_]; clear e_
       have BK168 := n0_
       have BK170 := n1_
       have HB := n2_
       clear n0_ n1_ n2_
       replace BK168 := Aside0.mk (blk_drew BK168.out)
       replace BK170 := Aside0.mk (blk_drew BK170.out)
       replace HB := Aside0.mk (below_drew1 HB.out)
       refine start_ (n := 19) (S := fun w' => w'.cell? ⟨gb170, 0, none⟩ = some (.string ((rd_T39 l0_0 x22_2).f0)) ∧ w'.cell? ⟨gb170, 1, none⟩ = some (.int .i64 ((rd_T39 l0_0 x22_2).f1)) ∧ w'.cell? ⟨gb170, 2, none⟩ = some (.int .i64 ((rd_T39 l0_0 x22_2).f2))) (ds := []) #[false, false, false, false, false, false, false, false, false, false, false, false, false, false, false, false, false, false, false] (by kernel_rfl) rfl rfl ⟨zc0 BK170, zc1 BK170, zc2 BK170⟩ (fun hHeld => ?_); refine with_tabW impl_PlanBaseOk.tab6 impl_PlanBaseOk.bits6 (fun HT_ HW_ => ?_)
       generalize w34.drew = w35 at BK168 BK170 HB hHeld ⊢
       refine zk3 HT_ HW_ hHeld 0 ?_
       refine zo HT_ 1 (fun K hK => ?_)
       refine zgo Try.func15 #[.agg #[.string ((rd_T39 l0_0 x22_2).f0), .int .i64 ((rd_T39 l0_0 x22_2).f1), .int .i64 ((rd_T39 l0_0 x22_2).f2)]] ?_
       with_reducible refine (impl_kindOk.calls k2 ((rd_T39 l0_0 x22_2).f0) ((rd_T39 l0_0 x22_2).f1) ((rd_T39 l0_0 x22_2).f2) true _ A12.out).mono ?_
       rintro e w36 ⟨rfl, hb⟩
       refine ⟨_, rfl, ?_⟩
       replace BK168 := zb BK168 hb
       replace BK170 := zb BK170 hb
       replace HB := zE (zs2 HB GE168 GE170) hb
       (try clear hb)
       (try clear hb2)
       (try clear hk)
       (try clear hi)
       refine hK.out _ _ ⟨zc0 BK170, zc1 BK170, zc2 BK170⟩ (fun hHeld => ?_)
       clear hK K
       refine zN ?_
       refine zq HT_ 2 ?_
       refine zq HT_ 3 ?_
       refine zq HT_ 4 ?_
       refine zq HT_ 5 ?_
       refine zq HT_ 6 ?_
       refine zu HT_ 7 ?_
       refine zu HT_ 8 ?_
       refine zu HT_ 9 ?_
       refine zu HT_ 10 ?_
       refine zu HT_ 11 ?_
       refine zu HT_ 12 ?_
       refine zu HT_ 13 ?_
       refine zu HT_ 14 ?_
       refine zu HT_ 15 ?_
       refine zu HT_ 16 ?_
       refine zq HT_ 17 ?_
       refine zq HT_ 18 ?_
       refine done_ (done_of HT_.out (by kernel_rfl)) ?_
       try go_wp2
       go_roundg k2
       case measure => have := HJ1.out; have := HK2.out; omega
       case rel => exact ⟨(wrap64 (x22_2 + 1)), zi, H', ⟨by have := HJ1.out; have := HK2.out; omega⟩, ⟨zh BK168⟩, ⟨zs2 HB GE168 GE170⟩⟩
      rw [if_pos c14] at H
      have c14b0 : decide (0 < x22_2) = true := decide_eq_true c14
      clear c14
      obtain ⟨ji15, hji15⟩ : ∃ j_ : Int, (wrap64 (x22_2 - 1)) = j_ := ⟨_, rfl⟩
      first | rw [hji15] at H | simp only [hji15] at H
      (try rw [hji15] at A12)
      have hji15w : (IntKind.i64.wrap (x22_2 - 1)) = ji15 := (i64_w _).trans hji15
      by_cases c16 : 0 ≤ (ji15)
      rotate_left
      ·rw [if_neg c16] at H
       exact absurd H (by simp)
      rw [if_pos c16] at H
      have c16b0 : decide (0 ≤ (ji15)) = true := decide_eq_true c16
      clear c16
      by_cases c17 : (ji15) < (l0_0.length : Int)
      rotate_left
      ·rw [if_neg c17] at H
       exact absurd H (by simp)
      rw [if_pos c17] at H
      have c17b0 : decide ((ji15) < (l0_0.length : Int)) = true := decide_eq_true c17
      clear c17
      by_cases c18 : ((Op.bytesLess (((rd_T39 l0_0 (ji15)).f0).toList) (((rd_T39 l0_0 x22_2).f0).toList)) = true)
      rotate_left
      ·rw [if_neg c18] at H
       have c18b0 : (Op.bytesLess (((rd_T39 l0_0 (ji15)).f0).toList) (((rd_T39 l0_0 x22_2).f0).toList)) = false := by simpa using c18
       clear c18
       obtain rfl := Option.some.inj H
       have p169 : 0 ≤ (x22_2 : Int) := za
       have q169 : x22_2 < (l0_0.length : Int) := za
       obtain ⟨ad169, e169, hx169_0, hx169_1, hx169_2⟩ := at_T39 HR0_0.out x22_2 p169 q169
       cases e169
       replace hx169_0 := zx HB hx169_0
       replace hx169_1 := zx HB hx169_1
       replace hx169_2 := zx HB hx169_2
       replace p169 := eq_true p169
       replace q169 := eq_true q169
       try go_wp2_with (first | ((with_reducible refine gate_dst (N := 4) rfl ?_); (try (refine gate_guard (by rfl) ?_; dsimp only)); refine zbx 4 #[.string (⟨#[]⟩ : ByteArray), .int .i64 0, .int .i64 0] 39 ?_; intro gb170 hg w25 hbox hb; have BK170 := zA hbox; have GW170 := zgs hg (zs1 HB GE168); have GE170 := zgs hg (zs1 HB GE168); have NB168_170 := zne hg BK168; have NB170_168 := znf hg BK168; replace BK168 := zb BK168 hb; replace HB := zE (zs1 HB GE168) hb; clear hb hbox hg; have hnb26 := NB170_168.out; have hnc26 := NB168_170.out; obtain ⟨hcz27_0, hcz27_1, hcz27_2⟩ := zd3 BK170; obtain ⟨hfz27_0, hfz27_1, hfz27_2⟩ := zn3 BK170))
       obtain ⟨w28, e_⟩ : ∃ x, x = (((w25.setCell ⟨gb170, 0, none⟩ (.string ((rd_T39 l0_0 x22_2).f0))).setCell ⟨gb170, 1, none⟩ (.int .i64 ((rd_T39 l0_0 x22_2).f1))).setCell ⟨gb170, 2, none⟩ (.int .i64 ((rd_T39 l0_0 x22_2).f2))) := ⟨_, rfl⟩
       have n0_ : Aside0 (w28.heap[gb168]? = some (.cells #[.slice (some ad169) l0_0.length c0_0, .slice A0_1 l0_1.length c0_1] 31 (0, 0))) := by rw [e_]; exact ⟨zpf BK168 NB168_170⟩
       have n1_ : Aside0 (w28.heap[gb170]? = some (.cells #[.string ((rd_T39 l0_0 x22_2).f0), .int .i64 ((rd_T39 l0_0 x22_2).f1), .int .i64 ((rd_T39 l0_0 x22_2).f2)] 39 (0, 0))) := by rw [e_]; exact ⟨zpb BK170⟩
       have n2_ : Aside0 (Below w.heap.size w w28) := by rw [e_]; exact ⟨zs2 HB GE168 GE170⟩
       (try clear BK168)
       (try clear BK170)
       (try clear HB)
       rw [← e_]; clear e_
       have BK168 := n0_
       have BK170 := n1_
       have HB := n2_
       clear n0_ n1_ n2_
       replace BK168 := Aside0.mk (blk_drew BK168.out)
       replace BK170 := Aside0.mk (blk_drew BK170.out)
       replace HB := Aside0.mk (below_drew1 HB.out)
       have p172 : 0 ≤ ((ji15) : Int) := za
       have q172 : (ji15) < (l0_0.length : Int) := za
       obtain ⟨ad172, e172, hx172_0, hx172_1, hx172_2⟩ := at_T39 HR0_0.out (ji15) p172 q172
       have hw172_2 := hx172_2
       have hw172_1 := hx172_1
       have hw172_0 := hx172_0
       obtain rfl : ad169 = ad172 := (by injection e172)
       replace hx172_0 := zx HB hx172_0
       replace hx172_1 := zx HB hx172_1
       replace hx172_2 := zx HB hx172_2
       replace p172 := eq_true p172
       replace q172 := eq_true q172
       refine start_ (n := 19) (S := fun w' => w'.cell? ⟨gb170, 0, none⟩ = some (.string ((rd_T39 l0_0 x22_2).f0)) ∧ w'.cell? ⟨gb170, 1, none⟩ = some (.int .i64 ((rd_T39 l0_0 x22_2).f1)) ∧ w'.cell? ⟨gb170, 2, none⟩ = some (.int .i64 ((rd_T39 l0_0 x22_2).f2)) ∧ w'.cell? ⟨gb168, 0, none⟩ = some (.slice (some ad169) l0_0.length c0_0) ∧ w'.cell? ⟨gb168, 1, none⟩ = some (.slice A0_1 l0_1.length c0_1) ∧ w'.cell? (ad169.add (((ji15)).toNat * 3)) = some (.string ((rd_T39 l0_0 (ji15)).f0)) ∧ w'.cell? ⟨(ad169.add (((ji15)).toNat * 3)).block, (ad169.add (((ji15)).toNat * 3)).off + 1, none⟩ = some (.int .i64 ((rd_T39 l0_0 (ji15)).f1)) ∧ w'.cell? ⟨(ad169.add (((ji15)).toNat * 3)).block, (ad169.add (((ji15)).toNat * 3)).off + 2, none⟩ = some (.int .i64 ((rd_T39 l0_0 (ji15)).f2))) (ds := []) #[false, false, false, false, false, false, false, false, false, false, false, false, false, false, false, false, false, false, false] (by kernel_rfl) rfl rfl ⟨zc0 BK170, zc1 BK170, zc2 BK170, zc0 BK168, zc1 BK168, (zw HB hw172_0), (zw HB hw172_1), (zw HB hw172_2)⟩ (fun hHeld => ?_); refine with_tabW impl_PlanBaseOk.tab6 impl_PlanBaseOk.bits6 (fun HT_ HW_ => ?_)
       generalize w28.drew = w29 at BK168 BK170 HB hx172_0 hx172_1 hx172_2 hHeld ⊢
       refine zk8 HT_ HW_ hHeld 0 ?_
       refine zo HT_ 1 (fun K hK => ?_)
       refine zgo Try.func15 #[.agg #[.string ((rd_T39 l0_0 x22_2).f0), .int .i64 ((rd_T39 l0_0 x22_2).f1), .int .i64 ((rd_T39 l0_0 x22_2).f2)]] ?_
       with_reducible refine (impl_kindOk.calls k2 ((rd_T39 l0_0 x22_2).f0) ((rd_T39 l0_0 x22_2).f1) ((rd_T39 l0_0 x22_2).f2) true _ A12.out).mono ?_
       rintro e w30 ⟨rfl, hb⟩
       refine ⟨_, rfl, ?_⟩
       replace BK168 := zb BK168 hb
       replace BK170 := zb BK170 hb
       replace HB := zE (zs2 HB GE168 GE170) hb
       (try clear hb)
       (try clear hb2)
       (try clear hk)
       (try clear hi)
       refine hK.out _ _ ⟨zc0 BK170, zc1 BK170, zc2 BK170, zc0 BK168, zc1 BK168, (zw HB hw172_0), (zw HB hw172_1), (zw HB hw172_2)⟩ (fun hHeld => ?_)
       clear hK K
       refine zN ?_
       refine zq HT_ 2 ?_
       refine zq HT_ 3 ?_
       refine zq HT_ 4 ?_
       refine zq HT_ 5 ?_
       refine zq HT_ 6 ?_
       refine zq HT_ 7 ?_
       refine zq HT_ 9 ?_
       refine zq HT_ 11 ?_
       refine zq HT_ 12 ?_
       refine zk8 HT_ HW_ hHeld 8 ?_
       refine zk8 HT_ HW_ hHeld 10 ?_
       refine zq HT_ 13 ?_
       refine zq HT_ 14 ?_
       refine zk8 HT_ HW_ hHeld 15 ?_
       refine zq HT_ 16 ?_
       refine zq HT_ 17 ?_
       refine zq HT_ 18 ?_
       refine done_ (done_of HT_.out (by kernel_rfl)) ?_
       try go_wp2
       go_ret
       exact ⟨by first | rfl | (simp [errW_none, errW_some] <;> rfl) | (simp only [← hji15]; first | rfl | (simp [errW_none, errW_some] <;> rfl)) | (simp [*, errW_none, errW_some] <;> rfl), zs2 HB GE168 GE170⟩
      rw [if_pos c18] at H
      have c18b0 : (Op.bytesLess (((rd_T39 l0_0 (ji15)).f0).toList) (((rd_T39 l0_0 x22_2).f0).toList)) = true := c18
      clear c18
      have H' := Aside0.mk H
      clear H
      have p169 : 0 ≤ (x22_2 : Int) := za
      have q169 : x22_2 < (l0_0.length : Int) := za
      obtain ⟨ad169, e169, hx169_0, hx169_1, hx169_2⟩ := at_T39 HR0_0.out x22_2 p169 q169
      cases e169
      replace hx169_0 := zx HB hx169_0
      replace hx169_1 := zx HB hx169_1
      replace hx169_2 := zx HB hx169_2
      replace p169 := eq_true p169
      replace q169 := eq_true q169
      try go_wp2_with (first | ((with_reducible refine gate_dst (N := 4) rfl ?_); (try (refine gate_guard (by rfl) ?_; dsimp only)); refine zbx 4 #[.string (⟨#[]⟩ : ByteArray), .int .i64 0, .int .i64 0] 39 ?_; intro gb170 hg w19 hbox hb; have BK170 := zA hbox; have GW170 := zgs hg (zs1 HB GE168); have GE170 := zgs hg (zs1 HB GE168); have NB168_170 := zne hg BK168; have NB170_168 := znf hg BK168; replace BK168 := zb BK168 hb; replace HB := zE (zs1 HB GE168) hb; clear hb hbox hg; have hnb20 := NB170_168.out; have hnc20 := NB168_170.out; obtain ⟨hcz21_0, hcz21_1, hcz21_2⟩ := zd3 BK170; obtain ⟨hfz21_0, hfz21_1, hfz21_2⟩ := zn3 BK170))
      obtain ⟨w22, e_⟩ : ∃ x, x = (((w19.setCell ⟨gb170, 0, none⟩ (.string ((rd_T39 l0_0 x22_2).f0))).setCell ⟨gb170, 1, none⟩ (.int .i64 ((rd_T39 l0_0 x22_2).f1))).setCell ⟨gb170, 2, none⟩ (.int .i64 ((rd_T39 l0_0 x22_2).f2))) := ⟨_, rfl⟩
      have n0_ : Aside0 (w22.heap[gb168]? = some (.cells #[.slice (some ad169) l0_0.length c0_0, .slice A0_1 l0_1.length c0_1] 31 (0, 0))) := by rw [e_]; exact ⟨zpf BK168 NB168_170⟩
      have n1_ : Aside0 (w22.heap[gb170]? = some (.cells #[.string ((rd_T39 l0_0 x22_2).f0), .int .i64 ((rd_T39 l0_0 x22_2).f1), .int .i64 ((rd_T39 l0_0 x22_2).f2)] 39 (0, 0))) := by rw [e_]; exact ⟨zpb BK170⟩
      have n2_ : Aside0 (Below w.heap.size w w22) := by rw [e_]; exact ⟨zs2 HB GE168 GE170⟩
      (try clear BK168)
      (try clear BK170)
      (try clear HB)
      rw [← e_]; clear e_
      have BK168 := n0_
      have BK170 := n1_
      have HB := n2_
      clear n0_ n1_ n2_
      replace BK168 := Aside0.mk (blk_drew BK168.out)
      replace BK170 := Aside0.mk (blk_drew BK170.out)
      replace HB := Aside0.mk (below_drew1 HB.out)
      have p172 : 0 ≤ ((ji15) : Int) := za
      have q172 : (ji15) < (l0_0.length : Int) := za
      obtain ⟨ad172, e172, hx172_0, hx172_1, hx172_2⟩ := at_T39 HR0_0.out (ji15) p172 q172
      have hw172_2 := hx172_2
      have hw172_1 := hx172_1
      have hw172_0 := hx172_0
      obtain rfl : ad169 = ad172 := (by injection e172)
      replace hx172_0 := zx HB hx172_0
      replace hx172_1 := zx HB hx172_1
      replace hx172_2 := zx HB hx172_2
      replace p172 := eq_true p172
      replace q172 := eq_true q172
      refine start_ (n := 19) (S := fun w' => w'.cell? ⟨gb170, 0, none⟩ = some (.string ((rd_T39 l0_0 x22_2).f0)) ∧ w'.cell? ⟨gb170, 1, none⟩ = some (.int .i64 ((rd_T39 l0_0 x22_2).f1)) ∧ w'.cell? ⟨gb170, 2, none⟩ = some (.int .i64 ((rd_T39 l0_0 x22_2).f2)) ∧ w'.cell? ⟨gb168, 0, none⟩ = some (.slice (some ad169) l0_0.length c0_0) ∧ w'.cell? ⟨gb168, 1, none⟩ = some (.slice A0_1 l0_1.length c0_1) ∧ w'.cell? (ad169.add (((ji15)).toNat * 3)) = some (.string ((rd_T39 l0_0 (ji15)).f0)) ∧ w'.cell? ⟨(ad169.add (((ji15)).toNat * 3)).block, (ad169.add (((ji15)).toNat * 3)).off + 1, none⟩ = some (.int .i64 ((rd_T39 l0_0 (ji15)).f1)) ∧ w'.cell? ⟨(ad169.add (((ji15)).toNat * 3)).block, (ad169.add (((ji15)).toNat * 3)).off + 2, none⟩ = some (.int .i64 ((rd_T39 l0_0 (ji15)).f2))) (ds := []) #[false, false, false, false, false, false, false, false, false, false, false, false, false, false, false, false, false, false, false] (by kernel_rfl) rfl rfl ⟨zc0 BK170, zc1 BK170, zc2 BK170, zc0 BK168, zc1 BK168, (zw HB hw172_0), (zw HB hw172_1), (zw HB hw172_2)⟩ (fun hHeld => ?_); refine with_tabW impl_PlanBaseOk.tab6 impl_PlanBaseOk.bits6 (fun HT_ HW_ => ?_)
      generalize w22.drew = w23 at BK168 BK170 HB hx172_0 hx172_1 hx172_2 hHeld ⊢
      refine zk8 HT_ HW_ hHeld 0 ?_
      refine zo HT_ 1 (fun K hK => ?_)
      refine zgo Try.func15 #[.agg #[.string ((rd_T39 l0_0 x22_2).f0), .int .i64 ((rd_T39 l0_0 x22_2).f1), .int .i64 ((rd_T39 l0_0 x22_2).f2)]] ?_
      with_reducible refine (impl_kindOk.calls k2 ((rd_T39 l0_0 x22_2).f0) ((rd_T39 l0_0 x22_2).f1) ((rd_T39 l0_0 x22_2).f2) true _ A12.out).mono ?_
      rintro e w24 ⟨rfl, hb⟩
      refine ⟨_, rfl, ?_⟩
      replace BK168 := zb BK168 hb
      replace BK170 := zb BK170 hb
      replace HB := zE (zs2 HB GE168 GE170) hb
      (try clear hb)
      (try clear hb2)
      (try clear hk)
      (try clear hi)
      refine hK.out _ _ ⟨zc0 BK170, zc1 BK170, zc2 BK170, zc0 BK168, zc1 BK168, (zw HB hw172_0), (zw HB hw172_1), (zw HB hw172_2)⟩ (fun hHeld => ?_)
      clear hK K
      refine zN ?_
      refine zq HT_ 2 ?_
      refine zq HT_ 3 ?_
      refine zq HT_ 4 ?_
      refine zq HT_ 5 ?_
      refine zq HT_ 6 ?_
      refine zq HT_ 7 ?_
      refine zq HT_ 9 ?_
      refine zq HT_ 11 ?_
      refine zq HT_ 12 ?_
      refine zk8 HT_ HW_ hHeld 8 ?_
      refine zk8 HT_ HW_ hHeld 10 ?_
      refine zq HT_ 13 ?_
      refine zq HT_ 14 ?_
      refine zk8 HT_ HW_ hHeld 15 ?_
      refine zq HT_ 16 ?_
      refine zq HT_ 17 ?_
      refine zq HT_ 18 ?_
      refine done_ (done_of HT_.out (by kernel_rfl)) ?_
      try go_wp2
      go_roundg k2
      case measure => have := HJ1.out; have := HK2.out; omega
      case rel => exact ⟨(wrap64 (x22_2 + 1)), zi, H', ⟨by have := HJ1.out; have := HK2.out; omega⟩, ⟨zh BK168⟩, ⟨zs2 HB GE168 GE170⟩⟩
     rw [if_neg c9] at H
     have c9b0 : decide (x22_2 < (l0_0.length : Int)) = false := decide_eq_false c9
     clear c9
     have H' := Aside0.mk H
     clear H
     obtain ⟨hcz43_0, hcz43_1⟩ := zd2 BK168
     obtain ⟨hfz43_0, hfz43_1⟩ := zn2 BK168
     go_wp2_with (first | ((with_reducible refine gate_dst (N := 47) rfl ?_); refine zmk 47 ?_; intro gmm hg wm hbox hb; have BM := zA hbox; have GM := zgs hg (zs1 HB GE168); have NBM := zne hg BK168; have NMB := znf hg BK168; replace BK168 := zb BK168 hb; replace HB := zE (zs1 HB GE168) hb; clear hb hbox hg; obtain ⟨hcy43_0, hcy43_1⟩ := zd2 BK168; obtain ⟨hfy43_0, hfy43_1⟩ := zn2 BK168))
     go_loopg [51] k2 (fun kq v51 w' => ∃ (x51_3 : Int) (em : Obj) (nm : Nat), v51 = .int .i64 x51_3 ∧ Aside0 (w'.heap[gmm]? = some em) ∧ Aside0 (∀ W_ : World, W_.heap[gmm]? = some em → SetIs W_ gmm nm (seenT l0_1 x51_3)) ∧ Aside0 (0 ≤ x51_3 ∧ nm ≤ x51_3.toNat) ∧ Aside0 (impl_PlanBaseOk.l1 kq l0_1 (l0_1.length : Int) x51_3 l0_0 l0_1 = some r) ∧ Aside0 (kq ≤ k2) ∧ Aside0 (w'.heap[gb168]? = some (.cells #[(.slice A0_0 l0_0.length c0_0), (.slice A0_1 l0_1.length c0_1)] 31 (0, 0))) ∧ Aside0 (Below w.heap.size w w'))
     case atStart => exact ⟨(0), .map #[] 0, 0, zi, ⟨zh BM⟩, ⟨fun W_ hW => by unfold seenT; exact SetIs.made hW⟩, ⟨by decide⟩, H', ⟨Nat.le_refl _⟩, ⟨zh BK168⟩, ⟨zs1 HB GE168⟩⟩
     case round =>
      clear BM
      clear H'
      try clear c1
      try clear p1
      try clear q1
      try clear hx1
      try clear c2
      try clear p2
      try clear c3
      try clear p6
      try clear c9
      try clear c9b0
      try clear c10
      try clear c11
      try clear c13
      try clear c14
      try clear c14b0
      try clear c15
      try clear c16
      try clear p16
      try clear q16
      try clear hx16
      try clear c17
      try clear p17
      try clear q17
      try clear hx17
      try clear c18
      try clear c18b0
      try clear c26
      try clear c32
      try clear c38
      try clear hcz27_0 hcz27_1 hcz27_2
      try clear hcz33_0 hcz33_1 hcz33_2
      try clear hcz39_0 hcz39_1 hcz39_2
      try clear hcz43_0 hcz43_1
      try clear hfz27_0 hfz27_1 hfz27_2
      try clear hfz33_0 hfz33_1 hfz33_2
      try clear hfz39_0 hfz39_1 hfz39_2
      try clear hfz43_0 hfz43_1
      try clear hx169_0
      try clear hx169_1
      try clear hx169_2
      try clear hx172_0
      try clear hx172_1
      try clear hx172_2
      try clear p169
      try clear p172
      try clear q169
      try clear q172
      obtain ⟨x51_3, em, nm, rfl, BM, HSM, HNM, HA, HK3, BK168, HB⟩ := hrel
      cases gk with
      | zero => exact absurd HA.out (by simp [impl_PlanBaseOk.l1])
      | succ k3 =>
       have H := HA.out
       clear HA
       simp only [impl_PlanBaseOk.l1] at H
       by_cases c44 : x51_3 < (l0_1.length : Int)
       rotate_left
       ·rw [if_neg c44] at H
        have c44b0 : decide (x51_3 < (l0_1.length : Int)) = false := decide_eq_false c44
        clear c44
        obtain rfl := Option.some.inj H
        go_wp2
        go_ret
        exact ⟨ze, zs1 HB GE168⟩
       rw [if_pos c44] at H
       have c44b0 : decide (x51_3 < (l0_1.length : Int)) = true := decide_eq_true c44
       clear c44
       by_cases c45 : 0 ≤ x51_3
       rotate_left
       ·rw [if_neg c45] at H
        exact absurd H (by simp)
       rw [if_pos c45] at H
       have c45b0 : decide (0 ≤ x51_3) = true := decide_eq_true c45
       clear c45
       by_cases c46 : x51_3 < (l0_1.length : Int)
       rotate_left
       ·rw [if_neg c46] at H
        exact absurd H (by simp)
       rw [if_pos c46] at H
       have c46b0 : decide (x51_3 < (l0_1.length : Int)) = true := decide_eq_true c46
       clear c46
       replace H := zbd H; obtain ⟨t176, A47, H⟩ := H
       by_cases c48 : t176 = true
       rotate_left
       ·replace c48 := Bool.eq_false_iff.mpr c48
        subst c48
        have H1 : (some false) = some r := by rw [if_neg (show ¬ (false = true) by decide)] at H; exact H
        clear H
        have H := H1
        clear H1
        obtain rfl := Option.some.inj H
        have p173 : 0 ≤ (x51_3 : Int) := za
        have q173 : x51_3 < (l0_1.length : Int) := za
        obtain ⟨ad173, e173, hx173_0, hx173_1, hx173_2⟩ := at_T42 HR0_1.out x51_3 p173 q173
        cases e173
        replace hx173_0 := zx HB hx173_0
        replace hx173_1 := zx HB hx173_1
        replace hx173_2 := zx HB hx173_2
        replace p173 := eq_true p173
        replace q173 := eq_true q173
        try go_wp2_with (first | ((with_reducible refine gate_dst (N := 7) rfl ?_); (try (refine gate_guard (by rfl) ?_; dsimp only)); refine zbx 7 #[.string (⟨#[]⟩ : ByteArray), .int .i64 0, .int .i64 0] 42 ?_; intro gb174 hg w97 hbox hb; have NM174 := zne hg BM; replace BM := zb BM hb; have BK174 := zA hbox; have GW174 := zgs hg (zs1 HB GE168); have GE174 := zgs hg (zs1 HB GE168); have NB168_174 := zne hg BK168; have NB174_168 := znf hg BK168; replace BK168 := zb BK168 hb; replace HB := zE (zs1 HB GE168) hb; clear hb hbox hg; have hnb98 := NB174_168.out; have hnc98 := NB168_174.out; obtain ⟨hcz99_0, hcz99_1, hcz99_2⟩ := zd3 BK174; obtain ⟨hfz99_0, hfz99_1, hfz99_2⟩ := zn3 BK174) | ((with_reducible refine gate_dst (N := 8) rfl ?_); (try (refine gate_guard (by rfl) ?_; dsimp only)); refine zbx 8 #[.int .i64 0, .int .i64 0] 46 ?_; intro gb175 hg w100 hbox hb; have NM175 := Aside0.mk ((by rw [hg]; exact Nat.ne_of_lt (blk_lt (zmf BM NM174)) : gmm ≠ gb175)); replace BM := Aside0.mk (blk_below (zmf BM NM174) hb); have BK175 := zA hbox; have GW175 := zgs hg (zs2 HB GE168 GE174); have GE175 := zgs hg (zs2 HB GE168 GE174); have NB168_175 := Aside0.mk ((by rw [hg]; exact Nat.ne_of_lt (blk_lt (g := gb168) (o := .cells #[.slice A0_0 l0_0.length c0_0, .slice (some ad173) l0_1.length c0_1] 31 (0, 0)) (zpf BK168 NB168_174)) : gb168 ≠ gb175)); have NB175_168 := Aside0.mk ((by rw [hg]; exact Nat.ne_of_gt (blk_lt (g := gb168) (o := .cells #[.slice A0_0 l0_0.length c0_0, .slice (some ad173) l0_1.length c0_1] 31 (0, 0)) (zpf BK168 NB168_174)) : gb175 ≠ gb168)); have NB174_175 := Aside0.mk ((by rw [hg]; exact Nat.ne_of_lt (blk_lt (g := gb174) (o := .cells #[.string ((rd_T42 l0_1 x51_3).f0), .int .i64 ((rd_T42 l0_1 x51_3).f1), .int .i64 ((rd_T42 l0_1 x51_3).f2)] 42 (0, 0)) (zpb BK174)) : gb174 ≠ gb175)); have NB175_174 := Aside0.mk ((by rw [hg]; exact Nat.ne_of_gt (blk_lt (g := gb174) (o := .cells #[.string ((rd_T42 l0_1 x51_3).f0), .int .i64 ((rd_T42 l0_1 x51_3).f1), .int .i64 ((rd_T42 l0_1 x51_3).f2)] 42 (0, 0)) (zpb BK174)) : gb175 ≠ gb174)); replace BK168 := Aside0.mk (blk_below (g := gb168) (o := .cells #[.slice A0_0 l0_0.length c0_0, .slice (some ad173) l0_1.length c0_1] 31 (0, 0)) (zpf BK168 NB168_174) hb); replace BK174 := Aside0.mk (blk_below (g := gb174) (o := .cells #[.string ((rd_T42 l0_1 x51_3).f0), .int .i64 ((rd_T42 l0_1 x51_3).f1), .int .i64 ((rd_T42 l0_1 x51_3).f2)] 42 (0, 0)) (zpb BK174) hb); replace HB := zE (zs2 HB GE168 GE174) hb; clear hb hbox hg; have hnb101 := NB175_168.out; have hnc101 := NB168_175.out; have hnb102 := NB175_174.out; have hnc102 := NB174_175.out; obtain ⟨hcz103_0, hcz103_1⟩ := zd2 BK175; obtain ⟨hfz103_0, hfz103_1⟩ := zn2 BK175))
        obtain ⟨w104, e_⟩ : ∃ x, x = ((w100.setCell ⟨gb175, 0, none⟩ (.int .i64 ((rd_T42 l0_1 x51_3).f1))).setCell ⟨gb175, 1, none⟩ (.int .i64 ((rd_T42 l0_1 x51_3).f2))) := ⟨_, rfl⟩
        have n0_ : Aside0 (w104.heap[gb168]? = some (.cells #[.slice A0_0 l0_0.length c0_0, .slice (some ad173) l0_1.length c0_1] 31 (0, 0))) := by rw [e_]; exact ⟨zpf BK168 NB168_175⟩
        have n1_ : Aside0 (w104.heap[gb174]? = some (.cells #[.string ((rd_T42 l0_1 x51_3).f0), .int .i64 ((rd_T42 l0_1 x51_3).f1), .int .i64 ((rd_T42 l0_1 x51_3).f2)] 42 (0, 0))) := by rw [e_]; exact ⟨zpf BK174 NB174_175⟩
        have n2_ : Aside0 (w104.heap[gb175]? = some (.cells #[.int .i64 ((rd_T42 l0_1 x51_3).f1), .int .i64 ((rd_T42 l0_1 x51_3).f2)] 46 (0, 0))) := by rw [e_]; exact ⟨zpb BK175⟩
        have n3_ : Aside0 (Below w.heap.size w w104) := by rw [e_]; exact ⟨zs3 HB GE168 GE174 GE175⟩
        have nm_ : Aside0 (w104.heap[gmm]? = some em) := by rw [e_]; exact ⟨zmf BM NM175⟩
        (try clear BK168)
        (try clear BK174)
        (try clear BK175)
        (try clear HB)
        (try clear BM)
        rw [← e_]; clear e_
        have BK168 := n0_
        have BK174 := n1_
        have BK175 := n2_
        have HB := n3_
        have BM := nm_
        clear n0_ n1_ n2_ n3_ nm_
        replace BK168 := Aside0.mk (blk_drew BK168.out)
        replace BK174 := Aside0.mk (blk_drew BK174.out)
        replace BK175 := Aside0.mk (blk_drew BK175.out)
        replace HB := Aside0.mk (below_drew1 HB.out)
        replace BM := Aside0.mk (blk_drew BM.out)
        refine start_ (n := 24) (S := fun w' => w'.cell? ⟨gb174, 0, none⟩ = some (.string ((rd_T42 l0_1 x51_3).f0)) ∧ w'.cell? ⟨gb174, 1, none⟩ = some (.int .i64 ((rd_T42 l0_1 x51_3).f1)) ∧ w'.cell? ⟨gb174, 2, none⟩ = some (.int .i64 ((rd_T42 l0_1 x51_3).f2))) (ds := []) #[false, false, false, false, false, false, false, false, false, false, false, false, false, false, false, false, false, false, false, false, false, false, false, false] (by kernel_rfl) rfl rfl ⟨zc0 BK174, zc1 BK174, zc2 BK174⟩ (fun hHeld => ?_); refine with_tabW impl_PlanBaseOk.tab14 impl_PlanBaseOk.bits14 (fun HT_ HW_ => ?_)
        generalize w104.drew = w105 at BK168 BK174 BK175 HB BM hHeld ⊢
        refine zk3 HT_ HW_ hHeld 0 ?_
        refine zo HT_ 1 (fun K hK => ?_)
        refine zgo Try.func16 #[.agg #[.string ((rd_T42 l0_1 x51_3).f0), .int .i64 ((rd_T42 l0_1 x51_3).f1), .int .i64 ((rd_T42 l0_1 x51_3).f2)]] ?_
        with_reducible refine (impl_pointOk.calls k3 ((rd_T42 l0_1 x51_3).f0) ((rd_T42 l0_1 x51_3).f1) ((rd_T42 l0_1 x51_3).f2) false _ A47.out).mono ?_
        rintro e w106 ⟨rfl, hb⟩
        refine ⟨_, rfl, ?_⟩
        replace BK168 := zb BK168 hb
        replace BM := zb BM hb
        replace BK174 := zb BK174 hb
        replace BK175 := zb BK175 hb
        replace HB := zE (zs3 HB GE168 GE174 GE175) hb
        (try clear hb)
        (try clear hb2)
        (try clear hk)
        (try clear hi)
        refine hK.out _ _ ⟨zc0 BK174, zc1 BK174, zc2 BK174⟩ (fun hHeld => ?_)
        clear hK K
        refine zN ?_
        refine zq HT_ 2 ?_
        refine zq HT_ 3 ?_
        refine zu HT_ 4 ?_
        refine zu HT_ 5 ?_
        refine zu HT_ 6 ?_
        refine zq HT_ 7 ?_
        refine zq HT_ 8 ?_
        refine zu HT_ 9 ?_
        refine zu HT_ 10 ?_
        refine zu HT_ 11 ?_
        refine zu HT_ 12 ?_
        refine zu HT_ 13 ?_
        refine zu HT_ 14 ?_
        refine zu HT_ 15 ?_
        refine zu HT_ 16 ?_
        refine zu HT_ 17 ?_
        refine zu HT_ 18 ?_
        refine zu HT_ 19 ?_
        refine zu HT_ 20 ?_
        refine zu HT_ 21 ?_
        refine zu HT_ 22 ?_
        refine zq HT_ 23 ?_
        refine done_ (done_of HT_.out (by kernel_rfl)) ?_
        try go_wp2
        go_ret
        exact ⟨ze, zs3 HB GE168 GE174 GE175⟩
       subst c48
       have H1 : (if (((rd_T42 l0_1 x51_3).f1), ((rd_T42 l0_1 x51_3).f2)) ∈ seenT l0_1 x51_3 then (some false) else (if x51_3 > 0 then (if 0 ≤ (wrap64 (x51_3 - 1)) then (if (wrap64 (x51_3 - 1)) < (l0_1.length : Int) then (if ((Op.bytesLess (((rd_T42 l0_1 (wrap64 (x51_3 - 1))).f0).toList) (((rd_T42 l0_1 x51_3).f0).toList)) = true) then (impl_PlanBaseOk.l1 k3 l0_1 (l0_1.length : Int) (wrap64 (x51_3 + 1)) l0_0 l0_1) else (some false)) else (none)) else (none)) else (impl_PlanBaseOk.l1 k3 l0_1 (l0_1.length : Int) (wrap64 (x51_3 + 1)) l0_0 l0_1))) = some r := by rw [if_pos rfl] at H; exact H
       clear H
       have H := H1
       clear H1
       by_cases c49 : (((rd_T42 l0_1 x51_3).f1), ((rd_T42 l0_1 x51_3).f2)) ∈ seenT l0_1 x51_3
       ·rw [if_pos c49] at H
        have c49b0 : decide ((((rd_T42 l0_1 x51_3).f1), ((rd_T42 l0_1 x51_3).f2)) ∈ seenT l0_1 x51_3) = true := decide_eq_true c49
        clear c49
        obtain rfl := Option.some.inj H
        have p173 : 0 ≤ (x51_3 : Int) := za
        have q173 : x51_3 < (l0_1.length : Int) := za
        obtain ⟨ad173, e173, hx173_0, hx173_1, hx173_2⟩ := at_T42 HR0_1.out x51_3 p173 q173
        cases e173
        replace hx173_0 := zx HB hx173_0
        replace hx173_1 := zx HB hx173_1
        replace hx173_2 := zx HB hx173_2
        replace p173 := eq_true p173
        replace q173 := eq_true q173
        try go_wp2_with (first | ((with_reducible refine gate_dst (N := 7) rfl ?_); (try (refine gate_guard (by rfl) ?_; dsimp only)); refine zbx 7 #[.string (⟨#[]⟩ : ByteArray), .int .i64 0, .int .i64 0] 42 ?_; intro gb174 hg w50 hbox hb; have NM174 := zne hg BM; replace BM := zb BM hb; have BK174 := zA hbox; have GW174 := zgs hg (zs1 HB GE168); have GE174 := zgs hg (zs1 HB GE168); have NB168_174 := zne hg BK168; have NB174_168 := znf hg BK168; replace BK168 := zb BK168 hb; replace HB := zE (zs1 HB GE168) hb; clear hb hbox hg; have hnb51 := NB174_168.out; have hnc51 := NB168_174.out; obtain ⟨hcz52_0, hcz52_1, hcz52_2⟩ := zd3 BK174; obtain ⟨hfz52_0, hfz52_1, hfz52_2⟩ := zn3 BK174) | ((with_reducible refine gate_dst (N := 8) rfl ?_); (try (refine gate_guard (by rfl) ?_; dsimp only)); refine zbx 8 #[.int .i64 0, .int .i64 0] 46 ?_; intro gb175 hg w53 hbox hb; have NM175 := Aside0.mk ((by rw [hg]; exact Nat.ne_of_lt (blk_lt (zmf BM NM174)) : gmm ≠ gb175)); replace BM := Aside0.mk (blk_below (zmf BM NM174) hb); have BK175 := zA hbox; have GW175 := zgs hg (zs2 HB GE168 GE174); have GE175 := zgs hg (zs2 HB GE168 GE174); have NB168_175 := Aside0.mk ((by rw [hg]; exact Nat.ne_of_lt (blk_lt (g := gb168) (o := .cells #[.slice A0_0 l0_0.length c0_0, .slice (some ad173) l0_1.length c0_1] 31 (0, 0)) (zpf BK168 NB168_174)) : gb168 ≠ gb175)); have NB175_168 := Aside0.mk ((by rw [hg]; exact Nat.ne_of_gt (blk_lt (g := gb168) (o := .cells #[.slice A0_0 l0_0.length c0_0, .slice (some ad173) l0_1.length c0_1] 31 (0, 0)) (zpf BK168 NB168_174)) : gb175 ≠ gb168)); have NB174_175 := Aside0.mk ((by rw [hg]; exact Nat.ne_of_lt (blk_lt (g := gb174) (o := .cells #[.string ((rd_T42 l0_1 x51_3).f0), .int .i64 ((rd_T42 l0_1 x51_3).f1), .int .i64 ((rd_T42 l0_1 x51_3).f2)] 42 (0, 0)) (zpb BK174)) : gb174 ≠ gb175)); have NB175_174 := Aside0.mk ((by rw [hg]; exact Nat.ne_of_gt (blk_lt (g := gb174) (o := .cells #[.string ((rd_T42 l0_1 x51_3).f0), .int .i64 ((rd_T42 l0_1 x51_3).f1), .int .i64 ((rd_T42 l0_1 x51_3).f2)] 42 (0, 0)) (zpb BK174)) : gb175 ≠ gb174)); replace BK168 := Aside0.mk (blk_below (g := gb168) (o := .cells #[.slice A0_0 l0_0.length c0_0, .slice (some ad173) l0_1.length c0_1] 31 (0, 0)) (zpf BK168 NB168_174) hb); replace BK174 := Aside0.mk (blk_below (g := gb174) (o := .cells #[.string ((rd_T42 l0_1 x51_3).f0), .int .i64 ((rd_T42 l0_1 x51_3).f1), .int .i64 ((rd_T42 l0_1 x51_3).f2)] 42 (0, 0)) (zpb BK174) hb); replace HB := zE (zs2 HB GE168 GE174) hb; clear hb hbox hg; have hnb54 := NB175_168.out; have hnc54 := NB168_175.out; have hnb55 := NB175_174.out; have hnc55 := NB174_175.out; obtain ⟨hcz56_0, hcz56_1⟩ := zd2 BK175; obtain ⟨hfz56_0, hfz56_1⟩ := zn2 BK175))
        obtain ⟨w57, e_⟩ : ∃ x, x = ((w53.setCell ⟨gb175, 0, none⟩ (.int .i64 ((rd_T42 l0_1 x51_3).f1))).setCell ⟨gb175, 1, none⟩ (.int .i64 ((rd_T42 l0_1 x51_3).f2))) := ⟨_, rfl⟩
        have n0_ : Aside0 (w57.heap[gb168]? = some (.cells #[.slice A0_0 l0_0.length c0_0, .slice (some ad173) l0_1.length c0_1] 31 (0, 0))) := by rw [e_]; exact ⟨zpf BK168 NB168_175⟩
        have n1_ : Aside0 (w57.heap[gb174]? = some (.cells #[.string ((rd_T42 l0_1 x51_3).f0), .int .i64 ((rd_T42 l0_1 x51_3).f1), .int .i64 ((rd_T42 l0_1 x51_3).f2)] 42 (0, 0))) := by rw [e_]; exact ⟨zpf BK174 NB174_175⟩
        have n2_ : Aside0 (w57.heap[gb175]? = some (.cells #[.int .i64 ((rd_T42 l0_1 x51_3).f1), .int .i64 ((rd_T42 l0_1 x51_3).f2)] 46 (0, 0))) := by rw [e_]; exact ⟨zpb BK175⟩
        have n3_ : Aside0 (Below w.heap.size w w57) := by rw [e_]; exact ⟨zs3 HB GE168 GE174 GE175⟩
        have nm_ : Aside0 (w57.heap[gmm]? = some em) := by rw [e_]; exact ⟨zmf BM NM175⟩
        (try clear BK168)
        (try clear BK174)
        (try clear BK175)
        (try clear HB)
        (try clear BM)
        rw [← e_]; clear e_
        have BK168 := n0_
        have BK174 := n1_
        have BK175 := n2_
        have HB := n3_
        have BM := nm_
        clear n0_ n1_ n2_ n3_ nm_
        replace BK168 := Aside0.mk (blk_drew BK168.out)
        replace BK174 := Aside0.mk (blk_drew BK174.out)
        replace BK175 := Aside0.mk (blk_drew BK175.out)
        replace HB := Aside0.mk (below_drew1 HB.out)
        replace BM := Aside0.mk (blk_drew BM.out)
        refine start_ (n := 24) (S := fun w' => w'.cell? ⟨gb174, 0, none⟩ = some (.string ((rd_T42 l0_1 x51_3).f0)) ∧ w'.cell? ⟨gb174, 1, none⟩ = some (.int .i64 ((rd_T42 l0_1 x51_3).f1)) ∧ w'.cell? ⟨gb174, 2, none⟩ = some (.int .i64 ((rd_T42 l0_1 x51_3).f2)) ∧ w'.cell? ⟨gb175, 0, none⟩ = some (.int .i64 ((rd_T42 l0_1 x51_3).f1)) ∧ w'.cell? ⟨gb175, 1, none⟩ = some (.int .i64 ((rd_T42 l0_1 x51_3).f2)) ∧ w'.heap[gmm]? = some em) (ds := []) #[false, false, false, false, false, false, false, false, false, false, false, false, false, false, false, false, false, false, false, false, false, false, false, false] (by kernel_rfl) rfl rfl ⟨zc0 BK174, zc1 BK174, zc2 BK174, zc0 BK175, zc1 BK175, zh BM⟩ (fun hHeld => ?_); refine with_tabW impl_PlanBaseOk.tab14 impl_PlanBaseOk.bits14 (fun HT_ HW_ => ?_)
        generalize w57.drew = w58 at BK168 BK174 BK175 HB BM hHeld ⊢
        refine zk6 HT_ HW_ hHeld 0 ?_
        refine zo HT_ 1 (fun K hK => ?_)
        refine zgo Try.func16 #[.agg #[.string ((rd_T42 l0_1 x51_3).f0), .int .i64 ((rd_T42 l0_1 x51_3).f1), .int .i64 ((rd_T42 l0_1 x51_3).f2)]] ?_
        with_reducible refine (impl_pointOk.calls k3 ((rd_T42 l0_1 x51_3).f0) ((rd_T42 l0_1 x51_3).f1) ((rd_T42 l0_1 x51_3).f2) true _ A47.out).mono ?_
        rintro e w59 ⟨rfl, hb⟩
        refine ⟨_, rfl, ?_⟩
        replace BK168 := zb BK168 hb
        replace BM := zb BM hb
        replace BK174 := zb BK174 hb
        replace BK175 := zb BK175 hb
        replace HB := zE (zs3 HB GE168 GE174 GE175) hb
        (try clear hb)
        (try clear hb2)
        (try clear hk)
        (try clear hi)
        refine hK.out _ _ ⟨zc0 BK174, zc1 BK174, zc2 BK174, zc0 BK175, zc1 BK175, zh BM⟩ (fun hHeld => ?_)
        clear hK K
        refine zN ?_
        refine zq HT_ 2 ?_
        refine zq HT_ 3 ?_
        refine zq HT_ 4 ?_
        refine zk6 HT_ HW_ hHeld 5 ?_
        refine zlook HT_ HW_ hHeld 6 (point_range A47.out).1 (point_range A47.out).2 HSM.out (fun _ h_ => h_.2.2.2.2.2) ?_
        refine zq HT_ 7 ?_
        refine zq HT_ 8 ?_
        refine zu HT_ 9 ?_
        refine zu HT_ 10 ?_
        refine zu HT_ 11 ?_
        refine zu HT_ 12 ?_
        refine zu HT_ 13 ?_
        refine zu HT_ 14 ?_
        refine zu HT_ 15 ?_
        refine zu HT_ 16 ?_
        refine zu HT_ 17 ?_
        refine zu HT_ 18 ?_
        refine zu HT_ 19 ?_
        refine zu HT_ 20 ?_
        refine zu HT_ 21 ?_
        refine zu HT_ 22 ?_
        refine zq HT_ 23 ?_
        refine done_ (done_of HT_.out (by kernel_rfl)) ?_
        try go_wp2
        go_ret
        exact ⟨ze, zs3 HB GE168 GE174 GE175⟩
       rw [if_neg c49] at H
       have c49b0 : decide ((((rd_T42 l0_1 x51_3).f1), ((rd_T42 l0_1 x51_3).f2)) ∈ seenT l0_1 x51_3) = false := decide_eq_false c49
       by_cases c60 : x51_3 > 0
       rotate_left
       ·rw [if_neg c60] at H
        have c60b0 : decide (0 < x51_3) = false := decide_eq_false c60
        clear c60
        have H' := Aside0.mk H
        clear H
        have p173 : 0 ≤ (x51_3 : Int) := za
        have q173 : x51_3 < (l0_1.length : Int) := za
        obtain ⟨ad173, e173, hx173_0, hx173_1, hx173_2⟩ := at_T42 HR0_1.out x51_3 p173 q173
        cases e173
        replace hx173_0 := zx HB hx173_0
        replace hx173_1 := zx HB hx173_1
        replace hx173_2 := zx HB hx173_2
        replace p173 := eq_true p173
        replace q173 := eq_true q173
        try go_wp2_with (first | ((with_reducible refine gate_dst (N := 7) rfl ?_); (try (refine gate_guard (by rfl) ?_; dsimp only)); refine zbx 7 #[.string (⟨#[]⟩ : ByteArray), .int .i64 0, .int .i64 0] 42 ?_; intro gb174 hg w86 hbox hb; have NM174 := zne hg BM; replace BM := zb BM hb; have BK174 := zA hbox; have GW174 := zgs hg (zs1 HB GE168); have GE174 := zgs hg (zs1 HB GE168); have NB168_174 := zne hg BK168; have NB174_168 := znf hg BK168; replace BK168 := zb BK168 hb; replace HB := zE (zs1 HB GE168) hb; clear hb hbox hg; have hnb87 := NB174_168.out; have hnc87 := NB168_174.out; obtain ⟨hcz88_0, hcz88_1, hcz88_2⟩ := zd3 BK174; obtain ⟨hfz88_0, hfz88_1, hfz88_2⟩ := zn3 BK174) | ((with_reducible refine gate_dst (N := 8) rfl ?_); (try (refine gate_guard (by rfl) ?_; dsimp only)); refine zbx 8 #[.int .i64 0, .int .i64 0] 46 ?_; intro gb175 hg w89 hbox hb; have NM175 := Aside0.mk ((by rw [hg]; exact Nat.ne_of_lt (blk_lt (zmf BM NM174)) : gmm ≠ gb175)); replace BM := Aside0.mk (blk_below (zmf BM NM174) hb); have BK175 := zA hbox; have GW175 := zgs hg (zs2 HB GE168 GE174); have GE175 := zgs hg (zs2 HB GE168 GE174); have NB168_175 := Aside0.mk ((by rw [hg]; exact Nat.ne_of_lt (blk_lt (g := gb168) (o := .cells #[.slice A0_0 l0_0.length c0_0, .slice (some ad173) l0_1.length c0_1] 31 (0, 0)) (zpf BK168 NB168_174)) : gb168 ≠ gb175)); have NB175_168 := Aside0.mk ((by rw [hg]; exact Nat.ne_of_gt (blk_lt (g := gb168) (o := .cells #[.slice A0_0 l0_0.length c0_0, .slice (some ad173) l0_1.length c0_1] 31 (0, 0)) (zpf BK168 NB168_174)) : gb175 ≠ gb168)); have NB174_175 := Aside0.mk ((by rw [hg]; exact Nat.ne_of_lt (blk_lt (g := gb174) (o := .cells #[.string ((rd_T42 l0_1 x51_3).f0), .int .i64 ((rd_T42 l0_1 x51_3).f1), .int .i64 ((rd_T42 l0_1 x51_3).f2)] 42 (0, 0)) (zpb BK174)) : gb174 ≠ gb175)); have NB175_174 := Aside0.mk ((by rw [hg]; exact Nat.ne_of_gt (blk_lt (g := gb174) (o := .cells #[.string ((rd_T42 l0_1 x51_3).f0), .int .i64 ((rd_T42 l0_1 x51_3).f1), .int .i64 ((rd_T42 l0_1 x51_3).f2)] 42 (0, 0)) (zpb BK174)) : gb175 ≠ gb174)); replace BK168 := Aside0.mk (blk_below (g := gb168) (o := .cells #[.slice A0_0 l0_0.length c0_0, .slice (some ad173) l0_1.length c0_1] 31 (0, 0)) (zpf BK168 NB168_174) hb); replace BK174 := Aside0.mk (blk_below (g := gb174) (o := .cells #[.string ((rd_T42 l0_1 x51_3).f0), .int .i64 ((rd_T42 l0_1 x51_3).f1), .int .i64 ((rd_T42 l0_1 x51_3).f2)] 42 (0, 0)) (zpb BK174) hb); replace HB := zE (zs2 HB GE168 GE174) hb; clear hb hbox hg; have hnb90 := NB175_168.out; have hnc90 := NB168_175.out; have hnb91 := NB175_174.out; have hnc91 := NB174_175.out; obtain ⟨hcz92_0, hcz92_1⟩ := zd2 BK175; obtain ⟨hfz92_0, hfz92_1⟩ := zn2 BK175))
        obtain ⟨w93, e_⟩ : ∃ x, x = ((w89.setCell ⟨gb175, 0, none⟩ (.int .i64 ((rd_T42 l0_1 x51_3).f1))).setCell ⟨gb175, 1, none⟩ (.int .i64 ((rd_T42 l0_1 x51_3).f2))) := ⟨_, rfl⟩
        have n0_ : Aside0 (w93.heap[gb168]? = some (.cells #[.slice A0_0 l0_0.length c0_0, .slice (some ad173) l0_1.length c0_1] 31 (0, 0))) := by rw [e_]; exact ⟨zpf BK168 NB168_175⟩
        have n1_ : Aside0 (w93.heap[gb174]? = some (.cells #[.string ((rd_T42 l0_1 x51_3).f0), .int .i64 ((rd_T42 l0_1 x51_3).f1), .int .i64 ((rd_T42 l0_1 x51_3).f2)] 42 (0, 0))) := by rw [e_]; exact ⟨zpf BK174 NB174_175⟩
        have n2_ : Aside0 (w93.heap[gb175]? = some (.cells #[.int .i64 ((rd_T42 l0_1 x51_3).f1), .int .i64 ((rd_T42 l0_1 x51_3).f2)] 46 (0, 0))) := by rw [e_]; exact ⟨zpb BK175⟩
        have n3_ : Aside0 (Below w.heap.size w w93) := by rw [e_]; exact ⟨zs3 HB GE168 GE174 GE175⟩
        have nm_ : Aside0 (w93.heap[gmm]? = some em) := by rw [e_]; exact ⟨zmf BM NM175⟩
        (try clear BK168)
        (try clear BK174)
        (try clear BK175)
        (try clear HB)
        (try clear BM)
        rw [← e_]; clear e_
        have BK168 := n0_
        have BK174 := n1_
        have BK175 := n2_
        have HB := n3_
        have BM := nm_
        clear n0_ n1_ n2_ n3_ nm_
        replace BK168 := Aside0.mk (blk_drew BK168.out)
        replace BK174 := Aside0.mk (blk_drew BK174.out)
        replace BK175 := Aside0.mk (blk_drew BK175.out)
        replace HB := Aside0.mk (below_drew1 HB.out)
        replace BM := Aside0.mk (blk_drew BM.out)
        refine start_ (n := 24) (S := fun w' => w'.cell? ⟨gb174, 0, none⟩ = some (.string ((rd_T42 l0_1 x51_3).f0)) ∧ w'.cell? ⟨gb174, 1, none⟩ = some (.int .i64 ((rd_T42 l0_1 x51_3).f1)) ∧ w'.cell? ⟨gb174, 2, none⟩ = some (.int .i64 ((rd_T42 l0_1 x51_3).f2)) ∧ w'.cell? ⟨gb175, 0, none⟩ = some (.int .i64 ((rd_T42 l0_1 x51_3).f1)) ∧ w'.cell? ⟨gb175, 1, none⟩ = some (.int .i64 ((rd_T42 l0_1 x51_3).f2)) ∧ w'.heap[gmm]? = some em) (ds := []) #[false, false, false, false, false, false, false, false, false, false, false, false, false, false, false, false, false, false, false, false, false, false, false, false] (by kernel_rfl) rfl rfl ⟨zc0 BK174, zc1 BK174, zc2 BK174, zc0 BK175, zc1 BK175, zh BM⟩ (fun hHeld => ?_); refine with_tabW impl_PlanBaseOk.tab14 impl_PlanBaseOk.bits14 (fun HT_ HW_ => ?_)
        generalize w93.drew = w94 at BK168 BK174 BK175 HB BM hHeld ⊢
        refine zk6 HT_ HW_ hHeld 0 ?_
        refine zo HT_ 1 (fun K hK => ?_)
        refine zgo Try.func16 #[.agg #[.string ((rd_T42 l0_1 x51_3).f0), .int .i64 ((rd_T42 l0_1 x51_3).f1), .int .i64 ((rd_T42 l0_1 x51_3).f2)]] ?_
        with_reducible refine (impl_pointOk.calls k3 ((rd_T42 l0_1 x51_3).f0) ((rd_T42 l0_1 x51_3).f1) ((rd_T42 l0_1 x51_3).f2) true _ A47.out).mono ?_
        rintro e w95 ⟨rfl, hb⟩
        refine ⟨_, rfl, ?_⟩
        replace BK168 := zb BK168 hb
        replace BM := zb BM hb
        replace BK174 := zb BK174 hb
        replace BK175 := zb BK175 hb
        replace HB := zE (zs3 HB GE168 GE174 GE175) hb
        (try clear hb)
        (try clear hb2)
        (try clear hk)
        (try clear hi)
        refine hK.out _ _ ⟨zc0 BK174, zc1 BK174, zc2 BK174, zc0 BK175, zc1 BK175, zh BM⟩ (fun hHeld => ?_)
        clear hK K
        refine zN ?_
        refine zq HT_ 2 ?_
        refine zq HT_ 3 ?_
        refine zq HT_ 4 ?_
        refine zk6 HT_ HW_ hHeld 5 ?_
        refine zlook HT_ HW_ hHeld 6 (point_range A47.out).1 (point_range A47.out).2 HSM.out (fun _ h_ => h_.2.2.2.2.2) ?_
        refine zq HT_ 7 ?_
        refine zq HT_ 8 ?_
        refine zq HT_ 9 ?_
        refine zq HT_ 10 ?_
        refine zq HT_ 11 ?_
        refine zu HT_ 12 ?_
        refine zu HT_ 13 ?_
        refine zu HT_ 14 ?_
        refine zu HT_ 15 ?_
        refine zu HT_ 16 ?_
        refine zu HT_ 17 ?_
        refine zu HT_ 18 ?_
        refine zu HT_ 19 ?_
        refine zu HT_ 20 ?_
        refine zu HT_ 21 ?_
        refine zq HT_ 22 ?_
        refine zq HT_ 23 ?_
        refine done_ (done_of HT_.out (by kernel_rfl)) ?_
        obtain ⟨hcz96_0, hcz96_1⟩ := zd2 BK175
        obtain ⟨hfz96_0, hfz96_1⟩ := zn2 BK175
        try go_wp2_with (first | (at_mapUpdate; refine zput_ (b := gmm) (n := nm) ((rd_T42 l0_1 x51_3).f1) ((rd_T42 l0_1 x51_3).f2) (HSM.out _ (zh BM)) (by have := HNM.out; have := HL16.out (by simp); have h_ : x51_3 < (l0_1.length : Int) := za; unfold maxLen; omega) (point_range A47.out).1 (point_range A47.out).2 ?_; intro w1_ hown1 hgrow1; replace BK168 := Aside0.mk (blk_grown (zh BK168) hgrow1 (fun e => NBM.out (Option.some.inj e))); replace HB := Aside0.mk (Below.grown (zs3 HB GE168 GE174 GE175) hgrow1 (below_size (zs3 HB GE168 GE174 GE175)) (fun k_ e_ => by cases e_; exact GM.out)); obtain ⟨em2, hbm2, hbk2⟩ := SetIs.block hown1; have BM2 := zA hbm2; clear hbm2 hown1 hgrow1))
        go_roundg k3
        case measure => have := HJ1.out; have := HK2.out; have := HK3.out; omega
        case rel => exact ⟨(wrap64 (x51_3 + 1)), em2, nm + 1, zi, ⟨zh BM2⟩, ⟨fun W_ hW => by have q_ := hbk2 W_ hW; rw [seenT_step HNM.out.1 za (HL16.out (by simp))] at q_; exact q_⟩, ⟨by have e_ : wrap64 (x51_3 + 1) = x51_3 + 1 := w64_ (by have := HNM.out.1; omega) (by have h_ : x51_3 < (l0_1.length : Int) := za; have := HL16.out (by simp); omega); rw [e_]; have := HNM.out; omega⟩, H', ⟨by have := HJ1.out; have := HK2.out; have := HK3.out; omega⟩, ⟨zh BK168⟩, ⟨zs0 HB⟩⟩
       rw [if_pos c60] at H
       have c60b0 : decide (0 < x51_3) = true := decide_eq_true c60
       clear c60
       obtain ⟨ji61, hji61⟩ : ∃ j_ : Int, (wrap64 (x51_3 - 1)) = j_ := ⟨_, rfl⟩
       first | rw [hji61] at H | simp only [hji61] at H
       (try rw [hji61] at A47)
       have hji61w : (IntKind.i64.wrap (x51_3 - 1)) = ji61 := (i64_w _).trans hji61
       by_cases c62 : 0 ≤ (ji61)
       rotate_left
       ·rw [if_neg c62] at H
        exact absurd H (by simp)
       rw [if_pos c62] at H
       have c62b0 : decide (0 ≤ (ji61)) = true := decide_eq_true c62
       clear c62
       by_cases c63 : (ji61) < (l0_1.length : Int)
       rotate_left
       ·rw [if_neg c63] at H
        exact absurd H (by simp)
       rw [if_pos c63] at H
       have c63b0 : decide ((ji61) < (l0_1.length : Int)) = true := decide_eq_true c63
       clear c63
       by_cases c64 : ((Op.bytesLess (((rd_T42 l0_1 (ji61)).f0).toList) (((rd_T42 l0_1 x51_3).f0).toList)) = true)
       rotate_left
       ·rw [if_neg c64] at H
        have c64b0 : (Op.bytesLess (((rd_T42 l0_1 (ji61)).f0).toList) (((rd_T42 l0_1 x51_3).f0).toList)) = false := by simpa using c64
        clear c64
        obtain rfl := Option.some.inj H
        have p173 : 0 ≤ (x51_3 : Int) := za
        have q173 : x51_3 < (l0_1.length : Int) := za
        obtain ⟨ad173, e173, hx173_0, hx173_1, hx173_2⟩ := at_T42 HR0_1.out x51_3 p173 q173
        cases e173
        replace hx173_0 := zx HB hx173_0
        replace hx173_1 := zx HB hx173_1
        replace hx173_2 := zx HB hx173_2
        replace p173 := eq_true p173
        replace q173 := eq_true q173
        try go_wp2_with (first | ((with_reducible refine gate_dst (N := 7) rfl ?_); (try (refine gate_guard (by rfl) ?_; dsimp only)); refine zbx 7 #[.string (⟨#[]⟩ : ByteArray), .int .i64 0, .int .i64 0] 42 ?_; intro gb174 hg w76 hbox hb; have NM174 := zne hg BM; replace BM := zb BM hb; have BK174 := zA hbox; have GW174 := zgs hg (zs1 HB GE168); have GE174 := zgs hg (zs1 HB GE168); have NB168_174 := zne hg BK168; have NB174_168 := znf hg BK168; replace BK168 := zb BK168 hb; replace HB := zE (zs1 HB GE168) hb; clear hb hbox hg; have hnb77 := NB174_168.out; have hnc77 := NB168_174.out; obtain ⟨hcz78_0, hcz78_1, hcz78_2⟩ := zd3 BK174; obtain ⟨hfz78_0, hfz78_1, hfz78_2⟩ := zn3 BK174) | ((with_reducible refine gate_dst (N := 8) rfl ?_); (try (refine gate_guard (by rfl) ?_; dsimp only)); refine zbx 8 #[.int .i64 0, .int .i64 0] 46 ?_; intro gb175 hg w79 hbox hb; have NM175 := Aside0.mk ((by rw [hg]; exact Nat.ne_of_lt (blk_lt (zmf BM NM174)) : gmm ≠ gb175)); replace BM := Aside0.mk (blk_below (zmf BM NM174) hb); have BK175 := zA hbox; have GW175 := zgs hg (zs2 HB GE168 GE174); have GE175 := zgs hg (zs2 HB GE168 GE174); have NB168_175 := Aside0.mk ((by rw [hg]; exact Nat.ne_of_lt (blk_lt (g := gb168) (o := .cells #[.slice A0_0 l0_0.length c0_0, .slice (some ad173) l0_1.length c0_1] 31 (0, 0)) (zpf BK168 NB168_174)) : gb168 ≠ gb175)); have NB175_168 := Aside0.mk ((by rw [hg]; exact Nat.ne_of_gt (blk_lt (g := gb168) (o := .cells #[.slice A0_0 l0_0.length c0_0, .slice (some ad173) l0_1.length c0_1] 31 (0, 0)) (zpf BK168 NB168_174)) : gb175 ≠ gb168)); have NB174_175 := Aside0.mk ((by rw [hg]; exact Nat.ne_of_lt (blk_lt (g := gb174) (o := .cells #[.string ((rd_T42 l0_1 x51_3).f0), .int .i64 ((rd_T42 l0_1 x51_3).f1), .int .i64 ((rd_T42 l0_1 x51_3).f2)] 42 (0, 0)) (zpb BK174)) : gb174 ≠ gb175)); have NB175_174 := Aside0.mk ((by rw [hg]; exact Nat.ne_of_gt (blk_lt (g := gb174) (o := .cells #[.string ((rd_T42 l0_1 x51_3).f0), .int .i64 ((rd_T42 l0_1 x51_3).f1), .int .i64 ((rd_T42 l0_1 x51_3).f2)] 42 (0, 0)) (zpb BK174)) : gb175 ≠ gb174)); replace BK168 := Aside0.mk (blk_below (g := gb168) (o := .cells #[.slice A0_0 l0_0.length c0_0, .slice (some ad173) l0_1.length c0_1] 31 (0, 0)) (zpf BK168 NB168_174) hb); replace BK174 := Aside0.mk (blk_below (g := gb174) (o := .cells #[.string ((rd_T42 l0_1 x51_3).f0), .int .i64 ((rd_T42 l0_1 x51_3).f1), .int .i64 ((rd_T42 l0_1 x51_3).f2)] 42 (0, 0)) (zpb BK174) hb); replace HB := zE (zs2 HB GE168 GE174) hb; clear hb hbox hg; have hnb80 := NB175_168.out; have hnc80 := NB168_175.out; have hnb81 := NB175_174.out; have hnc81 := NB174_175.out; obtain ⟨hcz82_0, hcz82_1⟩ := zd2 BK175; obtain ⟨hfz82_0, hfz82_1⟩ := zn2 BK175))
        obtain ⟨w83, e_⟩ : ∃ x, x = ((w79.setCell ⟨gb175, 0, none⟩ (.int .i64 ((rd_T42 l0_1 x51_3).f1))).setCell ⟨gb175, 1, none⟩ (.int .i64 ((rd_T42 l0_1 x51_3).f2))) := ⟨_, rfl⟩
        have n0_ : Aside0 (w83.heap[gb168]? = some (.cells #[.slice A0_0 l0_0.length c0_0, .slice (some ad173) l0_1.length c0_1] 31 (0, 0))) := by rw [e_]; exact ⟨zpf BK168 NB168_175⟩
        have n1_ : Aside0 (w83.heap[gb174]? = some (.cells #[.string ((rd_T42 l0_1 x51_3).f0), .int .i64 ((rd_T42 l0_1 x51_3).f1), .int .i64 ((rd_T42 l0_1 x51_3).f2)] 42 (0, 0))) := by rw [e_]; exact ⟨zpf BK174 NB174_175⟩
        have n2_ : Aside0 (w83.heap[gb175]? = some (.cells #[.int .i64 ((rd_T42 l0_1 x51_3).f1), .int .i64 ((rd_T42 l0_1 x51_3).f2)] 46 (0, 0))) := by rw [e_]; exact ⟨zpb BK175⟩
        have n3_ : Aside0 (Below w.heap.size w w83) := by rw [e_]; exact ⟨zs3 HB GE168 GE174 GE175⟩
        have nm_ : Aside0 (w83.heap[gmm]? = some em) := by rw [e_]; exact ⟨zmf BM NM175⟩
        (try clear BK168)
        (try clear BK174)
        (try clear BK175)
        (try clear HB)
        (try clear BM)
        rw [← e_]; clear e_
        have BK168 := n0_
        have BK174 := n1_
        have BK175 := n2_
        have HB := n3_
        have BM := nm_
        clear n0_ n1_ n2_ n3_ nm_
        replace BK168 := Aside0.mk (blk_drew BK168.out)
        replace BK174 := Aside0.mk (blk_drew BK174.out)
        replace BK175 := Aside0.mk (blk_drew BK175.out)
        replace HB := Aside0.mk (below_drew1 HB.out)
        replace BM := Aside0.mk (blk_drew BM.out)
        have p177 : 0 ≤ ((ji61) : Int) := za
        have q177 : (ji61) < (l0_1.length : Int) := za
        obtain ⟨ad177, e177, hx177_0, hx177_1, hx177_2⟩ := at_T42 HR0_1.out (ji61) p177 q177
        have hw177_2 := hx177_2
        have hw177_1 := hx177_1
        have hw177_0 := hx177_0
        obtain rfl : ad173 = ad177 := (by injection e177)
        replace hx177_0 := zx HB hx177_0
        replace hx177_1 := zx HB hx177_1
        replace hx177_2 := zx HB hx177_2
        replace p177 := eq_true p177
        replace q177 := eq_true q177
        refine start_ (n := 24) (S := fun w' => w'.cell? ⟨gb174, 0, none⟩ = some (.string ((rd_T42 l0_1 x51_3).f0)) ∧ w'.cell? ⟨gb174, 1, none⟩ = some (.int .i64 ((rd_T42 l0_1 x51_3).f1)) ∧ w'.cell? ⟨gb174, 2, none⟩ = some (.int .i64 ((rd_T42 l0_1 x51_3).f2)) ∧ w'.cell? ⟨gb175, 0, none⟩ = some (.int .i64 ((rd_T42 l0_1 x51_3).f1)) ∧ w'.cell? ⟨gb175, 1, none⟩ = some (.int .i64 ((rd_T42 l0_1 x51_3).f2)) ∧ w'.cell? ⟨gb168, 0, none⟩ = some (.slice A0_0 l0_0.length c0_0) ∧ w'.cell? ⟨gb168, 1, none⟩ = some (.slice (some ad173) l0_1.length c0_1) ∧ w'.cell? (ad173.add (((ji61)).toNat * 3)) = some (.string ((rd_T42 l0_1 (ji61)).f0)) ∧ w'.cell? ⟨(ad173.add (((ji61)).toNat * 3)).block, (ad173.add (((ji61)).toNat * 3)).off + 1, none⟩ = some (.int .i64 ((rd_T42 l0_1 (ji61)).f1)) ∧ w'.cell? ⟨(ad173.add (((ji61)).toNat * 3)).block, (ad173.add (((ji61)).toNat * 3)).off + 2, none⟩ = some (.int .i64 ((rd_T42 l0_1 (ji61)).f2)) ∧ w'.heap[gmm]? = some em) (ds := []) #[false, false, false, false, false, false, false, false, false, false, false, false, false, false, false, false, false, false, false, false, false, false, false, false] (by kernel_rfl) rfl rfl ⟨zc0 BK174, zc1 BK174, zc2 BK174, zc0 BK175, zc1 BK175, zc0 BK168, zc1 BK168, (zw HB hw177_0), (zw HB hw177_1), (zw HB hw177_2), zh BM⟩ (fun hHeld => ?_); refine with_tabW impl_PlanBaseOk.tab14 impl_PlanBaseOk.bits14 (fun HT_ HW_ => ?_)
        generalize w83.drew = w84 at BK168 BK174 BK175 HB BM hx177_0 hx177_1 hx177_2 hHeld ⊢
        refine zk11 HT_ HW_ hHeld 0 ?_
        refine zo HT_ 1 (fun K hK => ?_)
        refine zgo Try.func16 #[.agg #[.string ((rd_T42 l0_1 x51_3).f0), .int .i64 ((rd_T42 l0_1 x51_3).f1), .int .i64 ((rd_T42 l0_1 x51_3).f2)]] ?_
        with_reducible refine (impl_pointOk.calls k3 ((rd_T42 l0_1 x51_3).f0) ((rd_T42 l0_1 x51_3).f1) ((rd_T42 l0_1 x51_3).f2) true _ A47.out).mono ?_
        rintro e w85 ⟨rfl, hb⟩
        refine ⟨_, rfl, ?_⟩
        replace BK168 := zb BK168 hb
        replace BM := zb BM hb
        replace BK174 := zb BK174 hb
        replace BK175 := zb BK175 hb
        replace HB := zE (zs3 HB GE168 GE174 GE175) hb
        (try clear hb)
        (try clear hb2)
        (try clear hk)
        (try clear hi)
        refine hK.out _ _ ⟨zc0 BK174, zc1 BK174, zc2 BK174, zc0 BK175, zc1 BK175, zc0 BK168, zc1 BK168, (zw HB hw177_0), (zw HB hw177_1), (zw HB hw177_2), zh BM⟩ (fun hHeld => ?_)
        clear hK K
        refine zN ?_
        refine zq HT_ 2 ?_
        refine zq HT_ 3 ?_
        refine zq HT_ 4 ?_
        refine zk11 HT_ HW_ hHeld 5 ?_
        refine zlook HT_ HW_ hHeld 6 (point_range A47.out).1 (point_range A47.out).2 HSM.out (fun _ h_ => h_.2.2.2.2.2.2.2.2.2.2) ?_
        refine zq HT_ 7 ?_
        refine zq HT_ 8 ?_
        refine zq HT_ 9 ?_
        refine zq HT_ 10 ?_
        refine zq HT_ 11 ?_
        refine zq HT_ 12 ?_
        refine zq HT_ 14 ?_
        refine zq HT_ 16 ?_
        refine zq HT_ 17 ?_
        refine zk11 HT_ HW_ hHeld 13 ?_
        refine zk11 HT_ HW_ hHeld 15 ?_
        refine zq HT_ 18 ?_
        refine zq HT_ 19 ?_
        refine zk11 HT_ HW_ hHeld 20 ?_
        refine zq HT_ 21 ?_
        refine zq HT_ 22 ?_
        refine zq HT_ 23 ?_
        refine done_ (done_of HT_.out (by kernel_rfl)) ?_
        try go_wp2
        go_ret
        exact ⟨by first | rfl | (simp [errW_none, errW_some] <;> rfl) | (simp only [← hji61]; first | rfl | (simp [errW_none, errW_some] <;> rfl)) | (simp [*, errW_none, errW_some] <;> rfl), zs3 HB GE168 GE174 GE175⟩
       rw [if_pos c64] at H
       have c64b0 : (Op.bytesLess (((rd_T42 l0_1 (ji61)).f0).toList) (((rd_T42 l0_1 x51_3).f0).toList)) = true := c64
       clear c64
       have H' := Aside0.mk H
       clear H
       have p173 : 0 ≤ (x51_3 : Int) := za
       have q173 : x51_3 < (l0_1.length : Int) := za
       obtain ⟨ad173, e173, hx173_0, hx173_1, hx173_2⟩ := at_T42 HR0_1.out x51_3 p173 q173
       cases e173
       replace hx173_0 := zx HB hx173_0
       replace hx173_1 := zx HB hx173_1
       replace hx173_2 := zx HB hx173_2
       replace p173 := eq_true p173
       replace q173 := eq_true q173
       try go_wp2_with (first | ((with_reducible refine gate_dst (N := 7) rfl ?_); (try (refine gate_guard (by rfl) ?_; dsimp only)); refine zbx 7 #[.string (⟨#[]⟩ : ByteArray), .int .i64 0, .int .i64 0] 42 ?_; intro gb174 hg w65 hbox hb; have NM174 := zne hg BM; replace BM := zb BM hb; have BK174 := zA hbox; have GW174 := zgs hg (zs1 HB GE168); have GE174 := zgs hg (zs1 HB GE168); have NB168_174 := zne hg BK168; have NB174_168 := znf hg BK168; replace BK168 := zb BK168 hb; replace HB := zE (zs1 HB GE168) hb; clear hb hbox hg; have hnb66 := NB174_168.out; have hnc66 := NB168_174.out; obtain ⟨hcz67_0, hcz67_1, hcz67_2⟩ := zd3 BK174; obtain ⟨hfz67_0, hfz67_1, hfz67_2⟩ := zn3 BK174) | ((with_reducible refine gate_dst (N := 8) rfl ?_); (try (refine gate_guard (by rfl) ?_; dsimp only)); refine zbx 8 #[.int .i64 0, .int .i64 0] 46 ?_; intro gb175 hg w68 hbox hb; have NM175 := Aside0.mk ((by rw [hg]; exact Nat.ne_of_lt (blk_lt (zmf BM NM174)) : gmm ≠ gb175)); replace BM := Aside0.mk (blk_below (zmf BM NM174) hb); have BK175 := zA hbox; have GW175 := zgs hg (zs2 HB GE168 GE174); have GE175 := zgs hg (zs2 HB GE168 GE174); have NB168_175 := Aside0.mk ((by rw [hg]; exact Nat.ne_of_lt (blk_lt (g := gb168) (o := .cells #[.slice A0_0 l0_0.length c0_0, .slice (some ad173) l0_1.length c0_1] 31 (0, 0)) (zpf BK168 NB168_174)) : gb168 ≠ gb175)); have NB175_168 := Aside0.mk ((by rw [hg]; exact Nat.ne_of_gt (blk_lt (g := gb168) (o := .cells #[.slice A0_0 l0_0.length c0_0, .slice (some ad173) l0_1.length c0_1] 31 (0, 0)) (zpf BK168 NB168_174)) : gb175 ≠ gb168)); have NB174_175 := Aside0.mk ((by rw [hg]; exact Nat.ne_of_lt (blk_lt (g := gb174) (o := .cells #[.string ((rd_T42 l0_1 x51_3).f0), .int .i64 ((rd_T42 l0_1 x51_3).f1), .int .i64 ((rd_T42 l0_1 x51_3).f2)] 42 (0, 0)) (zpb BK174)) : gb174 ≠ gb175)); have NB175_174 := Aside0.mk ((by rw [hg]; exact Nat.ne_of_gt (blk_lt (g := gb174) (o := .cells #[.string ((rd_T42 l0_1 x51_3).f0), .int .i64 ((rd_T42 l0_1 x51_3).f1), .int .i64 ((rd_T42 l0_1 x51_3).f2)] 42 (0, 0)) (zpb BK174)) : gb175 ≠ gb174)); replace BK168 := Aside0.mk (blk_below (g := gb168) (o := .cells #[.slice A0_0 l0_0.length c0_0, .slice (some ad173) l0_1.length c0_1] 31 (0, 0)) (zpf BK168 NB168_174) hb); replace BK174 := Aside0.mk (blk_below (g := gb174) (o := .cells #[.string ((rd_T42 l0_1 x51_3).f0), .int .i64 ((rd_T42 l0_1 x51_3).f1), .int .i64 ((rd_T42 l0_1 x51_3).f2)] 42 (0, 0)) (zpb BK174) hb); replace HB := zE (zs2 HB GE168 GE174) hb; clear hb hbox hg; have hnb69 := NB175_168.out; have hnc69 := NB168_175.out; have hnb70 := NB175_174.out; have hnc70 := NB174_175.out; obtain ⟨hcz71_0, hcz71_1⟩ := zd2 BK175; obtain ⟨hfz71_0, hfz71_1⟩ := zn2 BK175))
       obtain ⟨w72, e_⟩ : ∃ x, x = ((w68.setCell ⟨gb175, 0, none⟩ (.int .i64 ((rd_T42 l0_1 x51_3).f1))).setCell ⟨gb175, 1, none⟩ (.int .i64 ((rd_T42 l0_1 x51_3).f2))) := ⟨_, rfl⟩
       have n0_ : Aside0 (w72.heap[gb168]? = some (.cells #[.slice A0_0 l0_0.length c0_0, .slice (some ad173) l0_1.length c0_1] 31 (0, 0))) := by rw [e_]; exact ⟨zpf BK168 NB168_175⟩
       have n1_ : Aside0 (w72.heap[gb174]? = some (.cells #[.string ((rd_T42 l0_1 x51_3).f0), .int .i64 ((rd_T42 l0_1 x51_3).f1), .int .i64 ((rd_T42 l0_1 x51_3).f2)] 42 (0, 0))) := by rw [e_]; exact ⟨zpf BK174 NB174_175⟩
       have n2_ : Aside0 (w72.heap[gb175]? = some (.cells #[.int .i64 ((rd_T42 l0_1 x51_3).f1), .int .i64 ((rd_T42 l0_1 x51_3).f2)] 46 (0, 0))) := by rw [e_]; exact ⟨zpb BK175⟩
       have n3_ : Aside0 (Below w.heap.size w w72) := by rw [e_]; exact ⟨zs3 HB GE168 GE174 GE175⟩
       have nm_ : Aside0 (w72.heap[gmm]? = some em) := by rw [e_]; exact ⟨zmf BM NM175⟩
       (try clear BK168)
       (try clear BK174)
       (try clear BK175)
       (try clear HB)
       (try clear BM)
       rw [← e_]; clear e_
       have BK168 := n0_
       have BK174 := n1_
       have BK175 := n2_
       have HB := n3_
       have BM := nm_
       clear n0_ n1_ n2_ n3_ nm_
       replace BK168 := Aside0.mk (blk_drew BK168.out)
       replace BK174 := Aside0.mk (blk_drew BK174.out)
       replace BK175 := Aside0.mk (blk_drew BK175.out)
       replace HB := Aside0.mk (below_drew1 HB.out)
       replace BM := Aside0.mk (blk_drew BM.out)
       have p177 : 0 ≤ ((ji61) : Int) := za
       have q177 : (ji61) < (l0_1.length : Int) := za
       obtain ⟨ad177, e177, hx177_0, hx177_1, hx177_2⟩ := at_T42 HR0_1.out (ji61) p177 q177
       have hw177_2 := hx177_2
       have hw177_1 := hx177_1
       have hw177_0 := hx177_0
       obtain rfl : ad173 = ad177 := (by injection e177)
       replace hx177_0 := zx HB hx177_0
       replace hx177_1 := zx HB hx177_1
       replace hx177_2 := zx HB hx177_2
       replace p177 := eq_true p177
       replace q177 := eq_true q177
       refine start_ (n := 24) (S := fun w' => w'.cell? ⟨gb174, 0, none⟩ = some (.string ((rd_T42 l0_1 x51_3).f0)) ∧ w'.cell? ⟨gb174, 1, none⟩ = some (.int .i64 ((rd_T42 l0_1 x51_3).f1)) ∧ w'.cell? ⟨gb174, 2, none⟩ = some (.int .i64 ((rd_T42 l0_1 x51_3).f2)) ∧ w'.cell? ⟨gb175, 0, none⟩ = some (.int .i64 ((rd_T42 l0_1 x51_3).f1)) ∧ w'.cell? ⟨gb175, 1, none⟩ = some (.int .i64 ((rd_T42 l0_1 x51_3).f2)) ∧ w'.cell? ⟨gb168, 0, none⟩ = some (.slice A0_0 l0_0.length c0_0) ∧ w'.cell? ⟨gb168, 1, none⟩ = some (.slice (some ad173) l0_1.length c0_1) ∧ w'.cell? (ad173.add (((ji61)).toNat * 3)) = some (.string ((rd_T42 l0_1 (ji61)).f0)) ∧ w'.cell? ⟨(ad173.add (((ji61)).toNat * 3)).block, (ad173.add (((ji61)).toNat * 3)).off + 1, none⟩ = some (.int .i64 ((rd_T42 l0_1 (ji61)).f1)) ∧ w'.cell? ⟨(ad173.add (((ji61)).toNat * 3)).block, (ad173.add (((ji61)).toNat * 3)).off + 2, none⟩ = some (.int .i64 ((rd_T42 l0_1 (ji61)).f2)) ∧ w'.heap[gmm]? = some em) (ds := []) #[false, false, false, false, false, false, false, false, false, false, false, false, false, false, false, false, false, false, false, false, false, false, false, false] (by kernel_rfl) rfl rfl ⟨zc0 BK174, zc1 BK174, zc2 BK174, zc0 BK175, zc1 BK175, zc0 BK168, zc1 BK168, (zw HB hw177_0), (zw HB hw177_1), (zw HB hw177_2), zh BM⟩ (fun hHeld => ?_); refine with_tabW impl_PlanBaseOk.tab14 impl_PlanBaseOk.bits14 (fun HT_ HW_ => ?_)
       generalize w72.drew = w73 at BK168 BK174 BK175 HB BM hx177_0 hx177_1 hx177_2 hHeld ⊢
       refine zk11 HT_ HW_ hHeld 0 ?_
       refine zo HT_ 1 (fun K hK => ?_)
       refine zgo Try.func16 #[.agg #[.string ((rd_T42 l0_1 x51_3).f0), .int .i64 ((rd_T42 l0_1 x51_3).f1), .int .i64 ((rd_T42 l0_1 x51_3).f2)]] ?_
       with_reducible refine (impl_pointOk.calls k3 ((rd_T42 l0_1 x51_3).f0) ((rd_T42 l0_1 x51_3).f1) ((rd_T42 l0_1 x51_3).f2) true _ A47.out).mono ?_
       rintro e w74 ⟨rfl, hb⟩
       refine ⟨_, rfl, ?_⟩
       replace BK168 := zb BK168 hb
       replace BM := zb BM hb
       replace BK174 := zb BK174 hb
       replace BK175 := zb BK175 hb
       replace HB := zE (zs3 HB GE168 GE174 GE175) hb
       (try clear hb)
       (try clear hb2)
       (try clear hk)
       (try clear hi)
       refine hK.out _ _ ⟨zc0 BK174, zc1 BK174, zc2 BK174, zc0 BK175, zc1 BK175, zc0 BK168, zc1 BK168, (zw HB hw177_0), (zw HB hw177_1), (zw HB hw177_2), zh BM⟩ (fun hHeld => ?_)
       clear hK K
       refine zN ?_
       refine zq HT_ 2 ?_
       refine zq HT_ 3 ?_
       refine zq HT_ 4 ?_
       refine zk11 HT_ HW_ hHeld 5 ?_
       refine zlook HT_ HW_ hHeld 6 (point_range A47.out).1 (point_range A47.out).2 HSM.out (fun _ h_ => h_.2.2.2.2.2.2.2.2.2.2) ?_
       refine zq HT_ 7 ?_
       refine zq HT_ 8 ?_
       refine zq HT_ 9 ?_
       refine zq HT_ 10 ?_
       refine zq HT_ 11 ?_
       refine zq HT_ 12 ?_
       refine zq HT_ 14 ?_
       refine zq HT_ 16 ?_
       refine zq HT_ 17 ?_
       refine zk11 HT_ HW_ hHeld 13 ?_
       refine zk11 HT_ HW_ hHeld 15 ?_
       refine zq HT_ 18 ?_
       refine zq HT_ 19 ?_
       refine zk11 HT_ HW_ hHeld 20 ?_
       refine zq HT_ 21 ?_
       refine zq HT_ 22 ?_
       refine zq HT_ 23 ?_
       refine done_ (done_of HT_.out (by kernel_rfl)) ?_
       obtain ⟨hcz75_0, hcz75_1⟩ := zd2 BK175
       obtain ⟨hfz75_0, hfz75_1⟩ := zn2 BK175
       try go_wp2_with (first | (at_mapUpdate; refine zput_ (b := gmm) (n := nm) ((rd_T42 l0_1 x51_3).f1) ((rd_T42 l0_1 x51_3).f2) (HSM.out _ (zh BM)) (by have := HNM.out; have := HL16.out (by simp); have h_ : x51_3 < (l0_1.length : Int) := za; unfold maxLen; omega) (point_range A47.out).1 (point_range A47.out).2 ?_; intro w1_ hown1 hgrow1; replace BK168 := Aside0.mk (blk_grown (zh BK168) hgrow1 (fun e => NBM.out (Option.some.inj e))); replace HB := Aside0.mk (Below.grown (zs3 HB GE168 GE174 GE175) hgrow1 (below_size (zs3 HB GE168 GE174 GE175)) (fun k_ e_ => by cases e_; exact GM.out)); obtain ⟨em2, hbm2, hbk2⟩ := SetIs.block hown1; have BM2 := zA hbm2; clear hbm2 hown1 hgrow1))
       go_roundg k3
       case measure => have := HJ1.out; have := HK2.out; have := HK3.out; omega
       case rel => exact ⟨(wrap64 (x51_3 + 1)), em2, nm + 1, zi, ⟨zh BM2⟩, ⟨fun W_ hW => by have q_ := hbk2 W_ hW; rw [seenT_step HNM.out.1 za (HL16.out (by simp))] at q_; exact q_⟩, ⟨by have e_ : wrap64 (x51_3 + 1) = x51_3 + 1 := w64_ (by have := HNM.out.1; omega) (by have h_ : x51_3 < (l0_1.length : Int) := za; have := HL16.out (by simp); omega); rw [e_]; have := HNM.out; omega⟩, H', ⟨by have := HJ1.out; have := HK2.out; have := HK3.out; omega⟩, ⟨zh BK168⟩, ⟨zs0 HB⟩⟩
end Go.Proofs.Ytleenmphhlioaaa.QFnExactPlanBaseOk
