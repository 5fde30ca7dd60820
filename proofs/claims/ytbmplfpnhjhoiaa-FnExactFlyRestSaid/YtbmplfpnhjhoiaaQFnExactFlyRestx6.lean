/- The walk of what the law FnExactFlyRest reaches: laid by a program of this session (ownprint.py). -/
import Derived.Test.YtbmplfpnhjhoiaaQFnExactFlyRestx0
import Derived.Test.YtbmplfpnhjhoiaaQFnExactFlyRestx5
namespace Go.Proofs.Ytbmplfpnhjhoiaa.QFnExactFlyRest
open Go.RowKit Go.Proofs.YtbmplfpnhjhoiaaW.PrintWords Go.Proofs.YtbmplfpnhjhoiaaW.PrintLast Go.Proofs.YtbmplfpnhjhoiaaW.PrintMore Go.Proofs.Ytbmplfpnhjhoiaa.Z
attribute [local go_sem] max2_int min2_int max_two min_two max_three min_three max_four min_four zdn   -- for this text's walks alone
set_option linter.unusedVariables false
set_option linter.unusedSimpArgs false
def spec_l26Held.l0 : Nat → List Int → Int → Int → Int → List (S132) → Int → Int → Option (Int × Int × (List (S132)) × Int × Int)
 | 0, _, _, _, _, _, _, _ => none
 | k + 1, x1, x6, x209000, x209001, x209002, x209003, x209004 => if x6 < (x1.length : Int) then (if x6 < (x209002.length : Int) then (if 0 ≤ x6 then ((spec_l21Max.f ((rd_T132 x209002 x6).f4) (rd x1 x6)).bind fun t211 => ((some (x209002.set (x6 : Int).toNat (⟨(rd_T132 x209002 x6).f0, (rd_T132 x209002 x6).f1, (rd_T132 x209002 x6).f2, (rd_T132 x209002 x6).f3, t211, (rd_T132 x209002 x6).f5, (rd_T132 x209002 x6).f6⟩ : S132) : List (S132))).bind fun y212 => ((spec_l21Min.f ((rd_T132 y212 x6).f5) (rd x1 x6)).bind fun t215 => (spec_l26Held.l0 k x1 (wrap64 (x6 + 1)) x209000 x209001 (y212.set (x6 : Int).toNat (⟨(rd_T132 y212 x6).f0, (rd_T132 y212 x6).f1, (rd_T132 y212 x6).f2, (rd_T132 y212 x6).f3, (rd_T132 y212 x6).f4, t215, (rd_T132 y212 x6).f6⟩ : S132)) x209003 x209004)))) else (none)) else (if 0 ≤ x6 then ((spec_l21Max.f x209003 (rd x1 x6)).bind fun t218 => ((spec_l21Min.f x209004 (rd x1 x6)).bind fun t220 => (spec_l26Held.l0 k x1 (wrap64 (x6 + 1)) x209000 x209001 x209002 t218 t220))) else (none))) else (some (x209000, x209001, x209002, x209003, x209004))
def spec_l26Held.f (k : Nat) (a0_0 : Int) (a0_1 : Int) (l0_2 : List (S132)) (a0_3 : Int) (a0_4 : Int) (l1 : List Int) : Option (Int × Int × (List (S132)) × Int × Int) := (spec_l22Copy.f a0_0 a0_1 l0_2 a0_3 a0_4).bind fun bt201 => (spec_l26Held.l0 k l1 0 bt201.1 bt201.2.1 bt201.2.2.1 bt201.2.2.2.1 bt201.2.2.2.2)
def spec_l26Held.T6 : Bool × List (List Nat × List Nat) := (true, [([], []), ([0], [0]), ([], []), ([], []), ([3], [3]), ([], []), ([4, 5], [4, 5]), ([6], [6]), ([7], [7]), ([], []), ([], []), ([9, 10], [9, 10]), ([11], [11]), ([8, 12], [8, 12]), ([1, 2, 0, 1, 2, 3, 4, 5, 6, 7, 8, 9, 10, 11, 12, 13], [1, 2]), ([14, 0, 1, 2, 3, 4, 5, 6, 7, 8, 9, 10, 11, 12, 13], [14]), ([15, 13, 13, 0, 1, 2, 3, 4, 5, 6, 7, 8, 9, 10, 11, 12, 13], [13, 15])])
def spec_l26Held.B6 : List Nat := [0, 1, 0, 0, 8, 0, 56, 120, 248, 0, 0, 1536, 3584, 8184, 16383, 32767, 65535]
theorem spec_l26Held.tab6 : rtab .any (opsOf Try.f129 6) = spec_l26Held.T6 := by kernel_rfl
theorem spec_l26Held.bits6 : waitsOk spec_l26Held.T6.2 spec_l26Held.B6 = true := by kernel_rfl
def spec_l26Held.T7 : Bool × List (List Nat × List Nat) := (true, [([], []), ([0], [0]), ([], []), ([], []), ([3], [3]), ([], []), ([4, 5], [4, 5]), ([6], [6]), ([7], [7]), ([], []), ([], []), ([9, 10], [9, 10]), ([11], [11]), ([8, 12], [8, 12]), ([1, 2, 0, 1, 2, 3, 4, 5, 6, 7, 8, 9, 10, 11, 12, 13], [1, 2]), ([14, 0, 1, 2, 3, 4, 5, 6, 7, 8, 9, 10, 11, 12, 13], [14]), ([15, 13, 13, 0, 1, 2, 3, 4, 5, 6, 7, 8, 9, 10, 11, 12, 13], [13, 15])])
def spec_l26Held.B7 : List Nat := [0, 1, 0, 0, 8, 0, 56, 120, 248, 0, 0, 1536, 3584, 8184, 16383, 32767, 65535]
theorem spec_l26Held.tab7 : rtab .any (opsOf Try.f129 7) = spec_l26Held.T7 := by kernel_rfl
theorem spec_l26Held.bits7 : waitsOk spec_l26Held.T7.2 spec_l26Held.B7 = true := by kernel_rfl
def spec_l26Held.T8 : Bool × List (List Nat × List Nat) := (true, [([], []), ([0], [0]), ([], []), ([], []), ([2, 3], [2, 3]), ([4], [4]), ([1, 5], [1, 5]), ([0, 1, 2, 3, 4, 5, 6], []), ([7, 6, 6, 0, 1, 2, 3, 4, 5, 6], [6, 7])])
def spec_l26Held.B8 : List Nat := [0, 1, 0, 0, 12, 28, 63, 127, 255]
theorem spec_l26Held.tab8 : rtab .any (opsOf Try.f129 8) = spec_l26Held.T8 := by kernel_rfl
theorem spec_l26Held.bits8 : waitsOk spec_l26Held.T8.2 spec_l26Held.B8 = true := by kernel_rfl
def spec_l26Held.T9 : Bool × List (List Nat × List Nat) := (true, [([], []), ([0], [0]), ([], []), ([], []), ([2, 3], [2, 3]), ([4], [4]), ([1, 5], [1, 5]), ([0, 1, 2, 3, 4, 5, 6], []), ([7, 6, 6, 0, 1, 2, 3, 4, 5, 6], [6, 7])])
def spec_l26Held.B9 : List Nat := [0, 1, 0, 0, 12, 28, 63, 127, 255]
theorem spec_l26Held.tab9 : rtab .any (opsOf Try.f129 9) = spec_l26Held.T9 := by kernel_rfl
theorem spec_l26Held.bits9 : waitsOk spec_l26Held.T9.2 spec_l26Held.B9 = true := by kernel_rfl
set_option maxHeartbeats 8000000 in
set_option maxRecDepth 100000 in
theorem spec_l26Held.calls (k : Nat) (a0_0 : Int) (a0_1 : Int) (A0_2 : Option Addr) (c0_2 : Nat) (l0_2 : List (S132)) (a0_3 : Int) (a0_4 : Int) (A1 : Option Addr) (c1 : Nat) (l1 : List Int) (r1 : Int) (r2 : Int) (r3 : List (S132)) (r4 : Int) (r5 : Int) (w : World) (hr0_2 : Kd.C k132 w A0_2 l0_2.length l0_2) (hc0_2 : l0_2.length ≤ c0_2) (hr1 : Kd.C (Kd.int .i64) w A1 l1.length l1) (hc1 : l1.length ≤ c1) (h : spec_l26Held.f k a0_0 a0_1 l0_2 a0_3 a0_4 l1 = some (r1, r2, r3, r4, r5)) :
 Calls Try.prog 129 #[.agg #[.int .i64 a0_0, .int .i64 a0_1, .slice A0_2 l0_2.length c0_2, .int .i64 a0_3, .int .i64 a0_4], .slice A1 l1.length c1] w fun e w' => ∃ v2_ : Value, e = .returned (.agg #[.int .i64 r1, .int .i64 r2, v2_, .int .i64 r4, .int .i64 r5]) ∧ Kd.R k132 132 w' w.heap.size (fun _ => True) v2_ r3 ∧ Below w.heap.size w w' := by
 have hu68 := Try.underlying68
 have HR0_2 := zA hr0_2
 have HC0_2 := zA hc0_2
 clear hr0_2 hc0_2
 have HR1 := zA hr1
 have HC1 := zA hc1
 clear hr1 hc1
 have HB := zA (Below.refl w.heap.size w)
 have H : ((spec_l22Copy.f a0_0 a0_1 l0_2 a0_3 a0_4).bind fun bt201 => (spec_l26Held.l0 k l1 0 bt201.1 bt201.2.1 bt201.2.2.1 bt201.2.2.2.1 bt201.2.2.2.2)) = some (r1, r2, r3, r4, r5) := h
 clear h
 replace H := Option.bind_eq_some_iff.mp H
 obtain ⟨⟨t201, t202, t203, t206, t207⟩, A30, H⟩ := H
 replace H : (spec_l26Held.l0 k l1 0 t201 t202 t203 t206 t207) = some (r1, r2, r3, r4, r5) := H
 have A3 := zA A30
 clear A30
 have H' := zA H
 clear H
 go_enter Try.func129, Try.ntmps129
 go_wp2_with (first | ((with_reducible refine gate_dst (N := 2) rfl ?_); refine zbx 2 #[.int .i64 a0_0, .int .i64 a0_1, .slice A0_2 l0_2.length c0_2, .int .i64 a0_3, .int .i64 a0_4] 68 ?_; intro gb199 hg w4 hbox hb; have BK199 := zA hbox; have GW199 := zgs hg (zs0 HB); have GE199 := zgs hg (zs0 HB); replace HB := zE (zs0 HB) hb; clear hb hbox hg) | ((with_reducible refine gate_dst (N := 4) rfl ?_); refine zbx 4 #[.int .i64 0, .int .i64 0, .slice none 0 0, .int .i64 0, .int .i64 0] 68 ?_; intro gb200 hg w5 hbox hb; have BK200 := zA hbox; have GW200 := zgs hg (zs1 HB GE199); have GE200 := zgs hg (zs1 HB GE199); have NB199_200 := zne hg BK199; have NB200_199 := znf hg BK199; replace BK199 := zb BK199 hb; replace HB := zE (zs1 HB GE199) hb; clear hb hbox hg; have hnb6 := NB199_200.out; have hnc6 := NB200_199.out; obtain ⟨hcz7_0, hcz7_1, hcz7_2, hcz7_3, hcz7_4⟩ := zd5 BK199; obtain ⟨hfz7_0, hfz7_1, hfz7_2, hfz7_3, hfz7_4⟩ := zn5 BK199) | ((with_reducible refine gate_callee (f := 156) rfl ?_); refine zgl (N := some 8) Try.func156 #[.agg #[.int .i64 a0_0, .int .i64 a0_1, .slice A0_2 l0_2.length c0_2, .int .i64 a0_3, .int .i64 a0_4]] ?_; (with_reducible refine (spec_l22Copy.calls a0_0 a0_1 _ _ l0_2 a0_3 a0_4 t201 t202 t203 t206 t207 _ ?side1 ?side2 A3.out).mono ?_); (case side1 => exact zC HR0_2 HB); (case side2 => exact HC0_2.out); rintro e w8 ⟨v204, rfl, ho0, hb⟩; refine ⟨_, rfl, ?_⟩; have HO205 := zA (Kd.R_lower ho0 (below_size (zs2 HB GE199 GE200))); replace BK199 := zb BK199 hb; replace BK200 := zb BK200 hb; replace HB := zE (zs2 HB GE199 GE200) hb; (try clear hb); (try clear hb2); (try clear hk); (try clear hi); (try clear ho0)) | ((with_reducible refine gate_dst (N := 5) rfl ?_); refine zbx 5 #[.int .i64 0, .int .i64 0, .slice none 0 0, .int .i64 0, .int .i64 0] 68 ?_; intro gb208 hg w9 hbox hb; have BK208 := zA hbox; have GW208 := zgs hg (zs2 HB GE199 GE200); have GE208 := zgs hg (zs2 HB GE199 GE200); have NB199_208 := zne hg BK199; have NB208_199 := znf hg BK199; have NB200_208 := zne hg BK200; have NB208_200 := znf hg BK200; replace HO205 := zA (Kd.R_below (zr HO205) hb); replace BK199 := zb BK199 hb; replace BK200 := zb BK200 hb; replace HB := zE (zs2 HB GE199 GE200) hb; clear hb hbox hg; have hnb10 := NB208_199.out; have hnc10 := NB199_208.out; have hnb11 := NB208_200.out; have hnc11 := NB200_208.out; obtain ⟨hcz12_0, hcz12_1, hcz12_2, hcz12_3, hcz12_4⟩ := zd5 BK208; obtain ⟨hfz12_0, hfz12_1, hfz12_2, hfz12_3, hfz12_4⟩ := zn5 BK208; obtain ⟨Ao13, co13, eo13⟩ := Kd.R_slice HO205.out; subst eo13))
 go_loopg [6] k (fun kq v6 w' => ∃ (x6_1 : Int) (x209002_1 : List (S132)) (x209003_1 : Int) (x209004_1 : Int) (u209002 : Value), v6 = .int .i64 x6_1 ∧ Aside0 (spec_l26Held.l0 kq l1 x6_1 t201 t202 x209002_1 x209003_1 x209004_1 = some (r1, r2, r3, r4, r5)) ∧ Aside0 (kq ≤ k) ∧ Aside0 (Kd.R k132 132 w' w.heap.size (fun _ => True) u209002 x209002_1) ∧ Aside0 (w'.heap[gb199]? = some (.cells #[.int .i64 a0_0, .int .i64 a0_1, (.slice A0_2 l0_2.length c0_2), .int .i64 a0_3, .int .i64 a0_4] 68 (0, 0))) ∧ Aside0 (w'.heap[gb200]? = some (.cells #[.int .i64 0, .int .i64 0, (.slice none 0 0), .int .i64 0, .int .i64 0] 68 (0, 0))) ∧ Aside0 (w'.heap[gb208]? = some (.cells #[.int .i64 t201, .int .i64 t202, u209002, .int .i64 x209003_1, .int .i64 x209004_1] 68 (0, 0))) ∧ Aside0 (Below w.heap.size w w'))
 case atStart => exact ⟨(0), (t203), (t206), (t207), (.slice Ao13 t203.length co13), zi, H', ⟨Nat.le_refl _⟩, ⟨zRf HO205 BK208 (fun _ hk => trivial)⟩, ⟨zpf BK199 NB199_208⟩, ⟨zpf BK200 NB200_208⟩, ⟨zpb BK208⟩, ⟨zs3 HB GE199 GE200 GE208⟩⟩
 case round =>
  clear H'
  try clear c1
  try clear p2
  try clear c6
  try clear c10
  try clear c11
  try clear c12
  try clear hcz12_0 hcz12_1 hcz12_2 hcz12_3 hcz12_4
  try clear hcz7_0 hcz7_1 hcz7_2 hcz7_3 hcz7_4
  try clear hfz12_0 hfz12_1 hfz12_2 hfz12_3 hfz12_4
  try clear hfz7_0 hfz7_1 hfz7_2 hfz7_3 hfz7_4
  obtain ⟨x6_1, x209002_1, x209003_1, x209004_1, u209002, rfl, HA, HK1, HO_209002, BK199, BK200, BK208, HB⟩ := hrel
  cases gk with
  | zero => exact absurd HA.out (by simp [spec_l26Held.l0])
  | succ k1 =>
   have H := HA.out
   clear HA
   simp only [spec_l26Held.l0] at H
   by_cases c14 : x6_1 < (l1.length : Int)
   rotate_left
   ·rw [if_neg c14] at H
    have c14b0 : decide (x6_1 < (l1.length : Int)) = false := decide_eq_false c14
    clear c14
    simp only [Option.some.injEq, Prod.mk.injEq] at H
    obtain ⟨rfl, rfl, rfl, rfl, rfl⟩ := H
    have hnb42 := NB208_199.out
    have hnc42 := NB199_208.out
    have hnb43 := NB208_200.out
    have hnc43 := NB200_208.out
    obtain ⟨hcz44_0, hcz44_1, hcz44_2, hcz44_3, hcz44_4⟩ := zd5 BK208
    obtain ⟨hfz44_0, hfz44_1, hfz44_2, hfz44_3, hfz44_4⟩ := zn5 BK208
    have hnb45 := NB200_199.out
    have hnc45 := NB199_200.out
    obtain ⟨hcz46_0, hcz46_1, hcz46_2, hcz46_3, hcz46_4⟩ := zd5 BK200
    obtain ⟨hfz46_0, hfz46_1, hfz46_2, hfz46_3, hfz46_4⟩ := zn5 BK200
    obtain ⟨Ao47, co47, eo47⟩ := Kd.R_slice HO_209002.out
    subst eo47
    go_wp2
    refine bodyPost_ret (results_cell_row rfl _ _ gb200 68 #[.int .i64 t201, .int .i64 t202, .slice Ao47 x209002_1.length co47, .int .i64 x209003_1, .int .i64 x209004_1] (0, 0) _ rfl ?hz Try.underlying68 rfl (by kernel_rfl)) rfl ?_; (case hz => exact zpb BK200)
    exact ⟨_, ze, by (with_reducible repeat (first | apply Kd.R_alloc | apply Kd.R_drewN | apply Kd.R_drew)); exact Kd.R_mono (Kd.R_far (p := ⟨gb200, 4, none⟩) (Kd.R_far (p := ⟨gb200, 3, none⟩) (Kd.R_far (p := ⟨gb200, 2, none⟩) (Kd.R_far (p := ⟨gb200, 1, none⟩) (Kd.R_far (p := ⟨gb200, 0, none⟩) (Kd.R_types HO_209002.out BK200.out (by decide)) (fun _ hk => hk.2) (.int .i64 t201)) (fun _ hk => hk.2) (.int .i64 t202)) (fun _ hk => hk.2) (.slice Ao47 x209002_1.length co47)) (fun _ hk => hk.2) (.int .i64 x209003_1)) (fun _ hk => hk.2) (.int .i64 x209004_1)) (fun _ hk => trivial), zs3 HB GE199 GE200 GE208⟩
   rw [if_pos c14] at H
   have c14b0 : decide (x6_1 < (l1.length : Int)) = true := decide_eq_true c14
   clear c14
   by_cases c15 : x6_1 < (x209002_1.length : Int)
   rotate_left
   ·rw [if_neg c15] at H
    have c15b0 : decide (x6_1 < (x209002_1.length : Int)) = false := decide_eq_false c15
    clear c15
    by_cases c30 : 0 ≤ x6_1
    rotate_left
    ·rw [if_neg c30] at H
     exact absurd H (by simp)
    rw [if_pos c30] at H
    have c30b0 : decide (0 ≤ x6_1) = true := decide_eq_true c30
    clear c30
    replace H := zbd H; obtain ⟨t218, A31, H⟩ := H
    replace H := Option.bind_eq_some_iff.mp H
    obtain ⟨t220, A320, H⟩ := H
    replace H : (spec_l26Held.l0 k1 l1 (wrap64 (x6_1 + 1)) t201 t202 x209002_1 t218 t220) = some (r1, r2, r3, r4, r5) := H
    have A32 := zA A320
    clear A320
    have H' := zA H
    clear H
    have hnb33 := NB208_199.out
    have hnc33 := NB199_208.out
    have hnb34 := NB208_200.out
    have hnc34 := NB200_208.out
    obtain ⟨hcz35_0, hcz35_1, hcz35_2, hcz35_3, hcz35_4⟩ := zd5 BK208
    obtain ⟨hfz35_0, hfz35_1, hfz35_2, hfz35_3, hfz35_4⟩ := zn5 BK208
    obtain ⟨Ao36, co36, eo36⟩ := Kd.R_slice HO_209002.out
    subst eo36
    try go_wp2
    replace HO_209002 := zA (Kd.R_drew HO_209002.out)
    replace BK199 := zA (blk_drew BK199.out)
    replace BK200 := zA (blk_drew BK200.out)
    replace BK208 := zA (blk_drew BK208.out)
    replace HB := zA (below_drew1 HB.out)
    have p217 : 0 ≤ (x6_1 : Int) := za
    have q217 : x6_1 < (l1.length : Int) := za
    obtain ⟨ad217, e217, hx217_0⟩ := Kd.at_int HR1.out x6_1 p217 q217
    have hw217_0 := hx217_0
    cases e217
    replace hx217_0 := zx HB hx217_0
    replace p217 := eq_true p217
    replace q217 := eq_true q217
    refine start_ (n := 9) (S := fun w' => w'.cell? ⟨gb208, 0, none⟩ = some (.int .i64 t201) ∧ w'.cell? ⟨gb208, 1, none⟩ = some (.int .i64 t202) ∧ w'.cell? ⟨gb208, 2, none⟩ = some (.slice Ao36 x209002_1.length co36) ∧ w'.cell? ⟨gb208, 3, none⟩ = some (.int .i64 x209003_1) ∧ w'.cell? ⟨gb208, 4, none⟩ = some (.int .i64 x209004_1) ∧ w'.cell? (ad217.add (x6_1).toNat) = some (.int .i64 (rd l1 x6_1))) (ds := [8]) #[F,F,F,F,F,F,F,F,F] (by kernel_rfl) rfl rfl ⟨zc0 BK208, zc1 BK208, zc2 BK208, zc3 BK208, zc4 BK208, (zw HB hw217_0)⟩ (fun hHeld => ?_); refine with_tabW spec_l26Held.tab8 spec_l26Held.bits8 (fun HT_ HW_ => ?_)
    generalize wr.drew = w37 at HO_209002 BK199 BK200 BK208 HB hx217_0 hHeld ⊢
    refine zq HT_ 0 ?_
    refine zq HT_ 2 ?_
    refine zq HT_ 3 ?_
    refine zq HT_ 4 ?_
    refine zk6 HT_ HW_ hHeld 1 ?_
    refine zk6 HT_ HW_ hHeld 5 ?_
    refine zo HT_ 6 (fun K hK => ?_)
    refine zgo Try.func130 #[.int .i64 x209003_1, .int .i64 (rd l1 x6_1)] ?_
    with_reducible refine (spec_l21Max.calls x209003_1 (rd l1 x6_1) t218 _ A31.out).mono ?_
    rintro e w' ⟨rfl, ⟨nd, rfl⟩⟩
    refine ⟨_, rfl, ?_⟩
    refine hK.out _ _ ⟨zc0 BK208, zc1 BK208, zc2 BK208, zc3 BK208, zc4 BK208, (zw HB hw217_0)⟩ (fun hHeld => ?_)
    clear hK K
    refine zN ?_
    refine zq HT_ 7 ?_
    refine zO HT_ 8 (fun K hK => ?_)
    have hs38 : w37.cell? ⟨gb208, 3, none⟩ = some (.int .i64 x209003_1) := zc3 BK208
    have hfs38 := zf BK208 3
    have hns38_0 := NB199_208.out
    have hns38_1 := NB200_208.out
    have hms38_0 := NB208_199.out
    have hms38_1 := NB208_200.out
    refine skip_ (w1 := ?_) (by rfl) rfl ?_ ?_
    rotate_left
    ·go_simp
     rfl
    refine hK.out _ _ ?_
    clear hK K
    refine done_ (done_of HT_.out (by kernel_rfl)) ?_
    try go_wp2
    have n0_ : Aside0 (Kd.R k132 132 (w37.setCell ⟨gb208, 3, none⟩ (.int .i64 t218)) w.heap.size (fun _ => True) (.slice Ao36 x209002_1.length co36) x209002_1) := ⟨zRf HO_209002 BK208 (fun _ hk => trivial)⟩
    have n1_ : Aside0 ((w37.setCell ⟨gb208, 3, none⟩ (.int .i64 t218)).heap[gb199]? = some (.cells #[.int .i64 a0_0, .int .i64 a0_1, .slice A0_2 l0_2.length c0_2, .int .i64 a0_3, .int .i64 a0_4] 68 (0, 0))) := ⟨zpf BK199 NB199_208⟩
    have n2_ : Aside0 ((w37.setCell ⟨gb208, 3, none⟩ (.int .i64 t218)).heap[gb200]? = some (.cells #[.int .i64 0, .int .i64 0, .slice none 0 0, .int .i64 0, .int .i64 0] 68 (0, 0))) := ⟨zpf BK200 NB200_208⟩
    have n3_ : Aside0 ((w37.setCell ⟨gb208, 3, none⟩ (.int .i64 t218)).heap[gb208]? = some (.cells #[.int .i64 t201, .int .i64 t202, .slice Ao36 x209002_1.length co36, .int .i64 t218, .int .i64 x209004_1] 68 (0, 0))) := ⟨zpb BK208⟩
    have n4_ : Aside0 (Below w.heap.size w (w37.setCell ⟨gb208, 3, none⟩ (.int .i64 t218))) := ⟨zs3 HB GE199 GE200 GE208⟩
    (try clear HO_209002)
    (try clear BK199)
    (try clear BK200)
    (try clear BK208)
    (try clear HB)
    generalize (w37.setCell ⟨gb208, 3, none⟩ (.int .i64 t218)) = w39 at n0_ n1_ n2_ n3_ n4_ ⊢
    have HO_209002 := n0_
    have BK199 := n1_
    have BK200 := n2_
    have BK208 := n3_
    have HB := n4_
    clear n0_ n1_ n2_ n3_ n4_
    (try (rw [drewN_self w39]; generalize hq_ : World.drewN w39 _ = w39; replace HO_209002 : Aside0 (Kd.R k132 132 w39 w.heap.size (fun _ => True) (.slice Ao36 x209002_1.length co36) x209002_1) := ⟨by rw [← hq_]; exact (zr HO_209002)⟩; replace BK199 : Aside0 (w39.heap[gb199]? = some (.cells #[.int .i64 a0_0, .int .i64 a0_1, .slice A0_2 l0_2.length c0_2, .int .i64 a0_3, .int .i64 a0_4] 68 (0, 0))) := ⟨by rw [← hq_]; exact (zh BK199)⟩; replace BK200 : Aside0 (w39.heap[gb200]? = some (.cells #[.int .i64 0, .int .i64 0, .slice none 0 0, .int .i64 0, .int .i64 0] 68 (0, 0))) := ⟨by rw [← hq_]; exact (zh BK200)⟩; replace BK208 : Aside0 (w39.heap[gb208]? = some (.cells #[.int .i64 t201, .int .i64 t202, .slice Ao36 x209002_1.length co36, .int .i64 t218, .int .i64 x209004_1] 68 (0, 0))) := ⟨by rw [← hq_]; exact (zh BK208)⟩; replace HB : Aside0 (Below w.heap.size w w39) := ⟨by rw [← hq_]; exact (zs3 HB GE199 GE200 GE208)⟩; clear hq_))
    replace HO_209002 := zA (Kd.R_drew HO_209002.out)
    replace BK199 := zA (blk_drew BK199.out)
    replace BK200 := zA (blk_drew BK200.out)
    replace BK208 := zA (blk_drew BK208.out)
    replace HB := zA (below_drew1 HB.out)
    have p219 : 0 ≤ (x6_1 : Int) := za
    have q219 : x6_1 < (l1.length : Int) := za
    obtain ⟨ad219, e219, hx219_0⟩ := Kd.at_int HR1.out x6_1 p219 q219
    have hw219_0 := hx219_0
    obtain rfl : ad217 = ad219 := (by injection e219)
    replace hx219_0 := zx HB hx219_0
    replace p219 := eq_true p219
    replace q219 := eq_true q219
    refine start_ (n := 9) (S := fun w' => w'.cell? ⟨gb208, 0, none⟩ = some (.int .i64 t201) ∧ w'.cell? ⟨gb208, 1, none⟩ = some (.int .i64 t202) ∧ w'.cell? ⟨gb208, 2, none⟩ = some (.slice Ao36 x209002_1.length co36) ∧ w'.cell? ⟨gb208, 3, none⟩ = some (.int .i64 t218) ∧ w'.cell? ⟨gb208, 4, none⟩ = some (.int .i64 x209004_1) ∧ w'.cell? (ad217.add (x6_1).toNat) = some (.int .i64 (rd l1 x6_1))) (ds := [8]) #[F,F,F,F,F,F,F,F,F] (by kernel_rfl) rfl rfl ⟨zc0 BK208, zc1 BK208, zc2 BK208, zc3 BK208, zc4 BK208, (zw HB hw219_0)⟩ (fun hHeld => ?_); refine with_tabW spec_l26Held.tab9 spec_l26Held.bits9 (fun HT_ HW_ => ?_)
    generalize w39.drew = w40 at HO_209002 BK199 BK200 BK208 HB hx219_0 hHeld ⊢
    refine zq HT_ 0 ?_
    refine zq HT_ 2 ?_
    refine zq HT_ 3 ?_
    refine zq HT_ 4 ?_
    refine zk6 HT_ HW_ hHeld 1 ?_
    refine zk6 HT_ HW_ hHeld 5 ?_
    refine zo HT_ 6 (fun K hK => ?_)
    refine zgo Try.func98 #[.int .i64 x209004_1, .int .i64 (rd l1 x6_1)] ?_
    with_reducible refine (spec_l21Min.calls x209004_1 (rd l1 x6_1) t220 _ A32.out).mono ?_
    rintro e w' ⟨rfl, ⟨nd, rfl⟩⟩
    refine ⟨_, rfl, ?_⟩
    refine hK.out _ _ ⟨zc0 BK208, zc1 BK208, zc2 BK208, zc3 BK208, zc4 BK208, (zw HB hw219_0)⟩ (fun hHeld => ?_)
    clear hK K
    refine zN ?_
    refine zq HT_ 7 ?_
    refine zO HT_ 8 (fun K hK => ?_)
    have hs41 : w40.cell? ⟨gb208, 4, none⟩ = some (.int .i64 x209004_1) := zc4 BK208
    have hfs41 := zf BK208 4
    have hns41_0 := NB199_208.out
    have hns41_1 := NB200_208.out
    have hms41_0 := NB208_199.out
    have hms41_1 := NB208_200.out
    refine skip_ (w1 := ?_) (by rfl) rfl ?_ ?_
    rotate_left
    ·go_simp
     rfl
    refine hK.out _ _ ?_
    clear hK K
    refine done_ (done_of HT_.out (by kernel_rfl)) ?_
    try go_wp2
    go_roundg k1
    case measure => have := HK1.out; omega
    case rel => exact ⟨(wrap64 (x6_1 + 1)), (x209002_1), (t218), (t220), (.slice Ao36 x209002_1.length co36), zi, H', ⟨by have := HK1.out; omega⟩, ⟨zRf HO_209002 BK208 (fun _ hk => trivial)⟩, ⟨zpf BK199 NB199_208⟩, ⟨zpf BK200 NB200_208⟩, ⟨zpb BK208⟩, ⟨zs3 HB GE199 GE200 GE208⟩⟩
   rw [if_pos c15] at H
   have c15b0 : decide (x6_1 < (x209002_1.length : Int)) = true := decide_eq_true c15
   clear c15
   by_cases c16 : 0 ≤ x6_1
   rotate_left
   ·rw [if_neg c16] at H
    exact absurd H (by simp)
   rw [if_pos c16] at H
   have c16b0 : decide (0 ≤ x6_1) = true := decide_eq_true c16
   clear c16
   replace H := zbd H; obtain ⟨t211, A17, H⟩ := H
   obtain ⟨y212, hy212⟩ : ∃ y_ : List (S132), y_ = (x209002_1.set (x6_1 : Int).toNat (⟨(rd_T132 x209002_1 x6_1).f0, (rd_T132 x209002_1 x6_1).f1, (rd_T132 x209002_1 x6_1).f2, (rd_T132 x209002_1 x6_1).f3, t211, (rd_T132 x209002_1 x6_1).f5, (rd_T132 x209002_1 x6_1).f6⟩ : S132)) := ⟨_, rfl⟩
   replace H : ((spec_l21Min.f ((rd_T132 y212 x6_1).f5) (rd l1 x6_1)).bind fun t215 => (spec_l26Held.l0 k1 l1 (wrap64 (x6_1 + 1)) t201 t202 (y212.set (x6_1 : Int).toNat (⟨(rd_T132 y212 x6_1).f0, (rd_T132 y212 x6_1).f1, (rd_T132 y212 x6_1).f2, (rd_T132 y212 x6_1).f3, (rd_T132 y212 x6_1).f4, t215, (rd_T132 y212 x6_1).f6⟩ : S132)) x209003_1 x209004_1)) = some (r1, r2, r3, r4, r5) := by first | (rw [hy212]; with_reducible exact H) | (have H2_ := (Option.bind_some _ _).symm.trans H; rw [hy212]; with_reducible exact H2_) | (have H2_ := (Option.bind_some _ _).symm.trans H; with_reducible exact H2_) | with_reducible exact H | (rw [hy212]; exact H) | exact H
   have Ny212 := zA hy212
   clear hy212
   replace H := zbd H; obtain ⟨t215, A19, H⟩ := H
   obtain ⟨y216, hy216⟩ : ∃ y_ : List (S132), y_ = (y212.set (x6_1 : Int).toNat (⟨(rd_T132 y212 x6_1).f0, (rd_T132 y212 x6_1).f1, (rd_T132 y212 x6_1).f2, (rd_T132 y212 x6_1).f3, (rd_T132 y212 x6_1).f4, t215, (rd_T132 y212 x6_1).f6⟩ : S132)) := ⟨_, rfl⟩
   replace H : (spec_l26Held.l0 k1 l1 (wrap64 (x6_1 + 1)) t201 t202 y216 x209003_1 x209004_1) = some (r1, r2, r3, r4, r5) := by first | (rw [hy216]; with_reducible exact H) | (have H2_ := (Option.bind_some _ _).symm.trans H; rw [hy216]; with_reducible exact H2_) | (have H2_ := (Option.bind_some _ _).symm.trans H; with_reducible exact H2_) | with_reducible exact H | (rw [hy216]; exact H) | exact H
   have Ny216 := zA hy216
   clear hy216
   have H' := zA H
   clear H
   have hnb21 := NB208_199.out
   have hnc21 := NB199_208.out
   have hnb22 := NB208_200.out
   have hnc22 := NB200_208.out
   obtain ⟨hcz23_0, hcz23_1, hcz23_2, hcz23_3, hcz23_4⟩ := zd5 BK208
   obtain ⟨hfz23_0, hfz23_1, hfz23_2, hfz23_3, hfz23_4⟩ := zn5 BK208
   obtain ⟨Ao24, co24, eo24⟩ := Kd.R_slice HO_209002.out
   subst eo24
   try go_wp2
   replace HO_209002 := zA (Kd.R_drew HO_209002.out)
   replace BK199 := zA (blk_drew BK199.out)
   replace BK200 := zA (blk_drew BK200.out)
   replace BK208 := zA (blk_drew BK208.out)
   replace HB := zA (below_drew1 HB.out)
   have p209 : 0 ≤ (x6_1 : Int) := za
   have q209 : x6_1 < (x209002_1.length : Int) := za
   obtain ⟨ad209, e209, hx209_0, hx209_1, hx209_2, hx209_3, hx209_4, hx209_5, hx209_6⟩ := at_T132 (Kd.R_reads' HO_209002.out).2.2 x6_1 p209 q209
   cases e209
   replace p209 := eq_true p209
   replace q209 := eq_true q209
   have p210 : 0 ≤ (x6_1 : Int) := za
   have q210 : x6_1 < (l1.length : Int) := za
   obtain ⟨ad210, e210, hx210_0⟩ := Kd.at_int HR1.out x6_1 p210 q210
   have hw210_0 := hx210_0
   cases e210
   replace hx210_0 := zx HB hx210_0
   replace p210 := eq_true p210
   replace q210 := eq_true q210
   refine start_ (n := 17) (S := fun w' => w'.cell? ⟨gb208, 0, none⟩ = some (.int .i64 t201) ∧ w'.cell? ⟨gb208, 1, none⟩ = some (.int .i64 t202) ∧ w'.cell? ⟨gb208, 2, none⟩ = some (.slice (some ad209) x209002_1.length co24) ∧ w'.cell? ⟨gb208, 3, none⟩ = some (.int .i64 x209003_1) ∧ w'.cell? ⟨gb208, 4, none⟩ = some (.int .i64 x209004_1) ∧ w'.cell? (ad209.add ((x6_1).toNat * 7)) = some (.int .i64 ((rd_T132 x209002_1 x6_1).f0)) ∧ w'.cell? ⟨(ad209.add ((x6_1).toNat * 7)).block, (ad209.add ((x6_1).toNat * 7)).off + 1, none⟩ = some (.int .i64 ((rd_T132 x209002_1 x6_1).f1)) ∧ w'.cell? ⟨(ad209.add ((x6_1).toNat * 7)).block, (ad209.add ((x6_1).toNat * 7)).off + 2, none⟩ = some (.int .i64 ((rd_T132 x209002_1 x6_1).f2)) ∧ w'.cell? ⟨(ad209.add ((x6_1).toNat * 7)).block, (ad209.add ((x6_1).toNat * 7)).off + 3, none⟩ = some (.int .i64 ((rd_T132 x209002_1 x6_1).f3)) ∧ w'.cell? ⟨(ad209.add ((x6_1).toNat * 7)).block, (ad209.add ((x6_1).toNat * 7)).off + 4, none⟩ = some (.int .i64 ((rd_T132 x209002_1 x6_1).f4)) ∧ w'.cell? ⟨(ad209.add ((x6_1).toNat * 7)).block, (ad209.add ((x6_1).toNat * 7)).off + 5, none⟩ = some (.int .i64 ((rd_T132 x209002_1 x6_1).f5)) ∧ w'.cell? ⟨(ad209.add ((x6_1).toNat * 7)).block, (ad209.add ((x6_1).toNat * 7)).off + 6, none⟩ = some (.bool ((rd_T132 x209002_1 x6_1).f6)) ∧ w'.cell? (ad210.add (x6_1).toNat) = some (.int .i64 (rd l1 x6_1))) (ds := [16]) #[F,F,F,F,F,F,F,F,F,F,F,F,F,F,F,F,F] (by kernel_rfl) rfl rfl ⟨zc0 BK208, zc1 BK208, zc2 BK208, zc3 BK208, zc4 BK208, hx209_0, hx209_1, hx209_2, hx209_3, hx209_4, hx209_5, hx209_6, (zw HB hw210_0)⟩ (fun hHeld => ?_); refine with_tabW spec_l26Held.tab6 spec_l26Held.bits6 (fun HT_ HW_ => ?_)
   generalize wr.drew = w25 at HO_209002 BK199 BK200 BK208 HB hx209_0 hx209_1 hx209_2 hx209_3 hx209_4 hx209_5 hx209_6 hx210_0 hHeld ⊢
   refine zq HT_ 0 ?_
   refine zq HT_ 2 ?_
   refine zq HT_ 3 ?_
   refine zq HT_ 5 ?_
   refine zq HT_ 9 ?_
   refine zq HT_ 10 ?_
   refine zq HT_ 11 ?_
   refine zk13 HT_ HW_ hHeld 1 ?_
   refine zk13 HT_ HW_ hHeld 4 ?_
   refine zq HT_ 6 ?_
   refine zq HT_ 7 ?_
   refine zk13 HT_ HW_ hHeld 8 ?_
   refine zk13 HT_ HW_ hHeld 12 ?_
   refine zo HT_ 13 (fun K hK => ?_)
   refine zgo Try.func130 #[.int .i64 ((rd_T132 x209002_1 x6_1).f4), .int .i64 (rd l1 x6_1)] ?_
   with_reducible refine (spec_l21Max.calls ((rd_T132 x209002_1 x6_1).f4) (rd l1 x6_1) t211 _ A17.out).mono ?_
   rintro e w' ⟨rfl, ⟨nd, rfl⟩⟩
   refine ⟨_, rfl, ?_⟩
   have p18 : 0 ≤ (x6_1 : Int) := za
   have q18 : (x6_1 : Int) < ((x209002_1.length : Int) : Int) := za
   obtain ⟨go18, co18, eo18, gb18, gl18, cl18, HG18⟩ := Kd.R_form HO_209002.out (by omega)
   (first | cases eo18 | (injection eo18 with ea_ en_ ec_; (first | subst ea_ | (injection ea_ with ea_; subst ea_)); subst ec_; clear en_))
   have GB18 := zA gb18
   have GG18 := zA HG18
   clear gb18 gl18 HG18
   (first | simp only [add_plain] at hx209_0 | skip)
   (first | simp only [add_plain] at hx209_1 | skip)
   (first | simp only [add_plain] at hx209_2 | skip)
   (first | simp only [add_plain] at hx209_3 | skip)
   (first | simp only [add_plain] at hx209_4 | skip)
   (first | simp only [add_plain] at hx209_5 | skip)
   (first | simp only [add_plain] at hx209_6 | skip)
   obtain ⟨ce18, hcl18, hM18, hcc18, hfr18⟩ := Kd.R_elem HO_209002.out z132 (x6_1 : Int) p18 q18
   obtain rfl := k132_openM hM18
   have hx18_0 : World.cell? _ ⟨go18, (x6_1 : Int).toNat * 7, none⟩ = some (.int .i64 ((rd_T132 x209002_1 x6_1).f0)) := hcc18 0 _ rfl
   have hx18_1 : World.cell? _ ⟨go18, (x6_1 : Int).toNat * 7 + 1, none⟩ = some (.int .i64 ((rd_T132 x209002_1 x6_1).f1)) := hcc18 1 _ rfl
   have hx18_2 : World.cell? _ ⟨go18, (x6_1 : Int).toNat * 7 + 2, none⟩ = some (.int .i64 ((rd_T132 x209002_1 x6_1).f2)) := hcc18 2 _ rfl
   have hx18_3 : World.cell? _ ⟨go18, (x6_1 : Int).toNat * 7 + 3, none⟩ = some (.int .i64 ((rd_T132 x209002_1 x6_1).f3)) := hcc18 3 _ rfl
   have hx18_4 : World.cell? _ ⟨go18, (x6_1 : Int).toNat * 7 + 4, none⟩ = some (.int .i64 ((rd_T132 x209002_1 x6_1).f4)) := hcc18 4 _ rfl
   have hx18_5 : World.cell? _ ⟨go18, (x6_1 : Int).toNat * 7 + 5, none⟩ = some (.int .i64 ((rd_T132 x209002_1 x6_1).f5)) := hcc18 5 _ rfl
   have hx18_6 : World.cell? _ ⟨go18, (x6_1 : Int).toNat * 7 + 6, none⟩ = some (.bool ((rd_T132 x209002_1 x6_1).f6)) := hcc18 6 _ rfl
   have hf18_0 : World.frozen? _ ⟨go18, (x6_1 : Int).toNat * 7, none⟩ = false := hfr18 0
   have hf18_1 : World.frozen? _ ⟨go18, (x6_1 : Int).toNat * 7 + 1, none⟩ = false := hfr18 1
   have hf18_2 : World.frozen? _ ⟨go18, (x6_1 : Int).toNat * 7 + 2, none⟩ = false := hfr18 2
   have hf18_3 : World.frozen? _ ⟨go18, (x6_1 : Int).toNat * 7 + 3, none⟩ = false := hfr18 3
   have hf18_4 : World.frozen? _ ⟨go18, (x6_1 : Int).toNat * 7 + 4, none⟩ = false := hfr18 4
   have hf18_5 : World.frozen? _ ⟨go18, (x6_1 : Int).toNat * 7 + 5, none⟩ = false := hfr18 5
   have hf18_6 : World.frozen? _ ⟨go18, (x6_1 : Int).toNat * 7 + 6, none⟩ = false := hfr18 6
   clear hcl18 hcc18 hfr18 hM18
   replace p18 := eq_true p18
   replace q18 := eq_true q18
   obtain ⟨ce26, hcl26, hM26, hcc26, hfr26⟩ := Kd.R_elem HO_209002.out z132 (x6_1 : Int) (za) (by have h_ : (x6_1 : Int) < ((x209002_1.length : Int) : Int) := za; first | exact h_ | (have e_ := (Kd.R_reads' HO_209002.out).1; omega) | simpa using h_)
   obtain rfl := k132_openM hM26
   have HP26 := (Kd.R_seg HO_209002.out (x6_1 : Int) (za) (by have h_ : (x6_1 : Int) < ((x209002_1.length : Int) : Int) := za; first | exact h_ | (have e_ := (Kd.R_reads' HO_209002.out).1; omega) | simpa using h_) (seg := [.int .i64 t211]) (j := 4) hcl26 hcc26 (show 5 ≤ 7 from by decide) (x' := (⟨(rd_T132 x209002_1 x6_1).f0, (rd_T132 x209002_1 x6_1).f1, (rd_T132 x209002_1 x6_1).f2, (rd_T132 x209002_1 x6_1).f3, t211, (rd_T132 x209002_1 x6_1).f5, (rd_T132 x209002_1 x6_1).f6⟩ : S132)) (k132_mkM _ _ _ (⟨(rd_T132 x209002_1 x6_1).f0, (rd_T132 x209002_1 x6_1).f1, (rd_T132 x209002_1 x6_1).f2, (rd_T132 x209002_1 x6_1).f3, t211, (rd_T132 x209002_1 x6_1).f5, (rd_T132 x209002_1 x6_1).f6⟩ : S132) ) (fun _ hk => hk)).1
   rw [← Ny212.out] at HP26
   have HQ26 := zA HP26
   clear hcl26 hcc26 hfr26 hM26 HP26
   refine hK.out _ _ ⟨zc0 BK208, zc1 BK208, zc2 BK208, zc3 BK208, zc4 BK208, hHeld.2.2.2.2.2.1, hHeld.2.2.2.2.2.2.1, hHeld.2.2.2.2.2.2.2.1, hHeld.2.2.2.2.2.2.2.2.1, hHeld.2.2.2.2.2.2.2.2.2.1, hHeld.2.2.2.2.2.2.2.2.2.2.1, hHeld.2.2.2.2.2.2.2.2.2.2.2.1, (zw HB hw210_0)⟩ (fun hHeld => ?_)
   clear hK K
   refine zN ?_
   refine zq HT_ 14 ?_
   refine zq HT_ 15 ?_
   refine zO HT_ 16 (fun K hK => ?_)
   refine skip_ (w1 := ?_) (by rfl) rfl ?_ ?_
   rotate_left
   ·go_simp
    rfl
   refine hK.out _ _ ?_
   clear hK K
   refine done_ (done_of HT_.out (by kernel_rfl)) ?_
   try go_wp2
   obtain ⟨w27, e_⟩ : ∃ x, x = (w25.setCell ⟨go18, (x6_1 : Int).toNat * 7 + 4, none⟩ (.int .i64 t211)) := ⟨_, rfl⟩
   have n0_ : Aside0 (Kd.R k132 132 w27 w.heap.size (fun _ => True) (.slice (some ⟨go18, 0, none⟩) x209002_1.length co24) y212) := by rw [e_]; exact ⟨zr HQ26⟩
   have n1_ : Aside0 (w27.heap[gb199]? = some (.cells #[.int .i64 a0_0, .int .i64 a0_1, .slice A0_2 l0_2.length c0_2, .int .i64 a0_3, .int .i64 a0_4] 68 (0, 0))) := by rw [e_]; exact ⟨by (with_reducible repeat (first | refine blk_drewN ?_ _ | refine blk_drew ?_ | refine blk_alloc ?_ _)); refine blk_far ?_ (by have h_ := Kd.R_ne HO_209002.out BK199.out (by decide); intro e_; exact h_ (by rw [e_]; rfl)) _; (with_reducible repeat (first | refine blk_drewN ?_ _ | refine blk_drew ?_ | refine blk_alloc ?_ _)); exact BK199.out⟩
   have n2_ : Aside0 (w27.heap[gb200]? = some (.cells #[.int .i64 0, .int .i64 0, .slice none 0 0, .int .i64 0, .int .i64 0] 68 (0, 0))) := by rw [e_]; exact ⟨by (with_reducible repeat (first | refine blk_drewN ?_ _ | refine blk_drew ?_ | refine blk_alloc ?_ _)); refine blk_far ?_ (by have h_ := Kd.R_ne HO_209002.out BK200.out (by decide); intro e_; exact h_ (by rw [e_]; rfl)) _; (with_reducible repeat (first | refine blk_drewN ?_ _ | refine blk_drew ?_ | refine blk_alloc ?_ _)); exact BK200.out⟩
   have n3_ : Aside0 (w27.heap[gb208]? = some (.cells #[.int .i64 t201, .int .i64 t202, .slice (some ⟨go18, 0, none⟩) x209002_1.length co24, .int .i64 x209003_1, .int .i64 x209004_1] 68 (0, 0))) := by rw [e_]; exact ⟨by (with_reducible repeat (first | refine blk_drewN ?_ _ | refine blk_drew ?_ | refine blk_alloc ?_ _)); refine blk_far ?_ (by have h_ := Kd.R_ne HO_209002.out BK208.out (by decide); intro e_; exact h_ (by rw [e_]; rfl)) _; (with_reducible repeat (first | refine blk_drewN ?_ _ | refine blk_drew ?_ | refine blk_alloc ?_ _)); exact BK208.out⟩
   have n4_ : Aside0 (Below w.heap.size w w27) := by rw [e_]; exact ⟨by repeat (first | (with_reducible first | exact HB.out | apply below_alloc | apply pw_below_drewN | apply below_drew1 | refine below_set ?_ GB18.out | refine below_set ?_ GE199.out | refine below_set ?_ GE200.out | refine below_set ?_ GE208.out) | exact HB.out)⟩
   (try clear HO_209002)
   (try clear BK199)
   (try clear BK200)
   (try clear BK208)
   (try clear HB)
   rw [← e_]; clear e_
   have HO_209002 := n0_
   have BK199 := n1_
   have BK200 := n2_
   have BK208 := n3_
   have HB := n4_
   clear n0_ n1_ n2_ n3_ n4_
   (try (rw [drewN_self w27]; generalize hq_ : World.drewN w27 _ = w27; replace HO_209002 : Aside0 (Kd.R k132 132 w27 w.heap.size (fun _ => True) (.slice (some ⟨go18, 0, none⟩) x209002_1.length co24) y212) := ⟨by rw [← hq_]; exact (zr HO_209002)⟩; replace BK199 : Aside0 (w27.heap[gb199]? = some (.cells #[.int .i64 a0_0, .int .i64 a0_1, .slice A0_2 l0_2.length c0_2, .int .i64 a0_3, .int .i64 a0_4] 68 (0, 0))) := ⟨by rw [← hq_]; exact (zh BK199)⟩; replace BK200 : Aside0 (w27.heap[gb200]? = some (.cells #[.int .i64 0, .int .i64 0, .slice none 0 0, .int .i64 0, .int .i64 0] 68 (0, 0))) := ⟨by rw [← hq_]; exact (zh BK200)⟩; replace BK208 : Aside0 (w27.heap[gb208]? = some (.cells #[.int .i64 t201, .int .i64 t202, .slice (some ⟨go18, 0, none⟩) x209002_1.length co24, .int .i64 x209003_1, .int .i64 x209004_1] 68 (0, 0))) := ⟨by rw [← hq_]; exact (zh BK208)⟩; replace HB : Aside0 (Below w.heap.size w w27) := ⟨by rw [← hq_]; exact (zs3 HB GE199 GE200 GE208)⟩; clear hq_))
   replace HO_209002 := zA (Kd.R_drew HO_209002.out)
   replace BK199 := zA (blk_drew BK199.out)
   replace BK200 := zA (blk_drew BK200.out)
   replace BK208 := zA (blk_drew BK208.out)
   replace HB := zA (below_drew1 HB.out)
   have p213 : 0 ≤ (x6_1 : Int) := za
   have q213 : x6_1 < (y212.length : Int) := (by have h_ : (x6_1 : Int) < ((x209002_1.length : Int) : Int) := za; first | (have e_ := (Kd.R_reads' HO_209002.out).1; omega) | simpa only [Ny212.out, List.length_set] using h_)
   have ql213 : ((x6_1 : Int) < ((x209002_1.length : Int) : Int)) = True := eq_true (za)
   obtain ⟨ad213, e213, hx213_0, hx213_1, hx213_2, hx213_3, hx213_4, hx213_5, hx213_6⟩ := at_T132 (Kd.R_reads' HO_209002.out).2.2 x6_1 p213 q213
   obtain rfl : (⟨go18, 0, none⟩ : Addr) = ad213 := (by injection e213)
   (first | simp only [add_plain] at hx213_0 | simp only [add_at] at hx213_0 | simp only [Addr.add, Nat.zero_add] at hx213_0 | skip)
   (first | simp only [add_plain] at hx213_1 | simp only [add_at] at hx213_1 | simp only [Addr.add, Nat.zero_add] at hx213_1 | skip)
   (first | simp only [add_plain] at hx213_2 | simp only [add_at] at hx213_2 | simp only [Addr.add, Nat.zero_add] at hx213_2 | skip)
   (first | simp only [add_plain] at hx213_3 | simp only [add_at] at hx213_3 | simp only [Addr.add, Nat.zero_add] at hx213_3 | skip)
   (first | simp only [add_plain] at hx213_4 | simp only [add_at] at hx213_4 | simp only [Addr.add, Nat.zero_add] at hx213_4 | skip)
   (first | simp only [add_plain] at hx213_5 | simp only [add_at] at hx213_5 | simp only [Addr.add, Nat.zero_add] at hx213_5 | skip)
   (first | simp only [add_plain] at hx213_6 | simp only [add_at] at hx213_6 | simp only [Addr.add, Nat.zero_add] at hx213_6 | skip)
   replace p213 := eq_true p213
   replace q213 := eq_true q213
   have p214 : 0 ≤ (x6_1 : Int) := za
   have q214 : x6_1 < (l1.length : Int) := za
   obtain ⟨ad214, e214, hx214_0⟩ := Kd.at_int HR1.out x6_1 p214 q214
   have hw214_0 := hx214_0
   obtain rfl : ad210 = ad214 := (by injection e214)
   replace hx214_0 := zx HB hx214_0
   replace p214 := eq_true p214
   replace q214 := eq_true q214
   refine start_ (n := 17) (S := fun w' => w'.cell? ⟨gb208, 0, none⟩ = some (.int .i64 t201) ∧ w'.cell? ⟨gb208, 1, none⟩ = some (.int .i64 t202) ∧ w'.cell? ⟨gb208, 2, none⟩ = some (.slice (some ⟨go18, 0, none⟩) x209002_1.length co24) ∧ w'.cell? ⟨gb208, 3, none⟩ = some (.int .i64 x209003_1) ∧ w'.cell? ⟨gb208, 4, none⟩ = some (.int .i64 x209004_1) ∧ w'.cell? ⟨go18, (x6_1).toNat * 7, none⟩ = some (.int .i64 ((rd_T132 y212 x6_1).f0)) ∧ w'.cell? ⟨go18, (x6_1).toNat * 7 + 1, none⟩ = some (.int .i64 ((rd_T132 y212 x6_1).f1)) ∧ w'.cell? ⟨go18, (x6_1).toNat * 7 + 2, none⟩ = some (.int .i64 ((rd_T132 y212 x6_1).f2)) ∧ w'.cell? ⟨go18, (x6_1).toNat * 7 + 3, none⟩ = some (.int .i64 ((rd_T132 y212 x6_1).f3)) ∧ w'.cell? ⟨go18, (x6_1).toNat * 7 + 4, none⟩ = some (.int .i64 ((rd_T132 y212 x6_1).f4)) ∧ w'.cell? ⟨go18, (x6_1).toNat * 7 + 5, none⟩ = some (.int .i64 ((rd_T132 y212 x6_1).f5)) ∧ w'.cell? ⟨go18, (x6_1).toNat * 7 + 6, none⟩ = some (.bool ((rd_T132 y212 x6_1).f6)) ∧ w'.cell? (ad210.add (x6_1).toNat) = some (.int .i64 (rd l1 x6_1))) (ds := [16]) #[F,F,F,F,F,F,F,F,F,F,F,F,F,F,F,F,F] (by kernel_rfl) rfl rfl ⟨zc0 BK208, zc1 BK208, zc2 BK208, zc3 BK208, zc4 BK208, hx213_0, hx213_1, hx213_2, hx213_3, hx213_4, hx213_5, hx213_6, (zw HB hw214_0)⟩ (fun hHeld => ?_); refine with_tabW spec_l26Held.tab7 spec_l26Held.bits7 (fun HT_ HW_ => ?_)
   generalize w27.drew = w28 at HO_209002 BK199 BK200 BK208 HB HQ26 hx213_0 hx213_1 hx213_2 hx213_3 hx213_4 hx213_5 hx213_6 hx214_0 hHeld ⊢
   refine zq HT_ 0 ?_
   refine zq HT_ 2 ?_
   refine zq HT_ 3 ?_
   refine zq HT_ 5 ?_
   refine zq HT_ 9 ?_
   refine zq HT_ 10 ?_
   refine zq HT_ 11 ?_
   refine zk13 HT_ HW_ hHeld 1 ?_
   refine zk13 HT_ HW_ hHeld 4 ?_
   refine zq HT_ 6 ?_
   refine zq HT_ 7 ?_
   refine zk13 HT_ HW_ hHeld 8 ?_
   refine zk13 HT_ HW_ hHeld 12 ?_
   refine zo HT_ 13 (fun K hK => ?_)
   refine zgo Try.func98 #[.int .i64 ((rd_T132 y212 x6_1).f5), .int .i64 (rd l1 x6_1)] ?_
   with_reducible refine (spec_l21Min.calls ((rd_T132 y212 x6_1).f5) (rd l1 x6_1) t215 _ A19.out).mono ?_
   rintro e w' ⟨rfl, ⟨nd, rfl⟩⟩
   refine ⟨_, rfl, ?_⟩
   have p20 : 0 ≤ (x6_1 : Int) := za
   have q20 : (x6_1 : Int) < ((x209002_1.length : Int) : Int) := za
   obtain ⟨ce20, hcl20, hM20, hcc20, hfr20⟩ := Kd.R_elem HO_209002.out z132 (x6_1 : Int) p20 q20
   obtain rfl := k132_openM hM20
   have hx20_0 : World.cell? _ ⟨go18, (x6_1 : Int).toNat * 7, none⟩ = some (.int .i64 ((rd_T132 y212 x6_1).f0)) := hcc20 0 _ rfl
   have hx20_1 : World.cell? _ ⟨go18, (x6_1 : Int).toNat * 7 + 1, none⟩ = some (.int .i64 ((rd_T132 y212 x6_1).f1)) := hcc20 1 _ rfl
   have hx20_2 : World.cell? _ ⟨go18, (x6_1 : Int).toNat * 7 + 2, none⟩ = some (.int .i64 ((rd_T132 y212 x6_1).f2)) := hcc20 2 _ rfl
   have hx20_3 : World.cell? _ ⟨go18, (x6_1 : Int).toNat * 7 + 3, none⟩ = some (.int .i64 ((rd_T132 y212 x6_1).f3)) := hcc20 3 _ rfl
   have hx20_4 : World.cell? _ ⟨go18, (x6_1 : Int).toNat * 7 + 4, none⟩ = some (.int .i64 ((rd_T132 y212 x6_1).f4)) := hcc20 4 _ rfl
   have hx20_5 : World.cell? _ ⟨go18, (x6_1 : Int).toNat * 7 + 5, none⟩ = some (.int .i64 ((rd_T132 y212 x6_1).f5)) := hcc20 5 _ rfl
   have hx20_6 : World.cell? _ ⟨go18, (x6_1 : Int).toNat * 7 + 6, none⟩ = some (.bool ((rd_T132 y212 x6_1).f6)) := hcc20 6 _ rfl
   have hf20_0 : World.frozen? _ ⟨go18, (x6_1 : Int).toNat * 7, none⟩ = false := hfr20 0
   have hf20_1 : World.frozen? _ ⟨go18, (x6_1 : Int).toNat * 7 + 1, none⟩ = false := hfr20 1
   have hf20_2 : World.frozen? _ ⟨go18, (x6_1 : Int).toNat * 7 + 2, none⟩ = false := hfr20 2
   have hf20_3 : World.frozen? _ ⟨go18, (x6_1 : Int).toNat * 7 + 3, none⟩ = false := hfr20 3
   have hf20_4 : World.frozen? _ ⟨go18, (x6_1 : Int).toNat * 7 + 4, none⟩ = false := hfr20 4
   have hf20_5 : World.frozen? _ ⟨go18, (x6_1 : Int).toNat * 7 + 5, none⟩ = false := hfr20 5
   have hf20_6 : World.frozen? _ ⟨go18, (x6_1 : Int).toNat * 7 + 6, none⟩ = false := hfr20 6
   clear hcl20 hcc20 hfr20 hM20
   replace p20 := eq_true p20
   replace q20 := eq_true q20
   obtain ⟨ce29, hcl29, hM29, hcc29, hfr29⟩ := Kd.R_elem HO_209002.out z132 (x6_1 : Int) (za) (by have h_ : (x6_1 : Int) < ((x209002_1.length : Int) : Int) := za; first | exact h_ | (have e_ := (Kd.R_reads' HO_209002.out).1; omega) | simpa using h_)
   obtain rfl := k132_openM hM29
   have HP29 := (Kd.R_seg HO_209002.out (x6_1 : Int) (za) (by have h_ : (x6_1 : Int) < ((x209002_1.length : Int) : Int) := za; first | exact h_ | (have e_ := (Kd.R_reads' HO_209002.out).1; omega) | simpa using h_) (seg := [.int .i64 t215]) (j := 5) hcl29 hcc29 (show 6 ≤ 7 from by decide) (x' := (⟨(rd_T132 y212 x6_1).f0, (rd_T132 y212 x6_1).f1, (rd_T132 y212 x6_1).f2, (rd_T132 y212 x6_1).f3, (rd_T132 y212 x6_1).f4, t215, (rd_T132 y212 x6_1).f6⟩ : S132)) (k132_mkM _ _ _ (⟨(rd_T132 y212 x6_1).f0, (rd_T132 y212 x6_1).f1, (rd_T132 y212 x6_1).f2, (rd_T132 y212 x6_1).f3, (rd_T132 y212 x6_1).f4, t215, (rd_T132 y212 x6_1).f6⟩ : S132) ) (fun _ hk => hk)).1
   rw [← Ny216.out] at HP29
   have HQ29 := zA HP29
   clear hcl29 hcc29 hfr29 hM29 HP29
   refine hK.out _ _ ⟨zc0 BK208, zc1 BK208, zc2 BK208, zc3 BK208, zc4 BK208, hHeld.2.2.2.2.2.1, hHeld.2.2.2.2.2.2.1, hHeld.2.2.2.2.2.2.2.1, hHeld.2.2.2.2.2.2.2.2.1, hHeld.2.2.2.2.2.2.2.2.2.1, hHeld.2.2.2.2.2.2.2.2.2.2.1, hHeld.2.2.2.2.2.2.2.2.2.2.2.1, (zw HB hw214_0)⟩ (fun hHeld => ?_)
   clear hK K
   refine zN ?_
   refine zq HT_ 14 ?_
   refine zq HT_ 15 ?_
   refine zO HT_ 16 (fun K hK => ?_)
   refine skip_ (w1 := ?_) (by rfl) rfl ?_ ?_
   rotate_left
   ·go_simp
    rfl
   refine hK.out _ _ ?_
   clear hK K
   refine done_ (done_of HT_.out (by kernel_rfl)) ?_
   try go_wp2
   go_roundg k1
   case measure => have := HK1.out; omega
   case rel => exact ⟨(wrap64 (x6_1 + 1)), (y216), (x209003_1), (x209004_1), (.slice (some ⟨go18, 0, none⟩) x209002_1.length co24), zi, H', ⟨by have := HK1.out; omega⟩, ⟨zr HQ29⟩, ⟨by (with_reducible repeat (first | refine blk_drewN ?_ _ | refine blk_drew ?_ | refine blk_alloc ?_ _)); refine blk_far ?_ (by have h_ := Kd.R_ne HO_209002.out BK199.out (by decide); intro e_; exact h_ (by rw [e_]; rfl)) _; (with_reducible repeat (first | refine blk_drewN ?_ _ | refine blk_drew ?_ | refine blk_alloc ?_ _)); exact BK199.out⟩, ⟨by (with_reducible repeat (first | refine blk_drewN ?_ _ | refine blk_drew ?_ | refine blk_alloc ?_ _)); refine blk_far ?_ (by have h_ := Kd.R_ne HO_209002.out BK200.out (by decide); intro e_; exact h_ (by rw [e_]; rfl)) _; (with_reducible repeat (first | refine blk_drewN ?_ _ | refine blk_drew ?_ | refine blk_alloc ?_ _)); exact BK200.out⟩, ⟨by (with_reducible repeat (first | refine blk_drewN ?_ _ | refine blk_drew ?_ | refine blk_alloc ?_ _)); refine blk_far ?_ (by have h_ := Kd.R_ne HO_209002.out BK208.out (by decide); intro e_; exact h_ (by rw [e_]; rfl)) _; (with_reducible repeat (first | refine blk_drewN ?_ _ | refine blk_drew ?_ | refine blk_alloc ?_ _)); exact BK208.out⟩, ⟨by repeat (first | (with_reducible first | exact HB.out | apply below_alloc | apply pw_below_drewN | apply below_drew1 | refine below_set ?_ GB18.out | refine below_set ?_ GE199.out | refine below_set ?_ GE200.out | refine below_set ?_ GE208.out) | exact HB.out)⟩⟩
end Go.Proofs.Ytbmplfpnhjhoiaa.QFnExactFlyRest
