/- The walk of what the law FnExactFlyGo reaches: laid by a program of this session (ownprint.py). -/
import Derived.Test.YtidenmcoilmbcaaQFnExactFlyGox0
import Derived.Test.YtidenmcoilmbcaaQFnExactFlyGox3
import Derived.Test.YtidenmcoilmbcaaQFnExactFlyGox5
namespace Go.Proofs.Ytidenmcoilmbcaa.QFnExactFlyGo
open Go.RowKit Go.Proofs.YtidenmcoilmbcaaW.PrintWords Go.Proofs.YtidenmcoilmbcaaW.PrintLast Go.Proofs.YtidenmcoilmbcaaW.PrintMore Go.Proofs.Ytidenmcoilmbcaa.Z
attribute [local go_sem] max2_int min2_int max_two min_two max_three min_three max_four min_four zdn   -- for this text's walks alone
set_option linter.unusedVariables false
set_option linter.unusedSimpArgs false
def spec_l26Held.l0 : Nat → List Int → Int → Int → Int → List (S88) → Int → Int → Option (Int × Int × (List (S88)) × Int × Int)
 | 0, _, _, _, _, _, _, _ => none
 | k + 1, x1, x6, x185000, x185001, x185002, x185003, x185004 => if x6 < (x1.length : Int) then (if x6 < (x185002.length : Int) then (if 0 ≤ x6 then ((spec_l21Max.f ((rd_T88 x185002 x6).f4) (rd x1 x6)).bind fun t187 => ((some (x185002.set (x6 : Int).toNat (⟨(rd_T88 x185002 x6).f0, (rd_T88 x185002 x6).f1, (rd_T88 x185002 x6).f2, (rd_T88 x185002 x6).f3, t187, (rd_T88 x185002 x6).f5, (rd_T88 x185002 x6).f6⟩ : S88) : List (S88))).bind fun y188 => ((spec_l21Min.f ((rd_T88 y188 x6).f5) (rd x1 x6)).bind fun t191 => (spec_l26Held.l0 k x1 (wrap64 (x6 + 1)) x185000 x185001 (y188.set (x6 : Int).toNat (⟨(rd_T88 y188 x6).f0, (rd_T88 y188 x6).f1, (rd_T88 y188 x6).f2, (rd_T88 y188 x6).f3, (rd_T88 y188 x6).f4, t191, (rd_T88 y188 x6).f6⟩ : S88)) x185003 x185004)))) else (none)) else (if 0 ≤ x6 then ((spec_l21Max.f x185003 (rd x1 x6)).bind fun t194 => ((spec_l21Min.f x185004 (rd x1 x6)).bind fun t196 => (spec_l26Held.l0 k x1 (wrap64 (x6 + 1)) x185000 x185001 x185002 t194 t196))) else (none))) else (some (x185000, x185001, x185002, x185003, x185004))
def spec_l26Held.f (k : Nat) (a0_0 : Int) (a0_1 : Int) (l0_2 : List (S88)) (a0_3 : Int) (a0_4 : Int) (l1 : List Int) : Option (Int × Int × (List (S88)) × Int × Int) := (spec_l22Copy.f a0_0 a0_1 l0_2 a0_3 a0_4).bind fun bt177 => (spec_l26Held.l0 k l1 0 bt177.1 bt177.2.1 bt177.2.2.1 bt177.2.2.2.1 bt177.2.2.2.2)
def spec_l26Held.T6 : Bool × List (List Nat × List Nat) := (true, [([], []), ([0], [0]), ([], []), ([], []), ([3], [3]), ([], []), ([4, 5], [4, 5]), ([6], [6]), ([7], [7]), ([], []), ([], []), ([9, 10], [9, 10]), ([11], [11]), ([8, 12], [8, 12]), ([1, 2, 0, 1, 2, 3, 4, 5, 6, 7, 8, 9, 10, 11, 12, 13], [1, 2]), ([14, 0, 1, 2, 3, 4, 5, 6, 7, 8, 9, 10, 11, 12, 13], [14]), ([15, 13, 13, 0, 1, 2, 3, 4, 5, 6, 7, 8, 9, 10, 11, 12, 13], [13, 15])])
def spec_l26Held.B6 : List Nat := [0, 1, 0, 0, 8, 0, 56, 120, 248, 0, 0, 1536, 3584, 8184, 16383, 32767, 65535]
theorem spec_l26Held.tab6 : rtab .any (opsOf Try.f66 6) = spec_l26Held.T6 := by kernel_rfl
theorem spec_l26Held.bits6 : waitsOk spec_l26Held.T6.2 spec_l26Held.B6 = true := by kernel_rfl
def spec_l26Held.T7 : Bool × List (List Nat × List Nat) := (true, [([], []), ([0], [0]), ([], []), ([], []), ([3], [3]), ([], []), ([4, 5], [4, 5]), ([6], [6]), ([7], [7]), ([], []), ([], []), ([9, 10], [9, 10]), ([11], [11]), ([8, 12], [8, 12]), ([1, 2, 0, 1, 2, 3, 4, 5, 6, 7, 8, 9, 10, 11, 12, 13], [1, 2]), ([14, 0, 1, 2, 3, 4, 5, 6, 7, 8, 9, 10, 11, 12, 13], [14]), ([15, 13, 13, 0, 1, 2, 3, 4, 5, 6, 7, 8, 9, 10, 11, 12, 13], [13, 15])])
def spec_l26Held.B7 : List Nat := [0, 1, 0, 0, 8, 0, 56, 120, 248, 0, 0, 1536, 3584, 8184, 16383, 32767, 65535]
theorem spec_l26Held.tab7 : rtab .any (opsOf Try.f66 7) = spec_l26Held.T7 := by kernel_rfl
theorem spec_l26Held.bits7 : waitsOk spec_l26Held.T7.2 spec_l26Held.B7 = true := by kernel_rfl
def spec_l26Held.T8 : Bool × List (List Nat × List Nat) := (true, [([], []), ([0], [0]), ([], []), ([], []), ([2, 3], [2, 3]), ([4], [4]), ([1, 5], [1, 5]), ([0, 1, 2, 3, 4, 5, 6], []), ([7, 6, 6, 0, 1, 2, 3, 4, 5, 6], [6, 7])])
def spec_l26Held.B8 : List Nat := [0, 1, 0, 0, 12, 28, 63, 127, 255]
theorem spec_l26Held.tab8 : rtab .any (opsOf Try.f66 8) = spec_l26Held.T8 := by kernel_rfl
theorem spec_l26Held.bits8 : waitsOk spec_l26Held.T8.2 spec_l26Held.B8 = true := by kernel_rfl
def spec_l26Held.T9 : Bool × List (List Nat × List Nat) := (true, [([], []), ([0], [0]), ([], []), ([], []), ([2, 3], [2, 3]), ([4], [4]), ([1, 5], [1, 5]), ([0, 1, 2, 3, 4, 5, 6], []), ([7, 6, 6, 0, 1, 2, 3, 4, 5, 6], [6, 7])])
def spec_l26Held.B9 : List Nat := [0, 1, 0, 0, 12, 28, 63, 127, 255]
theorem spec_l26Held.tab9 : rtab .any (opsOf Try.f66 9) = spec_l26Held.T9 := by kernel_rfl
theorem spec_l26Held.bits9 : waitsOk spec_l26Held.T9.2 spec_l26Held.B9 = true := by kernel_rfl
set_option maxHeartbeats 8000000 in
set_option maxRecDepth 100000 in
theorem spec_l26Held.calls (k : Nat) (a0_0 : Int) (a0_1 : Int) (A0_2 : Option Addr) (c0_2 : Nat) (l0_2 : List (S88)) (a0_3 : Int) (a0_4 : Int) (A1 : Option Addr) (c1 : Nat) (l1 : List Int) (r1 : Int) (r2 : Int) (r3 : List (S88)) (r4 : Int) (r5 : Int) (w : World) (hr0_2 : Kd.C k88 w A0_2 l0_2.length l0_2) (hc0_2 : l0_2.length ≤ c0_2) (hr1 : Kd.C (Kd.int .i64) w A1 l1.length l1) (hc1 : l1.length ≤ c1) (h : spec_l26Held.f k a0_0 a0_1 l0_2 a0_3 a0_4 l1 = some (r1, r2, r3, r4, r5)) :
 Calls Try.prog 66 #[.agg #[.int .i64 a0_0, .int .i64 a0_1, .slice A0_2 l0_2.length c0_2, .int .i64 a0_3, .int .i64 a0_4], .slice A1 l1.length c1] w fun e w' => ∃ v2_ : Value, e = .returned (.agg #[.int .i64 r1, .int .i64 r2, v2_, .int .i64 r4, .int .i64 r5]) ∧ Kd.R k88 88 w' w.heap.size (fun _ => True) v2_ r3 ∧ Below w.heap.size w w' := by
 have hu34 := Try.underlying34
 have HR0_2 := zA hr0_2
 have HC0_2 := zA hc0_2
 clear hr0_2 hc0_2
 have HR1 := zA hr1
 have HC1 := zA hc1
 clear hr1 hc1
 have HB := zA (Below.refl w.heap.size w)
 have H : ((spec_l22Copy.f a0_0 a0_1 l0_2 a0_3 a0_4).bind fun bt177 => (spec_l26Held.l0 k l1 0 bt177.1 bt177.2.1 bt177.2.2.1 bt177.2.2.2.1 bt177.2.2.2.2)) = some (r1, r2, r3, r4, r5) := h
 clear h
 replace H := Option.bind_eq_some_iff.mp H
 obtain ⟨⟨t177, t178, t179, t182, t183⟩, A30, H⟩ := H
 replace H : (spec_l26Held.l0 k l1 0 t177 t178 t179 t182 t183) = some (r1, r2, r3, r4, r5) := H
 have A3 := zA A30
 clear A30
 have H' := zA H
 clear H
 go_enter Try.func66, Try.ntmps66
 go_wp2_with (first | ((with_reducible refine gate_dst (N := 2) rfl ?_); refine zbx 2 #[.int .i64 a0_0, .int .i64 a0_1, .slice A0_2 l0_2.length c0_2, .int .i64 a0_3, .int .i64 a0_4] 34 ?_; intro gb175 hg w4 hbox hb; have BK175 := zA hbox; have GW175 := zgs hg (zs0 HB); have GE175 := zgs hg (zs0 HB); replace HB := zE (zs0 HB) hb; clear hb hbox hg) | ((with_reducible refine gate_dst (N := 4) rfl ?_); refine zbx 4 #[.int .i64 0, .int .i64 0, .slice none 0 0, .int .i64 0, .int .i64 0] 34 ?_; intro gb176 hg w5 hbox hb; have BK176 := zA hbox; have GW176 := zgs hg (zs1 HB GE175); have GE176 := zgs hg (zs1 HB GE175); have NB175_176 := zne hg BK175; have NB176_175 := znf hg BK175; replace BK175 := zb BK175 hb; replace HB := zE (zs1 HB GE175) hb; clear hb hbox hg; have hnb6 := NB175_176.out; have hnc6 := NB176_175.out; obtain ⟨hcz7_0, hcz7_1, hcz7_2, hcz7_3, hcz7_4⟩ := zd5 BK175; obtain ⟨hfz7_0, hfz7_1, hfz7_2, hfz7_3, hfz7_4⟩ := zn5 BK175) | ((with_reducible refine gate_callee (f := 83) rfl ?_); refine zgl (N := some 8) Try.func83 #[.agg #[.int .i64 a0_0, .int .i64 a0_1, .slice A0_2 l0_2.length c0_2, .int .i64 a0_3, .int .i64 a0_4]] ?_; (with_reducible refine (spec_l22Copy.calls a0_0 a0_1 _ _ l0_2 a0_3 a0_4 t177 t178 t179 t182 t183 _ ?side1 ?side2 A3.out).mono ?_); (case side1 => exact zC HR0_2 HB); (case side2 => exact HC0_2.out); rintro e w8 ⟨v180, rfl, ho0, hb⟩; refine ⟨_, rfl, ?_⟩; have HO181 := zA (Kd.R_lower ho0 (below_size (zs2 HB GE175 GE176))); replace BK175 := zb BK175 hb; replace BK176 := zb BK176 hb; replace HB := zE (zs2 HB GE175 GE176) hb; (try clear hb); (try clear hb2); (try clear hk); (try clear hi); (try clear ho0)) | ((with_reducible refine gate_dst (N := 5) rfl ?_); refine zbx 5 #[.int .i64 0, .int .i64 0, .slice none 0 0, .int .i64 0, .int .i64 0] 34 ?_; intro gb184 hg w9 hbox hb; have BK184 := zA hbox; have GW184 := zgs hg (zs2 HB GE175 GE176); have GE184 := zgs hg (zs2 HB GE175 GE176); have NB175_184 := zne hg BK175; have NB184_175 := znf hg BK175; have NB176_184 := zne hg BK176; have NB184_176 := znf hg BK176; replace HO181 := zA (Kd.R_below (zr HO181) hb); replace BK175 := zb BK175 hb; replace BK176 := zb BK176 hb; replace HB := zE (zs2 HB GE175 GE176) hb; clear hb hbox hg; have hnb10 := NB184_175.out; have hnc10 := NB175_184.out; have hnb11 := NB184_176.out; have hnc11 := NB176_184.out; obtain ⟨hcz12_0, hcz12_1, hcz12_2, hcz12_3, hcz12_4⟩ := zd5 BK184; obtain ⟨hfz12_0, hfz12_1, hfz12_2, hfz12_3, hfz12_4⟩ := zn5 BK184; obtain ⟨Ao13, co13, eo13⟩ := Kd.R_slice HO181.out; subst eo13))
 go_loopg [6] k (fun kq v6 w' => ∃ (x6_1 : Int) (x185002_1 : List (S88)) (x185003_1 : Int) (x185004_1 : Int) (u185002 : Value), v6 = .int .i64 x6_1 ∧ Aside0 (spec_l26Held.l0 kq l1 x6_1 t177 t178 x185002_1 x185003_1 x185004_1 = some (r1, r2, r3, r4, r5)) ∧ Aside0 (kq ≤ k) ∧ Aside0 (Kd.R k88 88 w' w.heap.size (fun _ => True) u185002 x185002_1) ∧ Aside0 (w'.heap[gb175]? = some (.cells #[.int .i64 a0_0, .int .i64 a0_1, (.slice A0_2 l0_2.length c0_2), .int .i64 a0_3, .int .i64 a0_4] 34 (0, 0))) ∧ Aside0 (w'.heap[gb176]? = some (.cells #[.int .i64 0, .int .i64 0, (.slice none 0 0), .int .i64 0, .int .i64 0] 34 (0, 0))) ∧ Aside0 (w'.heap[gb184]? = some (.cells #[.int .i64 t177, .int .i64 t178, u185002, .int .i64 x185003_1, .int .i64 x185004_1] 34 (0, 0))) ∧ Aside0 (Below w.heap.size w w'))
 case atStart => exact ⟨(0), (t179), (t182), (t183), (.slice Ao13 t179.length co13), zi, H', ⟨Nat.le_refl _⟩, ⟨zRf HO181 BK184 (fun _ hk => trivial)⟩, ⟨zpf BK175 NB175_184⟩, ⟨zpf BK176 NB176_184⟩, ⟨zpb BK184⟩, ⟨zs3 HB GE175 GE176 GE184⟩⟩
 case round =>
  clear H'
  try clear c1
  try clear p2
  try clear c6
  try clear c8
  try clear c10
  try clear c11
  try clear hcz12_0 hcz12_1 hcz12_2 hcz12_3 hcz12_4
  try clear hcz7_0 hcz7_1 hcz7_2 hcz7_3 hcz7_4
  try clear hfz12_0 hfz12_1 hfz12_2 hfz12_3 hfz12_4
  try clear hfz7_0 hfz7_1 hfz7_2 hfz7_3 hfz7_4
  obtain ⟨x6_1, x185002_1, x185003_1, x185004_1, u185002, rfl, HA, HK1, HO_185002, BK175, BK176, BK184, HB⟩ := hrel
  cases gk with
  | zero => exact absurd HA.out (by simp [spec_l26Held.l0])
  | succ k1 =>
   have H := HA.out
   clear HA
   simp only [spec_l26Held.l0] at H
   by_cases c14 : x6_1 < (l1.length : Int)
   rotate_left
   ·rw [if_neg c14] at H
    have c14b0 : decide (x6_1 < (l1.length : Int)) = false := decide_eq_false c14
    clear c14
    simp only [Option.some.injEq, Prod.mk.injEq] at H
    obtain ⟨rfl, rfl, rfl, rfl, rfl⟩ := H
    have hnb42 := NB184_175.out
    have hnc42 := NB175_184.out
    have hnb43 := NB184_176.out
    have hnc43 := NB176_184.out
    obtain ⟨hcz44_0, hcz44_1, hcz44_2, hcz44_3, hcz44_4⟩ := zd5 BK184
    obtain ⟨hfz44_0, hfz44_1, hfz44_2, hfz44_3, hfz44_4⟩ := zn5 BK184
    have hnb45 := NB176_175.out
    have hnc45 := NB175_176.out
    obtain ⟨hcz46_0, hcz46_1, hcz46_2, hcz46_3, hcz46_4⟩ := zd5 BK176
    obtain ⟨hfz46_0, hfz46_1, hfz46_2, hfz46_3, hfz46_4⟩ := zn5 BK176
    obtain ⟨Ao47, co47, eo47⟩ := Kd.R_slice HO_185002.out
    subst eo47
    go_wp2
    refine bodyPost_ret (results_cell_row rfl _ _ gb176 34 #[.int .i64 t177, .int .i64 t178, .slice Ao47 x185002_1.length co47, .int .i64 x185003_1, .int .i64 x185004_1] (0, 0) _ rfl ?hz Try.underlying34 rfl (by kernel_rfl)) rfl ?_; (case hz => exact zpb BK176)
    exact ⟨_, ze, by (with_reducible repeat (first | apply Kd.R_alloc | apply Kd.R_drewN | apply Kd.R_drew)); exact Kd.R_mono (Kd.R_far (p := ⟨gb176, 4, none⟩) (Kd.R_far (p := ⟨gb176, 3, none⟩) (Kd.R_far (p := ⟨gb176, 2, none⟩) (Kd.R_far (p := ⟨gb176, 1, none⟩) (Kd.R_far (p := ⟨gb176, 0, none⟩) (Kd.R_types HO_185002.out BK176.out (by decide)) (fun _ hk => hk.2) (.int .i64 t177)) (fun _ hk => hk.2) (.int .i64 t178)) (fun _ hk => hk.2) (.slice Ao47 x185002_1.length co47)) (fun _ hk => hk.2) (.int .i64 x185003_1)) (fun _ hk => hk.2) (.int .i64 x185004_1)) (fun _ hk => trivial), zs3 HB GE175 GE176 GE184⟩
   rw [if_pos c14] at H
   have c14b0 : decide (x6_1 < (l1.length : Int)) = true := decide_eq_true c14
   clear c14
   by_cases c15 : x6_1 < (x185002_1.length : Int)
   rotate_left
   ·rw [if_neg c15] at H
    have c15b0 : decide (x6_1 < (x185002_1.length : Int)) = false := decide_eq_false c15
    clear c15
    by_cases c30 : 0 ≤ x6_1
    rotate_left
    ·rw [if_neg c30] at H
     exact absurd H (by simp)
    rw [if_pos c30] at H
    have c30b0 : decide (0 ≤ x6_1) = true := decide_eq_true c30
    clear c30
    replace H := zbd H; obtain ⟨t194, A31, H⟩ := H
    replace H := Option.bind_eq_some_iff.mp H
    obtain ⟨t196, A320, H⟩ := H
    replace H : (spec_l26Held.l0 k1 l1 (wrap64 (x6_1 + 1)) t177 t178 x185002_1 t194 t196) = some (r1, r2, r3, r4, r5) := H
    have A32 := zA A320
    clear A320
    have H' := zA H
    clear H
    have hnb33 := NB184_175.out
    have hnc33 := NB175_184.out
    have hnb34 := NB184_176.out
    have hnc34 := NB176_184.out
    obtain ⟨hcz35_0, hcz35_1, hcz35_2, hcz35_3, hcz35_4⟩ := zd5 BK184
    obtain ⟨hfz35_0, hfz35_1, hfz35_2, hfz35_3, hfz35_4⟩ := zn5 BK184
    obtain ⟨Ao36, co36, eo36⟩ := Kd.R_slice HO_185002.out
    subst eo36
    try go_wp2
    replace HO_185002 := zA (Kd.R_drew HO_185002.out)
    replace BK175 := zA (blk_drew BK175.out)
    replace BK176 := zA (blk_drew BK176.out)
    replace BK184 := zA (blk_drew BK184.out)
    replace HB := zA (below_drew1 HB.out)
    have p193 : 0 ≤ (x6_1 : Int) := za
    have q193 : x6_1 < (l1.length : Int) := za
    obtain ⟨ad193, e193, hx193_0⟩ := Kd.at_int HR1.out x6_1 p193 q193
    have hw193_0 := hx193_0
    cases e193
    replace hx193_0 := zx HB hx193_0
    replace p193 := eq_true p193
    replace q193 := eq_true q193
    refine start_ (n := 9) (S := fun w' => w'.cell? ⟨gb184, 0, none⟩ = some (.int .i64 t177) ∧ w'.cell? ⟨gb184, 1, none⟩ = some (.int .i64 t178) ∧ w'.cell? ⟨gb184, 2, none⟩ = some (.slice Ao36 x185002_1.length co36) ∧ w'.cell? ⟨gb184, 3, none⟩ = some (.int .i64 x185003_1) ∧ w'.cell? ⟨gb184, 4, none⟩ = some (.int .i64 x185004_1) ∧ w'.cell? (ad193.add (x6_1).toNat) = some (.int .i64 (rd l1 x6_1))) (ds := [8]) #[F,F,F,F,F,F,F,F,F] (by kernel_rfl) rfl rfl ⟨zc0 BK184, zc1 BK184, zc2 BK184, zc3 BK184, zc4 BK184, (zw HB hw193_0)⟩ (fun hHeld => ?_); refine with_tabW spec_l26Held.tab8 spec_l26Held.bits8 (fun HT_ HW_ => ?_)
    generalize wr.drew = w37 at HO_185002 BK175 BK176 BK184 HB hx193_0 hHeld ⊢
    refine zq HT_ 0 ?_
    refine zq HT_ 2 ?_
    refine zq HT_ 3 ?_
    refine zq HT_ 4 ?_
    refine zk6 HT_ HW_ hHeld 1 ?_
    refine zk6 HT_ HW_ hHeld 5 ?_
    refine zo HT_ 6 (fun K hK => ?_)
    refine zgo Try.func54 #[.int .i64 x185003_1, .int .i64 (rd l1 x6_1)] ?_
    with_reducible refine (spec_l21Max.calls x185003_1 (rd l1 x6_1) t194 _ A31.out).mono ?_
    rintro e w' ⟨rfl, ⟨nd, rfl⟩⟩
    refine ⟨_, rfl, ?_⟩
    refine hK.out _ _ ⟨zc0 BK184, zc1 BK184, zc2 BK184, zc3 BK184, zc4 BK184, (zw HB hw193_0)⟩ (fun hHeld => ?_)
    clear hK K
    refine zN ?_
    refine zq HT_ 7 ?_
    refine zO HT_ 8 (fun K hK => ?_)
    have hs38 : w37.cell? ⟨gb184, 3, none⟩ = some (.int .i64 x185003_1) := zc3 BK184
    have hfs38 := zf BK184 3
    have hns38_0 := NB175_184.out
    have hns38_1 := NB176_184.out
    have hms38_0 := NB184_175.out
    have hms38_1 := NB184_176.out
    refine skip_ (w1 := ?_) (by rfl) rfl ?_ ?_
    rotate_left
    ·go_simp
     rfl
    refine hK.out _ _ ?_
    clear hK K
    refine done_ (done_of HT_.out (by kernel_rfl)) ?_
    try go_wp2
    have n0_ : Aside0 (Kd.R k88 88 (w37.setCell ⟨gb184, 3, none⟩ (.int .i64 t194)) w.heap.size (fun _ => True) (.slice Ao36 x185002_1.length co36) x185002_1) := ⟨zRf HO_185002 BK184 (fun _ hk => trivial)⟩
    have n1_ : Aside0 ((w37.setCell ⟨gb184, 3, none⟩ (.int .i64 t194)).heap[gb175]? = some (.cells #[.int .i64 a0_0, .int .i64 a0_1, .slice A0_2 l0_2.length c0_2, .int .i64 a0_3, .int .i64 a0_4] 34 (0, 0))) := ⟨zpf BK175 NB175_184⟩
    have n2_ : Aside0 ((w37.setCell ⟨gb184, 3, none⟩ (.int .i64 t194)).heap[gb176]? = some (.cells #[.int .i64 0, .int .i64 0, .slice none 0 0, .int .i64 0, .int .i64 0] 34 (0, 0))) := ⟨zpf BK176 NB176_184⟩
    have n3_ : Aside0 ((w37.setCell ⟨gb184, 3, none⟩ (.int .i64 t194)).heap[gb184]? = some (.cells #[.int .i64 t177, .int .i64 t178, .slice Ao36 x185002_1.length co36, .int .i64 t194, .int .i64 x185004_1] 34 (0, 0))) := ⟨zpb BK184⟩
    have n4_ : Aside0 (Below w.heap.size w (w37.setCell ⟨gb184, 3, none⟩ (.int .i64 t194))) := ⟨zs3 HB GE175 GE176 GE184⟩
    (try clear HO_185002)
    (try clear BK175)
    (try clear BK176)
    (try clear BK184)
    (try clear HB)
    generalize (w37.setCell ⟨gb184, 3, none⟩ (.int .i64 t194)) = w39 at n0_ n1_ n2_ n3_ n4_ ⊢
    have HO_185002 := n0_
    have BK175 := n1_
    have BK176 := n2_
    have BK184 := n3_
    have HB := n4_
    clear n0_ n1_ n2_ n3_ n4_
    (try (rw [drewN_self w39]; generalize hq_ : World.drewN w39 _ = w39; replace HO_185002 : Aside0 (Kd.R k88 88 w39 w.heap.size (fun _ => True) (.slice Ao36 x185002_1.length co36) x185002_1) := ⟨by rw [← hq_]; exact (zr HO_185002)⟩; replace BK175 : Aside0 (w39.heap[gb175]? = some (.cells #[.int .i64 a0_0, .int .i64 a0_1, .slice A0_2 l0_2.length c0_2, .int .i64 a0_3, .int .i64 a0_4] 34 (0, 0))) := ⟨by rw [← hq_]; exact (zh BK175)⟩; replace BK176 : Aside0 (w39.heap[gb176]? = some (.cells #[.int .i64 0, .int .i64 0, .slice none 0 0, .int .i64 0, .int .i64 0] 34 (0, 0))) := ⟨by rw [← hq_]; exact (zh BK176)⟩; replace BK184 : Aside0 (w39.heap[gb184]? = some (.cells #[.int .i64 t177, .int .i64 t178, .slice Ao36 x185002_1.length co36, .int .i64 t194, .int .i64 x185004_1] 34 (0, 0))) := ⟨by rw [← hq_]; exact (zh BK184)⟩; replace HB : Aside0 (Below w.heap.size w w39) := ⟨by rw [← hq_]; exact (zs3 HB GE175 GE176 GE184)⟩; clear hq_))
    replace HO_185002 := zA (Kd.R_drew HO_185002.out)
    replace BK175 := zA (blk_drew BK175.out)
    replace BK176 := zA (blk_drew BK176.out)
    replace BK184 := zA (blk_drew BK184.out)
    replace HB := zA (below_drew1 HB.out)
    have p195 : 0 ≤ (x6_1 : Int) := za
    have q195 : x6_1 < (l1.length : Int) := za
    obtain ⟨ad195, e195, hx195_0⟩ := Kd.at_int HR1.out x6_1 p195 q195
    have hw195_0 := hx195_0
    obtain rfl : ad193 = ad195 := (by injection e195)
    replace hx195_0 := zx HB hx195_0
    replace p195 := eq_true p195
    replace q195 := eq_true q195
    refine start_ (n := 9) (S := fun w' => w'.cell? ⟨gb184, 0, none⟩ = some (.int .i64 t177) ∧ w'.cell? ⟨gb184, 1, none⟩ = some (.int .i64 t178) ∧ w'.cell? ⟨gb184, 2, none⟩ = some (.slice Ao36 x185002_1.length co36) ∧ w'.cell? ⟨gb184, 3, none⟩ = some (.int .i64 t194) ∧ w'.cell? ⟨gb184, 4, none⟩ = some (.int .i64 x185004_1) ∧ w'.cell? (ad193.add (x6_1).toNat) = some (.int .i64 (rd l1 x6_1))) (ds := [8]) #[F,F,F,F,F,F,F,F,F] (by kernel_rfl) rfl rfl ⟨zc0 BK184, zc1 BK184, zc2 BK184, zc3 BK184, zc4 BK184, (zw HB hw195_0)⟩ (fun hHeld => ?_); refine with_tabW spec_l26Held.tab9 spec_l26Held.bits9 (fun HT_ HW_ => ?_)
    generalize w39.drew = w40 at HO_185002 BK175 BK176 BK184 HB hx195_0 hHeld ⊢
    refine zq HT_ 0 ?_
    refine zq HT_ 2 ?_
    refine zq HT_ 3 ?_
    refine zq HT_ 4 ?_
    refine zk6 HT_ HW_ hHeld 1 ?_
    refine zk6 HT_ HW_ hHeld 5 ?_
    refine zo HT_ 6 (fun K hK => ?_)
    refine zgo Try.func53 #[.int .i64 x185004_1, .int .i64 (rd l1 x6_1)] ?_
    with_reducible refine (spec_l21Min.calls x185004_1 (rd l1 x6_1) t196 _ A32.out).mono ?_
    rintro e w' ⟨rfl, ⟨nd, rfl⟩⟩
    refine ⟨_, rfl, ?_⟩
    refine hK.out _ _ ⟨zc0 BK184, zc1 BK184, zc2 BK184, zc3 BK184, zc4 BK184, (zw HB hw195_0)⟩ (fun hHeld => ?_)
    clear hK K
    refine zN ?_
    refine zq HT_ 7 ?_
    refine zO HT_ 8 (fun K hK => ?_)
    have hs41 : w40.cell? ⟨gb184, 4, none⟩ = some (.int .i64 x185004_1) := zc4 BK184
    have hfs41 := zf BK184 4
    have hns41_0 := NB175_184.out
    have hns41_1 := NB176_184.out
    have hms41_0 := NB184_175.out
    have hms41_1 := NB184_176.out
    refine skip_ (w1 := ?_) (by rfl) rfl ?_ ?_
    rotate_left
    ·go_simp
     rfl
    refine hK.out _ _ ?_
    clear hK K
    refine done_ (done_of HT_.out (by kernel_rfl)) ?_
    try go_wp2
    go_roundg k1
    case measure => have := HK1.out; omega
    case rel => exact ⟨(wrap64 (x6_1 + 1)), (x185002_1), (t194), (t196), (.slice Ao36 x185002_1.length co36), zi, H', ⟨by have := HK1.out; omega⟩, ⟨zRf HO_185002 BK184 (fun _ hk => trivial)⟩, ⟨zpf BK175 NB175_184⟩, ⟨zpf BK176 NB176_184⟩, ⟨zpb BK184⟩, ⟨zs3 HB GE175 GE176 GE184⟩⟩
   rw [if_pos c15] at H
   have c15b0 : decide (x6_1 < (x185002_1.length : Int)) = true := decide_eq_true c15
   clear c15
   by_cases c16 : 0 ≤ x6_1
   rotate_left
   ·rw [if_neg c16] at H
    exact absurd H (by simp)
   rw [if_pos c16] at H
   have c16b0 : decide (0 ≤ x6_1) = true := decide_eq_true c16
   clear c16
   replace H := zbd H; obtain ⟨t187, A17, H⟩ := H
   obtain ⟨y188, hy188⟩ : ∃ y_ : List (S88), y_ = (x185002_1.set (x6_1 : Int).toNat (⟨(rd_T88 x185002_1 x6_1).f0, (rd_T88 x185002_1 x6_1).f1, (rd_T88 x185002_1 x6_1).f2, (rd_T88 x185002_1 x6_1).f3, t187, (rd_T88 x185002_1 x6_1).f5, (rd_T88 x185002_1 x6_1).f6⟩ : S88)) := ⟨_, rfl⟩
   replace H : ((spec_l21Min.f ((rd_T88 y188 x6_1).f5) (rd l1 x6_1)).bind fun t191 => (spec_l26Held.l0 k1 l1 (wrap64 (x6_1 + 1)) t177 t178 (y188.set (x6_1 : Int).toNat (⟨(rd_T88 y188 x6_1).f0, (rd_T88 y188 x6_1).f1, (rd_T88 y188 x6_1).f2, (rd_T88 y188 x6_1).f3, (rd_T88 y188 x6_1).f4, t191, (rd_T88 y188 x6_1).f6⟩ : S88)) x185003_1 x185004_1)) = some (r1, r2, r3, r4, r5) := by first | (rw [hy188]; with_reducible exact H) | (have H2_ := (Option.bind_some _ _).symm.trans H; rw [hy188]; with_reducible exact H2_) | (have H2_ := (Option.bind_some _ _).symm.trans H; with_reducible exact H2_) | with_reducible exact H | (rw [hy188]; exact H) | exact H
   have Ny188 := zA hy188
   clear hy188
   replace H := zbd H; obtain ⟨t191, A19, H⟩ := H
   obtain ⟨y192, hy192⟩ : ∃ y_ : List (S88), y_ = (y188.set (x6_1 : Int).toNat (⟨(rd_T88 y188 x6_1).f0, (rd_T88 y188 x6_1).f1, (rd_T88 y188 x6_1).f2, (rd_T88 y188 x6_1).f3, (rd_T88 y188 x6_1).f4, t191, (rd_T88 y188 x6_1).f6⟩ : S88)) := ⟨_, rfl⟩
   replace H : (spec_l26Held.l0 k1 l1 (wrap64 (x6_1 + 1)) t177 t178 y192 x185003_1 x185004_1) = some (r1, r2, r3, r4, r5) := by first | (rw [hy192]; with_reducible exact H) | (have H2_ := (Option.bind_some _ _).symm.trans H; rw [hy192]; with_reducible exact H2_) | (have H2_ := (Option.bind_some _ _).symm.trans H; with_reducible exact H2_) | with_reducible exact H | (rw [hy192]; exact H) | exact H
   have Ny192 := zA hy192
   clear hy192
   have H' := zA H
   clear H
   have hnb21 := NB184_175.out
   have hnc21 := NB175_184.out
   have hnb22 := NB184_176.out
   have hnc22 := NB176_184.out
   obtain ⟨hcz23_0, hcz23_1, hcz23_2, hcz23_3, hcz23_4⟩ := zd5 BK184
   obtain ⟨hfz23_0, hfz23_1, hfz23_2, hfz23_3, hfz23_4⟩ := zn5 BK184
   obtain ⟨Ao24, co24, eo24⟩ := Kd.R_slice HO_185002.out
   subst eo24
   try go_wp2
   replace HO_185002 := zA (Kd.R_drew HO_185002.out)
   replace BK175 := zA (blk_drew BK175.out)
   replace BK176 := zA (blk_drew BK176.out)
   replace BK184 := zA (blk_drew BK184.out)
   replace HB := zA (below_drew1 HB.out)
   have p185 : 0 ≤ (x6_1 : Int) := za
   have q185 : x6_1 < (x185002_1.length : Int) := za
   obtain ⟨ad185, e185, hx185_0, hx185_1, hx185_2, hx185_3, hx185_4, hx185_5, hx185_6⟩ := at_T88 (Kd.R_reads' HO_185002.out).2.2 x6_1 p185 q185
   cases e185
   replace p185 := eq_true p185
   replace q185 := eq_true q185
   have p186 : 0 ≤ (x6_1 : Int) := za
   have q186 : x6_1 < (l1.length : Int) := za
   obtain ⟨ad186, e186, hx186_0⟩ := Kd.at_int HR1.out x6_1 p186 q186
   have hw186_0 := hx186_0
   cases e186
   replace hx186_0 := zx HB hx186_0
   replace p186 := eq_true p186
   replace q186 := eq_true q186
   refine start_ (n := 17) (S := fun w' => w'.cell? ⟨gb184, 0, none⟩ = some (.int .i64 t177) ∧ w'.cell? ⟨gb184, 1, none⟩ = some (.int .i64 t178) ∧ w'.cell? ⟨gb184, 2, none⟩ = some (.slice (some ad185) x185002_1.length co24) ∧ w'.cell? ⟨gb184, 3, none⟩ = some (.int .i64 x185003_1) ∧ w'.cell? ⟨gb184, 4, none⟩ = some (.int .i64 x185004_1) ∧ w'.cell? (ad185.add ((x6_1).toNat * 7)) = some (.int .i64 ((rd_T88 x185002_1 x6_1).f0)) ∧ w'.cell? ⟨(ad185.add ((x6_1).toNat * 7)).block, (ad185.add ((x6_1).toNat * 7)).off + 1, none⟩ = some (.int .i64 ((rd_T88 x185002_1 x6_1).f1)) ∧ w'.cell? ⟨(ad185.add ((x6_1).toNat * 7)).block, (ad185.add ((x6_1).toNat * 7)).off + 2, none⟩ = some (.int .i64 ((rd_T88 x185002_1 x6_1).f2)) ∧ w'.cell? ⟨(ad185.add ((x6_1).toNat * 7)).block, (ad185.add ((x6_1).toNat * 7)).off + 3, none⟩ = some (.int .i64 ((rd_T88 x185002_1 x6_1).f3)) ∧ w'.cell? ⟨(ad185.add ((x6_1).toNat * 7)).block, (ad185.add ((x6_1).toNat * 7)).off + 4, none⟩ = some (.int .i64 ((rd_T88 x185002_1 x6_1).f4)) ∧ w'.cell? ⟨(ad185.add ((x6_1).toNat * 7)).block, (ad185.add ((x6_1).toNat * 7)).off + 5, none⟩ = some (.int .i64 ((rd_T88 x185002_1 x6_1).f5)) ∧ w'.cell? ⟨(ad185.add ((x6_1).toNat * 7)).block, (ad185.add ((x6_1).toNat * 7)).off + 6, none⟩ = some (.bool ((rd_T88 x185002_1 x6_1).f6)) ∧ w'.cell? (ad186.add (x6_1).toNat) = some (.int .i64 (rd l1 x6_1))) (ds := [16]) #[F,F,F,F,F,F,F,F,F,F,F,F,F,F,F,F,F] (by kernel_rfl) rfl rfl ⟨zc0 BK184, zc1 BK184, zc2 BK184, zc3 BK184, zc4 BK184, hx185_0, hx185_1, hx185_2, hx185_3, hx185_4, hx185_5, hx185_6, (zw HB hw186_0)⟩ (fun hHeld => ?_); refine with_tabW spec_l26Held.tab6 spec_l26Held.bits6 (fun HT_ HW_ => ?_)
   generalize wr.drew = w25 at HO_185002 BK175 BK176 BK184 HB hx185_0 hx185_1 hx185_2 hx185_3 hx185_4 hx185_5 hx185_6 hx186_0 hHeld ⊢
   refine zq HT_ 0 ?_
   refine zq HT_ 2 ?_
   refine zq HT_ 3 ?_
   refine zq HT_ 5 ?_
   refine zq HT_ 9 ?_
   refine zq HT_ 10 ?_
   refine zq HT_ 11 ?_
   refine zk13 HT_ HW_ hHeld 1 ?_
   refine zk13 HT_ HW_ hHeld 4 ?_
   refine zq HT_ 6 ?_
   refine zq HT_ 7 ?_
   refine zk13 HT_ HW_ hHeld 8 ?_
   refine zk13 HT_ HW_ hHeld 12 ?_
   refine zo HT_ 13 (fun K hK => ?_)
   refine zgo Try.func54 #[.int .i64 ((rd_T88 x185002_1 x6_1).f4), .int .i64 (rd l1 x6_1)] ?_
   with_reducible refine (spec_l21Max.calls ((rd_T88 x185002_1 x6_1).f4) (rd l1 x6_1) t187 _ A17.out).mono ?_
   rintro e w' ⟨rfl, ⟨nd, rfl⟩⟩
   refine ⟨_, rfl, ?_⟩
   have p18 : 0 ≤ (x6_1 : Int) := za
   have q18 : (x6_1 : Int) < ((x185002_1.length : Int) : Int) := za
   obtain ⟨go18, co18, eo18, gb18, gl18, cl18, HG18⟩ := Kd.R_form HO_185002.out (by omega)
   (first | cases eo18 | (injection eo18 with ea_ en_ ec_; (first | subst ea_ | (injection ea_ with ea_; subst ea_)); subst ec_; clear en_))
   have GB18 := zA gb18
   have GG18 := zA HG18
   clear gb18 gl18 HG18
   (first | simp only [add_plain] at hx185_0 | skip)
   (first | simp only [add_plain] at hx185_1 | skip)
   (first | simp only [add_plain] at hx185_2 | skip)
   (first | simp only [add_plain] at hx185_3 | skip)
   (first | simp only [add_plain] at hx185_4 | skip)
   (first | simp only [add_plain] at hx185_5 | skip)
   (first | simp only [add_plain] at hx185_6 | skip)
   obtain ⟨ce18, hcl18, hM18, hcc18, hfr18⟩ := Kd.R_elem HO_185002.out z88 (x6_1 : Int) p18 q18
   obtain rfl := k88_openM hM18
   have hx18_0 : World.cell? _ ⟨go18, (x6_1 : Int).toNat * 7, none⟩ = some (.int .i64 ((rd_T88 x185002_1 x6_1).f0)) := hcc18 0 _ rfl
   have hx18_1 : World.cell? _ ⟨go18, (x6_1 : Int).toNat * 7 + 1, none⟩ = some (.int .i64 ((rd_T88 x185002_1 x6_1).f1)) := hcc18 1 _ rfl
   have hx18_2 : World.cell? _ ⟨go18, (x6_1 : Int).toNat * 7 + 2, none⟩ = some (.int .i64 ((rd_T88 x185002_1 x6_1).f2)) := hcc18 2 _ rfl
   have hx18_3 : World.cell? _ ⟨go18, (x6_1 : Int).toNat * 7 + 3, none⟩ = some (.int .i64 ((rd_T88 x185002_1 x6_1).f3)) := hcc18 3 _ rfl
   have hx18_4 : World.cell? _ ⟨go18, (x6_1 : Int).toNat * 7 + 4, none⟩ = some (.int .i64 ((rd_T88 x185002_1 x6_1).f4)) := hcc18 4 _ rfl
   have hx18_5 : World.cell? _ ⟨go18, (x6_1 : Int).toNat * 7 + 5, none⟩ = some (.int .i64 ((rd_T88 x185002_1 x6_1).f5)) := hcc18 5 _ rfl
   have hx18_6 : World.cell? _ ⟨go18, (x6_1 : Int).toNat * 7 + 6, none⟩ = some (.bool ((rd_T88 x185002_1 x6_1).f6)) := hcc18 6 _ rfl
   have hf18_0 : World.frozen? _ ⟨go18, (x6_1 : Int).toNat * 7, none⟩ = false := hfr18 0
   have hf18_1 : World.frozen? _ ⟨go18, (x6_1 : Int).toNat * 7 + 1, none⟩ = false := hfr18 1
   have hf18_2 : World.frozen? _ ⟨go18, (x6_1 : Int).toNat * 7 + 2, none⟩ = false := hfr18 2
   have hf18_3 : World.frozen? _ ⟨go18, (x6_1 : Int).toNat * 7 + 3, none⟩ = false := hfr18 3
   have hf18_4 : World.frozen? _ ⟨go18, (x6_1 : Int).toNat * 7 + 4, none⟩ = false := hfr18 4
   have hf18_5 : World.frozen? _ ⟨go18, (x6_1 : Int).toNat * 7 + 5, none⟩ = false := hfr18 5
   have hf18_6 : World.frozen? _ ⟨go18, (x6_1 : Int).toNat * 7 + 6, none⟩ = false := hfr18 6
   clear hcl18 hcc18 hfr18 hM18
   replace p18 := eq_true p18
   replace q18 := eq_true q18
   obtain ⟨ce26, hcl26, hM26, hcc26, hfr26⟩ := Kd.R_elem HO_185002.out z88 (x6_1 : Int) (za) (by have h_ : (x6_1 : Int) < ((x185002_1.length : Int) : Int) := za; first | exact h_ | (have e_ := (Kd.R_reads' HO_185002.out).1; omega) | simpa using h_)
   obtain rfl := k88_openM hM26
   have HP26 := (Kd.R_seg HO_185002.out (x6_1 : Int) (za) (by have h_ : (x6_1 : Int) < ((x185002_1.length : Int) : Int) := za; first | exact h_ | (have e_ := (Kd.R_reads' HO_185002.out).1; omega) | simpa using h_) (seg := [.int .i64 t187]) (j := 4) hcl26 hcc26 (show 5 ≤ 7 from by decide) (x' := (⟨(rd_T88 x185002_1 x6_1).f0, (rd_T88 x185002_1 x6_1).f1, (rd_T88 x185002_1 x6_1).f2, (rd_T88 x185002_1 x6_1).f3, t187, (rd_T88 x185002_1 x6_1).f5, (rd_T88 x185002_1 x6_1).f6⟩ : S88)) (k88_mkM _ _ _ (⟨(rd_T88 x185002_1 x6_1).f0, (rd_T88 x185002_1 x6_1).f1, (rd_T88 x185002_1 x6_1).f2, (rd_T88 x185002_1 x6_1).f3, t187, (rd_T88 x185002_1 x6_1).f5, (rd_T88 x185002_1 x6_1).f6⟩ : S88) ) (fun _ hk => hk)).1
   rw [← Ny188.out] at HP26
   have HQ26 := zA HP26
   clear hcl26 hcc26 hfr26 hM26 HP26
   refine hK.out _ _ ⟨zc0 BK184, zc1 BK184, zc2 BK184, zc3 BK184, zc4 BK184, hHeld.2.2.2.2.2.1, hHeld.2.2.2.2.2.2.1, hHeld.2.2.2.2.2.2.2.1, hHeld.2.2.2.2.2.2.2.2.1, hHeld.2.2.2.2.2.2.2.2.2.1, hHeld.2.2.2.2.2.2.2.2.2.2.1, hHeld.2.2.2.2.2.2.2.2.2.2.2.1, (zw HB hw186_0)⟩ (fun hHeld => ?_)
   clear hK K
   refine zN ?_
   refine zq HT_ 14 ?_
   refine zq HT_ 15 ?_
   refine zO HT_ 16 (fun K hK => ?_)
   refine skip_ (w1 := ?_) (by rfl) rfl ?_ ?_
   rotate_left
   ·go_simp
    rfl
   refine hK.out _ _ ?_
   clear hK K
   refine done_ (done_of HT_.out (by kernel_rfl)) ?_
   try go_wp2
   obtain ⟨w27, e_⟩ : ∃ x, x = (w25.setCell ⟨go18, (x6_1 : Int).toNat * 7 + 4, none⟩ (.int .i64 t187)) := ⟨_, rfl⟩
   have n0_ : Aside0 (Kd.R k88 88 w27 w.heap.size (fun _ => True) (.slice (some ⟨go18, 0, none⟩) x185002_1.length co24) y188) := by rw [e_]; exact ⟨zr HQ26⟩
   have n1_ : Aside0 (w27.heap[gb175]? = some (.cells #[.int .i64 a0_0, .int .i64 a0_1, .slice A0_2 l0_2.length c0_2, .int .i64 a0_3, .int .i64 a0_4] 34 (0, 0))) := by rw [e_]; exact ⟨by (with_reducible repeat (first | refine blk_drewN ?_ _ | refine blk_drew ?_ | refine blk_alloc ?_ _)); refine blk_far ?_ (by have h_ := Kd.R_ne HO_185002.out BK175.out (by decide); intro e_; exact h_ (by rw [e_]; rfl)) _; (with_reducible repeat (first | refine blk_drewN ?_ _ | refine blk_drew ?_ | refine blk_alloc ?_ _)); exact BK175.out⟩
   have n2_ : Aside0 (w27.heap[gb176]? = some (.cells #[.int .i64 0, .int .i64 0, .slice none 0 0, .int .i64 0, .int .i64 0] 34 (0, 0))) := by rw [e_]; exact ⟨by (with_reducible repeat (first | refine blk_drewN ?_ _ | refine blk_drew ?_ | refine blk_alloc ?_ _)); refine blk_far ?_ (by have h_ := Kd.R_ne HO_185002.out BK176.out (by decide); intro e_; exact h_ (by rw [e_]; rfl)) _; (with_reducible repeat (first | refine blk_drewN ?_ _ | refine blk_drew ?_ | refine blk_alloc ?_ _)); exact BK176.out⟩
   have n3_ : Aside0 (w27.heap[gb184]? = some (.cells #[.int .i64 t177, .int .i64 t178, .slice (some ⟨go18, 0, none⟩) x185002_1.length co24, .int .i64 x185003_1, .int .i64 x185004_1] 34 (0, 0))) := by rw [e_]; exact ⟨by (with_reducible repeat (first | refine blk_drewN ?_ _ | refine blk_drew ?_ | refine blk_alloc ?_ _)); refine blk_far ?_ (by have h_ := Kd.R_ne HO_185002.out BK184.out (by decide); intro e_; exact h_ (by rw [e_]; rfl)) _; (with_reducible repeat (first | refine blk_drewN ?_ _ | refine blk_drew ?_ | refine blk_alloc ?_ _)); exact BK184.out⟩
   have n4_ : Aside0 (Below w.heap.size w w27) := by rw [e_]; exact ⟨by repeat (first | (with_reducible first | exact HB.out | apply below_alloc | apply pw_below_drewN | apply below_drew1 | refine below_set ?_ GB18.out | refine below_set ?_ GE175.out | refine below_set ?_ GE176.out | refine below_set ?_ GE184.out) | exact HB.out)⟩
   (try clear HO_185002)
   (try clear BK175)
   (try clear BK176)
   (try clear BK184)
   (try clear HB)
   rw [← e_]; clear e_
   have HO_185002 := n0_
   have BK175 := n1_
   have BK176 := n2_
   have BK184 := n3_
   have HB := n4_
   clear n0_ n1_ n2_ n3_ n4_
   (try (rw [drewN_self w27]; generalize hq_ : World.drewN w27 _ = w27; replace HO_185002 : Aside0 (Kd.R k88 88 w27 w.heap.size (fun _ => True) (.slice (some ⟨go18, 0, none⟩) x185002_1.length co24) y188) := ⟨by rw [← hq_]; exact (zr HO_185002)⟩; replace BK175 : Aside0 (w27.heap[gb175]? = some (.cells #[.int .i64 a0_0, .int .i64 a0_1, .slice A0_2 l0_2.length c0_2, .int .i64 a0_3, .int .i64 a0_4] 34 (0, 0))) := ⟨by rw [← hq_]; exact (zh BK175)⟩; replace BK176 : Aside0 (w27.heap[gb176]? = some (.cells #[.int .i64 0, .int .i64 0, .slice none 0 0, .int .i64 0, .int .i64 0] 34 (0, 0))) := ⟨by rw [← hq_]; exact (zh BK176)⟩; replace BK184 : Aside0 (w27.heap[gb184]? = some (.cells #[.int .i64 t177, .int .i64 t178, .slice (some ⟨go18, 0, none⟩) x185002_1.length co24, .int .i64 x185003_1, .int .i64 x185004_1] 34 (0, 0))) := ⟨by rw [← hq_]; exact (zh BK184)⟩; replace HB : Aside0 (Below w.heap.size w w27) := ⟨by rw [← hq_]; exact (zs3 HB GE175 GE176 GE184)⟩; clear hq_))
   replace HO_185002 := zA (Kd.R_drew HO_185002.out)
   replace BK175 := zA (blk_drew BK175.out)
   replace BK176 := zA (blk_drew BK176.out)
   replace BK184 := zA (blk_drew BK184.out)
   replace HB := zA (below_drew1 HB.out)
   have p189 : 0 ≤ (x6_1 : Int) := za
   have q189 : x6_1 < (y188.length : Int) := (by have h_ : (x6_1 : Int) < ((x185002_1.length : Int) : Int) := za; first | (have e_ := (Kd.R_reads' HO_185002.out).1; omega) | simpa only [Ny188.out, List.length_set] using h_)
   have ql189 : ((x6_1 : Int) < ((x185002_1.length : Int) : Int)) = True := eq_true (za)
   obtain ⟨ad189, e189, hx189_0, hx189_1, hx189_2, hx189_3, hx189_4, hx189_5, hx189_6⟩ := at_T88 (Kd.R_reads' HO_185002.out).2.2 x6_1 p189 q189
   obtain rfl : (⟨go18, 0, none⟩ : Addr) = ad189 := (by injection e189)
   (first | simp only [add_plain] at hx189_0 | simp only [add_at] at hx189_0 | simp only [Addr.add, Nat.zero_add] at hx189_0 | skip)
   (first | simp only [add_plain] at hx189_1 | simp only [add_at] at hx189_1 | simp only [Addr.add, Nat.zero_add] at hx189_1 | skip)
   (first | simp only [add_plain] at hx189_2 | simp only [add_at] at hx189_2 | simp only [Addr.add, Nat.zero_add] at hx189_2 | skip)
   (first | simp only [add_plain] at hx189_3 | simp only [add_at] at hx189_3 | simp only [Addr.add, Nat.zero_add] at hx189_3 | skip)
   (first | simp only [add_plain] at hx189_4 | simp only [add_at] at hx189_4 | simp only [Addr.add, Nat.zero_add] at hx189_4 | skip)
   (first | simp only [add_plain] at hx189_5 | simp only [add_at] at hx189_5 | simp only [Addr.add, Nat.zero_add] at hx189_5 | skip)
   (first | simp only [add_plain] at hx189_6 | simp only [add_at] at hx189_6 | simp only [Addr.add, Nat.zero_add] at hx189_6 | skip)
   replace p189 := eq_true p189
   replace q189 := eq_true q189
   have p190 : 0 ≤ (x6_1 : Int) := za
   have q190 : x6_1 < (l1.length : Int) := za
   obtain ⟨ad190, e190, hx190_0⟩ := Kd.at_int HR1.out x6_1 p190 q190
   have hw190_0 := hx190_0
   obtain rfl : ad186 = ad190 := (by injection e190)
   replace hx190_0 := zx HB hx190_0
   replace p190 := eq_true p190
   replace q190 := eq_true q190
   refine start_ (n := 17) (S := fun w' => w'.cell? ⟨gb184, 0, none⟩ = some (.int .i64 t177) ∧ w'.cell? ⟨gb184, 1, none⟩ = some (.int .i64 t178) ∧ w'.cell? ⟨gb184, 2, none⟩ = some (.slice (some ⟨go18, 0, none⟩) x185002_1.length co24) ∧ w'.cell? ⟨gb184, 3, none⟩ = some (.int .i64 x185003_1) ∧ w'.cell? ⟨gb184, 4, none⟩ = some (.int .i64 x185004_1) ∧ w'.cell? ⟨go18, (x6_1).toNat * 7, none⟩ = some (.int .i64 ((rd_T88 y188 x6_1).f0)) ∧ w'.cell? ⟨go18, (x6_1).toNat * 7 + 1, none⟩ = some (.int .i64 ((rd_T88 y188 x6_1).f1)) ∧ w'.cell? ⟨go18, (x6_1).toNat * 7 + 2, none⟩ = some (.int .i64 ((rd_T88 y188 x6_1).f2)) ∧ w'.cell? ⟨go18, (x6_1).toNat * 7 + 3, none⟩ = some (.int .i64 ((rd_T88 y188 x6_1).f3)) ∧ w'.cell? ⟨go18, (x6_1).toNat * 7 + 4, none⟩ = some (.int .i64 ((rd_T88 y188 x6_1).f4)) ∧ w'.cell? ⟨go18, (x6_1).toNat * 7 + 5, none⟩ = some (.int .i64 ((rd_T88 y188 x6_1).f5)) ∧ w'.cell? ⟨go18, (x6_1).toNat * 7 + 6, none⟩ = some (.bool ((rd_T88 y188 x6_1).f6)) ∧ w'.cell? (ad186.add (x6_1).toNat) = some (.int .i64 (rd l1 x6_1))) (ds := [16]) #[F,F,F,F,F,F,F,F,F,F,F,F,F,F,F,F,F] (by kernel_rfl) rfl rfl ⟨zc0 BK184, zc1 BK184, zc2 BK184, zc3 BK184, zc4 BK184, hx189_0, hx189_1, hx189_2, hx189_3, hx189_4, hx189_5, hx189_6, (zw HB hw190_0)⟩ (fun hHeld => ?_); refine with_tabW spec_l26Held.tab7 spec_l26Held.bits7 (fun HT_ HW_ => ?_)
   generalize w27.drew = w28 at HO_185002 BK175 BK176 BK184 HB HQ26 hx189_0 hx189_1 hx189_2 hx189_3 hx189_4 hx189_5 hx189_6 hx190_0 hHeld ⊢
   refine zq HT_ 0 ?_
   refine zq HT_ 2 ?_
   refine zq HT_ 3 ?_
   refine zq HT_ 5 ?_
   refine zq HT_ 9 ?_
   refine zq HT_ 10 ?_
   refine zq HT_ 11 ?_
   refine zk13 HT_ HW_ hHeld 1 ?_
   refine zk13 HT_ HW_ hHeld 4 ?_
   refine zq HT_ 6 ?_
   refine zq HT_ 7 ?_
   refine zk13 HT_ HW_ hHeld 8 ?_
   refine zk13 HT_ HW_ hHeld 12 ?_
   refine zo HT_ 13 (fun K hK => ?_)
   refine zgo Try.func53 #[.int .i64 ((rd_T88 y188 x6_1).f5), .int .i64 (rd l1 x6_1)] ?_
   with_reducible refine (spec_l21Min.calls ((rd_T88 y188 x6_1).f5) (rd l1 x6_1) t191 _ A19.out).mono ?_
   rintro e w' ⟨rfl, ⟨nd, rfl⟩⟩
   refine ⟨_, rfl, ?_⟩
   have p20 : 0 ≤ (x6_1 : Int) := za
   have q20 : (x6_1 : Int) < ((x185002_1.length : Int) : Int) := za
   obtain ⟨ce20, hcl20, hM20, hcc20, hfr20⟩ := Kd.R_elem HO_185002.out z88 (x6_1 : Int) p20 q20
   obtain rfl := k88_openM hM20
   have hx20_0 : World.cell? _ ⟨go18, (x6_1 : Int).toNat * 7, none⟩ = some (.int .i64 ((rd_T88 y188 x6_1).f0)) := hcc20 0 _ rfl
   have hx20_1 : World.cell? _ ⟨go18, (x6_1 : Int).toNat * 7 + 1, none⟩ = some (.int .i64 ((rd_T88 y188 x6_1).f1)) := hcc20 1 _ rfl
   have hx20_2 : World.cell? _ ⟨go18, (x6_1 : Int).toNat * 7 + 2, none⟩ = some (.int .i64 ((rd_T88 y188 x6_1).f2)) := hcc20 2 _ rfl
   have hx20_3 : World.cell? _ ⟨go18, (x6_1 : Int).toNat * 7 + 3, none⟩ = some (.int .i64 ((rd_T88 y188 x6_1).f3)) := hcc20 3 _ rfl
   have hx20_4 : World.cell? _ ⟨go18, (x6_1 : Int).toNat * 7 + 4, none⟩ = some (.int .i64 ((rd_T88 y188 x6_1).f4)) := hcc20 4 _ rfl
   have hx20_5 : World.cell? _ ⟨go18, (x6_1 : Int).toNat * 7 + 5, none⟩ = some (.int .i64 ((rd_T88 y188 x6_1).f5)) := hcc20 5 _ rfl
   have hx20_6 : World.cell? _ ⟨go18, (x6_1 : Int).toNat * 7 + 6, none⟩ = some (.bool ((rd_T88 y188 x6_1).f6)) := hcc20 6 _ rfl
   have hf20_0 : World.frozen? _ ⟨go18, (x6_1 : Int).toNat * 7, none⟩ = false := hfr20 0
   have hf20_1 : World.frozen? _ ⟨go18, (x6_1 : Int).toNat * 7 + 1, none⟩ = false := hfr20 1
   have hf20_2 : World.frozen? _ ⟨go18, (x6_1 : Int).toNat * 7 + 2, none⟩ = false := hfr20 2
   have hf20_3 : World.frozen? _ ⟨go18, (x6_1 : Int).toNat * 7 + 3, none⟩ = false := hfr20 3
   have hf20_4 : World.frozen? _ ⟨go18, (x6_1 : Int).toNat * 7 + 4, none⟩ = false := hfr20 4
   have hf20_5 : World.frozen? _ ⟨go18, (x6_1 : Int).toNat * 7 + 5, none⟩ = false := hfr20 5
   have hf20_6 : World.frozen? _ ⟨go18, (x6_1 : Int).toNat * 7 + 6, none⟩ = false := hfr20 6
   clear hcl20 hcc20 hfr20 hM20
   replace p20 := eq_true p20
   replace q20 := eq_true q20
   obtain ⟨ce29, hcl29, hM29, hcc29, hfr29⟩ := Kd.R_elem HO_185002.out z88 (x6_1 : Int) (za) (by have h_ : (x6_1 : Int) < ((x185002_1.length : Int) : Int) := za; first | exact h_ | (have e_ := (Kd.R_reads' HO_185002.out).1; omega) | simpa using h_)
   obtain rfl := k88_openM hM29
   have HP29 := (Kd.R_seg HO_185002.out (x6_1 : Int) (za) (by have h_ : (x6_1 : Int) < ((x185002_1.length : Int) : Int) := za; first | exact h_ | (have e_ := (Kd.R_reads' HO_185002.out).1; omega) | simpa using h_) (seg := [.int .i64 t191]) (j := 5) hcl29 hcc29 (show 6 ≤ 7 from by decide) (x' := (⟨(rd_T88 y188 x6_1).f0, (rd_T88 y188 x6_1).f1, (rd_T88 y188 x6_1).f2, (rd_T88 y188 x6_1).f3, (rd_T88 y188 x6_1).f4, t191, (rd_T88 y188 x6_1).f6⟩ : S88)) (k88_mkM _ _ _ (⟨(rd_T88 y188 x6_1).f0, (rd_T88 y188 x6_1).f1, (rd_T88 y188 x6_1).f2, (rd_T88 y188 x6_1).f3, (rd_T88 y188 x6_1).f4, t191, (rd_T88 y188 x6_1).f6⟩ : S88) ) (fun _ hk => hk)).1
   rw [← Ny192.out] at HP29
   have HQ29 := zA HP29
   clear hcl29 hcc29 hfr29 hM29 HP29
   refine hK.out _ _ ⟨zc0 BK184, zc1 BK184, zc2 BK184, zc3 BK184, zc4 BK184, hHeld.2.2.2.2.2.1, hHeld.2.2.2.2.2.2.1, hHeld.2.2.2.2.2.2.2.1, hHeld.2.2.2.2.2.2.2.2.1, hHeld.2.2.2.2.2.2.2.2.2.1, hHeld.2.2.2.2.2.2.2.2.2.2.1, hHeld.2.2.2.2.2.2.2.2.2.2.2.1, (zw HB hw190_0)⟩ (fun hHeld => ?_)
   clear hK K
   refine zN ?_
   refine zq HT_ 14 ?_
   refine zq HT_ 15 ?_
   refine zO HT_ 16 (fun K hK => ?_)
   refine skip_ (w1 := ?_) (by rfl) rfl ?_ ?_
   rotate_left
   ·go_simp
    rfl
   refine hK.out _ _ ?_
   clear hK K
   refine done_ (done_of HT_.out (by kernel_rfl)) ?_
   try go_wp2
   go_roundg k1
   case measure => have := HK1.out; omega
   case rel => exact ⟨(wrap64 (x6_1 + 1)), (y192), (x185003_1), (x185004_1), (.slice (some ⟨go18, 0, none⟩) x185002_1.length co24), zi, H', ⟨by have := HK1.out; omega⟩, ⟨zr HQ29⟩, ⟨by (with_reducible repeat (first | refine blk_drewN ?_ _ | refine blk_drew ?_ | refine blk_alloc ?_ _)); refine blk_far ?_ (by have h_ := Kd.R_ne HO_185002.out BK175.out (by decide); intro e_; exact h_ (by rw [e_]; rfl)) _; (with_reducible repeat (first | refine blk_drewN ?_ _ | refine blk_drew ?_ | refine blk_alloc ?_ _)); exact BK175.out⟩, ⟨by (with_reducible repeat (first | refine blk_drewN ?_ _ | refine blk_drew ?_ | refine blk_alloc ?_ _)); refine blk_far ?_ (by have h_ := Kd.R_ne HO_185002.out BK176.out (by decide); intro e_; exact h_ (by rw [e_]; rfl)) _; (with_reducible repeat (first | refine blk_drewN ?_ _ | refine blk_drew ?_ | refine blk_alloc ?_ _)); exact BK176.out⟩, ⟨by (with_reducible repeat (first | refine blk_drewN ?_ _ | refine blk_drew ?_ | refine blk_alloc ?_ _)); refine blk_far ?_ (by have h_ := Kd.R_ne HO_185002.out BK184.out (by decide); intro e_; exact h_ (by rw [e_]; rfl)) _; (with_reducible repeat (first | refine blk_drewN ?_ _ | refine blk_drew ?_ | refine blk_alloc ?_ _)); exact BK184.out⟩, ⟨by repeat (first | (with_reducible first | exact HB.out | apply below_alloc | apply pw_below_drewN | apply below_drew1 | refine below_set ?_ GB18.out | refine below_set ?_ GE175.out | refine below_set ?_ GE176.out | refine below_set ?_ GE184.out) | exact HB.out)⟩⟩
end Go.Proofs.Ytidenmcoilmbcaa.QFnExactFlyGo
