/- The walk of what the law FnExactFlySeen reaches: laid by a program of this session (ownprint.py). -/
import Derived.Test.YtidenmcoilmbcaaQFnExactFlySeenx0
import Derived.Test.YtidenmcoilmbcaaQFnExactFlySeenx6
import Derived.Test.YtidenmcoilmbcaaQFnExactFlySeenx7
namespace Go.Proofs.Ytidenmcoilmbcaa.QFnExactFlySeen
open Go.RowKit Go.Proofs.YtidenmcoilmbcaaW.PrintWords Go.Proofs.YtidenmcoilmbcaaW.PrintLast Go.Proofs.YtidenmcoilmbcaaW.PrintMore Go.Proofs.Ytidenmcoilmbcaa.Z
attribute [local go_sem] max2_int min2_int max_two min_two max_three min_three max_four min_four zdn   -- for this text's walks alone
set_option linter.unusedVariables false
set_option linter.unusedSimpArgs false
def spec_l27Tail.f (a0_0 : Int) (a0_1 : Int) (l0_2 : List (S88)) (a0_3 : Int) (a0_4 : Int) (a1 : Int) : Option (Int × Int × (List (S88)) × Int × Int) := (some (([] : List (S88)) : List (S88))).bind fun y225 => (if 0 ≤ a1 then (if a1 ≤ (l0_2.length : Int) then ((some (l0_2.drop (a1 : Int).toNat : List (S88))).bind fun y228 => (if y225.length + y228.length < 2513169434916 then (some (a0_0, a0_1, (y225 ++ y228), a0_3, a0_4)) else (none))) else (none)) else (none))
def spec_l27Tail.T1 : Bool × List (List Nat × List Nat) := (true, [([], []), ([0], [0]), ([], []), ([], []), ([3], [3]), ([], []), ([4, 5], [4, 5]), ([2, 6], [2, 6]), ([], []), ([8], [8]), ([], []), ([10], [10]), ([1, 7, 9, 11], [1, 7, 9, 11]), ([12, 7, 0, 1, 2, 3, 4, 5, 6, 7, 8, 9, 10, 11, 12], [12])])
def spec_l27Tail.B1 : List Nat := [0, 1, 0, 0, 8, 0, 56, 124, 0, 256, 0, 1024, 4095, 8191]
theorem spec_l27Tail.tab1 : rtab .any (opsOf Try.f85 1) = spec_l27Tail.T1 := by kernel_rfl
theorem spec_l27Tail.bits1 : waitsOk spec_l27Tail.T1.2 spec_l27Tail.B1 = true := by kernel_rfl
set_option maxHeartbeats 8000000 in
set_option maxRecDepth 100000 in
theorem spec_l27Tail.calls (a0_0 : Int) (a0_1 : Int) (A0_2 : Option Addr) (c0_2 : Nat) (l0_2 : List (S88)) (a0_3 : Int) (a0_4 : Int) (a1 : Int) (r1 : Int) (r2 : Int) (r3 : List (S88)) (r4 : Int) (r5 : Int) (w : World) (hr0_2 : Kd.C k88 w A0_2 l0_2.length l0_2) (hc0_2 : l0_2.length ≤ c0_2) (h : spec_l27Tail.f a0_0 a0_1 l0_2 a0_3 a0_4 a1 = some (r1, r2, r3, r4, r5)) :
 Calls Try.prog 85 #[.agg #[.int .i64 a0_0, .int .i64 a0_1, .slice A0_2 l0_2.length c0_2, .int .i64 a0_3, .int .i64 a0_4], .int .i64 a1] w fun e w' => ∃ v2_ : Value, e = .returned (.agg #[.int .i64 r1, .int .i64 r2, v2_, .int .i64 r4, .int .i64 r5]) ∧ Kd.R k88 88 w' w.heap.size (fun _ => True) v2_ r3 ∧ Below w.heap.size w w' := by
 have hu34 := Try.underlying34
 have hu31 := Try.underlying31
 have HR0_2 := zA hr0_2
 have HC0_2 := zA hc0_2
 clear hr0_2 hc0_2
 have HB := zA (Below.refl w.heap.size w)
 have H : ((some (([] : List (S88)) : List (S88))).bind fun y225 => (if 0 ≤ a1 then (if a1 ≤ (l0_2.length : Int) then ((some (l0_2.drop (a1 : Int).toNat : List (S88))).bind fun y228 => (if y225.length + y228.length < 2513169434916 then (some (a0_0, a0_1, (y225 ++ y228), a0_3, a0_4)) else (none))) else (none)) else (none))) = some (r1, r2, r3, r4, r5) := h
 clear h
 obtain ⟨y225, hy225⟩ : ∃ y_ : List (S88), y_ = (([] : List (S88))) := ⟨_, rfl⟩
 replace H : (if 0 ≤ a1 then (if a1 ≤ (l0_2.length : Int) then ((some (l0_2.drop (a1 : Int).toNat : List (S88))).bind fun y228 => (if y225.length + y228.length < 2513169434916 then (some (a0_0, a0_1, (y225 ++ y228), a0_3, a0_4)) else (none))) else (none)) else (none)) = some (r1, r2, r3, r4, r5) := by first | (rw [hy225]; with_reducible exact H) | (have H2_ := (Option.bind_some _ _).symm.trans H; rw [hy225]; with_reducible exact H2_) | (have H2_ := (Option.bind_some _ _).symm.trans H; with_reducible exact H2_) | with_reducible exact H | (rw [hy225]; exact H) | exact H
 have Ny225 := zA hy225
 clear hy225
 by_cases c3 : 0 ≤ a1
 rotate_left
 ·rw [if_neg c3] at H
  exact absurd H (by simp)
 rw [if_pos c3] at H
 have c3b0 := eq_true c3
 have c3b1 : decide (0 ≤ a1) = true := decide_eq_true c3
 clear c3
 by_cases c4 : a1 ≤ (l0_2.length : Int)
 rotate_left
 ·rw [if_neg c4] at H
  exact absurd H (by simp)
 rw [if_pos c4] at H
 have c4b0 := eq_true c4
 have c4b1 : decide (a1 ≤ (l0_2.length : Int)) = true := decide_eq_true c4
 clear c4
 obtain ⟨y228, hy228⟩ : ∃ y_ : List (S88), y_ = (l0_2.drop (a1 : Int).toNat) := ⟨_, rfl⟩
 replace H : (if y225.length + y228.length < 2513169434916 then (some (a0_0, a0_1, (y225 ++ y228), a0_3, a0_4)) else (none)) = some (r1, r2, r3, r4, r5) := by first | (rw [hy228]; with_reducible exact H) | (have H2_ := (Option.bind_some _ _).symm.trans H; rw [hy228]; with_reducible exact H2_) | (have H2_ := (Option.bind_some _ _).symm.trans H; with_reducible exact H2_) | with_reducible exact H | (rw [hy228]; exact H) | exact H
 have Ny228 := zA hy228
 clear hy228
 by_cases c5 : y225.length + y228.length < 2513169434916
 rotate_left
 ·rw [if_neg c5] at H
  exact absurd H (by simp)
 rw [if_pos c5] at H
 have LMc5 := zA c5
 clear c5
 obtain ⟨y232, hy232⟩ : ∃ y_ : List (S88), y_ = (y225 ++ y228) := ⟨_, rfl⟩
 replace H : (some (a0_0, a0_1, y232, a0_3, a0_4)) = some (r1, r2, r3, r4, r5) := by first | (rw [hy232]; with_reducible exact H) | (have H2_ := (Option.bind_some _ _).symm.trans H; rw [hy232]; with_reducible exact H2_) | (have H2_ := (Option.bind_some _ _).symm.trans H; with_reducible exact H2_) | with_reducible exact H | (rw [hy232]; exact H) | exact H
 have Ny232 := zA hy232
 clear hy232
 simp only [Option.some.injEq, Prod.mk.injEq] at H
 obtain ⟨rfl, rfl, rfl, rfl, rfl⟩ := H
 go_enter Try.func85, Try.ntmps85
 try go_wp2_with (first | ((with_reducible refine gate_dst (N := 2) rfl ?_); refine zbx 2 #[.int .i64 a0_0, .int .i64 a0_1, .slice A0_2 l0_2.length c0_2, .int .i64 a0_3, .int .i64 a0_4] 34 ?_; intro gb223 hg w6 hbox hb; have BK223 := zA hbox; have GW223 := zgs hg (zs0 HB); have GE223 := zgs hg (zs0 HB); replace HB := zE (zs0 HB) hb; clear hb hbox hg) | ((with_reducible refine gate_dst (N := 4) rfl ?_); refine zbx 4 #[.int .i64 0, .int .i64 0, .slice none 0 0, .int .i64 0, .int .i64 0] 34 ?_; intro gb224 hg w7 hbox hb; have BK224 := zA hbox; have GW224 := zgs hg (zs1 HB GE223); have GE224 := zgs hg (zs1 HB GE223); have NB223_224 := zne hg BK223; have NB224_223 := znf hg BK223; replace BK223 := zb BK223 hb; replace HB := zE (zs1 HB GE223) hb; clear hb hbox hg))
 replace BK223 := zA (blk_drew BK223.out)
 replace BK224 := zA (blk_drew BK224.out)
 replace HB := zA (below_drew1 HB.out)
 have q9 : (a1 : Int) ≤ ((l0_2.length : Int) : Int) := za
 obtain ⟨i09, hi09, _, hsz9, _⟩ := info_parts info88
 have hroom9 : l0_2.length ≤ c0_2 := HC0_2.out
 have hC9 : Kd.C k88 _ A0_2 l0_2.length l0_2 := HR0_2.out
 have q09 : (0 : Int) ≤ (a1 : Int) := za
 have hcut9 := cut_from (P := Try.prog) 32 88 .i64 Try.underlying32 hi09 7 hsz9 A0_2 l0_2.length c0_2 a1 q09 q9
 have hr9 := Kd.C_drop (m := (a1 : Int).toNat) (c := c0_2) hC9 (by omega) hroom9
 obtain ⟨A9, hA9⟩ : ∃ A1, A1 = (if c0_2 = (a1 : Int).toNat then A0_2 else (A0_2 : Option Addr).map (·.add ((a1 : Int).toNat * 7))) := ⟨_, rfl⟩
 obtain ⟨c9, hc9⟩ : ∃ c1, c1 = c0_2 - (a1 : Int).toNat := ⟨_, rfl⟩
 have hy9 : y228.length = l0_2.length - (a1 : Int).toNat := (by rw [Ny228.out, List.length_drop] <;> omega)
 rw [show (l0_2).drop (a1 : Int).toNat = y228 from Ny228.out.symm] at hr9
 replace hr9 : Kd.C k88 _ A9 y228.length y228 := (by rw [hA9]; exact hr9)
 rw [← hy9, ← hA9, ← hc9] at hcut9
 have HR231 := zA hr9
 have HC231 := zA (show y228.length ≤ c9 from by rw [hy9, hc9]; exact Nat.sub_le_sub_right hroom9 _)
 clear hr9 hC9 hroom9 hi09 hsz9 hc9
 have KY9 := zA hy9
 have KA9 := zA hA9
 clear hy9 hA9
 replace q9 := eq_true q9
 refine start_ (n := 14) (S := fun w' => w'.cell? ⟨gb223, 0, none⟩ = some (.int .i64 a0_0) ∧ w'.cell? ⟨gb223, 1, none⟩ = some (.int .i64 a0_1) ∧ w'.cell? ⟨gb223, 2, none⟩ = some (.slice A0_2 l0_2.length c0_2) ∧ w'.cell? ⟨gb223, 3, none⟩ = some (.int .i64 a0_3) ∧ w'.cell? ⟨gb223, 4, none⟩ = some (.int .i64 a0_4)) (ds := []) #[F,F,F,F,F,F,F,F,F,F,F,F,F,F] (by kernel_rfl) rfl rfl ⟨zc0 BK223, zc1 BK223, zc2 BK223, zc3 BK223, zc4 BK223⟩ (fun hHeld => ?_); refine with_tabW spec_l27Tail.tab1 spec_l27Tail.bits1 (fun HT_ HW_ => ?_)
 generalize w7.drew = w8 at BK223 BK224 HB HR231 hHeld ⊢
 refine zq HT_ 0 ?_
 refine zq HT_ 3 ?_
 refine zq HT_ 5 ?_
 refine zq HT_ 8 ?_
 refine zq HT_ 10 ?_
 refine zk5 HT_ HW_ hHeld 1 ?_
 refine zk5 HT_ HW_ hHeld 4 ?_
 refine zq HT_ 6 ?_
 refine zk5 HT_ HW_ hHeld 9 ?_
 refine zk5 HT_ HW_ hHeld 11 ?_
 refine zo HT_ 2 (fun K hK => ?_)
 refine Kd.R_lit_step k88 _ 88 ?hg (N := 7) ?hd (xs := ([] : List (S88))) (inner := []) (ok := fun _ => True) (okp := fun _ => True) ?hr ?hp (fun _ hk => hk) trivial (Below.refl _ _) (Nat.le_refl _) (by simp) ?_; (case hd => rfl); (case hg => rfl); (case hr => first | (go_simp; done) | (go_simp; rfl)); (case hp => exact (Reps.none _ _))
 intro v226 w10 ho11 hb hg_ hnew_
 clear hg_ hnew_
 (first | rw [← Ny225.out] at ho11 | (simp only [Int.reduceToNat] at ho11; rw [← Ny225.out] at ho11))
 have HO227 := zA (Kd.R_lower ho11 (below_size (zs2 HB GE223 GE224)))
 replace BK223 := zb BK223 hb
 replace BK224 := zb BK224 hb
 replace HB := zE (zs2 HB GE223 GE224) hb
 clear hb ho11
 refine hK.out _ _ ⟨zc0 BK223, zc1 BK223, zc2 BK223, zc3 BK223, zc4 BK223⟩ (fun hHeld => ?_)
 clear hK K
 refine zN ?_
 refine zo HT_ 7 (fun K hK => ?_)
 refine Kd.R_append_rows_step k88 (w0 := w) w.heap.size (by rfl) (.tmp 7) (.tmp 11) 32 88 (.agg #[(.int .i64 0), (.int .i64 0), (.int .i64 0), (.int .i64 0), (.int .i64 0), (.int .i64 0), (.bool false)]) 56 rfl Try.underlying32 info88 rfl (by decide) (by omega) v226 y225 y228 _ _ _ (fun _ => True) (fun _ => False) rfl rfl ?aO ?aR (fun _ _ h => h) (fun _ h => h.elim) ?aF ?aB ?aS ?aL ?_
 (case aR => repeat (first | exact (Kd.C_below HR231.out HB.out) | (with_reducible refine Kd.C_alloc ?_ _) | (with_reducible refine Kd.C_drewN ?_ _) | (with_reducible refine Kd.C_drew ?_)))
 (case aB => exact (zs2 HB GE223 GE224))
 (case aF => exact (fun _ _ => trivial))
 (case aO => exact (zr HO227))
 (case aS => exact (below_size (zs2 HB GE223 GE224)))
 (case aL => have := LMc5.out; omega)
 intro v233 w12 ho hb hg hat
 rw [← Ny232.out] at ho
 have HO234 := zA (ho)
 replace BK223 := zA (blk_grown (g := gb223) (o := .cells #[.int .i64 a0_0, .int .i64 a0_1, .slice A0_2 l0_2.length c0_2, .int .i64 a0_3, .int .i64 a0_4] 34 (0, 0)) (zh BK223) hg (Kd.R_ne HO227.out BK223.out (by decide)))
 replace BK224 := zA (blk_grown (g := gb224) (o := .cells #[.int .i64 0, .int .i64 0, .slice none 0 0, .int .i64 0, .int .i64 0] 34 (0, 0)) (zh BK224) hg (Kd.R_ne HO227.out BK224.out (by decide)))
 replace HB := zA (hb)
 clear HO227
 clear ho hb hg hat
 obtain ⟨Ao13, co13, eo13⟩ := Kd.R_slice HO234.out
 (first | subst eo13 | (injection eo13 with f1_ f2_ f3_; have f4_ := f1_.symm; have f5_ := f3_.symm; clear f1_ f2_ f3_; subst f4_; subst f5_))
 refine hK.out _ _ ⟨zc0 BK223, zc1 BK223, zc2 BK223, zc3 BK223, zc4 BK223⟩ (fun hHeld => ?_)
 clear hK K
 refine zN ?_
 refine zq HT_ 12 ?_
 refine zo HT_ 13 (fun K hK => ?_)
 have hs14 : w12.cell? ⟨gb224, 0, none⟩ = some (.int .i64 0) := zc0 BK224
 have hfs14 := zf BK224 0
 have hns14_0 := NB223_224.out
 have hms14_0 := NB224_223.out
 have hs15 : w12.cell? ⟨gb224, 1, none⟩ = some (.int .i64 0) := zc1 BK224
 have hfs15 := zf BK224 1
 have hns15_0 := NB223_224.out
 have hms15_0 := NB224_223.out
 have hs16 : w12.cell? ⟨gb224, 2, none⟩ = some (.slice none 0 0) := zc2 BK224
 have hfs16 := zf BK224 2
 have hns16_0 := NB223_224.out
 have hms16_0 := NB224_223.out
 have hs17 : w12.cell? ⟨gb224, 3, none⟩ = some (.int .i64 0) := zc3 BK224
 have hfs17 := zf BK224 3
 have hns17_0 := NB223_224.out
 have hms17_0 := NB224_223.out
 have hs18 : w12.cell? ⟨gb224, 4, none⟩ = some (.int .i64 0) := zc4 BK224
 have hfs18 := zf BK224 4
 have hns18_0 := NB223_224.out
 have hms18_0 := NB224_223.out
 refine skip_ (w1 := ?_) (by rfl) rfl ?_ ?_
 rotate_left
 ·go_simp
  rfl
 refine hK.out _ _ (zcf hHeld NB223_224) (fun hHeld => ?_)
 clear hK K
 refine done_ (done_of HT_.out (by kernel_rfl)) ?_
 try go_wp2
 refine bodyPost_ret (results_cell_row rfl _ _ gb224 34 #[.int .i64 a0_0, .int .i64 a0_1, .slice Ao13 y232.length co13, .int .i64 a0_3, .int .i64 a0_4] (0, 0) _ rfl ?hz Try.underlying34 rfl (by kernel_rfl)) rfl ?_; (case hz => exact zpb BK224)
 exact ⟨_, ze, by (with_reducible repeat (first | apply Kd.R_alloc | apply Kd.R_drewN | apply Kd.R_drew)); exact Kd.R_mono (Kd.R_far (p := ⟨gb224, 4, none⟩) (Kd.R_far (p := ⟨gb224, 3, none⟩) (Kd.R_far (p := ⟨gb224, 2, none⟩) (Kd.R_far (p := ⟨gb224, 1, none⟩) (Kd.R_far (p := ⟨gb224, 0, none⟩) (Kd.R_types HO234.out BK224.out (by decide)) (fun _ hk => hk.2) (.int .i64 a0_0)) (fun _ hk => hk.2) (.int .i64 a0_1)) (fun _ hk => hk.2) (.slice Ao13 y232.length co13)) (fun _ hk => hk.2) (.int .i64 a0_3)) (fun _ hk => hk.2) (.int .i64 a0_4)) (fun _ hk => trivial), zs2 HB GE223 GE224⟩
def spec_l27Can.f (k : Nat) (a0_0 : Int) (a0_1 : Int) (l0_2 : List (S88)) (a0_3 : Int) (a0_4 : Int) : Option (Int × Int × (List (S88)) × Int × Int × Bool) := (spec_l24Spans.f k a0_0 a0_1 l0_2 a0_3 a0_4).bind fun bt237 => (if bt237.2 = true then (some (a0_0, a0_1, l0_2, a0_3, a0_4, true)) else (some (0, 0, ([] : List (S88)), 0, 0, false)))
set_option maxHeartbeats 8000000 in
set_option maxRecDepth 100000 in
theorem spec_l27Can.calls (k : Nat) (a0_0 : Int) (a0_1 : Int) (P0_2_ : Nat → Prop) (u9000_ : Value) (l0_2 : List (S88)) (a0_3 : Int) (a0_4 : Int) (r1 : Int) (r2 : Int) (r3 : List (S88)) (r4 : Int) (r5 : Int) (r6 : Bool) (w0 w : World) (hB : Below w0.heap.size w0 w) (ho0_2 : Kd.R k88 88 w w0.heap.size P0_2_ u9000_ l0_2) (h : spec_l27Can.f k a0_0 a0_1 l0_2 a0_3 a0_4 = some (r1, r2, r3, r4, r5, r6)) :
 Calls Try.prog 86 #[.agg #[.int .i64 a0_0, .int .i64 a0_1, u9000_, .int .i64 a0_3, .int .i64 a0_4]] w fun e w' => ∃ v2_ : Value, e = .returned (.tuple #[.agg #[.int .i64 r1, .int .i64 r2, v2_, .int .i64 r4, .int .i64 r5], .bool r6]) ∧ Kd.R k88 88 w' w0.heap.size (fun k_ => (P0_2_ k_ ∨ w.heap.size ≤ k_)) v2_ r3 ∧ Below w0.heap.size w0 w' ∧ Kept w w' (fun k_ => P0_2_ k_) := by
 have hu34 := Try.underlying34
 have HO0_2 := zA (show Kd.R k88 88 w w0.heap.size (fun k_ => (P0_2_ k_ ∨ w.heap.size ≤ k_)) u9000_ l0_2 from Kd.R_mono ho0_2 (fun k_ hk => (.inl hk)))
 have HK := zA (Kept.refl w (fun k_ => P0_2_ k_))
 have HW0 := zA hB.size
 have HB := zA hB
 clear hB
 have H : ((spec_l24Spans.f k a0_0 a0_1 l0_2 a0_3 a0_4).bind fun bt237 => (if bt237.2 = true then (some (a0_0, a0_1, l0_2, a0_3, a0_4, true)) else (some (0, 0, ([] : List (S88)), 0, 0, false)))) = some (r1, r2, r3, r4, r5, r6) := h
 clear h
 replace H := Option.bind_eq_some_iff.mp H
 obtain ⟨⟨t237, t240⟩, A20, H⟩ := H
 replace H : (if t240 = true then (some (a0_0, a0_1, l0_2, a0_3, a0_4, true)) else (some (0, 0, ([] : List (S88)), 0, 0, false))) = some (r1, r2, r3, r4, r5, r6) := H
 have A2 := zA A20
 clear A20
 by_cases c3 : t240 = true
 rotate_left
 ·replace c3 := Bool.eq_false_iff.mpr c3
  subst c3
  have H1 : (some (0, 0, ([] : List (S88)), 0, 0, false)) = some (r1, r2, r3, r4, r5, r6) := by rw [if_neg (show ¬ (false = true) by decide)] at H; exact H
  clear H
  have H := H1
  clear H1
  simp only [Option.some.injEq, Prod.mk.injEq] at H
  obtain ⟨rfl, rfl, rfl, rfl, rfl, rfl⟩ := H
  obtain ⟨Ao12, co12, eo12⟩ := Kd.R_slice HO0_2.out
  subst eo12
  go_enter Try.func86, Try.ntmps86
  go_wp2_with (first | ((with_reducible refine gate_dst (N := 1) rfl ?_); refine zbx 1 #[.int .i64 a0_0, .int .i64 a0_1, .slice Ao12 l0_2.length co12, .int .i64 a0_3, .int .i64 a0_4] 34 ?_; intro gb235 hg w13 hbox hb; have BK235 := zA hbox; have GW235 := zA ((by rw [hg]; exact (by first | exact HK.out.1 | exact (show Kept w _ (fun k_ => P0_2_ k_) from by repeat (first | (with_reducible first | exact HK.out | apply Kept.alloc | apply Kept.drewN | apply Kept.drew) | exact HK.out)).1) : w.heap.size ≤ gb235)); have GE235 := zA ((by rw [hg]; exact (below_size (zs0 HB)) : w0.heap.size ≤ gb235)); replace HO0_2 := zA (Kd.R_below (zr HO0_2) hb); replace HK := zA (Kept.below (S := (fun k_ => P0_2_ k_)) (by repeat (first | (with_reducible first | exact HK.out | apply Kept.alloc | apply Kept.drewN | apply Kept.drew) | exact HK.out)) hb); replace HB := zE (zs0 HB) hb; clear hb hbox hg) | ((with_reducible refine gate_dst (N := 2) rfl ?_); refine zbx 2 #[.int .i64 0, .int .i64 0, .slice none 0 0, .int .i64 0, .int .i64 0] 34 ?_; intro gb236 hg w14 hbox hb; have BK236 := zA hbox; have GW236 := zA ((by rw [hg]; exact (by first | exact HK.out.1 | exact (show Kept w _ (fun k_ => P0_2_ k_) from by repeat (first | (with_reducible first | exact HK.out | apply Kept.alloc | apply Kept.drewN | apply Kept.drew | refine Kept.setCell ?_ (.inr GW235.out) _) | exact HK.out)).1) : w.heap.size ≤ gb236)); have GE236 := zA ((by rw [hg]; exact (below_size (zs1 HB GE235)) : w0.heap.size ≤ gb236)); have NB235_236 := zne hg BK235; have NB236_235 := znf hg BK235; replace HO0_2 := zA (Kd.R_below (zr HO0_2) hb); replace BK235 := zb BK235 hb; replace HK := zA (Kept.below (S := (fun k_ => P0_2_ k_)) (by repeat (first | (with_reducible first | exact HK.out | apply Kept.alloc | apply Kept.drewN | apply Kept.drew | refine Kept.setCell ?_ (.inr GW235.out) _) | exact HK.out)) hb); replace HB := zE (zs1 HB GE235) hb; clear hb hbox hg; have hnb15 := NB235_236.out; have hnc15 := NB236_235.out; obtain ⟨hcz16_0, hcz16_1, hcz16_2, hcz16_3, hcz16_4⟩ := zd5 BK235; obtain ⟨hfz16_0, hfz16_1, hfz16_2, hfz16_3, hfz16_4⟩ := zn5 BK235) | ((with_reducible refine gate_callee (f := 65) rfl ?_); refine zgl Try.func65 #[.agg #[.int .i64 a0_0, .int .i64 a0_1, .slice Ao12 l0_2.length co12, .int .i64 a0_3, .int .i64 a0_4]] ?_; (with_reducible refine (spec_l24Spans.calls k a0_0 a0_1 _ _ l0_2 a0_3 a0_4 t237 false _ ?side1 ?side2 A2.out).mono ?_); (case side1 => repeat (first | exact (Kd.R_reads' HO0_2.out).2.2 | (with_reducible refine Kd.C_alloc ?_ _) | (with_reducible refine Kd.C_drewN ?_ _) | (with_reducible refine Kd.C_drew ?_))); (case side2 => exact (Kd.R_reads' HO0_2.out).2.1); rintro e w17 ⟨v238, rfl, ho0, hb⟩; refine ⟨_, rfl, ?_⟩; have HO239 := zA (Kd.R_lower (Kd.R_newM (M := fun k_ => (P0_2_ k_ ∨ w.heap.size ≤ k_)) ho0 (by first | exact HK.out.1 | exact (show Kept w _ (fun k_ => P0_2_ k_) from by repeat (first | (with_reducible first | exact HK.out | apply Kept.alloc | apply Kept.drewN | apply Kept.drew | refine Kept.setCell ?_ (.inr GW235.out) _ | refine Kept.setCell ?_ (.inr GW236.out) _) | exact HK.out)).1) (fun k_ h_ => .inr h_)) (below_size (zs2 HB GE235 GE236))); replace HO0_2 := zA (Kd.R_below (zr HO0_2) hb); replace BK235 := zb BK235 hb; replace BK236 := zb BK236 hb; replace HK := zA (Kept.below (S := (fun k_ => P0_2_ k_)) (by repeat (first | (with_reducible first | exact HK.out | apply Kept.alloc | apply Kept.drewN | apply Kept.drew | refine Kept.setCell ?_ (.inr GW235.out) _ | refine Kept.setCell ?_ (.inr GW236.out) _) | exact HK.out)) hb); replace HB := zE (zs2 HB GE235 GE236) hb; (try clear hb); (try clear hb2); (try clear hk); (try clear hi); (try clear ho0); obtain ⟨hcz18_0, hcz18_1, hcz18_2, hcz18_3, hcz18_4⟩ := zd5 BK236; obtain ⟨hfz18_0, hfz18_1, hfz18_2, hfz18_3, hfz18_4⟩ := zn5 BK236))
  refine bodyPost_ret (results_ct rfl _ _ gb236 34 #[.int .i64 0, .int .i64 0, .slice none 0 0, .int .i64 0, .int .i64 0] (0, 0) _ rfl ?hz Try.underlying34 rfl (by kernel_rfl)) rfl ?_; (case hz => exact zpb BK236)
  exact ⟨_, ze, by first | exact Kd.R_nil _ _ _ _ _ | exact Kd.N_nil _ _ _ _ _ | exact Kd.V_nil _ _ _ _ _ | exact Kd.Q_nil _ _ _ _ _ | exact Kd.S_nil _ _ _ _ _, zs2 HB GE235 GE236, by repeat (first | (with_reducible first | exact HK.out | apply Kept.alloc | apply Kept.drewN | apply Kept.drew | refine Kept.setCell ?_ (.inr GW235.out) _ | refine Kept.setCell ?_ (.inr GW236.out) _) | exact HK.out)⟩
 subst c3
 have H1 : (some (a0_0, a0_1, l0_2, a0_3, a0_4, true)) = some (r1, r2, r3, r4, r5, r6) := by rw [if_pos rfl] at H; exact H
 clear H
 have H := H1
 clear H1
 simp only [Option.some.injEq, Prod.mk.injEq] at H
 obtain ⟨rfl, rfl, rfl, rfl, rfl, rfl⟩ := H
 obtain ⟨Ao4, co4, eo4⟩ := Kd.R_slice HO0_2.out
 subst eo4
 go_enter Try.func86, Try.ntmps86
 go_wp2_with (first | ((with_reducible refine gate_dst (N := 1) rfl ?_); refine zbx 1 #[.int .i64 a0_0, .int .i64 a0_1, .slice Ao4 l0_2.length co4, .int .i64 a0_3, .int .i64 a0_4] 34 ?_; intro gb235 hg w5 hbox hb; have BK235 := zA hbox; have GW235 := zA ((by rw [hg]; exact (by first | exact HK.out.1 | exact (show Kept w _ (fun k_ => P0_2_ k_) from by repeat (first | (with_reducible first | exact HK.out | apply Kept.alloc | apply Kept.drewN | apply Kept.drew) | exact HK.out)).1) : w.heap.size ≤ gb235)); have GE235 := zA ((by rw [hg]; exact (below_size (zs0 HB)) : w0.heap.size ≤ gb235)); replace HO0_2 := zA (Kd.R_below (zr HO0_2) hb); replace HK := zA (Kept.below (S := (fun k_ => P0_2_ k_)) (by repeat (first | (with_reducible first | exact HK.out | apply Kept.alloc | apply Kept.drewN | apply Kept.drew) | exact HK.out)) hb); replace HB := zE (zs0 HB) hb; clear hb hbox hg) | ((with_reducible refine gate_dst (N := 2) rfl ?_); refine zbx 2 #[.int .i64 0, .int .i64 0, .slice none 0 0, .int .i64 0, .int .i64 0] 34 ?_; intro gb236 hg w6 hbox hb; have BK236 := zA hbox; have GW236 := zA ((by rw [hg]; exact (by first | exact HK.out.1 | exact (show Kept w _ (fun k_ => P0_2_ k_) from by repeat (first | (with_reducible first | exact HK.out | apply Kept.alloc | apply Kept.drewN | apply Kept.drew | refine Kept.setCell ?_ (.inr GW235.out) _) | exact HK.out)).1) : w.heap.size ≤ gb236)); have GE236 := zA ((by rw [hg]; exact (below_size (zs1 HB GE235)) : w0.heap.size ≤ gb236)); have NB235_236 := zne hg BK235; have NB236_235 := znf hg BK235; replace HO0_2 := zA (Kd.R_below (zr HO0_2) hb); replace BK235 := zb BK235 hb; replace HK := zA (Kept.below (S := (fun k_ => P0_2_ k_)) (by repeat (first | (with_reducible first | exact HK.out | apply Kept.alloc | apply Kept.drewN | apply Kept.drew | refine Kept.setCell ?_ (.inr GW235.out) _) | exact HK.out)) hb); replace HB := zE (zs1 HB GE235) hb; clear hb hbox hg; have hnb7 := NB235_236.out; have hnc7 := NB236_235.out; obtain ⟨hcz8_0, hcz8_1, hcz8_2, hcz8_3, hcz8_4⟩ := zd5 BK235; obtain ⟨hfz8_0, hfz8_1, hfz8_2, hfz8_3, hfz8_4⟩ := zn5 BK235) | ((with_reducible refine gate_callee (f := 65) rfl ?_); refine zgl Try.func65 #[.agg #[.int .i64 a0_0, .int .i64 a0_1, .slice Ao4 l0_2.length co4, .int .i64 a0_3, .int .i64 a0_4]] ?_; (with_reducible refine (spec_l24Spans.calls k a0_0 a0_1 _ _ l0_2 a0_3 a0_4 t237 true _ ?side1 ?side2 A2.out).mono ?_); (case side1 => repeat (first | exact (Kd.R_reads' HO0_2.out).2.2 | (with_reducible refine Kd.C_alloc ?_ _) | (with_reducible refine Kd.C_drewN ?_ _) | (with_reducible refine Kd.C_drew ?_))); (case side2 => exact (Kd.R_reads' HO0_2.out).2.1); rintro e w9 ⟨v238, rfl, ho0, hb⟩; refine ⟨_, rfl, ?_⟩; have HO239 := zA (Kd.R_lower (Kd.R_newM (M := fun k_ => (P0_2_ k_ ∨ w.heap.size ≤ k_)) ho0 (by first | exact HK.out.1 | exact (show Kept w _ (fun k_ => P0_2_ k_) from by repeat (first | (with_reducible first | exact HK.out | apply Kept.alloc | apply Kept.drewN | apply Kept.drew | refine Kept.setCell ?_ (.inr GW235.out) _ | refine Kept.setCell ?_ (.inr GW236.out) _) | exact HK.out)).1) (fun k_ h_ => .inr h_)) (below_size (zs2 HB GE235 GE236))); replace HO0_2 := zA (Kd.R_below (zr HO0_2) hb); replace BK235 := zb BK235 hb; replace BK236 := zb BK236 hb; replace HK := zA (Kept.below (S := (fun k_ => P0_2_ k_)) (by repeat (first | (with_reducible first | exact HK.out | apply Kept.alloc | apply Kept.drewN | apply Kept.drew | refine Kept.setCell ?_ (.inr GW235.out) _ | refine Kept.setCell ?_ (.inr GW236.out) _) | exact HK.out)) hb); replace HB := zE (zs2 HB GE235 GE236) hb; (try clear hb); (try clear hb2); (try clear hk); (try clear hi); (try clear ho0); obtain ⟨hcz10_0, hcz10_1, hcz10_2, hcz10_3, hcz10_4⟩ := zd5 BK235; obtain ⟨hfz10_0, hfz10_1, hfz10_2, hfz10_3, hfz10_4⟩ := zn5 BK235; obtain ⟨hcz11_0, hcz11_1, hcz11_2, hcz11_3, hcz11_4⟩ := zd5 BK236; obtain ⟨hfz11_0, hfz11_1, hfz11_2, hfz11_3, hfz11_4⟩ := zn5 BK236))
 refine bodyPost_ret (results_ct rfl _ _ gb236 34 #[.int .i64 a0_0, .int .i64 a0_1, .slice Ao4 l0_2.length co4, .int .i64 a0_3, .int .i64 a0_4] (0, 0) _ rfl ?hz Try.underlying34 rfl (by kernel_rfl)) rfl ?_; (case hz => exact zpb BK236)
 exact ⟨_, ze, by (with_reducible repeat (first | apply Kd.R_alloc | apply Kd.R_drewN | apply Kd.R_drew)); exact Kd.R_mono (Kd.R_far (p := ⟨gb236, 4, none⟩) (Kd.R_far (p := ⟨gb236, 3, none⟩) (Kd.R_far (p := ⟨gb236, 2, none⟩) (Kd.R_far (p := ⟨gb236, 1, none⟩) (Kd.R_far (p := ⟨gb236, 0, none⟩) (Kd.R_types HO0_2.out BK236.out (by decide)) (fun _ hk => hk.2) (.int .i64 a0_0)) (fun _ hk => hk.2) (.int .i64 a0_1)) (fun _ hk => hk.2) (.slice Ao4 l0_2.length co4)) (fun _ hk => hk.2) (.int .i64 a0_3)) (fun _ hk => hk.2) (.int .i64 a0_4)) (fun _ hk => hk.1), zs2 HB GE235 GE236, by repeat (first | (with_reducible first | exact HK.out | apply Kept.alloc | apply Kept.drewN | apply Kept.drew | refine Kept.setCell ?_ (.inr GW235.out) _ | refine Kept.setCell ?_ (.inr GW236.out) _) | exact HK.out)⟩
def spec_l27After.f (a0_0 : Int) (a0_1 : Int) (l0_2 : List (S88)) (a0_3 : Int) (a0_4 : Int) (a1 : Int) : Option (Int × Int × (List (S88)) × Int × Int) := if (l0_2.length : Int) > 1 then (if 1 < (l0_2.length : Int) then ((spec_l21Max.f ((rd_T88 l0_2 1).f4) (wrap64 (a1 + 1))).bind fun t244 => (some (a0_0, a0_1, (l0_2.set (1 : Int).toNat (⟨(rd_T88 l0_2 1).f0, (rd_T88 l0_2 1).f1, (rd_T88 l0_2 1).f2, (rd_T88 l0_2 1).f3, t244, (rd_T88 l0_2 1).f5, (rd_T88 l0_2 1).f6⟩ : S88)), a0_3, a0_4))) else (none)) else ((spec_l21Max.f a0_3 (wrap64 (a1 + 1))).bind fun t246 => (some (a0_0, a0_1, l0_2, t246, a0_4)))
def spec_l27After.T2 : Bool × List (List Nat × List Nat) := (true, [([], []), ([0], [0]), ([], []), ([2], [2]), ([3], [3]), ([4], [4]), ([5], [5]), ([], []), ([7], [7]), ([6, 8], [6, 8]), ([1, 0, 1, 2, 3, 4, 5, 6, 7, 8, 9], [1]), ([10, 0, 1, 2, 3, 4, 5, 6, 7, 8, 9], [10]), ([11, 9, 9, 0, 1, 2, 3, 4, 5, 6, 7, 8, 9], [9, 11])])
def spec_l27After.B2 : List Nat := [0, 1, 0, 4, 12, 28, 60, 0, 128, 508, 1023, 2047, 4095]
theorem spec_l27After.tab2 : rtab .any (opsOf Try.f87 2) = spec_l27After.T2 := by kernel_rfl
theorem spec_l27After.bits2 : waitsOk spec_l27After.T2.2 spec_l27After.B2 = true := by kernel_rfl
set_option maxHeartbeats 8000000 in
set_option maxRecDepth 100000 in
theorem spec_l27After.calls (a0_0 : Int) (a0_1 : Int) (P0_2_ : Nat → Prop) (u9000_ : Value) (l0_2 : List (S88)) (a0_3 : Int) (a0_4 : Int) (a1 : Int) (r1 : Int) (r2 : Int) (r3 : List (S88)) (r4 : Int) (r5 : Int) (w0 w : World) (hB : Below w0.heap.size w0 w) (ho0_2 : Kd.R k88 88 w w0.heap.size P0_2_ u9000_ l0_2) (h : spec_l27After.f a0_0 a0_1 l0_2 a0_3 a0_4 a1 = some (r1, r2, r3, r4, r5)) :
 Calls Try.prog 87 #[.agg #[.int .i64 a0_0, .int .i64 a0_1, u9000_, .int .i64 a0_3, .int .i64 a0_4], .int .i64 a1] w fun e w' => ∃ v2_ : Value, e = .returned (.agg #[.int .i64 r1, .int .i64 r2, v2_, .int .i64 r4, .int .i64 r5]) ∧ Kd.R k88 88 w' w0.heap.size (fun k_ => (P0_2_ k_ ∨ w.heap.size ≤ k_)) v2_ r3 ∧ Below w0.heap.size w0 w' ∧ Kept w w' (fun k_ => P0_2_ k_) := by
 have hu34 := Try.underlying34
 have HO0_2 := zA (show Kd.R k88 88 w w0.heap.size (fun k_ => (P0_2_ k_ ∨ w.heap.size ≤ k_)) u9000_ l0_2 from Kd.R_mono ho0_2 (fun k_ hk => (.inl hk)))
 have HK := zA (Kept.refl w (fun k_ => P0_2_ k_))
 have HW0 := zA hB.size
 have HB := zA hB
 clear hB
 have H : (if (l0_2.length : Int) > 1 then (if 1 < (l0_2.length : Int) then ((spec_l21Max.f ((rd_T88 l0_2 1).f4) (wrap64 (a1 + 1))).bind fun t244 => (some (a0_0, a0_1, (l0_2.set (1 : Int).toNat (⟨(rd_T88 l0_2 1).f0, (rd_T88 l0_2 1).f1, (rd_T88 l0_2 1).f2, (rd_T88 l0_2 1).f3, t244, (rd_T88 l0_2 1).f5, (rd_T88 l0_2 1).f6⟩ : S88)), a0_3, a0_4))) else (none)) else ((spec_l21Max.f a0_3 (wrap64 (a1 + 1))).bind fun t246 => (some (a0_0, a0_1, l0_2, t246, a0_4)))) = some (r1, r2, r3, r4, r5) := h
 clear h
 by_cases c3 : (l0_2.length : Int) > 1
 rotate_left
 ·rw [if_neg c3] at H
  have c3b0 : decide (1 < (l0_2.length : Int)) = false := decide_eq_false c3
  have c3b1 : decide (1 < l0_2.length) = false := decide_eq_false (by omega)
  clear c3
  replace H := zbd H; obtain ⟨t246, A17, H⟩ := H
  simp only [Option.some.injEq, Prod.mk.injEq] at H
  obtain ⟨rfl, rfl, rfl, rfl, rfl⟩ := H
  obtain ⟨Ao18, co18, eo18⟩ := Kd.R_slice HO0_2.out
  subst eo18
  go_enter Try.func87, Try.ntmps87
  go_wp2_with (first | ((with_reducible refine gate_dst (N := 2) rfl ?_); refine zbx 2 #[.int .i64 a0_0, .int .i64 a0_1, .slice Ao18 l0_2.length co18, .int .i64 a0_3, .int .i64 a0_4] 34 ?_; intro gb241 hg w19 hbox hb; have BK241 := zA hbox; have GW241 := zA ((by rw [hg]; exact (by first | exact HK.out.1 | exact (show Kept w _ (fun k_ => P0_2_ k_) from by repeat (first | (with_reducible first | exact HK.out | apply Kept.alloc | apply Kept.drewN | apply Kept.drew) | exact HK.out)).1) : w.heap.size ≤ gb241)); have GE241 := zA ((by rw [hg]; exact (below_size (zs0 HB)) : w0.heap.size ≤ gb241)); replace HO0_2 := zA (Kd.R_below (zr HO0_2) hb); replace HK := zA (Kept.below (S := (fun k_ => P0_2_ k_)) (by repeat (first | (with_reducible first | exact HK.out | apply Kept.alloc | apply Kept.drewN | apply Kept.drew) | exact HK.out)) hb); replace HB := zE (zs0 HB) hb; clear hb hbox hg) | ((with_reducible refine gate_dst (N := 4) rfl ?_); refine zbx 4 #[.int .i64 0, .int .i64 0, .slice none 0 0, .int .i64 0, .int .i64 0] 34 ?_; intro gb242 hg w20 hbox hb; have BK242 := zA hbox; have GW242 := zA ((by rw [hg]; exact (by first | exact HK.out.1 | exact (show Kept w _ (fun k_ => P0_2_ k_) from by repeat (first | (with_reducible first | exact HK.out | apply Kept.alloc | apply Kept.drewN | apply Kept.drew | refine Kept.setCell ?_ (.inr GW241.out) _) | exact HK.out)).1) : w.heap.size ≤ gb242)); have GE242 := zA ((by rw [hg]; exact (below_size (zs1 HB GE241)) : w0.heap.size ≤ gb242)); have NB241_242 := zne hg BK241; have NB242_241 := znf hg BK241; replace HO0_2 := zA (Kd.R_below (zr HO0_2) hb); replace BK241 := zb BK241 hb; replace HK := zA (Kept.below (S := (fun k_ => P0_2_ k_)) (by repeat (first | (with_reducible first | exact HK.out | apply Kept.alloc | apply Kept.drewN | apply Kept.drew | refine Kept.setCell ?_ (.inr GW241.out) _) | exact HK.out)) hb); replace HB := zE (zs1 HB GE241) hb; clear hb hbox hg; have hnb21 := NB241_242.out; have hnc21 := NB242_241.out; obtain ⟨hcz22_0, hcz22_1, hcz22_2, hcz22_3, hcz22_4⟩ := zd5 BK241; obtain ⟨hfz22_0, hfz22_1, hfz22_2, hfz22_3, hfz22_4⟩ := zn5 BK241) | ((with_reducible refine gate_callee (f := 54) rfl ?_); refine zgl Try.func54 #[.int .i64 a0_3, .int .i64 (wrap64 (a1 + 1))] ?_; (with_reducible refine (spec_l21Max.calls a0_3 (wrap64 (a1 + 1)) t246 _ A17.out).mono ?_); rintro e w' ⟨rfl, ⟨nd, rfl⟩⟩; refine ⟨_, rfl, ?_⟩; (try (rw [drewN_self w20]; generalize hq_ : World.drewN w20 _ = w20; replace HO0_2 : Aside0 (Kd.R k88 88 w20 w0.heap.size (fun k_ => (P0_2_ k_ ∨ w.heap.size ≤ k_)) (.slice Ao18 l0_2.length co18) l0_2) := ⟨by rw [← hq_]; exact (zr HO0_2)⟩; replace BK241 : Aside0 (w20.heap[gb241]? = some (.cells #[.int .i64 a0_0, .int .i64 a0_1, .slice Ao18 l0_2.length co18, .int .i64 a0_3, .int .i64 a0_4] 34 (0, 0))) := ⟨by rw [← hq_]; exact (zh BK241)⟩; replace BK242 : Aside0 (w20.heap[gb242]? = some (.cells #[.int .i64 0, .int .i64 0, .slice none 0 0, .int .i64 0, .int .i64 0] 34 (0, 0))) := ⟨by rw [← hq_]; exact (zh BK242)⟩; replace HK : Aside0 (Kept w w20 (fun k_ => P0_2_ k_)) := ⟨by rw [← hq_]; exact (by repeat (first | (with_reducible first | exact HK.out | apply Kept.alloc | apply Kept.drewN | apply Kept.drew | refine Kept.setCell ?_ (.inr GW241.out) _ | refine Kept.setCell ?_ (.inr GW242.out) _) | exact HK.out))⟩; replace HB : Aside0 (Below w0.heap.size w0 w20) := ⟨by rw [← hq_]; exact (zs2 HB GE241 GE242)⟩; clear hq_)); obtain ⟨hcz23_0, hcz23_1, hcz23_2, hcz23_3, hcz23_4⟩ := zd5 BK242; obtain ⟨hfz23_0, hfz23_1, hfz23_2, hfz23_3, hfz23_4⟩ := zn5 BK242; obtain ⟨_, _, _, _, _⟩ := zd5 BK241; obtain ⟨_, _, _, _, _⟩ := zn5 BK241))
  refine bodyPost_ret (results_cell_row rfl _ _ gb242 34 #[.int .i64 a0_0, .int .i64 a0_1, .slice Ao18 l0_2.length co18, .int .i64 t246, .int .i64 a0_4] (0, 0) _ rfl ?hz Try.underlying34 rfl (by kernel_rfl)) rfl ?_; (case hz => exact zpf BK242 NB242_241)
  exact ⟨_, ze, by (with_reducible repeat (first | apply Kd.R_alloc | apply Kd.R_drewN | apply Kd.R_drew)); exact Kd.R_mono (Kd.R_far (p := ⟨gb242, 4, none⟩) (Kd.R_far (p := ⟨gb242, 3, none⟩) (Kd.R_far (p := ⟨gb242, 2, none⟩) (Kd.R_far (p := ⟨gb242, 1, none⟩) (Kd.R_far (p := ⟨gb242, 0, none⟩) (Kd.R_far (p := ⟨gb241, 3, none⟩) (Kd.R_types (Kd.R_types HO0_2.out BK241.out (by decide)) BK242.out (by decide)) (fun _ hk => hk.1.2) (.int .i64 t246)) (fun _ hk => hk.2) (.int .i64 a0_0)) (fun _ hk => hk.2) (.int .i64 a0_1)) (fun _ hk => hk.2) (.slice Ao18 l0_2.length co18)) (fun _ hk => hk.2) (.int .i64 t246)) (fun _ hk => hk.2) (.int .i64 a0_4)) (fun _ hk => hk.1.1), zs2 HB GE241 GE242, by repeat (first | (with_reducible first | exact HK.out | apply Kept.alloc | apply Kept.drewN | apply Kept.drew | refine Kept.setCell ?_ (.inr GW241.out) _ | refine Kept.setCell ?_ (.inr GW242.out) _) | exact HK.out)⟩
 rw [if_pos c3] at H
 have c3b0 : decide (1 < (l0_2.length : Int)) = true := decide_eq_true c3
 have c3b1 : decide (1 < l0_2.length) = true := decide_eq_true (by omega)
 clear c3
 by_cases c4 : 1 < (l0_2.length : Int)
 rotate_left
 ·rw [if_neg c4] at H
  exact absurd H (by simp)
 rw [if_pos c4] at H
 have c4b0 : decide (1 < (l0_2.length : Int)) = true := decide_eq_true c4
 have c4b1 : decide (1 < l0_2.length) = true := decide_eq_true (by omega)
 clear c4
 replace H := zbd H; obtain ⟨t244, A5, H⟩ := H
 obtain ⟨y245, hy245⟩ : ∃ y_ : List (S88), y_ = (l0_2.set (1 : Int).toNat (⟨(rd_T88 l0_2 1).f0, (rd_T88 l0_2 1).f1, (rd_T88 l0_2 1).f2, (rd_T88 l0_2 1).f3, t244, (rd_T88 l0_2 1).f5, (rd_T88 l0_2 1).f6⟩ : S88)) := ⟨_, rfl⟩
 replace H : (some (a0_0, a0_1, y245, a0_3, a0_4)) = some (r1, r2, r3, r4, r5) := by first | (rw [hy245]; with_reducible exact H) | (have H2_ := (Option.bind_some _ _).symm.trans H; rw [hy245]; with_reducible exact H2_) | (have H2_ := (Option.bind_some _ _).symm.trans H; with_reducible exact H2_) | with_reducible exact H | (rw [hy245]; exact H) | exact H
 have Ny245 := zA hy245
 clear hy245
 simp only [Option.some.injEq, Prod.mk.injEq] at H
 obtain ⟨rfl, rfl, rfl, rfl, rfl⟩ := H
 obtain ⟨Ao7, co7, eo7⟩ := Kd.R_slice HO0_2.out
 subst eo7
 go_enter Try.func87, Try.ntmps87
 try go_wp2_with (first | ((with_reducible refine gate_dst (N := 2) rfl ?_); refine zbx 2 #[.int .i64 a0_0, .int .i64 a0_1, .slice Ao7 l0_2.length co7, .int .i64 a0_3, .int .i64 a0_4] 34 ?_; intro gb241 hg w8 hbox hb; have BK241 := zA hbox; have GW241 := zA ((by rw [hg]; exact (by first | exact HK.out.1 | exact (show Kept w _ (fun k_ => P0_2_ k_) from by repeat (first | (with_reducible first | exact HK.out | apply Kept.alloc | apply Kept.drewN | apply Kept.drew) | exact HK.out)).1) : w.heap.size ≤ gb241)); have GE241 := zA ((by rw [hg]; exact (below_size (zs0 HB)) : w0.heap.size ≤ gb241)); replace HO0_2 := zA (Kd.R_below (zr HO0_2) hb); replace HK := zA (Kept.below (S := (fun k_ => P0_2_ k_)) (by repeat (first | (with_reducible first | exact HK.out | apply Kept.alloc | apply Kept.drewN | apply Kept.drew) | exact HK.out)) hb); replace HB := zE (zs0 HB) hb; clear hb hbox hg) | ((with_reducible refine gate_dst (N := 4) rfl ?_); refine zbx 4 #[.int .i64 0, .int .i64 0, .slice none 0 0, .int .i64 0, .int .i64 0] 34 ?_; intro gb242 hg w9 hbox hb; have BK242 := zA hbox; have GW242 := zA ((by rw [hg]; exact (by first | exact HK.out.1 | exact (show Kept w _ (fun k_ => P0_2_ k_) from by repeat (first | (with_reducible first | exact HK.out | apply Kept.alloc | apply Kept.drewN | apply Kept.drew | refine Kept.setCell ?_ (.inr GW241.out) _) | exact HK.out)).1) : w.heap.size ≤ gb242)); have GE242 := zA ((by rw [hg]; exact (below_size (zs1 HB GE241)) : w0.heap.size ≤ gb242)); have NB241_242 := zne hg BK241; have NB242_241 := znf hg BK241; replace HO0_2 := zA (Kd.R_below (zr HO0_2) hb); replace BK241 := zb BK241 hb; replace HK := zA (Kept.below (S := (fun k_ => P0_2_ k_)) (by repeat (first | (with_reducible first | exact HK.out | apply Kept.alloc | apply Kept.drewN | apply Kept.drew | refine Kept.setCell ?_ (.inr GW241.out) _) | exact HK.out)) hb); replace HB := zE (zs1 HB GE241) hb; clear hb hbox hg; have hnb10 := NB241_242.out; have hnc10 := NB242_241.out; obtain ⟨hcz11_0, hcz11_1, hcz11_2, hcz11_3, hcz11_4⟩ := zd5 BK241; obtain ⟨hfz11_0, hfz11_1, hfz11_2, hfz11_3, hfz11_4⟩ := zn5 BK241))
 replace HO0_2 := zA (Kd.R_drew HO0_2.out)
 replace BK241 := zA (blk_drew BK241.out)
 replace BK242 := zA (blk_drew BK242.out)
 replace HK := zA (Kept.drew HK.out)
 replace HB := zA (below_drew1 HB.out)
 have p243 : 0 ≤ (1 : Int) := (by omega)
 have q243 : 1 < (l0_2.length : Int) := za
 obtain ⟨ad243, e243, hx243_0, hx243_1, hx243_2, hx243_3, hx243_4, hx243_5, hx243_6⟩ := at_T88 (Kd.R_reads' HO0_2.out).2.2 1 p243 q243
 cases e243
 (try simp only [show (1 : Int).toNat = 1 from rfl, Nat.reduceMul, Nat.reduceEqDiff, Go.Addr.add, ↓reduceIte] at hx243_0)
 (try simp only [show (1 : Int).toNat = 1 from rfl, Nat.reduceMul, Nat.reduceEqDiff, Go.Addr.add, ↓reduceIte] at hx243_1)
 (try simp only [show (1 : Int).toNat = 1 from rfl, Nat.reduceMul, Nat.reduceEqDiff, Go.Addr.add, ↓reduceIte] at hx243_2)
 (try simp only [show (1 : Int).toNat = 1 from rfl, Nat.reduceMul, Nat.reduceEqDiff, Go.Addr.add, ↓reduceIte] at hx243_3)
 (try simp only [show (1 : Int).toNat = 1 from rfl, Nat.reduceMul, Nat.reduceEqDiff, Go.Addr.add, ↓reduceIte] at hx243_4)
 (try simp only [show (1 : Int).toNat = 1 from rfl, Nat.reduceMul, Nat.reduceEqDiff, Go.Addr.add, ↓reduceIte] at hx243_5)
 (try simp only [show (1 : Int).toNat = 1 from rfl, Nat.reduceMul, Nat.reduceEqDiff, Go.Addr.add, ↓reduceIte] at hx243_6)
 have qi243 : (1 < l0_2.length) = True := eq_true (by omega)
 (try rw [zi1] at hx243_0)
 (try rw [show 1 * 7 = 7 from rfl] at hx243_0)
 (try rw [zi1] at hx243_1)
 (try rw [show 1 * 7 = 7 from rfl] at hx243_1)
 (try rw [zi1] at hx243_2)
 (try rw [show 1 * 7 = 7 from rfl] at hx243_2)
 (try rw [zi1] at hx243_3)
 (try rw [show 1 * 7 = 7 from rfl] at hx243_3)
 (try rw [zi1] at hx243_4)
 (try rw [show 1 * 7 = 7 from rfl] at hx243_4)
 (try rw [zi1] at hx243_5)
 (try rw [show 1 * 7 = 7 from rfl] at hx243_5)
 (try rw [zi1] at hx243_6)
 (try rw [show 1 * 7 = 7 from rfl] at hx243_6)
 replace p243 := eq_true p243
 replace q243 := eq_true q243
 refine start_ (n := 13) (S := fun w' => w'.cell? ⟨gb241, 0, none⟩ = some (.int .i64 a0_0) ∧ w'.cell? ⟨gb241, 1, none⟩ = some (.int .i64 a0_1) ∧ w'.cell? ⟨gb241, 2, none⟩ = some (.slice (some ad243) l0_2.length co7) ∧ w'.cell? ⟨gb241, 3, none⟩ = some (.int .i64 a0_3) ∧ w'.cell? ⟨gb241, 4, none⟩ = some (.int .i64 a0_4) ∧ w'.cell? ⟨ad243.block, ad243.off + 7, none⟩ = some (.int .i64 ((rd_T88 l0_2 1).f0)) ∧ w'.cell? ⟨ad243.block, ad243.off + 7 + 1, none⟩ = some (.int .i64 ((rd_T88 l0_2 1).f1)) ∧ w'.cell? ⟨ad243.block, ad243.off + 7 + 2, none⟩ = some (.int .i64 ((rd_T88 l0_2 1).f2)) ∧ w'.cell? ⟨ad243.block, ad243.off + 7 + 3, none⟩ = some (.int .i64 ((rd_T88 l0_2 1).f3)) ∧ w'.cell? ⟨ad243.block, ad243.off + 7 + 4, none⟩ = some (.int .i64 ((rd_T88 l0_2 1).f4)) ∧ w'.cell? ⟨ad243.block, ad243.off + 7 + 5, none⟩ = some (.int .i64 ((rd_T88 l0_2 1).f5)) ∧ w'.cell? ⟨ad243.block, ad243.off + 7 + 6, none⟩ = some (.bool ((rd_T88 l0_2 1).f6))) (ds := [12]) #[F,F,F,F,F,F,F,F,F,F,F,F,F] (by kernel_rfl) rfl rfl ⟨zc0 BK241, zc1 BK241, zc2 BK241, zc3 BK241, zc4 BK241, hx243_0, hx243_1, hx243_2, hx243_3, hx243_4, hx243_5, hx243_6⟩ (fun hHeld => ?_); refine with_tabW spec_l27After.tab2 spec_l27After.bits2 (fun HT_ HW_ => ?_)
 generalize w9.drew = w12 at HO0_2 BK241 BK242 HK HB hx243_0 hx243_1 hx243_2 hx243_3 hx243_4 hx243_5 hx243_6 hHeld ⊢
 refine zq HT_ 0 ?_
 refine zq HT_ 2 ?_
 refine zq HT_ 7 ?_
 refine zq HT_ 8 ?_
 refine zk12 HT_ HW_ hHeld 1 ?_
 refine zk12 HT_ HW_ hHeld 3 ?_
 refine zq HT_ 4 ?_
 refine zq HT_ 5 ?_
 refine zk12 HT_ HW_ hHeld 6 ?_
 refine zo HT_ 9 (fun K hK => ?_)
 refine zgo Try.func54 #[.int .i64 ((rd_T88 l0_2 1).f4), .int .i64 (wrap64 (a1 + 1))] ?_
 with_reducible refine (spec_l21Max.calls ((rd_T88 l0_2 1).f4) (wrap64 (a1 + 1)) t244 _ A5.out).mono ?_
 rintro e w' ⟨rfl, ⟨nd, rfl⟩⟩
 refine ⟨_, rfl, ?_⟩
 have p6 : 0 ≤ (1 : Int) := (by omega)
 have q6 : (1 : Int) < ((l0_2.length : Int) : Int) := za
 have qi6 : (1 < l0_2.length) = True := eq_true (by omega)
 obtain ⟨go6, co6, eo6, gb6, gl6, cl6, HG6⟩ := Kd.R_form HO0_2.out (by omega)
 (first | cases eo6 | (injection eo6 with ea_ en_ ec_; (first | subst ea_ | (injection ea_ with ea_; subst ea_)); subst ec_; clear en_))
 have GB6 := zA gb6
 have GG6 := zA HG6
 clear gb6 gl6 HG6
 have HMgo6 := zA (show (P0_2_ go6 ∨ w.heap.size ≤ go6) from (HO0_2.out.1 _ rfl))
 (first | simp only [add_plain] at hx243_0 | skip)
 (first | simp only [add_plain] at hx243_1 | skip)
 (first | simp only [add_plain] at hx243_2 | skip)
 (first | simp only [add_plain] at hx243_3 | skip)
 (first | simp only [add_plain] at hx243_4 | skip)
 (first | simp only [add_plain] at hx243_5 | skip)
 (first | simp only [add_plain] at hx243_6 | skip)
 obtain ⟨ce6, hcl6, hM6, hcc6, hfr6⟩ := Kd.R_elem HO0_2.out z88 (1 : Int) p6 q6
 obtain rfl := k88_openM hM6
 have hx6_0 : World.cell? _ ⟨go6, (1 : Int).toNat * 7, none⟩ = some (.int .i64 ((rd_T88 l0_2 1).f0)) := hcc6 0 _ rfl
 have hx6_1 : World.cell? _ ⟨go6, (1 : Int).toNat * 7 + 1, none⟩ = some (.int .i64 ((rd_T88 l0_2 1).f1)) := hcc6 1 _ rfl
 have hx6_2 : World.cell? _ ⟨go6, (1 : Int).toNat * 7 + 2, none⟩ = some (.int .i64 ((rd_T88 l0_2 1).f2)) := hcc6 2 _ rfl
 have hx6_3 : World.cell? _ ⟨go6, (1 : Int).toNat * 7 + 3, none⟩ = some (.int .i64 ((rd_T88 l0_2 1).f3)) := hcc6 3 _ rfl
 have hx6_4 : World.cell? _ ⟨go6, (1 : Int).toNat * 7 + 4, none⟩ = some (.int .i64 ((rd_T88 l0_2 1).f4)) := hcc6 4 _ rfl
 have hx6_5 : World.cell? _ ⟨go6, (1 : Int).toNat * 7 + 5, none⟩ = some (.int .i64 ((rd_T88 l0_2 1).f5)) := hcc6 5 _ rfl
 have hx6_6 : World.cell? _ ⟨go6, (1 : Int).toNat * 7 + 6, none⟩ = some (.bool ((rd_T88 l0_2 1).f6)) := hcc6 6 _ rfl
 have hf6_0 : World.frozen? _ ⟨go6, (1 : Int).toNat * 7, none⟩ = false := hfr6 0
 have hf6_1 : World.frozen? _ ⟨go6, (1 : Int).toNat * 7 + 1, none⟩ = false := hfr6 1
 have hf6_2 : World.frozen? _ ⟨go6, (1 : Int).toNat * 7 + 2, none⟩ = false := hfr6 2
 have hf6_3 : World.frozen? _ ⟨go6, (1 : Int).toNat * 7 + 3, none⟩ = false := hfr6 3
 have hf6_4 : World.frozen? _ ⟨go6, (1 : Int).toNat * 7 + 4, none⟩ = false := hfr6 4
 have hf6_5 : World.frozen? _ ⟨go6, (1 : Int).toNat * 7 + 5, none⟩ = false := hfr6 5
 have hf6_6 : World.frozen? _ ⟨go6, (1 : Int).toNat * 7 + 6, none⟩ = false := hfr6 6
 clear hcl6 hcc6 hfr6 hM6
 (try rw [zi1] at hx6_0)
 (try simp only [Nat.zero_mul, Nat.zero_add] at hx6_0)
 (try rw [zi1] at hf6_0)
 (try simp only [Nat.zero_mul, Nat.zero_add] at hf6_0)
 (try rw [zi1] at hx6_1)
 (try simp only [Nat.zero_mul, Nat.zero_add] at hx6_1)
 (try rw [zi1] at hf6_1)
 (try simp only [Nat.zero_mul, Nat.zero_add] at hf6_1)
 (try rw [zi1] at hx6_2)
 (try simp only [Nat.zero_mul, Nat.zero_add] at hx6_2)
 (try rw [zi1] at hf6_2)
 (try simp only [Nat.zero_mul, Nat.zero_add] at hf6_2)
 (try rw [zi1] at hx6_3)
 (try simp only [Nat.zero_mul, Nat.zero_add] at hx6_3)
 (try rw [zi1] at hf6_3)
 (try simp only [Nat.zero_mul, Nat.zero_add] at hf6_3)
 (try rw [zi1] at hx6_4)
 (try simp only [Nat.zero_mul, Nat.zero_add] at hx6_4)
 (try rw [zi1] at hf6_4)
 (try simp only [Nat.zero_mul, Nat.zero_add] at hf6_4)
 (try rw [zi1] at hx6_5)
 (try simp only [Nat.zero_mul, Nat.zero_add] at hx6_5)
 (try rw [zi1] at hf6_5)
 (try simp only [Nat.zero_mul, Nat.zero_add] at hf6_5)
 (try rw [zi1] at hx6_6)
 (try simp only [Nat.zero_mul, Nat.zero_add] at hx6_6)
 (try rw [zi1] at hf6_6)
 (try simp only [Nat.zero_mul, Nat.zero_add] at hf6_6)
 replace p6 := eq_true p6
 replace q6 := eq_true q6
 obtain ⟨ce13, hcl13, hM13, hcc13, hfr13⟩ := Kd.R_elem HO0_2.out z88 (1 : Int) (by omega) (by have h_ : (1 : Int) < ((l0_2.length : Int) : Int) := za; first | exact h_ | (have e_ := (Kd.R_reads' HO0_2.out).1; omega) | simpa using h_)
 obtain rfl := k88_openM hM13
 have HP13 := (Kd.R_seg HO0_2.out (1 : Int) (by omega) (by have h_ : (1 : Int) < ((l0_2.length : Int) : Int) := za; first | exact h_ | (have e_ := (Kd.R_reads' HO0_2.out).1; omega) | simpa using h_) (seg := [.int .i64 t244]) (j := 4) hcl13 hcc13 (show 5 ≤ 7 from by decide) (x' := (⟨(rd_T88 l0_2 1).f0, (rd_T88 l0_2 1).f1, (rd_T88 l0_2 1).f2, (rd_T88 l0_2 1).f3, t244, (rd_T88 l0_2 1).f5, (rd_T88 l0_2 1).f6⟩ : S88)) (k88_mkM _ _ _ (⟨(rd_T88 l0_2 1).f0, (rd_T88 l0_2 1).f1, (rd_T88 l0_2 1).f2, (rd_T88 l0_2 1).f3, t244, (rd_T88 l0_2 1).f5, (rd_T88 l0_2 1).f6⟩ : S88) ) (fun _ hk => hk)).1
 rw [← Ny245.out] at HP13
 have HQ13 := zA HP13
 clear hcl13 hcc13 hfr13 hM13 HP13
 refine hK.out _ _ ⟨zc0 BK241, zc1 BK241, zc2 BK241, zc3 BK241, zc4 BK241, hHeld.2.2.2.2.2⟩ (fun hHeld => ?_)
 clear hK K
 refine zN ?_
 refine zq HT_ 10 ?_
 refine zq HT_ 11 ?_
 refine zO HT_ 12 (fun K hK => ?_)
 refine skip_ (w1 := ?_) (by rfl) rfl ?_ ?_
 rotate_left
 ·go_simp
  rfl
 refine hK.out _ _ ?_
 clear hK K
 refine done_ (done_of HT_.out (by kernel_rfl)) ?_
 have n0_ : Aside0 (Kd.R k88 88 (w12.setCell ⟨go6, 11, none⟩ (.int .i64 t244)) w0.heap.size (fun k_ => (P0_2_ k_ ∨ w.heap.size ≤ k_)) (.slice (some ⟨go6, 0, none⟩) l0_2.length co7) y245) := ⟨zr HQ13⟩
 have n1_ : Aside0 ((w12.setCell ⟨go6, 11, none⟩ (.int .i64 t244)).heap[gb241]? = some (.cells #[.int .i64 a0_0, .int .i64 a0_1, .slice (some ⟨go6, 0, none⟩) l0_2.length co7, .int .i64 a0_3, .int .i64 a0_4] 34 (0, 0))) := ⟨by (with_reducible repeat (first | refine blk_drewN ?_ _ | refine blk_drew ?_ | refine blk_alloc ?_ _)); refine blk_far ?_ (by have h_ := Kd.R_ne HO0_2.out BK241.out (by decide); intro e_; exact h_ (by rw [e_]; rfl)) _; (with_reducible repeat (first | refine blk_drewN ?_ _ | refine blk_drew ?_ | refine blk_alloc ?_ _)); exact BK241.out⟩
 have n2_ : Aside0 ((w12.setCell ⟨go6, 11, none⟩ (.int .i64 t244)).heap[gb242]? = some (.cells #[.int .i64 0, .int .i64 0, .slice none 0 0, .int .i64 0, .int .i64 0] 34 (0, 0))) := ⟨by (with_reducible repeat (first | refine blk_drewN ?_ _ | refine blk_drew ?_ | refine blk_alloc ?_ _)); refine blk_far ?_ (by have h_ := Kd.R_ne HO0_2.out BK242.out (by decide); intro e_; exact h_ (by rw [e_]; rfl)) _; (with_reducible repeat (first | refine blk_drewN ?_ _ | refine blk_drew ?_ | refine blk_alloc ?_ _)); exact BK242.out⟩
 have n3_ : Aside0 (Kept w (w12.setCell ⟨go6, 11, none⟩ (.int .i64 t244)) (fun k_ => P0_2_ k_)) := ⟨by repeat (first | (with_reducible first | exact HK.out | apply Kept.alloc | apply Kept.drewN | apply Kept.drew | refine Kept.setCell ?_ HMgo6.out _ | refine Kept.setCell ?_ (.inr GW241.out) _ | refine Kept.setCell ?_ (.inr GW242.out) _) | exact HK.out)⟩
 have n4_ : Aside0 (Below w0.heap.size w0 (w12.setCell ⟨go6, 11, none⟩ (.int .i64 t244))) := ⟨by repeat (first | (with_reducible first | exact HB.out | apply below_alloc | apply pw_below_drewN | apply below_drew1 | refine below_set ?_ GB6.out | refine below_set ?_ GE241.out | refine below_set ?_ GE242.out) | exact HB.out)⟩
 (try clear HO0_2)
 (try clear BK241)
 (try clear BK242)
 (try clear HK)
 (try clear HB)
 generalize (w12.setCell ⟨go6, 11, none⟩ (.int .i64 t244)) = w14 at n0_ n1_ n2_ n3_ n4_ ⊢
 have HO0_2 := n0_
 have BK241 := n1_
 have BK242 := n2_
 have HK := n3_
 have HB := n4_
 clear n0_ n1_ n2_ n3_ n4_
 obtain ⟨hcz15_0, hcz15_1, hcz15_2, hcz15_3, hcz15_4⟩ := zd5 BK241
 obtain ⟨hfz15_0, hfz15_1, hfz15_2, hfz15_3, hfz15_4⟩ := zn5 BK241
 obtain ⟨hcz16_0, hcz16_1, hcz16_2, hcz16_3, hcz16_4⟩ := zd5 BK242
 obtain ⟨hfz16_0, hfz16_1, hfz16_2, hfz16_3, hfz16_4⟩ := zn5 BK242
 try go_wp2
 refine bodyPost_ret (results_cell_row rfl _ _ gb242 34 #[.int .i64 a0_0, .int .i64 a0_1, .slice (some ⟨go6, 0, none⟩) l0_2.length co7, .int .i64 a0_3, .int .i64 a0_4] (0, 0) _ rfl ?hz Try.underlying34 rfl (by kernel_rfl)) rfl ?_; (case hz => exact zpb BK242)
 exact ⟨_, ze, by (with_reducible repeat (first | apply Kd.R_alloc | apply Kd.R_drewN | apply Kd.R_drew)); exact Kd.R_mono (Kd.R_far (p := ⟨gb242, 4, none⟩) (Kd.R_far (p := ⟨gb242, 3, none⟩) (Kd.R_far (p := ⟨gb242, 2, none⟩) (Kd.R_far (p := ⟨gb242, 1, none⟩) (Kd.R_far (p := ⟨gb242, 0, none⟩) (Kd.R_types HO0_2.out BK242.out (by decide)) (fun _ hk => hk.2) (.int .i64 a0_0)) (fun _ hk => hk.2) (.int .i64 a0_1)) (fun _ hk => hk.2) (.slice (some ⟨go6, 0, none⟩) l0_2.length co7)) (fun _ hk => hk.2) (.int .i64 a0_3)) (fun _ hk => hk.2) (.int .i64 a0_4)) (fun _ hk => hk.1), zs2 HB GE241 GE242, by repeat (first | (with_reducible first | exact HK.out | apply Kept.alloc | apply Kept.drewN | apply Kept.drew | refine Kept.setCell ?_ (.inr GW241.out) _ | refine Kept.setCell ?_ (.inr GW242.out) _) | exact HK.out)⟩
end Go.Proofs.Ytidenmcoilmbcaa.QFnExactFlySeen
