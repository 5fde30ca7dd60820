/- The walk of what the law FnSkyLegs reaches: laid by a program of this session (ownprint.py). -/
import Derived.Test.YtaeichaofhcheaaQFnSkyLegsx0
namespace Go.Proofs.Ytaeichaofhcheaa.QFnSkyLegs
open Go.RowKit Go.Proofs.YtaeichaofhcheaaW.PrintWords Go.Proofs.YtaeichaofhcheaaW.PrintLast Go.Proofs.YtaeichaofhcheaaW.PrintMore Go.Proofs.Ytaeichaofhcheaa.Z
attribute [local go_sem] max2_int min2_int max_two min_two max_three min_three max_four min_four zdn   -- for this text's walks alone
set_option linter.unusedVariables false
set_option linter.unusedSimpArgs false
def impl_floorDiv.f (a0 : Int) (a1 : Int) : Option (Int) := if a1 = 0 then (none) else (if (Int.tmod a0 a1) = 0 then (some (wrap64 (Int.tdiv a0 a1))) else (if ((decide (a0 < 0)) != (decide (a1 < 0))) = true then (some (wrap64 ((wrap64 (Int.tdiv a0 a1)) - 1))) else (some (wrap64 (Int.tdiv a0 a1)))))
set_option maxHeartbeats 8000000 in
set_option maxRecDepth 100000 in
theorem impl_floorDiv.calls (a0 : Int) (a1 : Int) (r : Int) (w : World) (h : impl_floorDiv.f a0 a1 = some r) :
 Calls Try.prog 18 #[.int .i64 a0, .int .i64 a1] w fun e w' => e = .returned (.int .i64 r) ∧ Drawn0 w w' := by
 have H : (if a1 = 0 then (none) else (if (Int.tmod a0 a1) = 0 then (some (wrap64 (Int.tdiv a0 a1))) else (if ((decide (a0 < 0)) != (decide (a1 < 0))) = true then (some (wrap64 ((wrap64 (Int.tdiv a0 a1)) - 1))) else (some (wrap64 (Int.tdiv a0 a1)))))) = some r := h
 clear h
 by_cases c3 : a1 = 0
 ·rw [if_pos c3] at H
  exact absurd H (by simp)
 rw [if_neg c3] at H
 have c3b0 : (a1 == 0) = false := beq_eq_false_iff_ne.mpr c3
 have c3b1 : (a1 != 0) = true := bne_iff_ne.mpr c3
 by_cases c4 : (Int.tmod a0 a1) = 0
 ·rw [if_pos c4] at H
  have c4b0 : ((Int.tmod a0 a1) == 0) = true := beq_iff_eq.mpr c4
  have c4b1 : ((Int.tmod a0 a1) != 0) = false := bne_eq_false_iff_eq.mpr c4
  clear c4
  obtain rfl := Option.some.inj H
  go_enter Try.func18, Try.ntmps18
  go_wp2
  go_ret
  exact ⟨by first | rfl | (simp; done) | (simp [*]; done), by repeat (first | exact Drawn0.refl _ | apply Drawn0.step)⟩
 rw [if_neg c4] at H
 have c4b0 : ((Int.tmod a0 a1) == 0) = false := beq_eq_false_iff_ne.mpr c4
 have c4b1 : ((Int.tmod a0 a1) != 0) = true := bne_iff_ne.mpr c4
 by_cases c5 : ((decide (a0 < 0)) != (decide (a1 < 0))) = true
 rotate_left
 ·rw [if_neg c5] at H
  have c5b0 : ((decide (a0 < 0)) != (decide (a1 < 0))) = false := by simpa using c5
  (try (have c5b1 : decide ((decide (a0 < 0)) = (decide (a1 < 0))) = true := by simpa using c5))
  (try (have c5b2 : ((decide (a0 < 0)) == (decide (a1 < 0))) = true := by simpa using c5))
  clear c5
  obtain rfl := Option.some.inj H
  go_enter Try.func18, Try.ntmps18
  go_wp2
  go_ret
  exact ⟨by first | rfl | (simp; done) | (simp [*]; done), by repeat (first | exact Drawn0.refl _ | apply Drawn0.step)⟩
 rw [if_pos c5] at H
 have c5b0 : ((decide (a0 < 0)) != (decide (a1 < 0))) = true := c5
 (try (have c5b1 : decide ((decide (a0 < 0)) = (decide (a1 < 0))) = false := by simpa using c5))
 (try (have c5b2 : ((decide (a0 < 0)) == (decide (a1 < 0))) = false := by simpa using c5))
 (try (have c5b3 : ¬ ((decide (a0 < 0)) = (decide (a1 < 0))) := by simpa using c5))
 clear c5
 obtain rfl := Option.some.inj H
 go_enter Try.func18, Try.ntmps18
 go_wp2
 go_ret
 exact ⟨by first | rfl | (simp; done) | (simp [*]; done), by repeat (first | exact Drawn0.refl _ | apply Drawn0.step)⟩
def slices_Reverse_2_int_2_int.l0 : Nat → List (S39) → Int → Int → Option ((List (S39)))
 | 0, _, _, _ => none
 | k + 1, x0, x2, x3 => if x2 < x3 then (if 0 ≤ x3 then (if x3 < (x0.length : Int) then (if 0 ≤ x2 then (if x2 < (x0.length : Int) then (slices_Reverse_2_int_2_int.l0 k ((x0.set (x2 : Int).toNat (⟨(rd_T39 x0 x3).f0, (rd_T39 x0 x3).f1⟩ : S39)).set (x3 : Int).toNat (⟨(rd_T39 x0 x2).f0, (rd_T39 x0 x2).f1⟩ : S39)) (wrap64 (x2 + 1)) (wrap64 (x3 - 1))) else (none)) else (none)) else (none)) else (none)) else (some x0)
def slices_Reverse_2_int_2_int.f (k : Nat) (l0 : List (S39)) : Option ((List (S39))) := slices_Reverse_2_int_2_int.l0 k l0 0 (wrap64 ((l0.length : Int) - 1))
def slices_Reverse_2_int_2_int.T3 : Bool × List (List Nat × List Nat) := (true, [([], []), ([], []), ([], []), ([], []), ([], []), ([], []), ([4, 5], [4, 5]), ([6], [6]), ([], []), ([], []), ([8, 9], [8, 9]), ([10], [10]), ([0, 1, 0, 1, 4, 5, 6, 7, 11], [0, 1]), ([12, 7, 0, 1, 4, 5, 6, 7, 11], [7, 12]), ([2, 3, 0, 1, 2, 3, 4, 5, 6, 7, 8, 9, 10, 11, 12, 13], [2, 3]), ([14, 11, 13, 0, 1, 2, 3, 4, 5, 6, 7, 8, 9, 10, 11, 12, 13], [11, 14])])
def slices_Reverse_2_int_2_int.B3 : List Nat := [0, 0, 0, 0, 0, 0, 48, 112, 0, 0, 768, 1792, 4083, 8179, 16383, 32767]
theorem slices_Reverse_2_int_2_int.tab3 : rtab .any (opsOf Try.f19 3) = slices_Reverse_2_int_2_int.T3 := by kernel_rfl
theorem slices_Reverse_2_int_2_int.bits3 : waitsOk slices_Reverse_2_int_2_int.T3.2 slices_Reverse_2_int_2_int.B3 = true := by kernel_rfl
set_option maxHeartbeats 8000000 in
set_option maxRecDepth 100000 in
theorem slices_Reverse_2_int_2_int.calls (k : Nat) (P0_ : Nat → Prop) (u9000_ : Value) (l0 : List (S39)) (r : List (S39)) (w0 w : World) (hB : Below w0.heap.size w0 w) (ho0 : Kd.R k39 39 w w0.heap.size P0_ u9000_ l0) (h : slices_Reverse_2_int_2_int.f k l0 = some r) :
 Calls Try.prog 19 #[u9000_] w fun e w' => e = .returned (.tuple #[]) ∧ Kd.R k39 39 w' w0.heap.size (fun k_ => (P0_ k_ ∨ w.heap.size ≤ k_)) u9000_ r ∧ Below w0.heap.size w0 w' ∧ Kept w w' (fun k_ => P0_ k_) := by
 have hu39 := Try.underlying39
 have HO0 := zA (show Kd.R k39 39 w w0.heap.size (fun k_ => (P0_ k_ ∨ w.heap.size ≤ k_)) u9000_ l0 from Kd.R_mono ho0 (fun k_ hk => (.inl hk)))
 have HK := zA (Kept.refl w (fun k_ => P0_ k_))
 have HW0 := zA hB.size
 have HB := zA hB
 clear hB
 have H : (slices_Reverse_2_int_2_int.l0 k l0 0 (wrap64 ((l0.length : Int) - 1))) = some r := h
 clear h
 have H' := zA H
 clear H
 obtain ⟨Ao2, co2, eo2⟩ := Kd.R_slice HO0.out
 subst eo2
 go_enter Try.func19, Try.ntmps19
 go_wp2
 go_loopg [2, 3] k (fun kq v2 v3 w' => ∃ (x0_1 : List (S39)) (x2_1 : Int) (x3_1 : Int), v2 = .int .i64 x2_1 ∧ v3 = .int .i64 x3_1 ∧ Aside0 (slices_Reverse_2_int_2_int.l0 kq x0_1 x2_1 x3_1 = some r) ∧ Aside0 (kq ≤ k) ∧ Aside0 (Kd.R k39 39 w' w0.heap.size (fun k_ => (P0_ k_ ∨ w.heap.size ≤ k_)) (.slice Ao2 l0.length co2) x0_1) ∧ Aside0 (Kept w w' (fun k_ => P0_ k_)) ∧ Aside0 (Below w0.heap.size w0 w'))
 case atStart => exact ⟨(l0), (0), (wrap64 ((l0.length : Int) - 1)), zi, zi, H', ⟨Nat.le_refl _⟩, ⟨zr HO0⟩, ⟨by repeat (first | (with_reducible first | exact HK.out | apply Kept.alloc | apply Kept.drewN | apply Kept.drew) | exact HK.out)⟩, ⟨zs0 HB⟩⟩
 case round =>
  clear H'
  try clear c1
  try clear p2
  obtain ⟨x0_1, x2_1, x3_1, rfl, rfl, HA, HK1, HO_0, HK, HB⟩ := hrel
  have hl0_1 := (Kd.R_reads' HO_0.out).1
  rw [hl0_1] at HO_0
  (try simp only [hl0_1])
  cases gk with
  | zero => exact absurd HA.out (by simp [slices_Reverse_2_int_2_int.l0])
  | succ k1 =>
   have H := HA.out
   clear HA
   simp only [slices_Reverse_2_int_2_int.l0] at H
   by_cases c3 : x2_1 < x3_1
   rotate_left
   ·rw [if_neg c3] at H
    have c3b0 : decide (x2_1 < x3_1) = false := decide_eq_false c3
    clear c3
    obtain rfl := Option.some.inj H
    go_wp2
    first | go_end0 | ((try simp only [Exit.inBlock, Exit.then]); refine bodyPost_ret (results_none rfl _ _ _) rfl ?_)
    exact ⟨ze, (by first | exact (zr HO_0) | (simp only [hl0_1]; exact (zr HO_0))), zs0 HB, by repeat (first | (with_reducible first | exact HK.out | apply Kept.alloc | apply Kept.drewN | apply Kept.drew) | exact HK.out)⟩
   rw [if_pos c3] at H
   have c3b0 : decide (x2_1 < x3_1) = true := decide_eq_true c3
   clear c3
   by_cases c4 : 0 ≤ x3_1
   rotate_left
   ·rw [if_neg c4] at H
    exact absurd H (by simp)
   rw [if_pos c4] at H
   have c4b0 : decide (0 ≤ x3_1) = true := decide_eq_true c4
   clear c4
   by_cases c5 : x3_1 < (x0_1.length : Int)
   rotate_left
   ·rw [if_neg c5] at H
    exact absurd H (by simp)
   rw [if_pos c5] at H
   have c5b0 : decide (x3_1 < (x0_1.length : Int)) = true := decide_eq_true c5
   clear c5
   by_cases c6 : 0 ≤ x2_1
   rotate_left
   ·rw [if_neg c6] at H
    exact absurd H (by simp)
   rw [if_pos c6] at H
   have c6b0 : decide (0 ≤ x2_1) = true := decide_eq_true c6
   clear c6
   by_cases c7 : x2_1 < (x0_1.length : Int)
   rotate_left
   ·rw [if_neg c7] at H
    exact absurd H (by simp)
   rw [if_pos c7] at H
   have c7b0 : decide (x2_1 < (x0_1.length : Int)) = true := decide_eq_true c7
   clear c7
   obtain ⟨y132, hy132⟩ : ∃ y_ : List (S39), y_ = (x0_1.set (x2_1 : Int).toNat (⟨(rd_T39 x0_1 x3_1).f0, (rd_T39 x0_1 x3_1).f1⟩ : S39)) := ⟨_, rfl⟩
   replace H : (slices_Reverse_2_int_2_int.l0 k1 (y132.set (x3_1 : Int).toNat (⟨(rd_T39 x0_1 x2_1).f0, (rd_T39 x0_1 x2_1).f1⟩ : S39)) (wrap64 (x2_1 + 1)) (wrap64 (x3_1 - 1))) = some r := by first | (rw [hy132]; with_reducible exact H) | (have H2_ := (Option.bind_some _ _).symm.trans H; rw [hy132]; with_reducible exact H2_) | (have H2_ := (Option.bind_some _ _).symm.trans H; with_reducible exact H2_) | with_reducible exact H | (rw [hy132]; exact H) | exact H
   have Ny132 := zA hy132
   clear hy132
   obtain ⟨y133, hy133⟩ : ∃ y_ : List (S39), y_ = (y132.set (x3_1 : Int).toNat (⟨(rd_T39 x0_1 x2_1).f0, (rd_T39 x0_1 x2_1).f1⟩ : S39)) := ⟨_, rfl⟩
   replace H : (slices_Reverse_2_int_2_int.l0 k1 y133 (wrap64 (x2_1 + 1)) (wrap64 (x3_1 - 1))) = some r := by first | (rw [hy133]; with_reducible exact H) | (have H2_ := (Option.bind_some _ _).symm.trans H; rw [hy133]; with_reducible exact H2_) | (have H2_ := (Option.bind_some _ _).symm.trans H; with_reducible exact H2_) | with_reducible exact H | (rw [hy133]; exact H) | exact H
   have Ny133 := zA hy133
   clear hy133
   have H' := zA H
   clear H
   try go_wp2
   replace HO_0 := zA (Kd.R_drew HO_0.out)
   replace HK := zA (Kept.drew HK.out)
   replace HB := zA (below_drew1 HB.out)
   have p130 : 0 ≤ (x3_1 : Int) := za
   have q130 : x3_1 < (x0_1.length : Int) := za
   obtain ⟨ad130, e130, hx130_0, hx130_1⟩ := at_T39 (Kd.R_reads' HO_0.out).2.2 x3_1 p130 q130
   cases e130
   replace p130 := eq_true p130
   replace q130 := eq_true q130
   have p131 : 0 ≤ (x2_1 : Int) := za
   have q131 : x2_1 < (x0_1.length : Int) := za
   obtain ⟨ad131, e131, hx131_0, hx131_1⟩ := at_T39 (Kd.R_reads' HO_0.out).2.2 x2_1 p131 q131
   obtain rfl : ad130 = ad131 := (by injection e131)
   replace p131 := eq_true p131
   replace q131 := eq_true q131
   have p8 : 0 ≤ (x2_1 : Int) := za
   have q8 : (x2_1 : Int) < ((x0_1.length : Int) : Int) := za
   obtain ⟨go8, co8, eo8, gb8, gl8, cl8, HG8⟩ := Kd.R_form HO_0.out (by omega)
   (first | cases eo8 | (injection eo8 with ea_ en_ ec_; (first | subst ea_ | (injection ea_ with ea_; subst ea_)); subst ec_; clear en_))
   have GB8 := zA gb8
   have GG8 := zA HG8
   clear gb8 gl8 HG8
   have HMgo8 := zA (show (P0_ go8 ∨ w.heap.size ≤ go8) from (HO_0.out.1 _ rfl))
   (first | simp only [add_plain] at hx130_0 | skip)
   (first | simp only [add_plain] at hx130_1 | skip)
   (first | simp only [add_plain] at hx131_0 | skip)
   (first | simp only [add_plain] at hx131_1 | skip)
   obtain ⟨ce8, hcl8, hM8, hcc8, hfr8⟩ := Kd.R_elem HO_0.out z39 (x2_1 : Int) p8 q8
   obtain rfl := k39_openM hM8
   have hx8_0 : World.cell? _ ⟨go8, (x2_1 : Int).toNat * 2, none⟩ = some (.int .i64 ((rd_T39 x0_1 x2_1).f0)) := hcc8 0 _ rfl
   have hx8_1 : World.cell? _ ⟨go8, (x2_1 : Int).toNat * 2 + 1, none⟩ = some (.int .i64 ((rd_T39 x0_1 x2_1).f1)) := hcc8 1 _ rfl
   have hf8_0 : World.frozen? _ ⟨go8, (x2_1 : Int).toNat * 2, none⟩ = false := hfr8 0
   have hf8_1 : World.frozen? _ ⟨go8, (x2_1 : Int).toNat * 2 + 1, none⟩ = false := hfr8 1
   clear hcl8 hcc8 hfr8 hM8
   replace p8 := eq_true p8
   replace q8 := eq_true q8
   obtain ⟨ce11, hcl11, hM11, hcc11, hfr11⟩ := Kd.R_elem HO_0.out z39 (x2_1 : Int) (za) (by have h_ : (x2_1 : Int) < ((x0_1.length : Int) : Int) := za; first | exact h_ | (have e_ := (Kd.R_reads' HO_0.out).1; omega) | simpa using h_)
   obtain rfl := k39_openM hM11
   have HP11 := (Kd.R_seg HO_0.out (x2_1 : Int) (za) (by have h_ : (x2_1 : Int) < ((x0_1.length : Int) : Int) := za; first | exact h_ | (have e_ := (Kd.R_reads' HO_0.out).1; omega) | simpa using h_) (seg := [.int .i64 ((rd_T39 x0_1 x3_1).f0), .int .i64 ((rd_T39 x0_1 x3_1).f1)]) (j := 0) hcl11 hcc11 (show 2 ≤ 2 from by decide) (x' := (⟨(rd_T39 x0_1 x3_1).f0, (rd_T39 x0_1 x3_1).f1⟩ : S39)) (k39_mkM _ _ _ (⟨(rd_T39 x0_1 x3_1).f0, (rd_T39 x0_1 x3_1).f1⟩ : S39) ) (fun _ hk => hk)).1
   rw [← Ny132.out] at HP11
   have HQ11 := zA HP11
   clear hcl11 hcc11 hfr11 hM11 HP11
   have p9 : 0 ≤ (x3_1 : Int) := za
   have q9 : (x3_1 : Int) < ((x0_1.length : Int) : Int) := za
   obtain ⟨ce9, hcl9, hM9, hcc9, hfr9⟩ := Kd.R_elem HQ11.out z39 (x3_1 : Int) p9 q9
   obtain rfl := k39_openM hM9
   have hx9_0 : World.cell? _ ⟨go8, (x3_1 : Int).toNat * 2, none⟩ = some (.int .i64 ((rd_T39 y132 x3_1).f0)) := hcc9 0 _ rfl
   have hx9_1 : World.cell? _ ⟨go8, (x3_1 : Int).toNat * 2 + 1, none⟩ = some (.int .i64 ((rd_T39 y132 x3_1).f1)) := hcc9 1 _ rfl
   have hf9_0 : World.frozen? _ ⟨go8, (x3_1 : Int).toNat * 2, none⟩ = false := hfr9 0
   have hf9_1 : World.frozen? _ ⟨go8, (x3_1 : Int).toNat * 2 + 1, none⟩ = false := hfr9 1
   clear hcl9 hcc9 hfr9 hM9
   replace p9 := eq_true p9
   replace q9 := eq_true q9
   obtain ⟨ce12, hcl12, hM12, hcc12, hfr12⟩ := Kd.R_elem HQ11.out z39 (x3_1 : Int) (za) (by have h_ : (x3_1 : Int) < ((x0_1.length : Int) : Int) := za; first | exact h_ | (have e_ := (Kd.R_reads' HO_0.out).1; omega) | simpa using h_)
   obtain rfl := k39_openM hM12
   have HP12 := (Kd.R_seg HQ11.out (x3_1 : Int) (za) (by have h_ : (x3_1 : Int) < ((x0_1.length : Int) : Int) := za; first | exact h_ | (have e_ := (Kd.R_reads' HO_0.out).1; omega) | simpa using h_) (seg := [.int .i64 ((rd_T39 x0_1 x2_1).f0), .int .i64 ((rd_T39 x0_1 x2_1).f1)]) (j := 0) hcl12 hcc12 (show 2 ≤ 2 from by decide) (x' := (⟨(rd_T39 x0_1 x2_1).f0, (rd_T39 x0_1 x2_1).f1⟩ : S39)) (k39_mkM _ _ _ (⟨(rd_T39 x0_1 x2_1).f0, (rd_T39 x0_1 x2_1).f1⟩ : S39) ) (fun _ hk => hk)).1
   rw [← Ny133.out] at HP12
   have HQ12 := zA HP12
   clear hcl12 hcc12 hfr12 hM12 HP12
   refine start_ (n := 16) (S := fun w' => w'.cell? ⟨go8, ((x3_1).toNat * 2), none⟩ = some (.int .i64 ((rd_T39 x0_1 x3_1).f0)) ∧ w'.cell? ⟨go8, ((x3_1).toNat * 2) + 1, none⟩ = some (.int .i64 ((rd_T39 x0_1 x3_1).f1)) ∧ w'.cell? ⟨go8, ((x2_1).toNat * 2), none⟩ = some (.int .i64 ((rd_T39 x0_1 x2_1).f0)) ∧ w'.cell? ⟨go8, ((x2_1).toNat * 2) + 1, none⟩ = some (.int .i64 ((rd_T39 x0_1 x2_1).f1))) (ds := [13, 15]) #[F,F,F,F,F,F,F,F,F,F,F,F,F,F,F,F] (by kernel_rfl) rfl rfl ⟨hx130_0, hx130_1, hx131_0, hx131_1⟩ (fun hHeld => ?_); refine with_tabW slices_Reverse_2_int_2_int.tab3 slices_Reverse_2_int_2_int.bits3 (fun HT_ HW_ => ?_)
   generalize wr.drew = w10 at HO_0 HK HB GG8 HQ11 HQ12 hf8_0 hf8_1 hf9_0 hf9_1 hx130_0 hx130_1 hx131_0 hx131_1 hx8_0 hx8_1 hx9_0 hx9_1 hHeld ⊢
   have hlt_ : x2_1 < x3_1 := za
   have h20_ : 0 ≤ x2_1 := za
   have hne_ : ¬ (x2_1 : Int).toNat = (x3_1 : Int).toNat := by omega
   have hnf_ : ¬ (x3_1 : Int).toNat = (x2_1 : Int).toNat := fun e => hne_ e.symm
   clear hlt_ h20_
   obtain ⟨_, _, _, _, hfz_⟩ := Kd.R_elem HO_0.out z39 (x3_1 : Int) (of_eq_true p9) (of_eq_true q9)
   have hfy_0 : w10.frozen? ⟨go8, (x3_1 : Int).toNat * 2, none⟩ = false := hfz_ 0
   have hfy_1 : w10.frozen? ⟨go8, (x3_1 : Int).toNat * 2 + 1, none⟩ = false := hfz_ 1
   clear hfz_
   refine zq HT_ 0 ?_
   refine zq HT_ 1 ?_
   refine zq HT_ 2 ?_
   refine zq HT_ 3 ?_
   refine zq HT_ 4 ?_
   refine zq HT_ 5 ?_
   refine zq HT_ 6 ?_
   refine zq HT_ 8 ?_
   refine zq HT_ 9 ?_
   refine zq HT_ 10 ?_
   refine zk4 HT_ HW_ hHeld 7 ?_
   refine zk4 HT_ HW_ hHeld 11 ?_
   refine zq HT_ 12 ?_
   refine zO HT_ 13 (fun K hK => ?_)
   refine skip_ (w1 := ?_) (by rfl) rfl ?_ ?_
   rotate_left
   ·go_simp
    rfl
   refine hK.out _ _ ?_
   clear hK K
   refine zq HT_ 14 ?_
   refine zO HT_ 15 (fun K hK => ?_)
   refine skip_ (w1 := ?_) (by rfl) rfl ?_ ?_
   rotate_left
   ·go_simp
    rfl
   refine hK.out _ _ ?_
   clear hK K
   refine done_ (done_of HT_.out (by kernel_rfl)) ?_
   try go_wp2
   (try simp only [← hl0_1])
   go_roundg k1
   case measure => have := HK1.out; omega
   case rel => exact ⟨(y133), (wrap64 (x2_1 + 1)), (wrap64 (x3_1 - 1)), zi, zi, H', ⟨by have := HK1.out; omega⟩, ⟨by (try simp only [hl0_1]); (with_reducible repeat (first | apply Kd.R_alloc | apply Kd.R_drewN | apply Kd.R_drew)); exact HQ12.out⟩, ⟨by repeat (first | (with_reducible first | exact HK.out | apply Kept.alloc | apply Kept.drewN | apply Kept.drew | refine Kept.setCell ?_ HMgo8.out _ | refine Kept.setCell ?_ HMgo8.out _ | refine Kept.setCell ?_ HMgo8.out _ | refine Kept.setCell ?_ HMgo8.out _) | exact HK.out)⟩, ⟨by repeat (first | (with_reducible first | exact HB.out | apply below_alloc | apply pw_below_drewN | apply below_drew1 | refine below_set ?_ GB8.out | refine below_set ?_ GB8.out | refine below_set ?_ GB8.out | refine below_set ?_ GB8.out) | exact HB.out)⟩⟩
end Go.Proofs.Ytaeichaofhcheaa.QFnSkyLegs
