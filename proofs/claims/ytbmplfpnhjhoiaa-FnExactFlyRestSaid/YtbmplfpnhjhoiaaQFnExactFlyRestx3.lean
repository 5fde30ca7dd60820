/- The walk of what the law FnExactFlyRest reaches: laid by a program of this session (ownprint.py). -/
import Derived.Test.YtbmplfpnhjhoiaaQFnExactFlyRestx0
namespace Go.Proofs.Ytbmplfpnhjhoiaa.QFnExactFlyRest
open Go.RowKit Go.Proofs.YtbmplfpnhjhoiaaW.PrintWords Go.Proofs.YtbmplfpnhjhoiaaW.PrintLast Go.Proofs.YtbmplfpnhjhoiaaW.PrintMore Go.Proofs.Ytbmplfpnhjhoiaa.Z
attribute [local go_sem] max2_int min2_int max_two min_two max_three min_three max_four min_four zdn   -- for this text's walks alone
set_option linter.unusedVariables false
set_option linter.unusedSimpArgs false
def laws_toFlyKind.f (a0_0 : Int) (a0_1 : Int) : Option (Int × Int) := some (a0_0, a0_1)
set_option maxHeartbeats 8000000 in
set_option maxRecDepth 100000 in
theorem laws_toFlyKind.calls (a0_0 : Int) (a0_1 : Int) (r1 : Int) (r2 : Int) (w : World) (h : laws_toFlyKind.f a0_0 a0_1 = some (r1, r2)) :
 Calls Try.prog 44 #[.agg #[.int .i64 a0_0, .int .i64 a0_1]] w fun e w' => e = .returned (.agg #[.int .i64 r1, .int .i64 r2]) ∧ Below w.heap.size w w' := by
 have hu35 := Try.underlying35
 have hu44 := Try.underlying44
 have HB := zA (Below.refl w.heap.size w)
 have H : (some (a0_0, a0_1)) = some (r1, r2) := h
 clear h
 simp only [Option.some.injEq, Prod.mk.injEq] at H
 obtain ⟨rfl, rfl⟩ := H
 go_enter Try.func44, Try.ntmps44
 go_wp2_with (first | ((with_reducible refine gate_dst (N := 1) rfl ?_); refine zbx 1 #[.int .i64 a0_0, .int .i64 a0_1] 35 ?_; intro gb133 hg w2 hbox hb; have BK133 := zA hbox; have GW133 := zgs hg (zs0 HB); have GE133 := zgs hg (zs0 HB); replace HB := zE (zs0 HB) hb; clear hb hbox hg) | ((with_reducible refine gate_dst (N := 2) rfl ?_); refine zbx 2 #[.int .i64 0, .int .i64 0] 44 ?_; intro gb134 hg w3 hbox hb; have BK134 := zA hbox; have GW134 := zgs hg (zs1 HB GE133); have GE134 := zgs hg (zs1 HB GE133); have NB133_134 := zne hg BK133; have NB134_133 := znf hg BK133; replace BK133 := zb BK133 hb; replace HB := zE (zs1 HB GE133) hb; clear hb hbox hg) | ((with_reducible refine gate_dst (N := 3) rfl ?_); refine zbx 3 #[.int .i64 0, .int .i64 0] 44 ?_; intro gb135 hg w4 hbox hb; have BK135 := zA hbox; have GW135 := zgs hg (zs2 HB GE133 GE134); have GE135 := zgs hg (zs2 HB GE133 GE134); have NB133_135 := zne hg BK133; have NB135_133 := znf hg BK133; have NB134_135 := zne hg BK134; have NB135_134 := znf hg BK134; replace BK133 := zb BK133 hb; replace BK134 := zb BK134 hb; replace HB := zE (zs2 HB GE133 GE134) hb; clear hb hbox hg; have hnb5 := NB133_134.out; have hnc5 := NB134_133.out; have hnb6 := NB133_135.out; have hnc6 := NB135_133.out; obtain ⟨hcz7_0, hcz7_1⟩ := zd2 BK133; obtain ⟨hfz7_0, hfz7_1⟩ := zn2 BK133; have hnb8 := NB135_134.out; have hnc8 := NB134_135.out; obtain ⟨hcz9_0, hcz9_1⟩ := zd2 BK135; obtain ⟨hfz9_0, hfz9_1⟩ := zn2 BK135; obtain ⟨hcz10_0, hcz10_1⟩ := zd2 BK134; obtain ⟨hfz10_0, hfz10_1⟩ := zn2 BK134))
 refine bodyPost_ret (results_cell_row rfl _ _ gb134 44 #[.int .i64 a0_0, .int .i64 a0_1] (0, 0) _ rfl ?hz Try.underlying44 rfl (by kernel_rfl)) rfl ?_; (case hz => exact zpf BK134 NB134_135)
 exact ⟨ze, zs3 HB GE133 GE134 GE135⟩
def laws_toFlyStep.f (a0_0 : Int) (a0_1 : Int) (a0_2 : Int) (a0_3 : Int) (a0_4 : Int) (a0_5 : Int) (a0_6 : Bool) : Option (Int × Int × Int × Int × Int × Int × Bool) := some (a0_0, a0_1, a0_2, a0_3, a0_4, a0_5, a0_6)
set_option maxHeartbeats 8000000 in
set_option maxRecDepth 100000 in
theorem laws_toFlyStep.calls (a0_0 : Int) (a0_1 : Int) (a0_2 : Int) (a0_3 : Int) (a0_4 : Int) (a0_5 : Int) (a0_6 : Bool) (r1 : Int) (r2 : Int) (r3 : Int) (r4 : Int) (r5 : Int) (r6 : Int) (r7 : Bool) (w : World) (h : laws_toFlyStep.f a0_0 a0_1 a0_2 a0_3 a0_4 a0_5 a0_6 = some (r1, r2, r3, r4, r5, r6, r7)) :
 Calls Try.prog 155 #[.agg #[.int .i64 a0_0, .int .i64 a0_1, .int .i64 a0_2, .int .i64 a0_3, .int .i64 a0_4, .int .i64 a0_5, .bool a0_6]] w fun e w' => e = .returned (.agg #[.int .i64 r1, .int .i64 r2, .int .i64 r3, .int .i64 r4, .int .i64 r5, .int .i64 r6, .bool r7]) ∧ Below w.heap.size w w' := by
 have hu170 := Try.underlying170
 have hu132 := Try.underlying132
 have HB := zA (Below.refl w.heap.size w)
 have H : (some (a0_0, a0_1, a0_2, a0_3, a0_4, a0_5, a0_6)) = some (r1, r2, r3, r4, r5, r6, r7) := h
 clear h
 simp only [Option.some.injEq, Prod.mk.injEq] at H
 obtain ⟨rfl, rfl, rfl, rfl, rfl, rfl, rfl⟩ := H
 go_enter Try.func155, Try.ntmps155
 go_wp2_with (first | ((with_reducible refine gate_dst (N := 1) rfl ?_); refine zbx 1 #[.int .i64 a0_0, .int .i64 a0_1, .int .i64 a0_2, .int .i64 a0_3, .int .i64 a0_4, .int .i64 a0_5, .bool a0_6] 170 ?_; intro gb136 hg w2 hbox hb; have BK136 := zA hbox; have GW136 := zgs hg (zs0 HB); have GE136 := zgs hg (zs0 HB); replace HB := zE (zs0 HB) hb; clear hb hbox hg) | ((with_reducible refine gate_dst (N := 2) rfl ?_); refine zbx 2 #[.int .i64 0, .int .i64 0, .int .i64 0, .int .i64 0, .int .i64 0, .int .i64 0, .bool false] 132 ?_; intro gb137 hg w3 hbox hb; have BK137 := zA hbox; have GW137 := zgs hg (zs1 HB GE136); have GE137 := zgs hg (zs1 HB GE136); have NB136_137 := zne hg BK136; have NB137_136 := znf hg BK136; replace BK136 := zb BK136 hb; replace HB := zE (zs1 HB GE136) hb; clear hb hbox hg) | ((with_reducible refine gate_dst (N := 3) rfl ?_); refine zbx 3 #[.int .i64 0, .int .i64 0, .int .i64 0, .int .i64 0, .int .i64 0, .int .i64 0, .bool false] 132 ?_; intro gb138 hg w4 hbox hb; have BK138 := zA hbox; have GW138 := zgs hg (zs2 HB GE136 GE137); have GE138 := zgs hg (zs2 HB GE136 GE137); have NB136_138 := zne hg BK136; have NB138_136 := znf hg BK136; have NB137_138 := zne hg BK137; have NB138_137 := znf hg BK137; replace BK136 := zb BK136 hb; replace BK137 := zb BK137 hb; replace HB := zE (zs2 HB GE136 GE137) hb; clear hb hbox hg; have hnb5 := NB136_137.out; have hnc5 := NB137_136.out; have hnb6 := NB136_138.out; have hnc6 := NB138_136.out; obtain ⟨hcz7_0, hcz7_1, hcz7_2, hcz7_3, hcz7_4, hcz7_5, hcz7_6⟩ := zd7 BK136; obtain ⟨hfz7_0, hfz7_1, hfz7_2, hfz7_3, hfz7_4, hfz7_5, hfz7_6⟩ := zn7 BK136; have hnb8 := NB138_137.out; have hnc8 := NB137_138.out; obtain ⟨hcz9_0, hcz9_1, hcz9_2, hcz9_3, hcz9_4, hcz9_5, hcz9_6⟩ := zd7 BK138; obtain ⟨hfz9_0, hfz9_1, hfz9_2, hfz9_3, hfz9_4, hfz9_5, hfz9_6⟩ := zn7 BK138; obtain ⟨hcz10_0, hcz10_1, hcz10_2, hcz10_3, hcz10_4, hcz10_5, hcz10_6⟩ := zd7 BK137; obtain ⟨hfz10_0, hfz10_1, hfz10_2, hfz10_3, hfz10_4, hfz10_5, hfz10_6⟩ := zn7 BK137))
 refine bodyPost_ret (results_cell_row rfl _ _ gb137 132 #[.int .i64 a0_0, .int .i64 a0_1, .int .i64 a0_2, .int .i64 a0_3, .int .i64 a0_4, .int .i64 a0_5, .bool a0_6] (0, 0) _ rfl ?hz Try.underlying132 rfl (by kernel_rfl)) rfl ?_; (case hz => exact zpf BK137 NB137_138)
 exact ⟨ze, zs3 HB GE136 GE137 GE138⟩
def laws_toFlyStepS.l0 : Nat → List (S170) → List (S132) → Int → Option ((List (S132)))
 | 0, _, _, _ => none
 | k + 1, x0, x3, x4 => if x4 < (x0.length : Int) then (if 0 ≤ x4 then ((laws_toFlyStep.f ((rd_T170 x0 x4).f0) ((rd_T170 x0 x4).f1) ((rd_T170 x0 x4).f2) ((rd_T170 x0 x4).f3) ((rd_T170 x0 x4).f4) ((rd_T170 x0 x4).f5) ((rd_T170 x0 x4).f6)).bind fun bt143 => (if x4 < (x3.length : Int) then (laws_toFlyStepS.l0 k x0 (x3.set (x4 : Int).toNat (⟨bt143.1, bt143.2.1, bt143.2.2.1, bt143.2.2.2.1, bt143.2.2.2.2.1, bt143.2.2.2.2.2.1, bt143.2.2.2.2.2.2⟩ : S132)) (wrap64 (x4 + 1))) else (none))) else (none)) else (some x3)
def laws_toFlyStepS.f (k : Nat) (l0 : List (S170)) : Option ((List (S132))) := if 0 ≤ (l0.length : Int) then (if ((l0.length : Int) : Int).toNat ≤ 5026338869833 then (laws_toFlyStepS.l0 k l0 (List.replicate ((l0.length : Int) : Int).toNat z132) 0) else (none)) else (none)
set_option maxHeartbeats 8000000 in
set_option maxRecDepth 100000 in
theorem laws_toFlyStepS.calls (k : Nat) (A0 : Option Addr) (c0 : Nat) (l0 : List (S170)) (r : List (S132)) (w : World) (hr0 : Kd.C k170 w A0 l0.length l0) (hc0 : l0.length ≤ c0) (h : laws_toFlyStepS.f k l0 = some r) :
 Calls Try.prog 122 #[.slice A0 l0.length c0] w fun e w' => ∃ v0_ : Value, e = .returned (v0_) ∧ Kd.R k132 132 w' w.heap.size (fun _ => True) v0_ r ∧ Below w.heap.size w w' := by
 have hu170 := Try.underlying170
 have hu132 := Try.underlying132
 have HR0 := zA hr0
 have HC0 := zA hc0
 clear hr0 hc0
 have HB := zA (Below.refl w.heap.size w)
 have H : (if 0 ≤ (l0.length : Int) then (if ((l0.length : Int) : Int).toNat ≤ 5026338869833 then (laws_toFlyStepS.l0 k l0 (List.replicate ((l0.length : Int) : Int).toNat z132) 0) else (none)) else (none)) = some r := h
 clear h
 by_cases c2 : 0 ≤ (l0.length : Int)
 rotate_left
 ·rw [if_neg c2] at H
  exact absurd H (by simp)
 rw [if_pos c2] at H
 have c2b0 := eq_true c2
 have c2b1 : decide (0 ≤ (l0.length : Int)) = true := decide_eq_true c2
 clear c2
 by_cases c3 : ((l0.length : Int) : Int).toNat ≤ 5026338869833
 rotate_left
 ·rw [if_neg c3] at H
  exact absurd H (by simp)
 rw [if_pos c3] at H
 have c3b0 := eq_true c3
 have c3b1 : decide (((l0.length : Int) : Int).toNat ≤ 5026338869833) = true := decide_eq_true c3
 clear c3
 obtain ⟨y139, hy139⟩ : ∃ y_ : List (S132), y_ = (List.replicate ((l0.length : Int) : Int).toNat z132) := ⟨_, rfl⟩
 replace H : (laws_toFlyStepS.l0 k l0 y139 0) = some r := by first | (rw [hy139]; with_reducible exact H) | (have H2_ := (Option.bind_some _ _).symm.trans H; rw [hy139]; with_reducible exact H2_) | (have H2_ := (Option.bind_some _ _).symm.trans H; with_reducible exact H2_) | with_reducible exact H | (rw [hy139]; exact H) | exact H
 have Ny139 := zA hy139
 clear hy139
 have H' := zA H
 clear H
 go_enter Try.func122, Try.ntmps122
 go_wp2_with (first | ((with_reducible refine gate_dst (N := 7) rfl ?_); refine Kd.R_make k132 _ 132 rfl (N := 7) rfl 66 _ _ rfl (l0.length : Int) rfl rfl Try.underlying66 (.agg #[(.int .i64 0), (.int .i64 0), (.int .i64 0), (.int .i64 0), (.int .i64 0), (.int .i64 0), (.bool false)]) 56 info132 rfl (by decide) (by omega) z132 (ok := fun _ => True) (okp := fun _ => True) (k132_mkM _ _ _ z132 ) (fun _ hk => hk) trivial (za) (Nat.le_trans (Nat.mul_le_mul_right _ (za : (l0.length : Int).toNat ≤ 5026338869833)) (by omega)) (Below.refl _ _) (Nat.le_refl _) ?_; intro v140 w4 ho5 hb hg_ hnew_; clear hg_ hnew_; (first | rw [← Ny139.out] at ho5 | (simp only [Int.reduceToNat] at ho5; rw [← Ny139.out] at ho5)); have HO141 := zA (Kd.R_lower ho5 (below_size (zs0 HB))); replace HB := zE (zs0 HB) hb; clear hb ho5))
 go_loopg [4] k (fun kq v4 w' => ∃ (x3_1 : List (S132)) (x4_1 : Int), v4 = .int .i64 x4_1 ∧ Aside0 (laws_toFlyStepS.l0 kq l0 x3_1 x4_1 = some r) ∧ Aside0 (kq ≤ k) ∧ Aside0 (Kd.R k132 132 w' w.heap.size (fun _ => True) v140 x3_1) ∧ Aside0 (Below w.heap.size w w'))
 case atStart => exact ⟨(y139), (0), zi, H', ⟨Nat.le_refl _⟩, ⟨zr HO141⟩, ⟨zs0 HB⟩⟩
 case round =>
  clear H'
  try clear c1
  try clear c2
  try clear c2b0
  try clear c2b1
  try clear p2
  try clear c3
  try clear c3b0
  try clear c3b1
  obtain ⟨x3_1, x4_1, rfl, HA, HK1, HO_3, HB⟩ := hrel
  cases gk with
  | zero => exact absurd HA.out (by simp [laws_toFlyStepS.l0])
  | succ k1 =>
   have H := HA.out
   clear HA
   simp only [laws_toFlyStepS.l0] at H
   by_cases c6 : x4_1 < (l0.length : Int)
   rotate_left
   ·rw [if_neg c6] at H
    have c6b0 : decide (x4_1 < (l0.length : Int)) = false := decide_eq_false c6
    clear c6
    obtain rfl := Option.some.inj H
    go_wp2
    go_ret
    exact ⟨_, ze, zr HO_3, zs0 HB⟩
   rw [if_pos c6] at H
   have c6b0 : decide (x4_1 < (l0.length : Int)) = true := decide_eq_true c6
   clear c6
   by_cases c7 : 0 ≤ x4_1
   rotate_left
   ·rw [if_neg c7] at H
    exact absurd H (by simp)
   rw [if_pos c7] at H
   have c7b0 : decide (0 ≤ x4_1) = true := decide_eq_true c7
   clear c7
   replace H := Option.bind_eq_some_iff.mp H
   obtain ⟨⟨t143, t144, t145, t146, t147, t148, t149⟩, A80, H⟩ := H
   replace H : (if x4_1 < (x3_1.length : Int) then (laws_toFlyStepS.l0 k1 l0 (x3_1.set (x4_1 : Int).toNat (⟨t143, t144, t145, t146, t147, t148, t149⟩ : S132)) (wrap64 (x4_1 + 1))) else (none)) = some r := H
   have A8 := zA A80
   clear A80
   by_cases c9 : x4_1 < (x3_1.length : Int)
   rotate_left
   ·rw [if_neg c9] at H
    exact absurd H (by simp)
   rw [if_pos c9] at H
   have c9b0 : decide (x4_1 < (x3_1.length : Int)) = true := decide_eq_true c9
   clear c9
   obtain ⟨y150, hy150⟩ : ∃ y_ : List (S132), y_ = (x3_1.set (x4_1 : Int).toNat (⟨t143, t144, t145, t146, t147, t148, t149⟩ : S132)) := ⟨_, rfl⟩
   replace H : (laws_toFlyStepS.l0 k1 l0 y150 (wrap64 (x4_1 + 1))) = some r := by first | (rw [hy150]; with_reducible exact H) | (have H2_ := (Option.bind_some _ _).symm.trans H; rw [hy150]; with_reducible exact H2_) | (have H2_ := (Option.bind_some _ _).symm.trans H; with_reducible exact H2_) | with_reducible exact H | (rw [hy150]; exact H) | exact H
   have Ny150 := zA hy150
   clear hy150
   have H' := zA H
   clear H
   have p142 : 0 ≤ (x4_1 : Int) := za
   have q142 : x4_1 < (l0.length : Int) := za
   obtain ⟨ad142, e142, hx142_0, hx142_1, hx142_2, hx142_3, hx142_4, hx142_5, hx142_6⟩ := at_T170 HR0.out x4_1 p142 q142
   cases e142
   replace hx142_0 := zx HB hx142_0
   replace hx142_1 := zx HB hx142_1
   replace hx142_2 := zx HB hx142_2
   replace hx142_3 := zx HB hx142_3
   replace hx142_4 := zx HB hx142_4
   replace hx142_5 := zx HB hx142_5
   replace hx142_6 := zx HB hx142_6
   replace p142 := eq_true p142
   replace q142 := eq_true q142
   go_wp2_with (first | ((with_reducible refine gate_callee (f := 155) rfl ?_); refine zgl (N := some 20) Try.func155 #[.agg #[.int .i64 ((rd_T170 l0 x4_1).f0), .int .i64 ((rd_T170 l0 x4_1).f1), .int .i64 ((rd_T170 l0 x4_1).f2), .int .i64 ((rd_T170 l0 x4_1).f3), .int .i64 ((rd_T170 l0 x4_1).f4), .int .i64 ((rd_T170 l0 x4_1).f5), .bool ((rd_T170 l0 x4_1).f6)]] ?_; (with_reducible refine (laws_toFlyStep.calls ((rd_T170 l0 x4_1).f0) ((rd_T170 l0 x4_1).f1) ((rd_T170 l0 x4_1).f2) ((rd_T170 l0 x4_1).f3) ((rd_T170 l0 x4_1).f4) ((rd_T170 l0 x4_1).f5) ((rd_T170 l0 x4_1).f6) t143 t144 t145 t146 t147 t148 t149 _ A8.out).mono ?_); rintro e w11 ⟨rfl, hb⟩; refine ⟨_, rfl, ?_⟩; replace HO_3 := zA (Kd.R_below (zr HO_3) hb); replace HB := zE (zs0 HB) hb; (try clear hb); (try clear hb2); (try clear hk); (try clear hi); have p10 : 0 ≤ (x4_1 : Int) := za; have q10 : (x4_1 : Int) < ((x3_1.length : Int) : Int) := za; obtain ⟨go10, co10, eo10, gb10, gl10, cl10, HG10⟩ := Kd.R_form HO_3.out (by omega); (first | cases eo10 | (injection eo10 with ea_ en_ ec_; (first | subst ea_ | (injection ea_ with ea_; subst ea_)); subst ec_; clear en_)); have GB10 := zA gb10; have GG10 := zA HG10; clear gb10 gl10 HG10; obtain ⟨ce10, hcl10, hM10, hcc10, hfr10⟩ := Kd.R_elem HO_3.out z132 (x4_1 : Int) p10 q10; obtain rfl := k132_openM hM10; have hx10_0 : w11.cell? ⟨go10, (x4_1 : Int).toNat * 7, none⟩ = some (.int .i64 ((rd_T132 x3_1 x4_1).f0)) := hcc10 0 _ rfl; have hx10_1 : w11.cell? ⟨go10, (x4_1 : Int).toNat * 7 + 1, none⟩ = some (.int .i64 ((rd_T132 x3_1 x4_1).f1)) := hcc10 1 _ rfl; have hx10_2 : w11.cell? ⟨go10, (x4_1 : Int).toNat * 7 + 2, none⟩ = some (.int .i64 ((rd_T132 x3_1 x4_1).f2)) := hcc10 2 _ rfl; have hx10_3 : w11.cell? ⟨go10, (x4_1 : Int).toNat * 7 + 3, none⟩ = some (.int .i64 ((rd_T132 x3_1 x4_1).f3)) := hcc10 3 _ rfl; have hx10_4 : w11.cell? ⟨go10, (x4_1 : Int).toNat * 7 + 4, none⟩ = some (.int .i64 ((rd_T132 x3_1 x4_1).f4)) := hcc10 4 _ rfl; have hx10_5 : w11.cell? ⟨go10, (x4_1 : Int).toNat * 7 + 5, none⟩ = some (.int .i64 ((rd_T132 x3_1 x4_1).f5)) := hcc10 5 _ rfl; have hx10_6 : w11.cell? ⟨go10, (x4_1 : Int).toNat * 7 + 6, none⟩ = some (.bool ((rd_T132 x3_1 x4_1).f6)) := hcc10 6 _ rfl; have hf10_0 : w11.frozen? ⟨go10, (x4_1 : Int).toNat * 7, none⟩ = false := hfr10 0; have hf10_1 : w11.frozen? ⟨go10, (x4_1 : Int).toNat * 7 + 1, none⟩ = false := hfr10 1; have hf10_2 : w11.frozen? ⟨go10, (x4_1 : Int).toNat * 7 + 2, none⟩ = false := hfr10 2; have hf10_3 : w11.frozen? ⟨go10, (x4_1 : Int).toNat * 7 + 3, none⟩ = false := hfr10 3; have hf10_4 : w11.frozen? ⟨go10, (x4_1 : Int).toNat * 7 + 4, none⟩ = false := hfr10 4; have hf10_5 : w11.frozen? ⟨go10, (x4_1 : Int).toNat * 7 + 5, none⟩ = false := hfr10 5; have hf10_6 : w11.frozen? ⟨go10, (x4_1 : Int).toNat * 7 + 6, none⟩ = false := hfr10 6; clear hcl10 hcc10 hfr10 hM10; replace p10 := eq_true p10; replace q10 := eq_true q10; have HX12 := zA (show Kd.R k132 132 w11 w.heap.size (fun _ => True) (.slice (some ⟨go10, 0, none⟩) x3_1.length co10) x3_1 from (zr HO_3)); obtain ⟨ce12, hcl12, hM12, hcc12, hfr12⟩ := Kd.R_elem HX12.out z132 (x4_1 : Int) (za) (by have h_ : (x4_1 : Int) < ((x3_1.length : Int) : Int) := za; first | exact h_ | (have e_ := (Kd.R_reads' HO_3.out).1; omega) | simpa using h_); obtain rfl := k132_openM hM12; have HP12 := Kd.R_seg HX12.out (x4_1 : Int) (za) (by have h_ : (x4_1 : Int) < ((x3_1.length : Int) : Int) := za; first | exact h_ | (have e_ := (Kd.R_reads' HO_3.out).1; omega) | simpa using h_) (seg := [.int .i64 t143, .int .i64 t144, .int .i64 t145, .int .i64 t146, .int .i64 t147, .int .i64 t148, .bool t149]) (j := 0) hcl12 hcc12 (show 7 ≤ 7 from by decide) (x' := (⟨t143, t144, t145, t146, t147, t148, t149⟩ : S132)) (k132_mkM _ _ _ (⟨t143, t144, t145, t146, t147, t148, t149⟩ : S132) ) (fun _ hk => hk); have hx12_0 := hcc12 0 _ rfl; (try simp only [show (k132).sz = 7 from rfl, Nat.mul_one, Nat.add_zero] at hx12_0); have hf12_0 := hfr12 0; (try simp only [show (k132).sz = 7 from rfl, Nat.mul_one, Nat.add_zero] at hf12_0); have hx12_1 := hcc12 1 _ rfl; (try simp only [show (k132).sz = 7 from rfl, Nat.mul_one, Nat.add_zero] at hx12_1); have hf12_1 := hfr12 1; (try simp only [show (k132).sz = 7 from rfl, Nat.mul_one, Nat.add_zero] at hf12_1); have hx12_2 := hcc12 2 _ rfl; (try simp only [show (k132).sz = 7 from rfl, Nat.mul_one, Nat.add_zero] at hx12_2); have hf12_2 := hfr12 2; (try simp only [show (k132).sz = 7 from rfl, Nat.mul_one, Nat.add_zero] at hf12_2); have hx12_3 := hcc12 3 _ rfl; (try simp only [show (k132).sz = 7 from rfl, Nat.mul_one, Nat.add_zero] at hx12_3); have hf12_3 := hfr12 3; (try simp only [show (k132).sz = 7 from rfl, Nat.mul_one, Nat.add_zero] at hf12_3); have hx12_4 := hcc12 4 _ rfl; (try simp only [show (k132).sz = 7 from rfl, Nat.mul_one, Nat.add_zero] at hx12_4); have hf12_4 := hfr12 4; (try simp only [show (k132).sz = 7 from rfl, Nat.mul_one, Nat.add_zero] at hf12_4); have hx12_5 := hcc12 5 _ rfl; (try simp only [show (k132).sz = 7 from rfl, Nat.mul_one, Nat.add_zero] at hx12_5); have hf12_5 := hfr12 5; (try simp only [show (k132).sz = 7 from rfl, Nat.mul_one, Nat.add_zero] at hf12_5); have hx12_6 := hcc12 6 _ rfl; (try simp only [show (k132).sz = 7 from rfl, Nat.mul_one, Nat.add_zero] at hx12_6); have hf12_6 := hfr12 6; (try simp only [show (k132).sz = 7 from rfl, Nat.mul_one, Nat.add_zero] at hf12_6); clear hcl12 hcc12 hfr12 hM12) | ((with_reducible refine gate_store (t := 132) (p := 21) rfl ?_); refine store_event (t := 132) (p := 21) (v := ?vo_w13) (w1 := (((((((w11.setCell ⟨go10, (x4_1 : Int).toNat * 7, none⟩ (.int .i64 t143)).setCell ⟨go10, (x4_1 : Int).toNat * 7 + 1, none⟩ (.int .i64 t144)).setCell ⟨go10, (x4_1 : Int).toNat * 7 + 2, none⟩ (.int .i64 t145)).setCell ⟨go10, (x4_1 : Int).toNat * 7 + 3, none⟩ (.int .i64 t146)).setCell ⟨go10, (x4_1 : Int).toNat * 7 + 4, none⟩ (.int .i64 t147)).setCell ⟨go10, (x4_1 : Int).toNat * 7 + 5, none⟩ (.int .i64 t148)).setCell ⟨go10, (x4_1 : Int).toNat * 7 + 6, none⟩ (.bool t149))) ?hg ?ho ?hn ?hr ?_; (case ho => rfl); (case hg => rfl); (case hn => rfl); (case hr => first | (go_simp; done) | (go_simp; rfl)); intro w13 hw; have hg : w11.grownBy w13 (some go10) := (by rw [hw]; exact HP12.2); have hp_ : Kd.R k132 132 w13 w.heap.size (fun _ => True) (.slice (some ⟨go10, 0, none⟩) x3_1.length co10) y150 := (by rw [hw, Ny150.out]; exact HP12.1); clear HP12; replace HO_3 := zA (hp_); replace HB := zA ((by rw [hw]; exact below_set (below_set (below_set (below_set (below_set (below_set (below_set (HB.out) GB10.out) GB10.out) GB10.out) GB10.out) GB10.out) GB10.out) GB10.out : Below w.heap.size w w13)); clear hg hw hp_))
   go_roundg k1
   case measure => have := HK1.out; omega
   case rel => exact ⟨(y150), (wrap64 (x4_1 + 1)), zi, H', ⟨by have := HK1.out; omega⟩, ⟨zr HO_3⟩, ⟨zs0 HB⟩⟩
def laws_toFlyPath.f (k : Nat) (a0_0 : Int) (a0_1 : Int) (l0_2 : List (S170)) (a0_3 : Int) (a0_4 : Int) : Option (Int × Int × (List (S132)) × Int × Int) := (laws_toFlyKind.f a0_0 a0_1).bind fun bt154 => ((laws_toFlyStepS.f k l0_2).bind fun t156 => (some (bt154.1, bt154.2, t156, a0_3, a0_4)))
set_option maxHeartbeats 8000000 in
set_option maxRecDepth 100000 in
theorem laws_toFlyPath.calls (k : Nat) (a0_0 : Int) (a0_1 : Int) (A0_2 : Option Addr) (c0_2 : Nat) (l0_2 : List (S170)) (a0_3 : Int) (a0_4 : Int) (r1 : Int) (r2 : Int) (r3 : List (S132)) (r4 : Int) (r5 : Int) (w : World) (hr0_2 : Kd.C k170 w A0_2 l0_2.length l0_2) (hc0_2 : l0_2.length ≤ c0_2) (h : laws_toFlyPath.f k a0_0 a0_1 l0_2 a0_3 a0_4 = some (r1, r2, r3, r4, r5)) :
 Calls Try.prog 64 #[.agg #[.int .i64 a0_0, .int .i64 a0_1, .slice A0_2 l0_2.length c0_2, .int .i64 a0_3, .int .i64 a0_4]] w fun e w' => ∃ v2_ : Value, e = .returned (.agg #[.int .i64 r1, .int .i64 r2, v2_, .int .i64 r4, .int .i64 r5]) ∧ Kd.R k132 132 w' w.heap.size (fun _ => True) v2_ r3 ∧ Below w.heap.size w w' := by
 have hu91 := Try.underlying91
 have hu68 := Try.underlying68
 have hu35 := Try.underlying35
 have hu44 := Try.underlying44
 have HR0_2 := zA hr0_2
 have HC0_2 := zA hc0_2
 clear hr0_2 hc0_2
 have HB := zA (Below.refl w.heap.size w)
 have H : ((laws_toFlyKind.f a0_0 a0_1).bind fun bt154 => ((laws_toFlyStepS.f k l0_2).bind fun t156 => (some (bt154.1, bt154.2, t156, a0_3, a0_4)))) = some (r1, r2, r3, r4, r5) := h
 clear h
 replace H := Option.bind_eq_some_iff.mp H
 obtain ⟨⟨t154, t155⟩, A20, H⟩ := H
 replace H : ((laws_toFlyStepS.f k l0_2).bind fun t156 => (some (t154, t155, t156, a0_3, a0_4))) = some (r1, r2, r3, r4, r5) := H
 have A2 := zA A20
 clear A20
 replace H := zbd H; obtain ⟨t156, A3, H⟩ := H
 simp only [Option.some.injEq, Prod.mk.injEq] at H
 obtain ⟨rfl, rfl, rfl, rfl, rfl⟩ := H
 go_enter Try.func64, Try.ntmps64
 go_wp2_with (first | ((with_reducible refine gate_dst (N := 1) rfl ?_); refine zbx 1 #[.int .i64 a0_0, .int .i64 a0_1, .slice A0_2 l0_2.length c0_2, .int .i64 a0_3, .int .i64 a0_4] 91 ?_; intro gb151 hg w4 hbox hb; have BK151 := zA hbox; have GW151 := zgs hg (zs0 HB); have GE151 := zgs hg (zs0 HB); replace HB := zE (zs0 HB) hb; clear hb hbox hg) | ((with_reducible refine gate_dst (N := 2) rfl ?_); refine zbx 2 #[.int .i64 0, .int .i64 0, .slice none 0 0, .int .i64 0, .int .i64 0] 68 ?_; intro gb152 hg w5 hbox hb; have BK152 := zA hbox; have GW152 := zgs hg (zs1 HB GE151); have GE152 := zgs hg (zs1 HB GE151); have NB151_152 := zne hg BK151; have NB152_151 := znf hg BK151; replace BK151 := zb BK151 hb; replace HB := zE (zs1 HB GE151) hb; clear hb hbox hg) | ((with_reducible refine gate_dst (N := 3) rfl ?_); refine zbx 3 #[.int .i64 0, .int .i64 0, .slice none 0 0, .int .i64 0, .int .i64 0] 68 ?_; intro gb153 hg w6 hbox hb; have BK153 := zA hbox; have GW153 := zgs hg (zs2 HB GE151 GE152); have GE153 := zgs hg (zs2 HB GE151 GE152); have NB151_153 := zne hg BK151; have NB153_151 := znf hg BK151; have NB152_153 := zne hg BK152; have NB153_152 := znf hg BK152; replace BK151 := zb BK151 hb; replace BK152 := zb BK152 hb; replace HB := zE (zs2 HB GE151 GE152) hb; clear hb hbox hg; have hnb7 := NB151_152.out; have hnc7 := NB152_151.out; have hnb8 := NB151_153.out; have hnc8 := NB153_151.out; obtain ⟨hcz9_0, hcz9_1, hcz9_2, hcz9_3, hcz9_4⟩ := zd5 BK151; obtain ⟨hfz9_0, hfz9_1, hfz9_2, hfz9_3, hfz9_4⟩ := zn5 BK151) | ((with_reducible refine gate_callee (f := 44) rfl ?_); refine zgl (N := some 6) Try.func44 #[.agg #[.int .i64 a0_0, .int .i64 a0_1]] ?_; (with_reducible refine (laws_toFlyKind.calls a0_0 a0_1 t154 t155 _ A2.out).mono ?_); rintro e w10 ⟨rfl, hb⟩; refine ⟨_, rfl, ?_⟩; replace BK151 := zb BK151 hb; replace BK152 := zb BK152 hb; replace BK153 := zb BK153 hb; replace HB := zE (zs3 HB GE151 GE152 GE153) hb; (try clear hb); (try clear hb2); (try clear hk); (try clear hi); have hnb11 := NB153_152.out; have hnc11 := NB152_153.out; obtain ⟨hcz12_0, hcz12_1, hcz12_2, hcz12_3, hcz12_4⟩ := zd5 BK153; obtain ⟨hfz12_0, hfz12_1, hfz12_2, hfz12_3, hfz12_4⟩ := zn5 BK153; obtain ⟨hcz13_0, hcz13_1, hcz13_2, hcz13_3, hcz13_4⟩ := zd5 BK151; obtain ⟨hfz13_0, hfz13_1, hfz13_2, hfz13_3, hfz13_4⟩ := zn5 BK151) | ((with_reducible refine gate_callee (f := 122) rfl ?_); refine zgl (N := some 10) Try.func122 #[.slice A0_2 l0_2.length c0_2] ?_; (with_reducible refine (laws_toFlyStepS.calls k _ _ l0_2 t156 _ ?side1 ?side2 A3.out).mono ?_); (case side1 => exact Kd.C_below HR0_2.out (zs3 HB GE151 GE152 GE153)); (case side2 => exact HC0_2.out); rintro e w14 ⟨v157, rfl, ho0, hb⟩; refine ⟨_, rfl, ?_⟩; have HO158 := zA (Kd.R_lower ho0 (below_size (zs3 HB GE151 GE152 GE153))); replace BK151 := zA (blk_below (g := gb151) (o := .cells #[.int .i64 a0_0, .int .i64 a0_1, .slice A0_2 l0_2.length c0_2, .int .i64 a0_3, .int .i64 a0_4] 91 (0, 0)) (zpf BK151 NB151_153) hb); replace BK152 := zA (blk_below (g := gb152) (o := .cells #[.int .i64 0, .int .i64 0, .slice none 0 0, .int .i64 0, .int .i64 0] 68 (0, 0)) (zpf BK152 NB152_153) hb); replace BK153 := zA (blk_below (g := gb153) (o := .cells #[.int .i64 t154, .int .i64 t155, .slice none 0 0, .int .i64 0, .int .i64 0] 68 (0, 0)) (zpb BK153) hb); replace HB := zE (zs3 HB GE151 GE152 GE153) hb; (try clear hb); (try clear hb2); (try clear hk); (try clear hi); (try clear ho0); obtain ⟨Ao15, co15, eo15⟩ := Kd.R_slice HO158.out; subst eo15; obtain ⟨hcz16_0, hcz16_1, hcz16_2, hcz16_3, hcz16_4⟩ := zd5 BK153; obtain ⟨hfz16_0, hfz16_1, hfz16_2, hfz16_3, hfz16_4⟩ := zn5 BK153; obtain ⟨hcz17_0, hcz17_1, hcz17_2, hcz17_3, hcz17_4⟩ := zd5 BK151; obtain ⟨hfz17_0, hfz17_1, hfz17_2, hfz17_3, hfz17_4⟩ := zn5 BK151; obtain ⟨hcz18_0, hcz18_1, hcz18_2, hcz18_3, hcz18_4⟩ := zd5 BK152; obtain ⟨hfz18_0, hfz18_1, hfz18_2, hfz18_3, hfz18_4⟩ := zn5 BK152))
 refine bodyPost_ret (results_cell_row rfl _ _ gb152 68 #[.int .i64 t154, .int .i64 t155, .slice Ao15 t156.length co15, .int .i64 a0_3, .int .i64 a0_4] (0, 0) _ rfl ?hz Try.underlying68 rfl (by kernel_rfl)) rfl ?_; (case hz => exact zpf BK152 NB152_153)
 exact ⟨_, ze, by (with_reducible repeat (first | apply Kd.R_alloc | apply Kd.R_drewN | apply Kd.R_drew)); exact Kd.R_mono (Kd.R_far (p := ⟨gb152, 4, none⟩) (Kd.R_far (p := ⟨gb152, 3, none⟩) (Kd.R_far (p := ⟨gb152, 2, none⟩) (Kd.R_far (p := ⟨gb152, 1, none⟩) (Kd.R_far (p := ⟨gb152, 0, none⟩) (Kd.R_far (p := ⟨gb153, 4, none⟩) (Kd.R_far (p := ⟨gb153, 3, none⟩) (Kd.R_far (p := ⟨gb153, 2, none⟩) (Kd.R_types (Kd.R_types HO158.out BK153.out (by decide)) BK152.out (by decide)) (fun _ hk => hk.1.2) (.slice Ao15 t156.length co15)) (fun _ hk => hk.1.2) (.int .i64 a0_3)) (fun _ hk => hk.1.2) (.int .i64 a0_4)) (fun _ hk => hk.2) (.int .i64 t154)) (fun _ hk => hk.2) (.int .i64 t155)) (fun _ hk => hk.2) (.slice Ao15 t156.length co15)) (fun _ hk => hk.2) (.int .i64 a0_3)) (fun _ hk => hk.2) (.int .i64 a0_4)) (fun _ hk => trivial), zs3 HB GE151 GE152 GE153⟩
def spec_l21In.f (a0 : Int) (a1 : Int) (a2 : Int) : Option (Bool) := if a0 ≥ a1 then (some (decide (a0 ≤ a2))) else (some false)
set_option maxHeartbeats 8000000 in
set_option maxRecDepth 100000 in
theorem spec_l21In.calls (a0 : Int) (a1 : Int) (a2 : Int) (r : Bool) (w : World) (h : spec_l21In.f a0 a1 a2 = some r) :
 Calls Try.prog 127 #[.int .i64 a0, .int .i64 a1, .int .i64 a2] w fun e w' => e = .returned (.bool r) ∧ Drawn0 w w' := by
 have H : (if a0 ≥ a1 then (some (decide (a0 ≤ a2))) else (some false)) = some r := h
 clear h
 by_cases c4 : a0 ≥ a1
 ·rw [if_pos c4] at H
  have c4b0 : decide (a1 ≤ a0) = true := decide_eq_true c4
  clear c4
  obtain rfl := Option.some.inj H
  go_enter Try.func127, Try.ntmps127
  go_wp2
  go_ret
  exact ⟨by first | rfl | (simp; done) | (simp [*]; done), by repeat (first | exact Drawn0.refl _ | apply Drawn0.step)⟩
 rw [if_neg c4] at H
 have c4b0 : decide (a1 ≤ a0) = false := decide_eq_false c4
 clear c4
 obtain rfl := Option.some.inj H
 go_enter Try.func127, Try.ntmps127
 go_wp2
 go_ret
 exact ⟨by first | rfl | (simp; done) | (simp [*]; done), by repeat (first | exact Drawn0.refl _ | apply Drawn0.step)⟩
def spec_FlyKindOk.f (a0_0 : Int) (a0_1 : Int) : Option (Bool) := (spec_l21In.f a0_0 1 a0_1).bind fun t160 => (if t160 = true then (some (decide (a0_1 ≤ 50))) else (some false))
set_option maxHeartbeats 8000000 in
set_option maxRecDepth 100000 in
theorem spec_FlyKindOk.calls (a0_0 : Int) (a0_1 : Int) (r : Bool) (w : World) (h : spec_FlyKindOk.f a0_0 a0_1 = some r) :
 Calls Try.prog 137 #[.agg #[.int .i64 a0_0, .int .i64 a0_1]] w fun e w' => e = .returned (.bool r) ∧ Below w.heap.size w w' := by
 have hu44 := Try.underlying44
 have HB := zA (Below.refl w.heap.size w)
 have H : ((spec_l21In.f a0_0 1 a0_1).bind fun t160 => (if t160 = true then (some (decide (a0_1 ≤ 50))) else (some false))) = some r := h
 clear h
 replace H := zbd H; obtain ⟨t160, A2, H⟩ := H
 by_cases c3 : t160 = true
 ·subst c3
  have H1 : (some (decide (a0_1 ≤ 50))) = some r := by rw [if_pos rfl] at H; exact H
  clear H
  have H := H1
  clear H1
  obtain rfl := Option.some.inj H
  go_enter Try.func137, Try.ntmps137
  go_wp2_with (first | ((with_reducible refine gate_dst (N := 1) rfl ?_); refine zbx 1 #[.int .i64 a0_0, .int .i64 a0_1] 44 ?_; intro gb159 hg w4 hbox hb; have BK159 := zA hbox; have GW159 := zgs hg (zs0 HB); have GE159 := zgs hg (zs0 HB); replace HB := zE (zs0 HB) hb; clear hb hbox hg; obtain ⟨hcz5_0, hcz5_1⟩ := zd2 BK159; obtain ⟨hfz5_0, hfz5_1⟩ := zn2 BK159) | ((with_reducible refine gate_callee (f := 127) rfl ?_); refine zgl (N := some 7) Try.func127 #[.int .i64 a0_0, .int .i64 1, .int .i64 a0_1] ?_; (with_reducible refine (spec_l21In.calls a0_0 1 a0_1 true _ A2.out).mono ?_); rintro e w' ⟨rfl, ⟨nd, rfl⟩⟩; refine ⟨_, rfl, ?_⟩))
  go_ret
  exact ⟨ze, zs1 HB GE159⟩
 replace c3 := Bool.eq_false_iff.mpr c3
 subst c3
 have H1 : (some false) = some r := by rw [if_neg (show ¬ (false = true) by decide)] at H; exact H
 clear H
 have H := H1
 clear H1
 obtain rfl := Option.some.inj H
 go_enter Try.func137, Try.ntmps137
 go_wp2_with (first | ((with_reducible refine gate_dst (N := 1) rfl ?_); refine zbx 1 #[.int .i64 a0_0, .int .i64 a0_1] 44 ?_; intro gb159 hg w6 hbox hb; have BK159 := zA hbox; have GW159 := zgs hg (zs0 HB); have GE159 := zgs hg (zs0 HB); replace HB := zE (zs0 HB) hb; clear hb hbox hg; obtain ⟨hcz7_0, hcz7_1⟩ := zd2 BK159; obtain ⟨hfz7_0, hfz7_1⟩ := zn2 BK159) | ((with_reducible refine gate_callee (f := 127) rfl ?_); refine zgl (N := some 7) Try.func127 #[.int .i64 a0_0, .int .i64 1, .int .i64 a0_1] ?_; (with_reducible refine (spec_l21In.calls a0_0 1 a0_1 false _ A2.out).mono ?_); rintro e w' ⟨rfl, ⟨nd, rfl⟩⟩; refine ⟨_, rfl, ?_⟩))
 go_ret
 exact ⟨ze, zs1 HB GE159⟩
def spec_l22StepOk.f (a0_0 : Int) (a0_1 : Int) (a0_2 : Int) (a0_3 : Int) (a0_4 : Int) (a0_5 : Int) (a0_6 : Bool) : Option (Bool) := (spec_l21In.f a0_0 0 15).bind fun t162 => (if t162 = true then ((spec_l21In.f a0_1 0 15).bind fun t163 => (if t163 = true then ((spec_l21In.f a0_2 0 a0_3).bind fun t164 => (if t164 = true then (if a0_3 ≤ 6 then ((spec_l21In.f a0_4 0 a0_5).bind fun t165 => (if t165 = true then (some (decide (a0_5 ≤ 10000))) else (some false))) else (some false)) else (some false))) else (some false))) else (some false))
set_option maxHeartbeats 8000000 in
set_option maxRecDepth 100000 in
theorem spec_l22StepOk.calls (a0_0 : Int) (a0_1 : Int) (a0_2 : Int) (a0_3 : Int) (a0_4 : Int) (a0_5 : Int) (a0_6 : Bool) (r : Bool) (w : World) (h : spec_l22StepOk.f a0_0 a0_1 a0_2 a0_3 a0_4 a0_5 a0_6 = some r) :
 Calls Try.prog 138 #[.agg #[.int .i64 a0_0, .int .i64 a0_1, .int .i64 a0_2, .int .i64 a0_3, .int .i64 a0_4, .int .i64 a0_5, .bool a0_6]] w fun e w' => e = .returned (.bool r) ∧ Below w.heap.size w w' := by
 have hu132 := Try.underlying132
 have HB := zA (Below.refl w.heap.size w)
 have H : ((spec_l21In.f a0_0 0 15).bind fun t162 => (if t162 = true then ((spec_l21In.f a0_1 0 15).bind fun t163 => (if t163 = true then ((spec_l21In.f a0_2 0 a0_3).bind fun t164 => (if t164 = true then (if a0_3 ≤ 6 then ((spec_l21In.f a0_4 0 a0_5).bind fun t165 => (if t165 = true then (some (decide (a0_5 ≤ 10000))) else (some false))) else (some false)) else (some false))) else (some false))) else (some false))) = some r := h
 clear h
 replace H := zbd H; obtain ⟨t162, A2, H⟩ := H
 by_cases c3 : t162 = true
 rotate_left
 ·replace c3 := Bool.eq_false_iff.mpr c3
  subst c3
  have H1 : (some false) = some r := by rw [if_neg (show ¬ (false = true) by decide)] at H; exact H
  clear H
  have H := H1
  clear H1
  obtain rfl := Option.some.inj H
  go_enter Try.func138, Try.ntmps138
  go_wp2_with (first | ((with_reducible refine gate_dst (N := 1) rfl ?_); refine zbx 1 #[.int .i64 a0_0, .int .i64 a0_1, .int .i64 a0_2, .int .i64 a0_3, .int .i64 a0_4, .int .i64 a0_5, .bool a0_6] 132 ?_; intro gb161 hg w21 hbox hb; have BK161 := zA hbox; have GW161 := zgs hg (zs0 HB); have GE161 := zgs hg (zs0 HB); replace HB := zE (zs0 HB) hb; clear hb hbox hg; obtain ⟨hcz22_0, hcz22_1, hcz22_2, hcz22_3, hcz22_4, hcz22_5, hcz22_6⟩ := zd7 BK161; obtain ⟨hfz22_0, hfz22_1, hfz22_2, hfz22_3, hfz22_4, hfz22_5, hfz22_6⟩ := zn7 BK161) | ((with_reducible refine gate_callee (f := 127) rfl ?_); refine zgl (N := some 5) Try.func127 #[.int .i64 a0_0, .int .i64 0, .int .i64 15] ?_; (with_reducible refine (spec_l21In.calls a0_0 0 15 false _ A2.out).mono ?_); rintro e w' ⟨rfl, ⟨nd, rfl⟩⟩; refine ⟨_, rfl, ?_⟩))
  go_ret
  exact ⟨ze, zs1 HB GE161⟩
 subst c3
 have H1 : ((spec_l21In.f a0_1 0 15).bind fun t163 => (if t163 = true then ((spec_l21In.f a0_2 0 a0_3).bind fun t164 => (if t164 = true then (if a0_3 ≤ 6 then ((spec_l21In.f a0_4 0 a0_5).bind fun t165 => (if t165 = true then (some (decide (a0_5 ≤ 10000))) else (some false))) else (some false)) else (some false))) else (some false))) = some r := by rw [if_pos rfl] at H; exact H
 clear H
 have H := H1
 clear H1
 replace H := zbd H; obtain ⟨t163, A4, H⟩ := H
 by_cases c5 : t163 = true
 rotate_left
 ·replace c5 := Bool.eq_false_iff.mpr c5
  subst c5
  have H1 : (some false) = some r := by rw [if_neg (show ¬ (false = true) by decide)] at H; exact H
  clear H
  have H := H1
  clear H1
  obtain rfl := Option.some.inj H
  go_enter Try.func138, Try.ntmps138
  go_wp2_with (first | ((with_reducible refine gate_dst (N := 1) rfl ?_); refine zbx 1 #[.int .i64 a0_0, .int .i64 a0_1, .int .i64 a0_2, .int .i64 a0_3, .int .i64 a0_4, .int .i64 a0_5, .bool a0_6] 132 ?_; intro gb161 hg w19 hbox hb; have BK161 := zA hbox; have GW161 := zgs hg (zs0 HB); have GE161 := zgs hg (zs0 HB); replace HB := zE (zs0 HB) hb; clear hb hbox hg; obtain ⟨hcz20_0, hcz20_1, hcz20_2, hcz20_3, hcz20_4, hcz20_5, hcz20_6⟩ := zd7 BK161; obtain ⟨hfz20_0, hfz20_1, hfz20_2, hfz20_3, hfz20_4, hfz20_5, hfz20_6⟩ := zn7 BK161) | ((with_reducible refine gate_callee (f := 127) rfl ?_); refine zgl (N := some 5) Try.func127 #[.int .i64 a0_0, .int .i64 0, .int .i64 15] ?_; (with_reducible refine (spec_l21In.calls a0_0 0 15 true _ A2.out).mono ?_); rintro e w' ⟨rfl, ⟨nd, rfl⟩⟩; refine ⟨_, rfl, ?_⟩) | (go_at_call 127; (with_reducible refine (spec_l21In.calls a0_1 0 15 false _ A4.out).mono ?_); rintro e w' ⟨rfl, ⟨nd, rfl⟩⟩))
  go_ret
  exact ⟨ze, zs1 HB GE161⟩
 subst c5
 have H1 : ((spec_l21In.f a0_2 0 a0_3).bind fun t164 => (if t164 = true then (if a0_3 ≤ 6 then ((spec_l21In.f a0_4 0 a0_5).bind fun t165 => (if t165 = true then (some (decide (a0_5 ≤ 10000))) else (some false))) else (some false)) else (some false))) = some r := by rw [if_pos rfl] at H; exact H
 clear H
 have H := H1
 clear H1
 replace H := zbd H; obtain ⟨t164, A6, H⟩ := H
 by_cases c7 : t164 = true
 rotate_left
 ·replace c7 := Bool.eq_false_iff.mpr c7
  subst c7
  have H1 : (some false) = some r := by rw [if_neg (show ¬ (false = true) by decide)] at H; exact H
  clear H
  have H := H1
  clear H1
  obtain rfl := Option.some.inj H
  go_enter Try.func138, Try.ntmps138
  go_wp2_with (first | ((with_reducible refine gate_dst (N := 1) rfl ?_); refine zbx 1 #[.int .i64 a0_0, .int .i64 a0_1, .int .i64 a0_2, .int .i64 a0_3, .int .i64 a0_4, .int .i64 a0_5, .bool a0_6] 132 ?_; intro gb161 hg w17 hbox hb; have BK161 := zA hbox; have GW161 := zgs hg (zs0 HB); have GE161 := zgs hg (zs0 HB); replace HB := zE (zs0 HB) hb; clear hb hbox hg; obtain ⟨hcz18_0, hcz18_1, hcz18_2, hcz18_3, hcz18_4, hcz18_5, hcz18_6⟩ := zd7 BK161; obtain ⟨hfz18_0, hfz18_1, hfz18_2, hfz18_3, hfz18_4, hfz18_5, hfz18_6⟩ := zn7 BK161) | ((with_reducible refine gate_callee (f := 127) rfl ?_); refine zgl (N := some 5) Try.func127 #[.int .i64 a0_0, .int .i64 0, .int .i64 15] ?_; (with_reducible refine (spec_l21In.calls a0_0 0 15 true _ A2.out).mono ?_); rintro e w' ⟨rfl, ⟨nd, rfl⟩⟩; refine ⟨_, rfl, ?_⟩) | (go_at_call 127; (with_reducible refine (spec_l21In.calls a0_1 0 15 true _ A4.out).mono ?_); rintro e w' ⟨rfl, ⟨nd, rfl⟩⟩) | (go_at_call 127; (with_reducible refine (spec_l21In.calls a0_2 0 a0_3 false _ A6.out).mono ?_); rintro e w' ⟨rfl, ⟨nd, rfl⟩⟩))
  go_ret
  exact ⟨ze, zs1 HB GE161⟩
 subst c7
 have H1 : (if a0_3 ≤ 6 then ((spec_l21In.f a0_4 0 a0_5).bind fun t165 => (if t165 = true then (some (decide (a0_5 ≤ 10000))) else (some false))) else (some false)) = some r := by rw [if_pos rfl] at H; exact H
 clear H
 have H := H1
 clear H1
 by_cases c8 : a0_3 ≤ 6
 rotate_left
 ·rw [if_neg c8] at H
  have c8b0 : decide (a0_3 ≤ 6) = false := decide_eq_false c8
  clear c8
  obtain rfl := Option.some.inj H
  go_enter Try.func138, Try.ntmps138
  go_wp2_with (first | ((with_reducible refine gate_dst (N := 1) rfl ?_); refine zbx 1 #[.int .i64 a0_0, .int .i64 a0_1, .int .i64 a0_2, .int .i64 a0_3, .int .i64 a0_4, .int .i64 a0_5, .bool a0_6] 132 ?_; intro gb161 hg w15 hbox hb; have BK161 := zA hbox; have GW161 := zgs hg (zs0 HB); have GE161 := zgs hg (zs0 HB); replace HB := zE (zs0 HB) hb; clear hb hbox hg; obtain ⟨hcz16_0, hcz16_1, hcz16_2, hcz16_3, hcz16_4, hcz16_5, hcz16_6⟩ := zd7 BK161; obtain ⟨hfz16_0, hfz16_1, hfz16_2, hfz16_3, hfz16_4, hfz16_5, hfz16_6⟩ := zn7 BK161) | ((with_reducible refine gate_callee (f := 127) rfl ?_); refine zgl (N := some 5) Try.func127 #[.int .i64 a0_0, .int .i64 0, .int .i64 15] ?_; (with_reducible refine (spec_l21In.calls a0_0 0 15 true _ A2.out).mono ?_); rintro e w' ⟨rfl, ⟨nd, rfl⟩⟩; refine ⟨_, rfl, ?_⟩) | (go_at_call 127; (with_reducible refine (spec_l21In.calls a0_1 0 15 true _ A4.out).mono ?_); rintro e w' ⟨rfl, ⟨nd, rfl⟩⟩) | (go_at_call 127; (with_reducible refine (spec_l21In.calls a0_2 0 a0_3 true _ A6.out).mono ?_); rintro e w' ⟨rfl, ⟨nd, rfl⟩⟩))
  go_ret
  exact ⟨ze, zs1 HB GE161⟩
 rw [if_pos c8] at H
 have c8b0 : decide (a0_3 ≤ 6) = true := decide_eq_true c8
 clear c8
 replace H := zbd H; obtain ⟨t165, A9, H⟩ := H
 by_cases c10 : t165 = true
 ·subst c10
  have H1 : (some (decide (a0_5 ≤ 10000))) = some r := by rw [if_pos rfl] at H; exact H
  clear H
  have H := H1
  clear H1
  obtain rfl := Option.some.inj H
  go_enter Try.func138, Try.ntmps138
  go_wp2_with (first | ((with_reducible refine gate_dst (N := 1) rfl ?_); refine zbx 1 #[.int .i64 a0_0, .int .i64 a0_1, .int .i64 a0_2, .int .i64 a0_3, .int .i64 a0_4, .int .i64 a0_5, .bool a0_6] 132 ?_; intro gb161 hg w11 hbox hb; have BK161 := zA hbox; have GW161 := zgs hg (zs0 HB); have GE161 := zgs hg (zs0 HB); replace HB := zE (zs0 HB) hb; clear hb hbox hg; obtain ⟨hcz12_0, hcz12_1, hcz12_2, hcz12_3, hcz12_4, hcz12_5, hcz12_6⟩ := zd7 BK161; obtain ⟨hfz12_0, hfz12_1, hfz12_2, hfz12_3, hfz12_4, hfz12_5, hfz12_6⟩ := zn7 BK161) | ((with_reducible refine gate_callee (f := 127) rfl ?_); refine zgl (N := some 5) Try.func127 #[.int .i64 a0_0, .int .i64 0, .int .i64 15] ?_; (with_reducible refine (spec_l21In.calls a0_0 0 15 true _ A2.out).mono ?_); rintro e w' ⟨rfl, ⟨nd, rfl⟩⟩; refine ⟨_, rfl, ?_⟩) | (go_at_call 127; (with_reducible refine (spec_l21In.calls a0_1 0 15 true _ A4.out).mono ?_); rintro e w' ⟨rfl, ⟨nd, rfl⟩⟩) | (go_at_call 127; (with_reducible refine (spec_l21In.calls a0_2 0 a0_3 true _ A6.out).mono ?_); rintro e w' ⟨rfl, ⟨nd, rfl⟩⟩) | (go_at_call 127; (with_reducible refine (spec_l21In.calls a0_4 0 a0_5 true _ A9.out).mono ?_); rintro e w' ⟨rfl, ⟨nd, rfl⟩⟩))
  go_ret
  exact ⟨ze, zs1 HB GE161⟩
 replace c10 := Bool.eq_false_iff.mpr c10
 subst c10
 have H1 : (some false) = some r := by rw [if_neg (show ¬ (false = true) by decide)] at H; exact H
 clear H
 have H := H1
 clear H1
 obtain rfl := Option.some.inj H
 go_enter Try.func138, Try.ntmps138
 go_wp2_with (first | ((with_reducible refine gate_dst (N := 1) rfl ?_); refine zbx 1 #[.int .i64 a0_0, .int .i64 a0_1, .int .i64 a0_2, .int .i64 a0_3, .int .i64 a0_4, .int .i64 a0_5, .bool a0_6] 132 ?_; intro gb161 hg w13 hbox hb; have BK161 := zA hbox; have GW161 := zgs hg (zs0 HB); have GE161 := zgs hg (zs0 HB); replace HB := zE (zs0 HB) hb; clear hb hbox hg; obtain ⟨hcz14_0, hcz14_1, hcz14_2, hcz14_3, hcz14_4, hcz14_5, hcz14_6⟩ := zd7 BK161; obtain ⟨hfz14_0, hfz14_1, hfz14_2, hfz14_3, hfz14_4, hfz14_5, hfz14_6⟩ := zn7 BK161) | ((with_reducible refine gate_callee (f := 127) rfl ?_); refine zgl (N := some 5) Try.func127 #[.int .i64 a0_0, .int .i64 0, .int .i64 15] ?_; (with_reducible refine (spec_l21In.calls a0_0 0 15 true _ A2.out).mono ?_); rintro e w' ⟨rfl, ⟨nd, rfl⟩⟩; refine ⟨_, rfl, ?_⟩) | (go_at_call 127; (with_reducible refine (spec_l21In.calls a0_1 0 15 true _ A4.out).mono ?_); rintro e w' ⟨rfl, ⟨nd, rfl⟩⟩) | (go_at_call 127; (with_reducible refine (spec_l21In.calls a0_2 0 a0_3 true _ A6.out).mono ?_); rintro e w' ⟨rfl, ⟨nd, rfl⟩⟩) | (go_at_call 127; (with_reducible refine (spec_l21In.calls a0_4 0 a0_5 false _ A9.out).mono ?_); rintro e w' ⟨rfl, ⟨nd, rfl⟩⟩))
 go_ret
 exact ⟨ze, zs1 HB GE161⟩
def spec_l22Next.f (a0_0 : Int) (a0_1 : Int) (a0_2 : Int) (a0_3 : Int) (a0_4 : Int) (a0_5 : Int) (a0_6 : Bool) (a1_0 : Int) (a1_1 : Int) (a1_2 : Int) (a1_3 : Int) (a1_4 : Int) (a1_5 : Int) (a1_6 : Bool) : Option (Bool) := (spec_l21In.f (wrap64 (a0_0 - a1_0)) (-1) 1).bind fun t168 => (if t168 = true then ((spec_l21In.f (wrap64 (a0_1 - a1_1)) (-1) 1).bind fun t169 => (if t169 = true then (if a0_0 = a1_0 then (if a0_1 = a1_1 then (some false) else (if a0_2 ≤ a1_3 then (some (decide (a1_2 ≤ a0_3))) else (some false))) else (if a0_2 ≤ a1_3 then (some (decide (a1_2 ≤ a0_3))) else (some false))) else (some false))) else (some false))
set_option maxHeartbeats 8000000 in
set_option maxRecDepth 100000 in
theorem spec_l22Next.calls (a0_0 : Int) (a0_1 : Int) (a0_2 : Int) (a0_3 : Int) (a0_4 : Int) (a0_5 : Int) (a0_6 : Bool) (a1_0 : Int) (a1_1 : Int) (a1_2 : Int) (a1_3 : Int) (a1_4 : Int) (a1_5 : Int) (a1_6 : Bool) (r : Bool) (w : World) (h : spec_l22Next.f a0_0 a0_1 a0_2 a0_3 a0_4 a0_5 a0_6 a1_0 a1_1 a1_2 a1_3 a1_4 a1_5 a1_6 = some r) :
 Calls Try.prog 139 #[.agg #[.int .i64 a0_0, .int .i64 a0_1, .int .i64 a0_2, .int .i64 a0_3, .int .i64 a0_4, .int .i64 a0_5, .bool a0_6], .agg #[.int .i64 a1_0, .int .i64 a1_1, .int .i64 a1_2, .int .i64 a1_3, .int .i64 a1_4, .int .i64 a1_5, .bool a1_6]] w fun e w' => e = .returned (.bool r) ∧ Below w.heap.size w w' := by
 have hu132 := Try.underlying132
 have HB := zA (Below.refl w.heap.size w)
 have H : ((spec_l21In.f (wrap64 (a0_0 - a1_0)) (-1) 1).bind fun t168 => (if t168 = true then ((spec_l21In.f (wrap64 (a0_1 - a1_1)) (-1) 1).bind fun t169 => (if t169 = true then (if a0_0 = a1_0 then (if a0_1 = a1_1 then (some false) else (if a0_2 ≤ a1_3 then (some (decide (a1_2 ≤ a0_3))) else (some false))) else (if a0_2 ≤ a1_3 then (some (decide (a1_2 ≤ a0_3))) else (some false))) else (some false))) else (some false))) = some r := h
 clear h
 replace H := zbd H; obtain ⟨t168, A3, H⟩ := H
 by_cases c4 : t168 = true
 rotate_left
 ·replace c4 := Bool.eq_false_iff.mpr c4
  subst c4
  have H1 : (some false) = some r := by rw [if_neg (show ¬ (false = true) by decide)] at H; exact H
  clear H
  have H := H1
  clear H1
  obtain rfl := Option.some.inj H
  go_enter Try.func139, Try.ntmps139
  go_wp2_with (first | ((with_reducible refine gate_dst (N := 2) rfl ?_); refine zbx 2 #[.int .i64 a0_0, .int .i64 a0_1, .int .i64 a0_2, .int .i64 a0_3, .int .i64 a0_4, .int .i64 a0_5, .bool a0_6] 132 ?_; intro gb166 hg w41 hbox hb; have BK166 := zA hbox; have GW166 := zgs hg (zs0 HB); have GE166 := zgs hg (zs0 HB); replace HB := zE (zs0 HB) hb; clear hb hbox hg) | ((with_reducible refine gate_dst (N := 3) rfl ?_); refine zbx 3 #[.int .i64 a1_0, .int .i64 a1_1, .int .i64 a1_2, .int .i64 a1_3, .int .i64 a1_4, .int .i64 a1_5, .bool a1_6] 132 ?_; intro gb167 hg w42 hbox hb; have BK167 := zA hbox; have GW167 := zgs hg (zs1 HB GE166); have GE167 := zgs hg (zs1 HB GE166); have NB166_167 := zne hg BK166; have NB167_166 := znf hg BK166; replace BK166 := zb BK166 hb; replace HB := zE (zs1 HB GE166) hb; clear hb hbox hg; have hnb43 := NB166_167.out; have hnc43 := NB167_166.out; obtain ⟨hcz44_0, hcz44_1, hcz44_2, hcz44_3, hcz44_4, hcz44_5, hcz44_6⟩ := zd7 BK166; obtain ⟨hfz44_0, hfz44_1, hfz44_2, hfz44_3, hfz44_4, hfz44_5, hfz44_6⟩ := zn7 BK166; obtain ⟨hcz45_0, hcz45_1, hcz45_2, hcz45_3, hcz45_4, hcz45_5, hcz45_6⟩ := zd7 BK167; obtain ⟨hfz45_0, hfz45_1, hfz45_2, hfz45_3, hfz45_4, hfz45_5, hfz45_6⟩ := zn7 BK167) | ((with_reducible refine gate_callee (f := 127) rfl ?_); refine zgl (N := some 10) Try.func127 #[.int .i64 (wrap64 (a0_0 - a1_0)), .int .i64 (-1), .int .i64 1] ?_; (with_reducible refine (spec_l21In.calls (wrap64 (a0_0 - a1_0)) (-1) 1 false _ A3.out).mono ?_); rintro e w' ⟨rfl, ⟨nd, rfl⟩⟩; refine ⟨_, rfl, ?_⟩))
  go_ret
  exact ⟨ze, zs2 HB GE166 GE167⟩
 subst c4
 have H1 : ((spec_l21In.f (wrap64 (a0_1 - a1_1)) (-1) 1).bind fun t169 => (if t169 = true then (if a0_0 = a1_0 then (if a0_1 = a1_1 then (some false) else (if a0_2 ≤ a1_3 then (some (decide (a1_2 ≤ a0_3))) else (some false))) else (if a0_2 ≤ a1_3 then (some (decide (a1_2 ≤ a0_3))) else (some false))) else (some false))) = some r := by rw [if_pos rfl] at H; exact H
 clear H
 have H := H1
 clear H1
 replace H := zbd H; obtain ⟨t169, A5, H⟩ := H
 by_cases c6 : t169 = true
 rotate_left
 ·replace c6 := Bool.eq_false_iff.mpr c6
  subst c6
  have H1 : (some false) = some r := by rw [if_neg (show ¬ (false = true) by decide)] at H; exact H
  clear H
  have H := H1
  clear H1
  obtain rfl := Option.some.inj H
  go_enter Try.func139, Try.ntmps139
  go_wp2_with (first | ((with_reducible refine gate_dst (N := 2) rfl ?_); refine zbx 2 #[.int .i64 a0_0, .int .i64 a0_1, .int .i64 a0_2, .int .i64 a0_3, .int .i64 a0_4, .int .i64 a0_5, .bool a0_6] 132 ?_; intro gb166 hg w36 hbox hb; have BK166 := zA hbox; have GW166 := zgs hg (zs0 HB); have GE166 := zgs hg (zs0 HB); replace HB := zE (zs0 HB) hb; clear hb hbox hg) | ((with_reducible refine gate_dst (N := 3) rfl ?_); refine zbx 3 #[.int .i64 a1_0, .int .i64 a1_1, .int .i64 a1_2, .int .i64 a1_3, .int .i64 a1_4, .int .i64 a1_5, .bool a1_6] 132 ?_; intro gb167 hg w37 hbox hb; have BK167 := zA hbox; have GW167 := zgs hg (zs1 HB GE166); have GE167 := zgs hg (zs1 HB GE166); have NB166_167 := zne hg BK166; have NB167_166 := znf hg BK166; replace BK166 := zb BK166 hb; replace HB := zE (zs1 HB GE166) hb; clear hb hbox hg; have hnb38 := NB166_167.out; have hnc38 := NB167_166.out; obtain ⟨hcz39_0, hcz39_1, hcz39_2, hcz39_3, hcz39_4, hcz39_5, hcz39_6⟩ := zd7 BK166; obtain ⟨hfz39_0, hfz39_1, hfz39_2, hfz39_3, hfz39_4, hfz39_5, hfz39_6⟩ := zn7 BK166; obtain ⟨hcz40_0, hcz40_1, hcz40_2, hcz40_3, hcz40_4, hcz40_5, hcz40_6⟩ := zd7 BK167; obtain ⟨hfz40_0, hfz40_1, hfz40_2, hfz40_3, hfz40_4, hfz40_5, hfz40_6⟩ := zn7 BK167) | ((with_reducible refine gate_callee (f := 127) rfl ?_); refine zgl (N := some 10) Try.func127 #[.int .i64 (wrap64 (a0_0 - a1_0)), .int .i64 (-1), .int .i64 1] ?_; (with_reducible refine (spec_l21In.calls (wrap64 (a0_0 - a1_0)) (-1) 1 true _ A3.out).mono ?_); rintro e w' ⟨rfl, ⟨nd, rfl⟩⟩; refine ⟨_, rfl, ?_⟩) | (go_at_call 127; (with_reducible refine (spec_l21In.calls (wrap64 (a0_1 - a1_1)) (-1) 1 false _ A5.out).mono ?_); rintro e w' ⟨rfl, ⟨nd, rfl⟩⟩))
  go_ret
  exact ⟨ze, zs2 HB GE166 GE167⟩
 subst c6
 have H1 : (if a0_0 = a1_0 then (if a0_1 = a1_1 then (some false) else (if a0_2 ≤ a1_3 then (some (decide (a1_2 ≤ a0_3))) else (some false))) else (if a0_2 ≤ a1_3 then (some (decide (a1_2 ≤ a0_3))) else (some false))) = some r := by rw [if_pos rfl] at H; exact H
 clear H
 have H := H1
 clear H1
 by_cases c7 : a0_0 = a1_0
 rotate_left
 ·rw [if_neg c7] at H
  have c7b0 : (a0_0 == a1_0) = false := beq_eq_false_iff_ne.mpr c7
  have c7b1 : (a0_0 != a1_0) = true := bne_iff_ne.mpr c7
  by_cases c25 : a0_2 ≤ a1_3
  ·rw [if_pos c25] at H
   have c25b0 : decide (a0_2 ≤ a1_3) = true := decide_eq_true c25
   clear c25
   obtain rfl := Option.some.inj H
   go_enter Try.func139, Try.ntmps139
   go_wp2_with (first | ((with_reducible refine gate_dst (N := 2) rfl ?_); refine zbx 2 #[.int .i64 a0_0, .int .i64 a0_1, .int .i64 a0_2, .int .i64 a0_3, .int .i64 a0_4, .int .i64 a0_5, .bool a0_6] 132 ?_; intro gb166 hg w26 hbox hb; have BK166 := zA hbox; have GW166 := zgs hg (zs0 HB); have GE166 := zgs hg (zs0 HB); replace HB := zE (zs0 HB) hb; clear hb hbox hg) | ((with_reducible refine gate_dst (N := 3) rfl ?_); refine zbx 3 #[.int .i64 a1_0, .int .i64 a1_1, .int .i64 a1_2, .int .i64 a1_3, .int .i64 a1_4, .int .i64 a1_5, .bool a1_6] 132 ?_; intro gb167 hg w27 hbox hb; have BK167 := zA hbox; have GW167 := zgs hg (zs1 HB GE166); have GE167 := zgs hg (zs1 HB GE166); have NB166_167 := zne hg BK166; have NB167_166 := znf hg BK166; replace BK166 := zb BK166 hb; replace HB := zE (zs1 HB GE166) hb; clear hb hbox hg; have hnb28 := NB166_167.out; have hnc28 := NB167_166.out; obtain ⟨hcz29_0, hcz29_1, hcz29_2, hcz29_3, hcz29_4, hcz29_5, hcz29_6⟩ := zd7 BK166; obtain ⟨hfz29_0, hfz29_1, hfz29_2, hfz29_3, hfz29_4, hfz29_5, hfz29_6⟩ := zn7 BK166; obtain ⟨hcz30_0, hcz30_1, hcz30_2, hcz30_3, hcz30_4, hcz30_5, hcz30_6⟩ := zd7 BK167; obtain ⟨hfz30_0, hfz30_1, hfz30_2, hfz30_3, hfz30_4, hfz30_5, hfz30_6⟩ := zn7 BK167) | ((with_reducible refine gate_callee (f := 127) rfl ?_); refine zgl (N := some 10) Try.func127 #[.int .i64 (wrap64 (a0_0 - a1_0)), .int .i64 (-1), .int .i64 1] ?_; (with_reducible refine (spec_l21In.calls (wrap64 (a0_0 - a1_0)) (-1) 1 true _ A3.out).mono ?_); rintro e w' ⟨rfl, ⟨nd, rfl⟩⟩; refine ⟨_, rfl, ?_⟩) | (go_at_call 127; (with_reducible refine (spec_l21In.calls (wrap64 (a0_1 - a1_1)) (-1) 1 true _ A5.out).mono ?_); rintro e w' ⟨rfl, ⟨nd, rfl⟩⟩))
   go_ret
   exact ⟨ze, zs2 HB GE166 GE167⟩
  rw [if_neg c25] at H
  have c25b0 : decide (a0_2 ≤ a1_3) = false := decide_eq_false c25
  clear c25
  obtain rfl := Option.some.inj H
  go_enter Try.func139, Try.ntmps139
  go_wp2_with (first | ((with_reducible refine gate_dst (N := 2) rfl ?_); refine zbx 2 #[.int .i64 a0_0, .int .i64 a0_1, .int .i64 a0_2, .int .i64 a0_3, .int .i64 a0_4, .int .i64 a0_5, .bool a0_6] 132 ?_; intro gb166 hg w31 hbox hb; have BK166 := zA hbox; have GW166 := zgs hg (zs0 HB); have GE166 := zgs hg (zs0 HB); replace HB := zE (zs0 HB) hb; clear hb hbox hg) | ((with_reducible refine gate_dst (N := 3) rfl ?_); refine zbx 3 #[.int .i64 a1_0, .int .i64 a1_1, .int .i64 a1_2, .int .i64 a1_3, .int .i64 a1_4, .int .i64 a1_5, .bool a1_6] 132 ?_; intro gb167 hg w32 hbox hb; have BK167 := zA hbox; have GW167 := zgs hg (zs1 HB GE166); have GE167 := zgs hg (zs1 HB GE166); have NB166_167 := zne hg BK166; have NB167_166 := znf hg BK166; replace BK166 := zb BK166 hb; replace HB := zE (zs1 HB GE166) hb; clear hb hbox hg; have hnb33 := NB166_167.out; have hnc33 := NB167_166.out; obtain ⟨hcz34_0, hcz34_1, hcz34_2, hcz34_3, hcz34_4, hcz34_5, hcz34_6⟩ := zd7 BK166; obtain ⟨hfz34_0, hfz34_1, hfz34_2, hfz34_3, hfz34_4, hfz34_5, hfz34_6⟩ := zn7 BK166; obtain ⟨hcz35_0, hcz35_1, hcz35_2, hcz35_3, hcz35_4, hcz35_5, hcz35_6⟩ := zd7 BK167; obtain ⟨hfz35_0, hfz35_1, hfz35_2, hfz35_3, hfz35_4, hfz35_5, hfz35_6⟩ := zn7 BK167) | ((with_reducible refine gate_callee (f := 127) rfl ?_); refine zgl (N := some 10) Try.func127 #[.int .i64 (wrap64 (a0_0 - a1_0)), .int .i64 (-1), .int .i64 1] ?_; (with_reducible refine (spec_l21In.calls (wrap64 (a0_0 - a1_0)) (-1) 1 true _ A3.out).mono ?_); rintro e w' ⟨rfl, ⟨nd, rfl⟩⟩; refine ⟨_, rfl, ?_⟩) | (go_at_call 127; (with_reducible refine (spec_l21In.calls (wrap64 (a0_1 - a1_1)) (-1) 1 true _ A5.out).mono ?_); rintro e w' ⟨rfl, ⟨nd, rfl⟩⟩))
  go_ret
  exact ⟨ze, zs2 HB GE166 GE167⟩
 rw [if_pos c7] at H
 have c7b0 : (a0_0 == a1_0) = true := beq_iff_eq.mpr c7
 have c7b1 : (a0_0 != a1_0) = false := bne_eq_false_iff_eq.mpr c7
 clear c7
 by_cases c8 : a0_1 = a1_1
 ·rw [if_pos c8] at H
  have c8b0 : (a0_1 == a1_1) = true := beq_iff_eq.mpr c8
  have c8b1 : (a0_1 != a1_1) = false := bne_eq_false_iff_eq.mpr c8
  clear c8
  obtain rfl := Option.some.inj H
  go_enter Try.func139, Try.ntmps139
  go_wp2_with (first | ((with_reducible refine gate_dst (N := 2) rfl ?_); refine zbx 2 #[.int .i64 a0_0, .int .i64 a0_1, .int .i64 a0_2, .int .i64 a0_3, .int .i64 a0_4, .int .i64 a0_5, .bool a0_6] 132 ?_; intro gb166 hg w9 hbox hb; have BK166 := zA hbox; have GW166 := zgs hg (zs0 HB); have GE166 := zgs hg (zs0 HB); replace HB := zE (zs0 HB) hb; clear hb hbox hg) | ((with_reducible refine gate_dst (N := 3) rfl ?_); refine zbx 3 #[.int .i64 a1_0, .int .i64 a1_1, .int .i64 a1_2, .int .i64 a1_3, .int .i64 a1_4, .int .i64 a1_5, .bool a1_6] 132 ?_; intro gb167 hg w10 hbox hb; have BK167 := zA hbox; have GW167 := zgs hg (zs1 HB GE166); have GE167 := zgs hg (zs1 HB GE166); have NB166_167 := zne hg BK166; have NB167_166 := znf hg BK166; replace BK166 := zb BK166 hb; replace HB := zE (zs1 HB GE166) hb; clear hb hbox hg; have hnb11 := NB166_167.out; have hnc11 := NB167_166.out; obtain ⟨hcz12_0, hcz12_1, hcz12_2, hcz12_3, hcz12_4, hcz12_5, hcz12_6⟩ := zd7 BK166; obtain ⟨hfz12_0, hfz12_1, hfz12_2, hfz12_3, hfz12_4, hfz12_5, hfz12_6⟩ := zn7 BK166; obtain ⟨hcz13_0, hcz13_1, hcz13_2, hcz13_3, hcz13_4, hcz13_5, hcz13_6⟩ := zd7 BK167; obtain ⟨hfz13_0, hfz13_1, hfz13_2, hfz13_3, hfz13_4, hfz13_5, hfz13_6⟩ := zn7 BK167) | ((with_reducible refine gate_callee (f := 127) rfl ?_); refine zgl (N := some 10) Try.func127 #[.int .i64 (wrap64 (a0_0 - a1_0)), .int .i64 (-1), .int .i64 1] ?_; (with_reducible refine (spec_l21In.calls (wrap64 (a0_0 - a1_0)) (-1) 1 true _ A3.out).mono ?_); rintro e w' ⟨rfl, ⟨nd, rfl⟩⟩; refine ⟨_, rfl, ?_⟩) | (go_at_call 127; (with_reducible refine (spec_l21In.calls (wrap64 (a0_1 - a1_1)) (-1) 1 true _ A5.out).mono ?_); rintro e w' ⟨rfl, ⟨nd, rfl⟩⟩))
  go_ret
  exact ⟨ze, zs2 HB GE166 GE167⟩
 rw [if_neg c8] at H
 have c8b0 : (a0_1 == a1_1) = false := beq_eq_false_iff_ne.mpr c8
 have c8b1 : (a0_1 != a1_1) = true := bne_iff_ne.mpr c8
 by_cases c14 : a0_2 ≤ a1_3
 ·rw [if_pos c14] at H
  have c14b0 : decide (a0_2 ≤ a1_3) = true := decide_eq_true c14
  clear c14
  obtain rfl := Option.some.inj H
  go_enter Try.func139, Try.ntmps139
  go_wp2_with (first | ((with_reducible refine gate_dst (N := 2) rfl ?_); refine zbx 2 #[.int .i64 a0_0, .int .i64 a0_1, .int .i64 a0_2, .int .i64 a0_3, .int .i64 a0_4, .int .i64 a0_5, .bool a0_6] 132 ?_; intro gb166 hg w15 hbox hb; have BK166 := zA hbox; have GW166 := zgs hg (zs0 HB); have GE166 := zgs hg (zs0 HB); replace HB := zE (zs0 HB) hb; clear hb hbox hg) | ((with_reducible refine gate_dst (N := 3) rfl ?_); refine zbx 3 #[.int .i64 a1_0, .int .i64 a1_1, .int .i64 a1_2, .int .i64 a1_3, .int .i64 a1_4, .int .i64 a1_5, .bool a1_6] 132 ?_; intro gb167 hg w16 hbox hb; have BK167 := zA hbox; have GW167 := zgs hg (zs1 HB GE166); have GE167 := zgs hg (zs1 HB GE166); have NB166_167 := zne hg BK166; have NB167_166 := znf hg BK166; replace BK166 := zb BK166 hb; replace HB := zE (zs1 HB GE166) hb; clear hb hbox hg; have hnb17 := NB166_167.out; have hnc17 := NB167_166.out; obtain ⟨hcz18_0, hcz18_1, hcz18_2, hcz18_3, hcz18_4, hcz18_5, hcz18_6⟩ := zd7 BK166; obtain ⟨hfz18_0, hfz18_1, hfz18_2, hfz18_3, hfz18_4, hfz18_5, hfz18_6⟩ := zn7 BK166; obtain ⟨hcz19_0, hcz19_1, hcz19_2, hcz19_3, hcz19_4, hcz19_5, hcz19_6⟩ := zd7 BK167; obtain ⟨hfz19_0, hfz19_1, hfz19_2, hfz19_3, hfz19_4, hfz19_5, hfz19_6⟩ := zn7 BK167) | ((with_reducible refine gate_callee (f := 127) rfl ?_); refine zgl (N := some 10) Try.func127 #[.int .i64 (wrap64 (a0_0 - a1_0)), .int .i64 (-1), .int .i64 1] ?_; (with_reducible refine (spec_l21In.calls (wrap64 (a0_0 - a1_0)) (-1) 1 true _ A3.out).mono ?_); rintro e w' ⟨rfl, ⟨nd, rfl⟩⟩; refine ⟨_, rfl, ?_⟩) | (go_at_call 127; (with_reducible refine (spec_l21In.calls (wrap64 (a0_1 - a1_1)) (-1) 1 true _ A5.out).mono ?_); rintro e w' ⟨rfl, ⟨nd, rfl⟩⟩))
  go_ret
  exact ⟨ze, zs2 HB GE166 GE167⟩
 rw [if_neg c14] at H
 have c14b0 : decide (a0_2 ≤ a1_3) = false := decide_eq_false c14
 clear c14
 obtain rfl := Option.some.inj H
 go_enter Try.func139, Try.ntmps139
 go_wp2_with (first | ((with_reducible refine gate_dst (N := 2) rfl ?_); refine zbx 2 #[.int .i64 a0_0, .int .i64 a0_1, .int .i64 a0_2, .int .i64 a0_3, .int .i64 a0_4, .int .i64 a0_5, .bool a0_6] 132 ?_; intro gb166 hg w20 hbox hb; have BK166 := zA hbox; have GW166 := zgs hg (zs0 HB); have GE166 := zgs hg (zs0 HB); replace HB := zE (zs0 HB) hb; clear hb hbox hg) | ((with_reducible refine gate_dst (N := 3) rfl ?_); refine zbx 3 #[.int .i64 a1_0, .int .i64 a1_1, .int .i64 a1_2, .int .i64 a1_3, .int .i64 a1_4, .int .i64 a1_5, .bool a1_6] 132 ?_; intro gb167 hg w21 hbox hb; have BK167 := zA hbox; have GW167 := zgs hg (zs1 HB GE166); have GE167 := zgs hg (zs1 HB GE166); have NB166_167 := zne hg BK166; have NB167_166 := znf hg BK166; replace BK166 := zb BK166 hb; replace HB := zE (zs1 HB GE166) hb; clear hb hbox hg; have hnb22 := NB166_167.out; have hnc22 := NB167_166.out; obtain ⟨hcz23_0, hcz23_1, hcz23_2, hcz23_3, hcz23_4, hcz23_5, hcz23_6⟩ := zd7 BK166; obtain ⟨hfz23_0, hfz23_1, hfz23_2, hfz23_3, hfz23_4, hfz23_5, hfz23_6⟩ := zn7 BK166; obtain ⟨hcz24_0, hcz24_1, hcz24_2, hcz24_3, hcz24_4, hcz24_5, hcz24_6⟩ := zd7 BK167; obtain ⟨hfz24_0, hfz24_1, hfz24_2, hfz24_3, hfz24_4, hfz24_5, hfz24_6⟩ := zn7 BK167) | ((with_reducible refine gate_callee (f := 127) rfl ?_); refine zgl (N := some 10) Try.func127 #[.int .i64 (wrap64 (a0_0 - a1_0)), .int .i64 (-1), .int .i64 1] ?_; (with_reducible refine (spec_l21In.calls (wrap64 (a0_0 - a1_0)) (-1) 1 true _ A3.out).mono ?_); rintro e w' ⟨rfl, ⟨nd, rfl⟩⟩; refine ⟨_, rfl, ?_⟩) | (go_at_call 127; (with_reducible refine (spec_l21In.calls (wrap64 (a0_1 - a1_1)) (-1) 1 true _ A5.out).mono ?_); rintro e w' ⟨rfl, ⟨nd, rfl⟩⟩))
 go_ret
 exact ⟨ze, zs2 HB GE166 GE167⟩
end Go.Proofs.Ytbmplfpnhjhoiaa.QFnExactFlyRest
