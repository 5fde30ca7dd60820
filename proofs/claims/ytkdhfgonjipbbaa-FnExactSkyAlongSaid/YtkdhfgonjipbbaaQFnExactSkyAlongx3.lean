/- The walk of what the law FnExactSkyAlong reaches: laid by a program of this session (ownprint.py). -/
import Derived.Test.YtkdhfgonjipbbaaQFnExactSkyAlongx0
import Derived.Test.YtkdhfgonjipbbaaQFnExactSkyAlongx2
namespace Go.Proofs.Ytkdhfgonjipbbaa.QFnExactSkyAlong
open Go.RowKit Go.Proofs.YtkdhfgonjipbbaaW.PrintWords Go.Proofs.YtkdhfgonjipbbaaW.PrintLast Go.Proofs.YtkdhfgonjipbbaaW.PrintMore Go.Proofs.Ytkdhfgonjipbbaa.Z
attribute [local go_sem] max2_int min2_int max_two min_two max_three min_three max_four min_four zdn   -- for this text's walks alone
set_option linter.unusedVariables false
set_option linter.unusedSimpArgs false
def laws_toSkyHopS.l0 : Nat → List (S58) → List (S43) → Int → Option ((List (S43)))
 | 0, _, _, _ => none
 | k + 1, x0, x3, x4 => if x4 < (x0.length : Int) then (if 0 ≤ x4 then ((laws_toSkyHop.f ((rd_T58 x0 x4).f0) ((rd_T58 x0 x4).f1) ((rd_T58 x0 x4).f2) ((rd_T58 x0 x4).f3)).bind fun bt166 => (if x4 < (x3.length : Int) then (laws_toSkyHopS.l0 k x0 (x3.set (x4 : Int).toNat (⟨bt166.1, bt166.2.1, bt166.2.2.1, bt166.2.2.2⟩ : S43)) (wrap64 (x4 + 1))) else (none))) else (none)) else (some x3)
def laws_toSkyHopS.f (k : Nat) (l0 : List (S58)) : Option ((List (S43))) := if 0 ≤ (l0.length : Int) then (if ((l0.length : Int) : Int).toNat ≤ 5026338869833 then (laws_toSkyHopS.l0 k l0 (List.replicate ((l0.length : Int) : Int).toNat z43) 0) else (none)) else (none)
set_option maxHeartbeats 8000000 in
set_option maxRecDepth 100000 in
theorem laws_toSkyHopS.calls (k : Nat) (A0 : Option Addr) (c0 : Nat) (l0 : List (S58)) (r : List (S43)) (w : World) (hr0 : Kd.C k58 w A0 l0.length l0) (hc0 : l0.length ≤ c0) (h : laws_toSkyHopS.f k l0 = some r) :
 Calls Try.prog 17 #[.slice A0 l0.length c0] w fun e w' => ∃ v0_ : Value, e = .returned (v0_) ∧ Kd.R k43 43 w' w.heap.size (fun _ => True) v0_ r ∧ Below w.heap.size w w' := by
 have hu58 := Try.underlying58
 have hu43 := Try.underlying43
 have HR0 := Aside0.mk hr0
 have HC0 := Aside0.mk hc0
 clear hr0 hc0
 have HB := Aside0.mk (Below.refl w.heap.size w)
 have H : (if 0 ≤ (l0.length : Int) then (if ((l0.length : Int) : Int).toNat ≤ 5026338869833 then (laws_toSkyHopS.l0 k l0 (List.replicate ((l0.length : Int) : Int).toNat z43) 0) else (none)) else (none)) = some r := h
 clear h
 by_cases c2 : 0 ≤ (l0.length : Int)
 rotate_left
 ·rw [if_neg c2] at H
  exact absurd H (by simp)
 rw [if_pos c2] at H
 have c2b0 := eq_true c2
 have c2b1 : decide (0 ≤ (l0.length : Int)) = true := decide_eq_true c2
 clear c2
 by_cases c3 : ((l0.length : Int) : Int).toNat ≤ 5026338869833
 rotate_left
 ·rw [if_neg c3] at H
  exact absurd H (by simp)
 rw [if_pos c3] at H
 have c3b0 := eq_true c3
 have c3b1 : decide (((l0.length : Int) : Int).toNat ≤ 5026338869833) = true := decide_eq_true c3
 clear c3
 obtain ⟨y162, hy162⟩ : ∃ y_ : List (S43), y_ = (List.replicate ((l0.length : Int) : Int).toNat z43) := ⟨_, rfl⟩
 replace H : (laws_toSkyHopS.l0 k l0 y162 0) = some r := by first | (rw [hy162]; with_reducible exact H) | (have H2_ := (Option.bind_some _ _).symm.trans H; rw [hy162]; with_reducible exact H2_) | (have H2_ := (Option.bind_some _ _).symm.trans H; with_reducible exact H2_) | with_reducible exact H | (rw [hy162]; exact H) | exact H
 have Ny162 := Aside0.mk hy162
 clear hy162
 have H' := Aside0.mk H
 clear H
 go_enter Try.func17, Try.ntmps17
 go_wp2_with (first | ((with_reducible refine gate_dst (N := 7) rfl ?_); refine Kd.R_make k43 _ 43 rfl (N := 7) rfl 30 _ _ rfl (l0.length : Int) rfl rfl Try.underlying30 (.agg #[(.string ⟨#[]⟩), (.string ⟨#[]⟩), (.int .i64 0), (.string ⟨#[]⟩)]) 56 info43 rfl (by decide) (by omega) z43 (ok := fun _ => True) (okp := fun _ => True) (k43_mkM _ _ _ z43 ) (fun _ hk => hk) trivial (za) (Nat.le_trans (Nat.mul_le_mul_right _ (za : (l0.length : Int).toNat ≤ 5026338869833)) (by omega)) (Below.refl _ _) (Nat.le_refl _) ?_; intro v163 w4 ho5 hb hg_ hnew_; clear hg_ hnew_; (first | rw [← Ny162.out] at ho5 | (simp only [Int.reduceToNat] at ho5; rw [← Ny162.out] at ho5)); have HO164 := Aside0.mk (Kd.R_lower ho5 (below_size (zs0 HB))); replace HB := zE (zs0 HB) hb; clear hb ho5))
 go_loopg [4] k (fun kq v4 w' => ∃ (x3_1 : List (S43)) (x4_1 : Int), v4 = .int .i64 x4_1 ∧ Aside0 (laws_toSkyHopS.l0 kq l0 x3_1 x4_1 = some r) ∧ Aside0 (kq ≤ k) ∧ Aside0 (Kd.R k43 43 w' w.heap.size (fun _ => True) v163 x3_1) ∧ Aside0 (Below w.heap.size w w'))
 case atStart => exact ⟨(y162), (0), zi, H', ⟨Nat.le_refl _⟩, ⟨zr HO164⟩, ⟨zs0 HB⟩⟩
 case round =>
  clear H'
  try clear c1
  try clear c2
  try clear c2b0
  try clear c2b1
  try clear p2
  try clear c3
  try clear c3b0
  try clear c3b1
  obtain ⟨x3_1, x4_1, rfl, HA, HK1, HO_3, HB⟩ := hrel
  cases gk with
  | zero => exact absurd HA.out (by simp [laws_toSkyHopS.l0])
  | succ k1 =>
   have H := HA.out
   clear HA
   simp only [laws_toSkyHopS.l0] at H
   by_cases c6 : x4_1 < (l0.length : Int)
   rotate_left
   ·rw [if_neg c6] at H
    have c6b0 : decide (x4_1 < (l0.length : Int)) = false := decide_eq_false c6
    clear c6
    obtain rfl := Option.some.inj H
    go_wp2
    go_ret
    exact ⟨_, ze, zr HO_3, zs0 HB⟩
   rw [if_pos c6] at H
   have c6b0 : decide (x4_1 < (l0.length : Int)) = true := decide_eq_true c6
   clear c6
   by_cases c7 : 0 ≤ x4_1
   rotate_left
   ·rw [if_neg c7] at H
    exact absurd H (by simp)
   rw [if_pos c7] at H
   have c7b0 : decide (0 ≤ x4_1) = true := decide_eq_true c7
   clear c7
   replace H := Option.bind_eq_some_iff.mp H
   obtain ⟨⟨t166, t167, t168, t169⟩, A80, H⟩ := H
   replace H : (if x4_1 < (x3_1.length : Int) then (laws_toSkyHopS.l0 k1 l0 (x3_1.set (x4_1 : Int).toNat (⟨t166, t167, t168, t169⟩ : S43)) (wrap64 (x4_1 + 1))) else (none)) = some r := H
   have A8 := Aside0.mk A80
   clear A80
   by_cases c9 : x4_1 < (x3_1.length : Int)
   rotate_left
   ·rw [if_neg c9] at H
    exact absurd H (by simp)
   rw [if_pos c9] at H
   have c9b0 : decide (x4_1 < (x3_1.length : Int)) = true := decide_eq_true c9
   clear c9
   obtain ⟨y170, hy170⟩ : ∃ y_ : List (S43), y_ = (x3_1.set (x4_1 : Int).toNat (⟨t166, t167, t168, t169⟩ : S43)) := ⟨_, rfl⟩
   replace H : (laws_toSkyHopS.l0 k1 l0 y170 (wrap64 (x4_1 + 1))) = some r := by first | (rw [hy170]; with_reducible exact H) | (have H2_ := (Option.bind_some _ _).symm.trans H; rw [hy170]; with_reducible exact H2_) | (have H2_ := (Option.bind_some _ _).symm.trans H; with_reducible exact H2_) | with_reducible exact H | (rw [hy170]; exact H) | exact H
   have Ny170 := Aside0.mk hy170
   clear hy170
   have H' := Aside0.mk H
   clear H
   have p165 : 0 ≤ (x4_1 : Int) := za
   have q165 : x4_1 < (l0.length : Int) := za
   obtain ⟨ad165, e165, hx165_0, hx165_1, hx165_2, hx165_3⟩ := at_T58 HR0.out x4_1 p165 q165
   cases e165
   replace hx165_0 := zx HB hx165_0
   replace hx165_1 := zx HB hx165_1
   replace hx165_2 := zx HB hx165_2
   replace hx165_3 := zx HB hx165_3
   replace p165 := eq_true p165
   replace q165 := eq_true q165
   go_wp2_with (first | ((with_reducible refine gate_callee (f := 28) rfl ?_); refine zgl (N := some 20) Try.func28 #[.agg #[.string ((rd_T58 l0 x4_1).f0), .string ((rd_T58 l0 x4_1).f1), .int .i64 ((rd_T58 l0 x4_1).f2), .string ((rd_T58 l0 x4_1).f3)]] ?_; (with_reducible refine (laws_toSkyHop.calls ((rd_T58 l0 x4_1).f0) ((rd_T58 l0 x4_1).f1) ((rd_T58 l0 x4_1).f2) ((rd_T58 l0 x4_1).f3) t166 t167 t168 t169 _ A8.out).mono ?_); rintro e w11 ⟨rfl, hb⟩; refine ⟨_, rfl, ?_⟩; replace HO_3 := Aside0.mk (Kd.R_below (zr HO_3) hb); replace HB := zE (zs0 HB) hb; (try clear hb); (try clear hb2); (try clear hk); (try clear hi); have p10 : 0 ≤ (x4_1 : Int) := za; have q10 : (x4_1 : Int) < ((x3_1.length : Int) : Int) := za; obtain ⟨go10, co10, eo10, gb10, gl10, cl10, HG10⟩ := Kd.R_form HO_3.out (by omega); (first | cases eo10 | (injection eo10 with ea_ en_ ec_; (first | subst ea_ | (injection ea_ with ea_; subst ea_)); subst ec_; clear en_)); have GB10 := Aside0.mk gb10; have GG10 := Aside0.mk HG10; clear gb10 gl10 HG10; obtain ⟨ce10, hcl10, hM10, hcc10, hfr10⟩ := Kd.R_elem HO_3.out z43 (x4_1 : Int) p10 q10; obtain rfl := k43_openM hM10; have hx10_0 : w11.cell? ⟨go10, (x4_1 : Int).toNat * 4, none⟩ = some (.string ((rd_T43 x3_1 x4_1).f0)) := hcc10 0 _ rfl; have hx10_1 : w11.cell? ⟨go10, (x4_1 : Int).toNat * 4 + 1, none⟩ = some (.string ((rd_T43 x3_1 x4_1).f1)) := hcc10 1 _ rfl; have hx10_2 : w11.cell? ⟨go10, (x4_1 : Int).toNat * 4 + 2, none⟩ = some (.int .i64 ((rd_T43 x3_1 x4_1).f2)) := hcc10 2 _ rfl; have hx10_3 : w11.cell? ⟨go10, (x4_1 : Int).toNat * 4 + 3, none⟩ = some (.string ((rd_T43 x3_1 x4_1).f3)) := hcc10 3 _ rfl; have hf10_0 : w11.frozen? ⟨go10, (x4_1 : Int).toNat * 4, none⟩ = false := hfr10 0; have hf10_1 : w11.frozen? ⟨go10, (x4_1 : Int).toNat * 4 + 1, none⟩ = false := hfr10 1; have hf10_2 : w11.frozen? ⟨go10, (x4_1 : Int).toNat * 4 + 2, none⟩ = false := hfr10 2; have hf10_3 : w11.frozen? ⟨go10, (x4_1 : Int).toNat * 4 + 3, none⟩ = false := hfr10 3; clear hcl10 hcc10 hfr10 hM10; replace p10 := eq_true p10; replace q10 := eq_true q10; have HX12 := Aside0.mk (show Kd.R k43 43 w11 w.heap.size (fun _ => True) (.slice (some ⟨go10, 0, none⟩) x3_1.length co10) x3_1 from (zr HO_3)); obtain ⟨ce12, hcl12, hM12, hcc12, hfr12⟩ := Kd.R_elem HX12.out z43 (x4_1 : Int) (za) (by have h_ : (x4_1 : Int) < ((x3_1.length : Int) : Int) := za; first | exact h_ | (have e_ := (Kd.R_reads' HO_3.out).1; omega) | simpa using h_); obtain rfl := k43_openM hM12; have HP12 := Kd.R_seg HX12.out (x4_1 : Int) (za) (by have h_ : (x4_1 : Int) < ((x3_1.length : Int) : Int) := za; first | exact h_ | (have e_ := (Kd.R_reads' HO_3.out).1; omega) | simpa using h_) (seg := [.string t166, .string t167, .int .i64 t168, .string t169]) (j := 0) hcl12 hcc12 (show 4 ≤ 4 from by decide) (x' := (⟨t166, t167, t168, t169⟩ : S43)) (k43_mkM _ _ _ (⟨t166, t167, t168, t169⟩ : S43) ) (fun _ hk => hk); have hx12_0 := hcc12 0 _ rfl; (try simp only [show (k43).sz = 4 from rfl, Nat.mul_one, Nat.add_zero] at hx12_0); have hf12_0 := hfr12 0; (try simp only [show (k43).sz = 4 from rfl, Nat.mul_one, Nat.add_zero] at hf12_0); have hx12_1 := hcc12 1 _ rfl; (try simp only [show (k43).sz = 4 from rfl, Nat.mul_one, Nat.add_zero] at hx12_1); have hf12_1 := hfr12 1; (try simp only [show (k43).sz = 4 from rfl, Nat.mul_one, Nat.add_zero] at hf12_1); have hx12_2 := hcc12 2 _ rfl; (try simp only [show (k43).sz = 4 from rfl, Nat.mul_one, Nat.add_zero] at hx12_2); have hf12_2 := hfr12 2; (try simp only [show (k43).sz = 4 from rfl, Nat.mul_one, Nat.add_zero] at hf12_2); have hx12_3 := hcc12 3 _ rfl; (try simp only [show (k43).sz = 4 from rfl, Nat.mul_one, Nat.add_zero] at hx12_3); have hf12_3 := hfr12 3; (try simp only [show (k43).sz = 4 from rfl, Nat.mul_one, Nat.add_zero] at hf12_3); clear hcl12 hcc12 hfr12 hM12) | ((with_reducible refine gate_store (t := 43) (p := 21) rfl ?_); refine store_event (t := 43) (p := 21) (v := ?vo_w13) (w1 := ((((w11.setCell ⟨go10, (x4_1 : Int).toNat * 4, none⟩ (.string t166)).setCell ⟨go10, (x4_1 : Int).toNat * 4 + 1, none⟩ (.string t167)).setCell ⟨go10, (x4_1 : Int).toNat * 4 + 2, none⟩ (.int .i64 t168)).setCell ⟨go10, (x4_1 : Int).toNat * 4 + 3, none⟩ (.string t169))) ?hg ?ho ?hn ?hr ?_; (case ho => rfl); (case hg => rfl); (case hn => rfl); (case hr => first | (go_simp; done) | (go_simp; rfl)); intro w13 hw; have hg : w11.grownBy w13 (some go10) := (by rw [hw]; exact HP12.2); have hp_ : Kd.R k43 43 w13 w.heap.size (fun _ => True) (.slice (some ⟨go10, 0, none⟩) x3_1.length co10) y170 := (by rw [hw, Ny170.out]; exact HP12.1); clear HP12; replace HO_3 := Aside0.mk (hp_); replace HB := Aside0.mk ((by rw [hw]; exact below_set (below_set (below_set (below_set (HB.out) GB10.out) GB10.out) GB10.out) GB10.out : Below w.heap.size w w13)); clear hg hw hp_))
   go_roundg k1
   case measure => have := HK1.out; omega
   case rel => exact ⟨(y170), (wrap64 (x4_1 + 1)), zi, H', ⟨by have := HK1.out; omega⟩, ⟨zr HO_3⟩, ⟨zs0 HB⟩⟩
def laws_toSkyIndex.f (k : Nat) (l0_0 : List (S56)) (l0_1 : List (S58)) : Option ((List (S61)) × (List (S43))) := (laws_toSkyRowS.f k l0_0).bind fun t174 => ((laws_toSkyHopS.f k l0_1).bind fun t177 => (some (t174, t177)))
set_option maxHeartbeats 8000000 in
set_option maxRecDepth 100000 in
theorem laws_toSkyIndex.calls (k : Nat) (A0_0 : Option Addr) (c0_0 : Nat) (l0_0 : List (S56)) (A0_1 : Option Addr) (c0_1 : Nat) (l0_1 : List (S58)) (r1 : List (S61)) (r2 : List (S43)) (w : World) (hr0_0 : Kd.C k56 w A0_0 l0_0.length l0_0) (hc0_0 : l0_0.length ≤ c0_0) (hr0_1 : Kd.C k58 w A0_1 l0_1.length l0_1) (hc0_1 : l0_1.length ≤ c0_1) (h : laws_toSkyIndex.f k l0_0 l0_1 = some (r1, r2)) :
 Calls Try.prog 6 #[.agg #[.slice A0_0 l0_0.length c0_0, .slice A0_1 l0_1.length c0_1]] w fun e w' => ∃ v0_ v1_ : Value, e = .returned (.agg #[v0_, v1_]) ∧ Kd.S k61 61 w' w.heap.size (fun _ => True) v0_ r1 ∧ Kd.R k43 43 w' w.heap.size (fun _ => True) v1_ r2 ∧ Below w.heap.size w w' := by
 have hu25 := Try.underlying25
 have hu32 := Try.underlying32
 have HR0_0 := Aside0.mk hr0_0
 have HC0_0 := Aside0.mk hc0_0
 clear hr0_0 hc0_0
 have HR0_1 := Aside0.mk hr0_1
 have HC0_1 := Aside0.mk hc0_1
 clear hr0_1 hc0_1
 have HB := Aside0.mk (Below.refl w.heap.size w)
 have H : ((laws_toSkyRowS.f k l0_0).bind fun t174 => ((laws_toSkyHopS.f k l0_1).bind fun t177 => (some (t174, t177)))) = some (r1, r2) := h
 clear h
 replace H := zbd H; obtain ⟨t174, A2, H⟩ := H
 replace H := Option.bind_eq_some_iff.mp H
 obtain ⟨t177, A30, H⟩ := H
 replace H : (some (t174, t177)) = some (r1, r2) := H
 have A3 := Aside0.mk A30
 clear A30
 simp only [Option.some.injEq, Prod.mk.injEq] at H
 obtain ⟨rfl, rfl⟩ := H
 go_enter Try.func6, Try.ntmps6
 go_wp2_with (first | ((with_reducible refine gate_dst (N := 1) rfl ?_); refine zbx 1 #[.slice A0_0 l0_0.length c0_0, .slice A0_1 l0_1.length c0_1] 25 ?_; intro gb171 hg w4 hbox hb; have BK171 := zA hbox; have GW171 := zgs hg (zs0 HB); have GE171 := zgs hg (zs0 HB); replace HB := zE (zs0 HB) hb; clear hb hbox hg) | ((with_reducible refine gate_dst (N := 2) rfl ?_); refine zbx 2 #[.slice none 0 0, .slice none 0 0] 32 ?_; intro gb172 hg w5 hbox hb; have BK172 := zA hbox; have GW172 := zgs hg (zs1 HB GE171); have GE172 := zgs hg (zs1 HB GE171); have NB171_172 := zne hg BK171; have NB172_171 := znf hg BK171; replace BK171 := zb BK171 hb; replace HB := zE (zs1 HB GE171) hb; clear hb hbox hg) | ((with_reducible refine gate_dst (N := 3) rfl ?_); refine zbx 3 #[.slice none 0 0, .slice none 0 0] 32 ?_; intro gb173 hg w6 hbox hb; have BK173 := zA hbox; have GW173 := zgs hg (zs2 HB GE171 GE172); have GE173 := zgs hg (zs2 HB GE171 GE172); have NB171_173 := zne hg BK171; have NB173_171 := znf hg BK171; have NB172_173 := zne hg BK172; have NB173_172 := znf hg BK172; replace BK171 := zb BK171 hb; replace BK172 := zb BK172 hb; replace HB := zE (zs2 HB GE171 GE172) hb; clear hb hbox hg; have hnb7 := NB171_172.out; have hnc7 := NB172_171.out; have hnb8 := NB171_173.out; have hnc8 := NB173_171.out; obtain ⟨hcz9_0, hcz9_1⟩ := zd2 BK171; obtain ⟨hfz9_0, hfz9_1⟩ := zn2 BK171) | ((with_reducible refine gate_callee (f := 16) rfl ?_); refine zgl (N := some 6) Try.func16 #[.slice A0_0 l0_0.length c0_0] ?_; (with_reducible refine (laws_toSkyRowS.calls k _ _ l0_0 t174 _ ?side1 ?side2 A2.out).mono ?_); (case side1 => exact zC HR0_0 HB); (case side2 => exact HC0_0.out); rintro e w10 ⟨v175, rfl, ho0, hb⟩; refine ⟨_, rfl, ?_⟩; have HO176 := Aside0.mk (Kd.S_lower ho0 (below_size (zs3 HB GE171 GE172 GE173))); replace BK171 := zb BK171 hb; replace BK172 := zb BK172 hb; replace BK173 := zb BK173 hb; replace HB := zE (zs3 HB GE171 GE172 GE173) hb; (try clear hb); (try clear hb2); (try clear hk); (try clear hi); (try clear ho0); obtain ⟨Ao11, co11, eo11⟩ := Kd.S_slice HO176.out; subst eo11; have hnb12 := NB173_172.out; have hnc12 := NB172_173.out; obtain ⟨hcz13_0, hcz13_1⟩ := zd2 BK173; obtain ⟨hfz13_0, hfz13_1⟩ := zn2 BK173; obtain ⟨hcz14_0, hcz14_1⟩ := zd2 BK171; obtain ⟨hfz14_0, hfz14_1⟩ := zn2 BK171) | ((with_reducible refine gate_callee (f := 17) rfl ?_); refine zgl (N := some 10) Try.func17 #[.slice A0_1 l0_1.length c0_1] ?_; (with_reducible refine (laws_toSkyHopS.calls k _ _ l0_1 t177 _ ?side1 ?side2 A3.out).mono ?_); (case side1 => exact Kd.C_below HR0_1.out (zs3 HB GE171 GE172 GE173)); (case side2 => exact HC0_1.out); rintro e w15 ⟨v178, rfl, ho0, hb⟩; refine ⟨_, rfl, ?_⟩; have HO179 := Aside0.mk (Kd.R_lower ho0 (below_size (zs3 HB GE171 GE172 GE173))); replace HO176 := Aside0.mk (Kd.S_below (by (with_reducible repeat (first | apply Kd.S_alloc | apply Kd.S_drewN | apply Kd.S_drew)); exact (Kd.S_mono (Kd.S_far (p := ⟨gb173, 0, none⟩) (Kd.S_types HO176.out BK173.out (by decide)) (fun _ hk => hk.2) (.slice Ao11 t174.length co11)) (fun _ h_ => h_.1))) hb); replace BK171 := Aside0.mk (blk_below (g := gb171) (o := .cells #[.slice A0_0 l0_0.length c0_0, .slice A0_1 l0_1.length c0_1] 25 (0, 0)) (zpf BK171 NB171_173) hb); replace BK172 := Aside0.mk (blk_below (g := gb172) (o := .cells #[.slice none 0 0, .slice none 0 0] 32 (0, 0)) (zpf BK172 NB172_173) hb); replace BK173 := Aside0.mk (blk_below (g := gb173) (o := .cells #[.slice Ao11 t174.length co11, .slice none 0 0] 32 (0, 0)) (zpb BK173) hb); replace HB := zE (zs3 HB GE171 GE172 GE173) hb; (try clear hb); (try clear hb2); (try clear hk); (try clear hi); (try clear ho0); obtain ⟨Ao16, co16, eo16⟩ := Kd.R_slice HO179.out; subst eo16; obtain ⟨hcz17_0, hcz17_1⟩ := zd2 BK173; obtain ⟨hfz17_0, hfz17_1⟩ := zn2 BK173; obtain ⟨hcz18_0, hcz18_1⟩ := zd2 BK172; obtain ⟨hfz18_0, hfz18_1⟩ := zn2 BK172))
 refine bodyPost_ret (results_cell_row rfl _ _ gb172 32 #[.slice Ao11 t174.length co11, .slice Ao16 t177.length co16] (0, 0) _ rfl ?hz Try.underlying32 rfl (by kernel_rfl)) rfl ?_; (case hz => exact zpf BK172 NB172_173)
 exact ⟨_, _, ze, by (with_reducible repeat (first | apply Kd.S_alloc | apply Kd.S_drewN | apply Kd.S_drew)); exact Kd.S_mono (Kd.S_far (p := ⟨gb172, 1, none⟩) (Kd.S_far (p := ⟨gb172, 0, none⟩) (Kd.S_far (p := ⟨gb173, 1, none⟩) (Kd.S_types (Kd.S_types HO176.out BK173.out (by decide)) BK172.out (by decide)) (fun _ hk => hk.1.2) (.slice Ao16 t177.length co16)) (fun _ hk => hk.2) (.slice Ao11 t174.length co11)) (fun _ hk => hk.2) (.slice Ao16 t177.length co16)) (fun _ hk => trivial), by (with_reducible repeat (first | apply Kd.R_alloc | apply Kd.R_drewN | apply Kd.R_drew)); exact Kd.R_mono (Kd.R_far (p := ⟨gb172, 1, none⟩) (Kd.R_far (p := ⟨gb172, 0, none⟩) (Kd.R_far (p := ⟨gb173, 1, none⟩) (Kd.R_types (Kd.R_types HO179.out BK173.out (by decide)) BK172.out (by decide)) (fun _ hk => hk.1.2) (.slice Ao16 t177.length co16)) (fun _ hk => hk.2) (.slice Ao11 t174.length co11)) (fun _ hk => hk.2) (.slice Ao16 t177.length co16)) (fun _ hk => trivial), zs3 HB GE171 GE172 GE173⟩
-- NOT PRINTED: function 18 (impl_SkyHop)
set_option maxHeartbeats 8000000 in
set_option maxRecDepth 100000 in
/-- The function value: is the hop one between the points whose places it holds? -/
theorem SkyAlong_1.calls (z0 z1 : ByteArray) (z2 : Int) (z3 n1 n2 : ByteArray) (g1 g2 : Nat) (r : Bool) (w : World) (hb1 : w.heap[g1]? = some (.cells #[.string n1] 9 (0, 0))) (hb2 : w.heap[g2]? = some (.cells #[.string n2] 9 (0, 0))) (h : (z0.toList == n1.toList && z1.toList == n2.toList) = r) :
 Calls Try.prog 19 #[.agg #[.string z0, .string z1, .int .i64 z2, .string z3], .pointer (some ⟨g1, 0, none⟩), .pointer (some ⟨g2, 0, none⟩)] w fun e w' => e = .returned (.bool r) ∧ Below w.heap.size w w' := by
 have hu43 := Try.underlying43
 have BK1 := zA hb1
 have BK2 := zA hb2
 clear hb1 hb2
 have HB := zA (Below.refl w.heap.size w)
 go_enter Try.func19, Try.ntmps19
 rcases e1 : (z0.toList == n1.toList) with _ | _
 · rw [e1, Bool.false_and] at h
   subst h
   go_wp2_with (first | ((with_reducible refine gate_dst (N := 3) rfl ?_); refine zbx 3 #[.string z0, .string z1, .int .i64 z2, .string z3] 43 ?_; intro gbz hg w1 hbox hb; have BKz := zA hbox; have GEz := zgs hg (zs0 HB); replace BK1 := zb BK1 hb; replace BK2 := zb BK2 hb; replace HB := zE (zs0 HB) hb; clear hb hbox hg; obtain ⟨hcz1_0, hcz1_1, hcz1_2, hcz1_3⟩ := zd4 BKz; have hcz2_0 := zc0 BK1; have hcz3_0 := zc0 BK2))
   go_ret
   exact ⟨ze, zs1 HB GEz⟩
 · rw [e1, Bool.true_and] at h
   subst h
   go_wp2_with (first | ((with_reducible refine gate_dst (N := 3) rfl ?_); refine zbx 3 #[.string z0, .string z1, .int .i64 z2, .string z3] 43 ?_; intro gbz hg w1 hbox hb; have BKz := zA hbox; have GEz := zgs hg (zs0 HB); replace BK1 := zb BK1 hb; replace BK2 := zb BK2 hb; replace HB := zE (zs0 HB) hb; clear hb hbox hg; obtain ⟨hcz1_0, hcz1_1, hcz1_2, hcz1_3⟩ := zd4 BKz; have hcz2_0 := zc0 BK1; have hcz3_0 := zc0 BK2))
   go_ret
   exact ⟨ze, zs1 HB GEz⟩
def isHop (x : S43) (a b : ByteArray) : Bool := (x.f0.toList == a.toList && x.f1.toList == b.toList)
def impl_hopFind.l0 : Nat → List (S43) → ByteArray → ByteArray → Int → Int → Option (Int)
 | 0, _, _, _, _, _ => none
 | k + 1, x0, x1, x2, x7, x8 => if x8 < x7 then (if 0 ≤ x8 then (if x8 < (x0.length : Int) then (if isHop (rd_T43 x0 x8) x1 x2 = true then (some x8) else (impl_hopFind.l0 k x0 x1 x2 x7 (wrap64 (x8 + 1)))) else (none)) else (none)) else (some (-1))
def impl_hopFind.f (k : Nat) (l0 : List (S43)) (a1 a2 : ByteArray) : Option (Int) := impl_hopFind.l0 k l0 a1 a2 (l0.length : Int) 0
set_option maxHeartbeats 8000000 in
set_option maxRecDepth 100000 in
theorem impl_hopFind.calls (k : Nat) (A0 : Option Addr) (c0 : Nat) (l0 : List (S43)) (a1 a2 : ByteArray) (g1 g2 : Nat) (r : Int) (w : World) (hr0 : Kd.C k43 w A0 l0.length l0) (hc0 : l0.length ≤ c0) (hb1 : w.heap[g1]? = some (.cells #[.string a1] 9 (0, 0))) (hb2 : w.heap[g2]? = some (.cells #[.string a2] 9 (0, 0))) (h : impl_hopFind.f k l0 a1 a2 = some r) :
 Calls Try.prog 18 #[.slice A0 l0.length c0, .func (.func 19) #[] #[.pointer (some ⟨g1, 0, none⟩), .pointer (some ⟨g2, 0, none⟩)]] w fun e w' => e = .returned (.int .i64 r) ∧ Below w.heap.size w w' := by
 have hu43 := Try.underlying43
 have HR0 := zA hr0
 have HC0 := zA hc0
 have BK1 := zA hb1
 have BK2 := zA hb2
 clear hr0 hc0 hb1 hb2
 have HB := zA (Below.refl w.heap.size w)
 have H : (impl_hopFind.l0 k l0 a1 a2 (l0.length : Int) 0) = some r := h
 clear h
 have H' := zA H
 clear H
 go_enter Try.func18, Try.ntmps18
 go_wp2
 go_loopg [8] k (fun kq v8 w' => ∃ (x8_1 : Int), v8 = .int .i64 x8_1 ∧ Aside0 (impl_hopFind.l0 kq l0 a1 a2 (l0.length : Int) x8_1 = some r) ∧ Aside0 (kq ≤ k) ∧ Aside0 (Below w.heap.size w w'))
 case atStart => exact ⟨(0), zi, H', ⟨Nat.le_refl _⟩, ⟨zs0 HB⟩⟩
 case round =>
  clear H'
  obtain ⟨x8_1, rfl, HA, HK1, HB⟩ := hrel
  cases gk with
  | zero => exact absurd HA.out (by simp [impl_hopFind.l0])
  | succ k1 =>
   have H := HA.out
   clear HA
   simp only [impl_hopFind.l0] at H
   by_cases c3 : x8_1 < (l0.length : Int)
   rotate_left
   ·rw [if_neg c3] at H
    have c3b0 : decide (x8_1 < (l0.length : Int)) = false := decide_eq_false c3
    clear c3
    obtain rfl := Option.some.inj H
    go_wp2
    go_ret
    exact ⟨ze, zs0 HB⟩
   rw [if_pos c3] at H
   have c3b0 : decide (x8_1 < (l0.length : Int)) = true := decide_eq_true c3
   have q186 : x8_1 < (l0.length : Int) := c3
   clear c3
   by_cases c4 : 0 ≤ x8_1
   rotate_left
   ·rw [if_neg c4] at H
    exact absurd H (by simp)
   rw [if_pos c4] at H
   have c4b0 : decide (0 ≤ x8_1) = true := decide_eq_true c4
   have p186 : 0 ≤ (x8_1 : Int) := c4
   clear c4
   rw [if_pos q186] at H
   obtain ⟨ad186, e186, hx186_0, hx186_1, hx186_2, hx186_3⟩ := at_T43 HR0.out x8_1 p186 q186
   cases e186
   replace hx186_0 := zx HB hx186_0
   replace hx186_1 := zx HB hx186_1
   replace hx186_2 := zx HB hx186_2
   replace hx186_3 := zx HB hx186_3
   replace p186 := eq_true p186
   replace q186 := eq_true q186
   rcases A6 : isHop (rd_T43 l0 x8_1) a1 a2 with _ | _
   ·rw [A6, if_neg (by decide)] at H
    unfold isHop at A6
    have A6' := zA A6
    clear A6
    have H' := zA H
    clear H
    go_wp2_with (first | (go_at_call 19; (refine (SkyAlong_1.calls ((rd_T43 l0 x8_1).f0) ((rd_T43 l0 x8_1).f1) ((rd_T43 l0 x8_1).f2) ((rd_T43 l0 x8_1).f3) a1 a2 g1 g2 false _ (zb BK1 HB.out).out (zb BK2 HB.out).out A6'.out).mono ?_); rintro e w9 ⟨rfl, hb⟩; replace HB := zE (zs0 HB) hb; clear hb))
    go_roundg k1
    case measure => have := HK1.out; omega
    case rel => exact ⟨(wrap64 (x8_1 + 1)), zi, H', ⟨by have := HK1.out; omega⟩, ⟨zs0 HB⟩⟩
   ·rw [A6, if_pos rfl] at H
    unfold isHop at A6
    have A6' := zA A6
    clear A6
    obtain rfl := Option.some.inj H
    go_wp2_with (first | (go_at_call 19; (refine (SkyAlong_1.calls ((rd_T43 l0 x8_1).f0) ((rd_T43 l0 x8_1).f1) ((rd_T43 l0 x8_1).f2) ((rd_T43 l0 x8_1).f3) a1 a2 g1 g2 true _ (zb BK1 HB.out).out (zb BK2 HB.out).out A6'.out).mono ?_); rintro e w8 ⟨rfl, hb⟩; replace HB := zE (zs0 HB) hb; clear hb))
    go_ret
    exact ⟨ze, zs0 HB⟩
def impl_SkyAlong.l0 : Nat → ByteArray → ByteArray → List ByteArray → List (S61) → List (S43) → Option (List ByteArray)
 | 0, _, _, _, _, _ => none
 | k + 1, x1, x2, x7, x181000, x181001 => if x1.toList = x2.toList then (some x7) else ((impl_hopFind.f k x181001 x1 x2).bind fun t184 => (if t184 < 0 then (some (([] : List ByteArray))) else (if (x7.length : Int) ≥ 16 then (some (([] : List ByteArray))) else (if 0 ≤ t184 then (if t184 < (x181001.length : Int) then (if x7.length < 8796093022208 then (impl_SkyAlong.l0 k ((rd_T43 x181001 t184).f3) x2 (x7 ++ [(rd_T43 x181001 t184).f3]) x181000 x181001) else (none)) else (none)) else (none)))))
def impl_SkyAlong.f (k : Nat) (l0_0 : List (S61)) (l0_1 : List (S43)) (a1 : ByteArray) (a2 : ByteArray) : Option (List ByteArray) := impl_SkyAlong.l0 k a1 a2 (([a1] : List ByteArray)) l0_0 l0_1
set_option maxHeartbeats 16000000 in
set_option maxRecDepth 100000 in
theorem impl_SkyAlong.calls (k : Nat) (A0_0 : Option Addr) (c0_0 : Nat) (l0_0 : List (S61)) (A0_1 : Option Addr) (c0_1 : Nat) (l0_1 : List (S43)) (a1 : ByteArray) (a2 : ByteArray) (r : List ByteArray) (w : World) (hr0_0 : Kd.C k61 w A0_0 l0_0.length l0_0) (hc0_0 : l0_0.length ≤ c0_0) (hr0_1 : Kd.C k43 w A0_1 l0_1.length l0_1) (hc0_1 : l0_1.length ≤ c0_1) (h : impl_SkyAlong.f k l0_0 l0_1 a1 a2 = some r) :
 Calls Try.prog 7 #[.agg #[.slice A0_0 l0_0.length c0_0, .slice A0_1 l0_1.length c0_1], .string a1, .string a2] w fun e w' => ∃ v0_ : Value, e = .returned (v0_) ∧ Kd.R Kd.string 9 w' w.heap.size (fun _ => True) v0_ r ∧ Below w.heap.size w w' := by
 have hmf : ∀ (fn : Fn) (first cap : Array Value) (w : World), (Instr.makeFunc fn first cap).run Try.prog w = .ok (.func fn first cap) w := fun _ _ _ _ => rfl
 have hu32 := Try.underlying32
 have HR0_1 := zA hr0_1
 have HC0_1 := zA hc0_1
 clear hr0_0 hc0_0 hr0_1 hc0_1
 have HB := zA (Below.refl w.heap.size w)
 have H : (impl_SkyAlong.l0 k a1 a2 (([a1] : List ByteArray)) l0_0 l0_1) = some r := h
 clear h
 have H' := zA H
 clear H
 go_enter Try.func7, Try.ntmps7
 go_wp2_with (first | ((with_reducible refine gate_dst (N := 3) rfl ?_); refine zbx 3 #[.slice A0_0 l0_0.length c0_0, .slice A0_1 l0_1.length c0_1] 32 ?_; intro gx hg w1 hbox hb; have BKx := zA hbox; have GEx := zgs hg (zs0 HB); replace HB := zE (zs0 HB) hb; clear hb hbox hg) | ((with_reducible refine gate_dst (N := 4) rfl ?_); refine zbx 4 #[.string a1] 9 ?_; intro gf hg w2 hbox hb; have BKf := zA hbox; have GEf := zgs hg (zs1 HB GEx); have NBxf := zne hg BKx; replace BKx := zb BKx hb; replace HB := zE (zs1 HB GEx) hb; clear hb hbox hg) | ((with_reducible refine gate_dst (N := 5) rfl ?_); refine zbx 5 #[.string a2] 9 ?_; intro gt hg w3 hbox hb; have BKt := zA hbox; have GEt := zgs hg (zs2 HB GEx GEf); have NBxt := zne hg BKx; have NBft := zne hg BKf; have NBtf := znf hg BKf; replace BKx := zb BKx hb; replace BKf := zb BKf hb; replace HB := zE (zs2 HB GEx GEf) hb; clear hb hbox hg; have hcf_0 := zc0 BKf) | ((with_reducible refine gate_dst (N := 10) rfl ?_); refine Kd.R_lit Kd.string _ 9 ?hg (N := 10) ?hd (xs := ([a1] : List ByteArray)) (inner := [.string a1]) (ok := fun _ => True) (okp := fun _ => True) ?hr ?hp (fun _ hk => hk) trivial (Below.refl _ _) (Nat.le_refl _) (by simp) ?_; (case hd => rfl); (case hg => rfl); (case hr => first | (go_simp; done) | (go_simp; rfl)); (case hp => exact (Reps.one (show Kd.M Kd.string _ _ _ a1 [.string a1] from rfl) (Reps.none _ _))); intro v182 w5 ho6 hb hg_ hnew_; clear hg_ hnew_; have HO183 := zA (Kd.R_lower (Kd.R_mono (ok' := fun k_ => k_ ≠ gf ∧ k_ ≠ gt) (Kd.R_bound ho6) (fun k_ hk_ => ⟨fun e_ => by have := blk_lt (zh BKf); have := hk_.2.1; omega, fun e_ => by have := blk_lt (zh BKt); have := hk_.2.1; omega⟩)) (below_size (zs3 HB GEx GEf GEt))); replace BKx := zb BKx hb; replace BKf := zb BKf hb; replace BKt := zb BKt hb; replace HB := zE (zs3 HB GEx GEf GEt) hb; clear hb ho6))
 go_loopg [7] k (fun kq v7 w' => ∃ (x1_1 : ByteArray) (x7_1 : List ByteArray), Aside0 (impl_SkyAlong.l0 kq x1_1 a2 x7_1 l0_0 l0_1 = some r) ∧ Aside0 (kq ≤ k) ∧ Aside0 (Kd.R Kd.string 9 w' w.heap.size (fun k_ => k_ ≠ gf ∧ k_ ≠ gt) v7 x7_1) ∧ Aside0 (w'.heap[gx]? = some (.cells #[(.slice A0_0 l0_0.length c0_0), (.slice A0_1 l0_1.length c0_1)] 32 (0, 0))) ∧ Aside0 (w'.heap[gf]? = some (.cells #[.string x1_1] 9 (0, 0))) ∧ Aside0 (w'.heap[gt]? = some (.cells #[.string a2] 9 (0, 0))) ∧ Aside0 (Below w.heap.size w w'))
 case atStart => exact ⟨(a1), ([a1]), H', ⟨Nat.le_refl _⟩, ⟨zr HO183⟩, ⟨zh BKx⟩, ⟨zh BKf⟩, ⟨zh BKt⟩, ⟨zs3 HB GEx GEf GEt⟩⟩
 case round =>
  clear H'
  try clear hcf_0
  obtain ⟨x1_1, x7_1, HA, HK1, HO_7, BKx, BKf, BKt, HB⟩ := hrel
  cases gk with
  | zero => exact absurd HA.out (by simp [impl_SkyAlong.l0])
  | succ k1 =>
   have H := HA.out
   clear HA
   simp only [impl_SkyAlong.l0] at H
   have hcf_0 := zc0 BKf
   have hct_0 := zc0 BKt
   by_cases c7 : x1_1.toList = a2.toList
   ·rw [if_pos c7] at H
    have c7b0 : (x1_1.toList == a2.toList) = true := beq_iff_eq.mpr c7
    have c7b1 : (x1_1.toList != a2.toList) = false := bne_eq_false_iff_eq.mpr c7
    clear c7
    obtain rfl := Option.some.inj H
    go_wp2
    go_ret
    exact ⟨_, ze, Kd.R_mono (zr HO_7) (fun _ _ => trivial), zs3 HB GEx GEf GEt⟩
   rw [if_neg c7] at H
   have c7b0 : (x1_1.toList == a2.toList) = false := beq_eq_false_iff_ne.mpr c7
   have c7b1 : (x1_1.toList != a2.toList) = true := bne_iff_ne.mpr c7
   clear c7
   replace H := zbd H; obtain ⟨t184, A8, H⟩ := H
   obtain ⟨hcz10_0, hcz10_1⟩ := zd2 BKx
   obtain ⟨Ao25, co25, eo25⟩ := Kd.R_slice HO_7.out
   subst eo25
   by_cases c9 : t184 < 0
   ·rw [if_pos c9] at H
    have c9b0 : decide (t184 < 0) = true := decide_eq_true c9
    clear c9
    obtain rfl := Option.some.inj H
    go_wp2_with (first | ((with_reducible refine gate_callee (f := 18) rfl ?_); refine zgl (N := some 17) Try.func18 #[.slice A0_1 l0_1.length c0_1, .func (.func 19) #[] #[.pointer (some ⟨gf, 0, none⟩), .pointer (some ⟨gt, 0, none⟩)]] ?_; (with_reducible refine (impl_hopFind.calls k1 _ _ l0_1 x1_1 a2 gf gt t184 _ ?side1 ?side2 (zh BKf) (zh BKt) A8.out).mono ?_); (case side1 => exact zC HR0_1 HB); (case side2 => exact HC0_1.out); rintro e w24 ⟨rfl, hb⟩; refine ⟨_, rfl, ?_⟩; replace HO_7 := zA (Kd.R_below (zr HO_7) hb); replace BKx := zb BKx hb; replace BKf := zb BKf hb; replace BKt := zb BKt hb; replace HB := zE (zs3 HB GEx GEf GEt) hb; clear hb))
    go_ret
    exact ⟨_, ze, Kd.R_nil _ _ _ _ _, zs3 HB GEx GEf GEt⟩
   rw [if_neg c9] at H
   have c9b0 : decide (t184 < 0) = false := decide_eq_false c9
   clear c9
   by_cases c14 : (x7_1.length : Int) ≥ 16
   ·rw [if_pos c14] at H
    have c14b0 : decide (16 ≤ (x7_1.length : Int)) = true := decide_eq_true c14
    have c14b1 : decide (16 ≤ x7_1.length) = true := decide_eq_true (by omega)
    clear c14
    obtain rfl := Option.some.inj H
    go_wp2_with (first | ((with_reducible refine gate_callee (f := 18) rfl ?_); refine zgl (N := some 17) Try.func18 #[.slice A0_1 l0_1.length c0_1, .func (.func 19) #[] #[.pointer (some ⟨gf, 0, none⟩), .pointer (some ⟨gt, 0, none⟩)]] ?_; (with_reducible refine (impl_hopFind.calls k1 _ _ l0_1 x1_1 a2 gf gt t184 _ ?side1 ?side2 (zh BKf) (zh BKt) A8.out).mono ?_); (case side1 => exact zC HR0_1 HB); (case side2 => exact HC0_1.out); rintro e w24 ⟨rfl, hb⟩; refine ⟨_, rfl, ?_⟩; replace HO_7 := zA (Kd.R_below (zr HO_7) hb); replace BKx := zb BKx hb; replace BKf := zb BKf hb; replace BKt := zb BKt hb; replace HB := zE (zs3 HB GEx GEf GEt) hb; clear hb))
    go_ret
    exact ⟨_, ze, Kd.R_nil _ _ _ _ _, zs3 HB GEx GEf GEt⟩
   rw [if_neg c14] at H
   have c14b0 : decide (16 ≤ (x7_1.length : Int)) = false := decide_eq_false c14
   have c14b1 : decide (16 ≤ x7_1.length) = false := decide_eq_false (by omega)
   clear c14
   by_cases c20 : 0 ≤ t184
   rotate_left
   ·rw [if_neg c20] at H
    exact absurd H (by simp)
   rw [if_pos c20] at H
   have c20b0 : decide (0 ≤ t184) = true := decide_eq_true c20
   by_cases c21 : t184 < (l0_1.length : Int)
   rotate_left
   ·rw [if_neg c21] at H
    exact absurd H (by simp)
   rw [if_pos c21] at H
   have c21b0 : decide (t184 < (l0_1.length : Int)) = true := decide_eq_true c21
   by_cases c22 : x7_1.length < 8796093022208
   rotate_left
   ·rw [if_neg c22] at H
    exact absurd H (by simp)
   rw [if_pos c22] at H
   have LMc22 := zA c22
   clear c22
   have H' := zA H
   clear H
   obtain ⟨ad191, e191, hx191_0, hx191_1, hx191_2, hx191_3⟩ := at_T43 HR0_1.out t184 c20 c21
   cases e191
   have HX3 := zA hx191_3
   have p191 := eq_true c20
   have q191 := eq_true c21
   clear c20 c21 hx191_0 hx191_1 hx191_2 hx191_3
   go_wp2_with (first | ((with_reducible refine gate_callee (f := 18) rfl ?_); refine zgl (N := some 17) Try.func18 #[.slice (some ad191) l0_1.length c0_1, .func (.func 19) #[] #[.pointer (some ⟨gf, 0, none⟩), .pointer (some ⟨gt, 0, none⟩)]] ?_; (with_reducible refine (impl_hopFind.calls k1 _ _ l0_1 x1_1 a2 gf gt t184 _ ?side1 ?side2 (zh BKf) (zh BKt) A8.out).mono ?_); (case side1 => exact zC HR0_1 HB); (case side2 => exact HC0_1.out); rintro e w24 ⟨rfl, hb⟩; refine ⟨_, rfl, ?_⟩; replace HO_7 := zA (Kd.R_below (zr HO_7) hb); replace BKx := zb BKx hb; replace BKf := zb BKf hb; replace BKt := zb BKt hb; replace HB := zE (zs3 HB GEx GEf GEt) hb; clear hb; obtain ⟨hcz26_0, hcz26_1⟩ := zd2 BKx; clear hcf_0 hct_0; have hcf_0 := zc0 BKf; have hct_0 := zc0 BKt; have hff_0 := zf BKf 0; have hx191_3 := zx HB HX3.out) | ((with_reducible refine gate_store (t := 9) (p := 4) rfl ?_); refine store_event (t := 9) (p := 4) (v := ?vo1) (w1 := (w24.setCell ⟨gf, 0, none⟩ (.string ((rd_T43 l0_1 t184).f3)))) ?hg ?ho ?hn ?hr ?_; (case ho => rfl); (case hg => rfl); (case hn => rfl); (case hr => first | (go_simp; done) | (go_simp; rfl)); intro w25 hw; replace HO_7 := zA (show Kd.R Kd.string 9 w25 w.heap.size (fun k_ => k_ ≠ gf ∧ k_ ≠ gt) (.slice Ao25 x7_1.length co25) x7_1 from by rw [hw]; exact Kd.R_far HO_7.out (fun k_ hk_ => hk_.1) _); replace BKx := zA (show w25.heap[gx]? = some (.cells #[(.slice A0_0 l0_0.length c0_0), (.slice (some ad191) l0_1.length c0_1)] 32 (0, 0)) from by rw [hw]; exact blk_far BKx.out NBxf.out _); replace BKt := zA (show w25.heap[gt]? = some (.cells #[.string a2] 9 (0, 0)) from by rw [hw]; exact blk_far BKt.out NBtf.out _); replace BKf := zA (show w25.heap[gf]? = some (.cells #[.string ((rd_T43 l0_1 t184).f3)] 9 (0, 0)) from by rw [hw]; exact blk_put BKf.out 0 _ rfl); replace HB := zA (show Below w.heap.size w w25 from by rw [hw]; exact below_set HB.out GEf.out); clear hw hcf_0 hct_0; have hcf_0 := zc0 BKf; have hct_0 := zc0 BKt) | ((with_reducible refine gate_builtin (b := .append) (xs := #[.tmp 31, .tmp 33]) rfl ?_); at_builtin; refine Kd.R_append Kd.string (w0 := w) w.heap.size rfl (.tmp 31) (.tmp 33) 27 9 (.string ⟨#[]⟩) 16 rfl Try.underlying27 info9 rfl (by decide) (by omega) (.slice Ao25 x7_1.length co25) x7_1 ((rd_T43 l0_1 t184).f3) [.string ((rd_T43 l0_1 t184).f3)] (fun k_ => k_ ≠ gf ∧ k_ ≠ gt) (fun _ => False) rfl rfl ?aP (fun _ hk => hk.elim) ?aF ?aO ?aB ?aS ?aL ?_; (case aP => exact rfl); (case aB => exact (zs3 HB GEx GEf GEt)); (case aF => exact (fun k_ hk_ => ⟨fun e_ => by have := blk_lt (zh BKf); omega, fun e_ => by have := blk_lt (zh BKt); omega⟩)); (case aO => exact (zr HO_7)); (case aS => exact (below_size (zs3 HB GEx GEf GEt))); (case aL => have := LMc22.out; omega); intro v193 w27 ho hb hg hat; have HO194 := zA (ho); replace BKx := zA (blk_grown (g := gx) (o := .cells #[.slice A0_0 l0_0.length c0_0, .slice (some ad191) l0_1.length c0_1] 32 (0, 0)) (zh BKx) hg (Kd.R_ne HO_7.out BKx.out (by decide))); replace BKf := zA (blk_grown (g := gf) (o := .cells #[.string ((rd_T43 l0_1 t184).f3)] 9 (0, 0)) (zh BKf) hg (fun e_ => (HO_7.out.1 gf e_.symm).1 rfl)); replace BKt := zA (blk_grown (g := gt) (o := .cells #[.string a2] 9 (0, 0)) (zh BKt) hg (fun e_ => (HO_7.out.1 gt e_.symm).2 rfl)); replace HB := zA (hb); clear HO_7; clear ho hb hg hat))
   go_roundg k1
   case measure => have := HK1.out; omega
   case rel => exact ⟨((rd_T43 l0_1 t184).f3), (x7_1 ++ [(rd_T43 l0_1 t184).f3]), H', ⟨by have := HK1.out; omega⟩, ⟨zr HO194⟩, ⟨zh BKx⟩, ⟨zh BKf⟩, ⟨zh BKt⟩, ⟨zs3 HB GEx GEf GEt⟩⟩
def laws_eqStringS.l0 : Nat → List ByteArray → List ByteArray → Int → Option (Bool)
 | 0, _, _, _ => none
 | k + 1, x0, x1, x5 => if x5 < (x0.length : Int) then (if 0 ≤ x5 then (if x5 < (x1.length : Int) then (if (rdOf ByteArray.empty x0 x5).toList = (rdOf ByteArray.empty x1 x5).toList then (laws_eqStringS.l0 k x0 x1 (wrap64 (x5 + 1))) else (some false)) else (none)) else (none)) else (some true)
def laws_eqStringS.f (k : Nat) (l0 : List ByteArray) (l1 : List ByteArray) : Option (Bool) := if (l0.length : Int) = (l1.length : Int) then (laws_eqStringS.l0 k l0 l1 0) else (some false)
set_option maxHeartbeats 8000000 in
set_option maxRecDepth 100000 in
theorem laws_eqStringS.calls (k : Nat) (A0 : Option Addr) (c0 : Nat) (l0 : List ByteArray) (A1 : Option Addr) (c1 : Nat) (l1 : List ByteArray) (r : Bool) (w : World) (hr0 : Kd.C Kd.string w A0 l0.length l0) (hc0 : l0.length ≤ c0) (hr1 : Kd.C Kd.string w A1 l1.length l1) (hc1 : l1.length ≤ c1) (h : laws_eqStringS.f k l0 l1 = some r) :
 Calls Try.prog 8 #[.slice A0 l0.length c0, .slice A1 l1.length c1] w fun e w' => e = .returned (.bool r) ∧ Drawn0 w w' := by
 have HR0 := Aside0.mk hr0
 have HC0 := Aside0.mk hc0
 clear hr0 hc0
 have HR1 := Aside0.mk hr1
 have HC1 := Aside0.mk hc1
 clear hr1 hc1
 have H : (if (l0.length : Int) = (l1.length : Int) then (laws_eqStringS.l0 k l0 l1 0) else (some false)) = some r := h
 clear h
 by_cases c3 : (l0.length : Int) = (l1.length : Int)
 rotate_left
 ·rw [if_neg c3] at H
  have c3b0 : ((l0.length : Int) == (l1.length : Int)) = false := beq_eq_false_iff_ne.mpr c3
  have c3b1 : ((l0.length : Int) != (l1.length : Int)) = true := bne_iff_ne.mpr c3
  have c3b2 : (l0.length == l1.length) = false := by first | simpa using c3 | (simp at c3 ⊢; omega)
  obtain rfl := Option.some.inj H
  go_enter Try.func8, Try.ntmps8
  go_wp2
  repeat (go_quiet (fail); try go_wp2)
  go_ret
  exact ⟨by first | rfl | (simp; done) | (simp [*]; done), by repeat (first | exact Drawn0.refl _ | apply Drawn0.step)⟩
 rw [if_pos c3] at H
 have c3b0 : ((l0.length : Int) == (l1.length : Int)) = true := beq_iff_eq.mpr c3
 have c3b1 : ((l0.length : Int) != (l1.length : Int)) = false := bne_eq_false_iff_eq.mpr c3
 have c3b2 : (l0.length == l1.length) = true := by first | simpa using c3 | (simp at c3 ⊢; omega)
 clear c3
 have H' := Aside0.mk H
 clear H
 go_enter Try.func8, Try.ntmps8
 go_wp2
 repeat (go_quiet (fail); try go_wp2)
 go_loopg [5] k (fun kq v5 w' => ∃ (x5_1 : Int), v5 = .int .i64 x5_1 ∧ Aside0 (laws_eqStringS.l0 kq l0 l1 x5_1 = some r) ∧ Aside0 (kq ≤ k) ∧ Drawn0 w w')
 case atStart => exact ⟨(0), zi, H', ⟨Nat.le_refl _⟩, by repeat (first | exact Drawn0.refl _ | apply Drawn0.step)⟩
 case round =>
  clear H'
  try clear c1
  try clear p2
  try clear c3
  try clear c3b0
  try clear c3b1
  try clear c3b2
  obtain ⟨x5_1, rfl, HA, HK1, ⟨m1, rfl⟩⟩ := hrel
  cases gk with
  | zero => exact absurd HA.out (by simp [laws_eqStringS.l0])
  | succ k1 =>
   have H := HA.out
   clear HA
   simp only [laws_eqStringS.l0] at H
   by_cases c4 : x5_1 < (l0.length : Int)
   rotate_left
   ·rw [if_neg c4] at H
    have c4b0 : decide (x5_1 < (l0.length : Int)) = false := decide_eq_false c4
    clear c4
    obtain rfl := Option.some.inj H
    go_wp2
    repeat (go_quiet (fail); try go_wp2)
    go_ret
    exact ⟨by first | rfl | (simp; done) | (simp [*]; done), by repeat (first | exact Drawn0.refl _ | apply Drawn0.step)⟩
   rw [if_pos c4] at H
   have c4b0 : decide (x5_1 < (l0.length : Int)) = true := decide_eq_true c4
   clear c4
   by_cases c5 : 0 ≤ x5_1
   rotate_left
   ·rw [if_neg c5] at H
    exact absurd H (by simp)
   rw [if_pos c5] at H
   have c5b0 : decide (0 ≤ x5_1) = true := decide_eq_true c5
   clear c5
   by_cases c6 : x5_1 < (l1.length : Int)
   rotate_left
   ·rw [if_neg c6] at H
    exact absurd H (by simp)
   rw [if_pos c6] at H
   have c6b0 : decide (x5_1 < (l1.length : Int)) = true := decide_eq_true c6
   clear c6
   by_cases c7 : (rdOf ByteArray.empty l0 x5_1).toList = (rdOf ByteArray.empty l1 x5_1).toList
   rotate_left
   ·rw [if_neg c7] at H
    have c7b0 : ((rdOf ByteArray.empty l0 x5_1).toList == (rdOf ByteArray.empty l1 x5_1).toList) = false := beq_eq_false_iff_ne.mpr c7
    have c7b1 : ((rdOf ByteArray.empty l0 x5_1).toList != (rdOf ByteArray.empty l1 x5_1).toList) = true := bne_iff_ne.mpr c7
    obtain rfl := Option.some.inj H
    have p195 : 0 ≤ (x5_1 : Int) := za
    have q195 : x5_1 < (l0.length : Int) := za
    obtain ⟨ad195, e195, hx195_0⟩ := Kd.at_string HR0.out x5_1 p195 q195
    cases e195
    replace p195 := eq_true p195
    replace q195 := eq_true q195
    have p196 : 0 ≤ (x5_1 : Int) := za
    have q196 : x5_1 < (l1.length : Int) := za
    obtain ⟨ad196, e196, hx196_0⟩ := Kd.at_string HR1.out x5_1 p196 q196
    cases e196
    replace p196 := eq_true p196
    replace q196 := eq_true q196
    go_wp2
    repeat (go_quiet (fail); try go_wp2)
    go_ret
    exact ⟨by first | rfl | (simp; done) | (simp [*]; done), by repeat (first | exact Drawn0.refl _ | apply Drawn0.step)⟩
   rw [if_pos c7] at H
   have c7b0 : ((rdOf ByteArray.empty l0 x5_1).toList == (rdOf ByteArray.empty l1 x5_1).toList) = true := beq_iff_eq.mpr c7
   have c7b1 : ((rdOf ByteArray.empty l0 x5_1).toList != (rdOf ByteArray.empty l1 x5_1).toList) = false := bne_eq_false_iff_eq.mpr c7
   clear c7
   have H' := Aside0.mk H
   clear H
   have p195 : 0 ≤ (x5_1 : Int) := za
   have q195 : x5_1 < (l0.length : Int) := za
   obtain ⟨ad195, e195, hx195_0⟩ := Kd.at_string HR0.out x5_1 p195 q195
   cases e195
   replace p195 := eq_true p195
   replace q195 := eq_true q195
   have p196 : 0 ≤ (x5_1 : Int) := za
   have q196 : x5_1 < (l1.length : Int) := za
   obtain ⟨ad196, e196, hx196_0⟩ := Kd.at_string HR1.out x5_1 p196 q196
   cases e196
   replace p196 := eq_true p196
   replace q196 := eq_true q196
   go_wp2
   repeat (go_quiet (fail); try go_wp2)
   go_roundg k1
   case measure => have := HK1.out; omega
   case rel => exact ⟨(wrap64 (x5_1 + 1)), zi, H', ⟨by have := HK1.out; omega⟩, by repeat (first | exact Drawn0.refl _ | apply Drawn0.step)⟩
def laws_eqSkyRun.f (a0_0 : Int) (a0_1 : Int) (a0_2 : ByteArray) (a1_0 : Int) (a1_1 : Int) (a1_2 : ByteArray) : Option (Bool) := if a0_0 = a1_0 then (if a0_1 = a1_1 then (if a0_2.toList = a1_2.toList then (some true) else (some false)) else (some false)) else (some false)
set_option maxHeartbeats 8000000 in
set_option maxRecDepth 100000 in
theorem laws_eqSkyRun.calls (a0_0 : Int) (a0_1 : Int) (a0_2 : ByteArray) (a1_0 : Int) (a1_1 : Int) (a1_2 : ByteArray) (r : Bool) (w : World) (h : laws_eqSkyRun.f a0_0 a0_1 a0_2 a1_0 a1_1 a1_2 = some r) :
 Calls Try.prog 37 #[.agg #[.int .i64 a0_0, .int .i64 a0_1, .string a0_2], .agg #[.int .i64 a1_0, .int .i64 a1_1, .string a1_2]] w fun e w' => e = .returned (.bool r) ∧ Below w.heap.size w w' := by
 have hu72 := Try.underlying72
 have HB := Aside0.mk (Below.refl w.heap.size w)
 have H : (if a0_0 = a1_0 then (if a0_1 = a1_1 then (if a0_2.toList = a1_2.toList then (some true) else (some false)) else (some false)) else (some false)) = some r := h
 clear h
 by_cases c3 : a0_0 = a1_0
 rotate_left
 ·rw [if_neg c3] at H
  have c3b0 : (a0_0 == a1_0) = false := beq_eq_false_iff_ne.mpr c3
  have c3b1 : (a0_0 != a1_0) = true := bne_iff_ne.mpr c3
  obtain rfl := Option.some.inj H
  go_enter Try.func37, Try.ntmps37
  go_wp2_with (first | ((with_reducible refine gate_dst (N := 2) rfl ?_); refine zbx 2 #[.int .i64 a0_0, .int .i64 a0_1, .string a0_2] 72 ?_; intro gb197 hg w21 hbox hb; have BK197 := zA hbox; have GW197 := zgs hg (zs0 HB); have GE197 := zgs hg (zs0 HB); replace HB := zE (zs0 HB) hb; clear hb hbox hg) | ((with_reducible refine gate_dst (N := 3) rfl ?_); refine zbx 3 #[.int .i64 a1_0, .int .i64 a1_1, .string a1_2] 72 ?_; intro gb198 hg w22 hbox hb; have BK198 := zA hbox; have GW198 := zgs hg (zs1 HB GE197); have GE198 := zgs hg (zs1 HB GE197); have NB197_198 := zne hg BK197; have NB198_197 := znf hg BK197; replace BK197 := zb BK197 hb; replace HB := zE (zs1 HB GE197) hb; clear hb hbox hg; have hnb23 := NB197_198.out; have hnc23 := NB198_197.out; obtain ⟨hcz24_0, hcz24_1, hcz24_2⟩ := zd3 BK197; obtain ⟨hfz24_0, hfz24_1, hfz24_2⟩ := zn3 BK197; obtain ⟨hcz25_0, hcz25_1, hcz25_2⟩ := zd3 BK198; obtain ⟨hfz25_0, hfz25_1, hfz25_2⟩ := zn3 BK198))
  go_ret
  exact ⟨ze, zs2 HB GE197 GE198⟩
 rw [if_pos c3] at H
 have c3b0 : (a0_0 == a1_0) = true := beq_iff_eq.mpr c3
 have c3b1 : (a0_0 != a1_0) = false := bne_eq_false_iff_eq.mpr c3
 clear c3
 by_cases c4 : a0_1 = a1_1
 rotate_left
 ·rw [if_neg c4] at H
  have c4b0 : (a0_1 == a1_1) = false := beq_eq_false_iff_ne.mpr c4
  have c4b1 : (a0_1 != a1_1) = true := bne_iff_ne.mpr c4
  obtain rfl := Option.some.inj H
  go_enter Try.func37, Try.ntmps37
  go_wp2_with (first | ((with_reducible refine gate_dst (N := 2) rfl ?_); refine zbx 2 #[.int .i64 a0_0, .int .i64 a0_1, .string a0_2] 72 ?_; intro gb197 hg w16 hbox hb; have BK197 := zA hbox; have GW197 := zgs hg (zs0 HB); have GE197 := zgs hg (zs0 HB); replace HB := zE (zs0 HB) hb; clear hb hbox hg) | ((with_reducible refine gate_dst (N := 3) rfl ?_); refine zbx 3 #[.int .i64 a1_0, .int .i64 a1_1, .string a1_2] 72 ?_; intro gb198 hg w17 hbox hb; have BK198 := zA hbox; have GW198 := zgs hg (zs1 HB GE197); have GE198 := zgs hg (zs1 HB GE197); have NB197_198 := zne hg BK197; have NB198_197 := znf hg BK197; replace BK197 := zb BK197 hb; replace HB := zE (zs1 HB GE197) hb; clear hb hbox hg; have hnb18 := NB197_198.out; have hnc18 := NB198_197.out; obtain ⟨hcz19_0, hcz19_1, hcz19_2⟩ := zd3 BK197; obtain ⟨hfz19_0, hfz19_1, hfz19_2⟩ := zn3 BK197; obtain ⟨hcz20_0, hcz20_1, hcz20_2⟩ := zd3 BK198; obtain ⟨hfz20_0, hfz20_1, hfz20_2⟩ := zn3 BK198))
  go_ret
  exact ⟨ze, zs2 HB GE197 GE198⟩
 rw [if_pos c4] at H
 have c4b0 : (a0_1 == a1_1) = true := beq_iff_eq.mpr c4
 have c4b1 : (a0_1 != a1_1) = false := bne_eq_false_iff_eq.mpr c4
 clear c4
 by_cases c5 : a0_2.toList = a1_2.toList
 rotate_left
 ·rw [if_neg c5] at H
  have c5b0 : (a0_2.toList == a1_2.toList) = false := beq_eq_false_iff_ne.mpr c5
  have c5b1 : (a0_2.toList != a1_2.toList) = true := bne_iff_ne.mpr c5
  obtain rfl := Option.some.inj H
  go_enter Try.func37, Try.ntmps37
  go_wp2_with (first | ((with_reducible refine gate_dst (N := 2) rfl ?_); refine zbx 2 #[.int .i64 a0_0, .int .i64 a0_1, .string a0_2] 72 ?_; intro gb197 hg w11 hbox hb; have BK197 := zA hbox; have GW197 := zgs hg (zs0 HB); have GE197 := zgs hg (zs0 HB); replace HB := zE (zs0 HB) hb; clear hb hbox hg) | ((with_reducible refine gate_dst (N := 3) rfl ?_); refine zbx 3 #[.int .i64 a1_0, .int .i64 a1_1, .string a1_2] 72 ?_; intro gb198 hg w12 hbox hb; have BK198 := zA hbox; have GW198 := zgs hg (zs1 HB GE197); have GE198 := zgs hg (zs1 HB GE197); have NB197_198 := zne hg BK197; have NB198_197 := znf hg BK197; replace BK197 := zb BK197 hb; replace HB := zE (zs1 HB GE197) hb; clear hb hbox hg; have hnb13 := NB197_198.out; have hnc13 := NB198_197.out; obtain ⟨hcz14_0, hcz14_1, hcz14_2⟩ := zd3 BK197; obtain ⟨hfz14_0, hfz14_1, hfz14_2⟩ := zn3 BK197; obtain ⟨hcz15_0, hcz15_1, hcz15_2⟩ := zd3 BK198; obtain ⟨hfz15_0, hfz15_1, hfz15_2⟩ := zn3 BK198))
  go_ret
  exact ⟨ze, zs2 HB GE197 GE198⟩
 rw [if_pos c5] at H
 have c5b0 : (a0_2.toList == a1_2.toList) = true := beq_iff_eq.mpr c5
 have c5b1 : (a0_2.toList != a1_2.toList) = false := bne_eq_false_iff_eq.mpr c5
 clear c5
 obtain rfl := Option.some.inj H
 go_enter Try.func37, Try.ntmps37
 go_wp2_with (first | ((with_reducible refine gate_dst (N := 2) rfl ?_); refine zbx 2 #[.int .i64 a0_0, .int .i64 a0_1, .string a0_2] 72 ?_; intro gb197 hg w6 hbox hb; have BK197 := zA hbox; have GW197 := zgs hg (zs0 HB); have GE197 := zgs hg (zs0 HB); replace HB := zE (zs0 HB) hb; clear hb hbox hg) | ((with_reducible refine gate_dst (N := 3) rfl ?_); refine zbx 3 #[.int .i64 a1_0, .int .i64 a1_1, .string a1_2] 72 ?_; intro gb198 hg w7 hbox hb; have BK198 := zA hbox; have GW198 := zgs hg (zs1 HB GE197); have GE198 := zgs hg (zs1 HB GE197); have NB197_198 := zne hg BK197; have NB198_197 := znf hg BK197; replace BK197 := zb BK197 hb; replace HB := zE (zs1 HB GE197) hb; clear hb hbox hg; have hnb8 := NB197_198.out; have hnc8 := NB198_197.out; obtain ⟨hcz9_0, hcz9_1, hcz9_2⟩ := zd3 BK197; obtain ⟨hfz9_0, hfz9_1, hfz9_2⟩ := zn3 BK197; obtain ⟨hcz10_0, hcz10_1, hcz10_2⟩ := zd3 BK198; obtain ⟨hfz10_0, hfz10_1, hfz10_2⟩ := zn3 BK198))
 go_ret
 exact ⟨ze, zs2 HB GE197 GE198⟩
end Go.Proofs.Ytkdhfgonjipbbaa.QFnExactSkyAlong
