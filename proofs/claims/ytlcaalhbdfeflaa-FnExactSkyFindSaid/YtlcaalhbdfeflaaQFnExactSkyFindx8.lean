/- The walk of what the law FnExactSkyFind reaches: laid by a program of this session (ownprint.py). -/
import Derived.Test.YtlcaalhbdfeflaaQFnExactSkyFindx0
import Derived.Test.YtlcaalhbdfeflaaQFnExactSkyFindx1
import Derived.Test.YtlcaalhbdfeflaaQFnExactSkyFindx2
import Derived.Test.YtlcaalhbdfeflaaQFnExactSkyFindx3
import Derived.Test.YtlcaalhbdfeflaaQFnExactSkyFindx4
import Derived.Test.YtlcaalhbdfeflaaQFnExactSkyFindx7
namespace Go.Proofs.Ytlcaalhbdfeflaa.QFnExactSkyFind
open Go.RowKit Go.Proofs.YtlcaalhbdfeflaaW.PrintWords Go.Proofs.YtlcaalhbdfeflaaW.PrintLast Go.Proofs.YtlcaalhbdfeflaaW.PrintMore Go.Proofs.Ytlcaalhbdfeflaa.Z
attribute [local go_sem] max2_int min2_int max_two min_two max_three min_three max_four min_four zdn   -- for this text's walks alone
set_option linter.unusedVariables false
set_option linter.unusedSimpArgs false
def laws_FnExactSkyFind.j0 : Nat → Bool → List (S55) → List (S58) → List (S44) → List (S60) → Option (Bool)
 | 0, _, _, _, _, _ => none
 | k + 1, x40, x204000, x204001, x224000, x224001 => if x40 = true then (some false) else ((laws_toSkyIndex.f k x204000 x204001).bind fun bt229 => ((laws_eqSkyIndex.f k x224000 x224001 bt229.1 bt229.2).bind fun t235 => (if t235 = true then (some true) else (some false))))
def laws_FnExactSkyFind.f (k : Nat) (l0_0 : List (S55)) (l0_1 : List (S58)) (a1_0 : Int) (a1_1 : Int) (a1_2 : Int) : Option (Bool) := (laws_szSkyIndex.f k l0_0 l0_1 1048576).bind fun t205 => (if t205 < 0 then (some true) else ((laws_toSkyIndex.f k l0_0 l0_1).bind fun bt206 => ((laws_toSkyPlace.f a1_0 a1_1 a1_2).bind fun bt212 => ((spec_SkyFind.f k bt206.1 bt206.2 bt212.1 bt212.2.1 bt212.2.2).bind fun bt215 => ((laws_toSkyIndex.f k l0_0 l0_1).bind fun bt217 => ((laws_toSkyPlace.f a1_0 a1_1 a1_2).bind fun bt224 => ((impl_SkyFind.f k bt217.1 bt217.2 bt224.1 bt224.2.1 bt224.2.2).bind fun bt227 => (if bt227.1.toList = bt215.1.toList then (laws_FnExactSkyFind.j0 k (bt227.2 != bt215.2) l0_0 l0_1 bt217.1 bt217.2) else (laws_FnExactSkyFind.j0 k true l0_0 l0_1 bt217.1 bt217.2)))))))))
def laws_FnExactSkyFind.T5 : Bool × List (List Nat × List Nat) := (true, [([], []), ([0], [0]), ([], []), ([2, 1], [2]), ([1, 3, 3], [1, 3]), ([4], [4]), ([5], [5]), ([5], [5]), ([6, 4, 0, 1, 2, 3, 4, 5, 6], [6]), ([7, 8, 0, 1, 2, 3, 4, 5, 6, 7, 8], [7])])
def laws_FnExactSkyFind.B5 : List Nat := [0, 1, 0, 7, 15, 31, 63, 63, 127, 511]
theorem laws_FnExactSkyFind.tab5 : rtab .any (opsOf Try.f3 5) = laws_FnExactSkyFind.T5 := by kernel_rfl
theorem laws_FnExactSkyFind.bits5 : waitsOk laws_FnExactSkyFind.T5.2 laws_FnExactSkyFind.B5 = true := by kernel_rfl
def laws_FnExactSkyFind.T7 : Bool × List (List Nat × List Nat) := (true, [([], []), ([], []), ([1], [1]), ([0, 2, 2], [0, 2]), ([3], [3]), ([4], [4]), ([4], [4]), ([5, 3, 0, 1, 2, 3, 4, 5], [5]), ([6, 7, 0, 1, 2, 3, 4, 5, 6, 7], [6])])
def laws_FnExactSkyFind.B7 : List Nat := [0, 0, 2, 7, 15, 31, 31, 63, 255]
theorem laws_FnExactSkyFind.tab7 : rtab .any (opsOf Try.f3 7) = laws_FnExactSkyFind.T7 := by kernel_rfl
theorem laws_FnExactSkyFind.bits7 : waitsOk laws_FnExactSkyFind.T7.2 laws_FnExactSkyFind.B7 = true := by kernel_rfl
set_option maxHeartbeats 8000000 in
set_option maxRecDepth 100000 in
theorem laws_FnExactSkyFind.calls (k : Nat) (A0_0 : Option Addr) (c0_0 : Nat) (l0_0 : List (S55)) (A0_1 : Option Addr) (c0_1 : Nat) (l0_1 : List (S58)) (a1_0 : Int) (a1_1 : Int) (a1_2 : Int) (r : Bool) (w : World) (hr0_0 : Kd.C k55 w A0_0 l0_0.length l0_0) (hc0_0 : l0_0.length ≤ c0_0) (hr0_1 : Kd.C k58 w A0_1 l0_1.length l0_1) (hc0_1 : l0_1.length ≤ c0_1) (h : laws_FnExactSkyFind.f k l0_0 l0_1 a1_0 a1_1 a1_2 = some r) :
 Calls Try.prog 3 #[.agg #[.slice A0_0 l0_0.length c0_0, .slice A0_1 l0_1.length c0_1], .agg #[.int .i64 a1_0, .int .i64 a1_1, .int .i64 a1_2]] w fun e w' => e = .returned (.bool r) ∧ Below w.heap.size w w' := by
 have hu25 := Try.underlying25
 have hu27 := Try.underlying27
 have hu34 := Try.underlying34
 have HR0_0 := zA hr0_0
 have HC0_0 := zA hc0_0
 clear hr0_0 hc0_0
 have HR0_1 := zA hr0_1
 have HC0_1 := zA hc0_1
 clear hr0_1 hc0_1
 have HB := zA (Below.refl w.heap.size w)
 have H : ((laws_szSkyIndex.f k l0_0 l0_1 1048576).bind fun t205 => (if t205 < 0 then (some true) else ((laws_toSkyIndex.f k l0_0 l0_1).bind fun bt206 => ((laws_toSkyPlace.f a1_0 a1_1 a1_2).bind fun bt212 => ((spec_SkyFind.f k bt206.1 bt206.2 bt212.1 bt212.2.1 bt212.2.2).bind fun bt215 => ((laws_toSkyIndex.f k l0_0 l0_1).bind fun bt217 => ((laws_toSkyPlace.f a1_0 a1_1 a1_2).bind fun bt224 => ((impl_SkyFind.f k bt217.1 bt217.2 bt224.1 bt224.2.1 bt224.2.2).bind fun bt227 => (if bt227.1.toList = bt215.1.toList then (laws_FnExactSkyFind.j0 k (bt227.2 != bt215.2) l0_0 l0_1 bt217.1 bt217.2) else (laws_FnExactSkyFind.j0 k true l0_0 l0_1 bt217.1 bt217.2)))))))))) = some r := h
 clear h
 replace H := zbd H; obtain ⟨t205, A3, H⟩ := H
 by_cases c4 : t205 < 0
 ·rw [if_pos c4] at H
  have c4b0 : decide (t205 < 0) = true := decide_eq_true c4
  clear c4
  obtain rfl := Option.some.inj H
  go_enter Try.func3, Try.ntmps3
  go_wp2_with (first | ((with_reducible refine gate_dst (N := 2) rfl ?_); refine zbx 2 #[.slice A0_0 l0_0.length c0_0, .slice A0_1 l0_1.length c0_1] 25 ?_; intro gb203 hg w5 hbox hb; have BK203 := zA hbox; have GW203 := zgs hg (zs0 HB); have GE203 := zgs hg (zs0 HB); replace HB := zE (zs0 HB) hb; clear hb hbox hg) | ((with_reducible refine gate_dst (N := 3) rfl ?_); refine zbx 3 #[.int .i64 a1_0, .int .i64 a1_1, .int .i64 a1_2] 27 ?_; intro gb204 hg w6 hbox hb; have BK204 := zA hbox; have GW204 := zgs hg (zs1 HB GE203); have GE204 := zgs hg (zs1 HB GE203); have NB203_204 := zne hg BK203; have NB204_203 := znf hg BK203; replace BK203 := zb BK203 hb; replace HB := zE (zs1 HB GE203) hb; clear hb hbox hg; have hnb7 := NB203_204.out; have hnc7 := NB204_203.out; obtain ⟨hcz8_0, hcz8_1⟩ := zd2 BK203; obtain ⟨hfz8_0, hfz8_1⟩ := zn2 BK203) | ((with_reducible refine gate_callee (f := 4) rfl ?_); refine zgl (N := some 13) Try.func4 #[.agg #[.slice A0_0 l0_0.length c0_0, .slice A0_1 l0_1.length c0_1], .int .i64 1048576] ?_; (with_reducible refine (laws_szSkyIndex.calls k _ _ l0_0 _ _ l0_1 1048576 t205 _ ?side1 ?side2 ?side3 ?side4 A3.out).mono ?_); (case side1 => exact zC HR0_0 HB); (case side2 => exact HC0_0.out); (case side3 => exact zC HR0_1 HB); (case side4 => exact HC0_1.out); rintro e w9 ⟨rfl, hb⟩; refine ⟨_, rfl, ?_⟩; replace BK203 := zb BK203 hb; replace BK204 := zb BK204 hb; replace HB := zE (zs2 HB GE203 GE204) hb; (try clear hb); (try clear hb2); (try clear hk); (try clear hi)))
  go_ret
  exact ⟨ze, zs2 HB GE203 GE204⟩
 rw [if_neg c4] at H
 have c4b0 : decide (t205 < 0) = false := decide_eq_false c4
 clear c4
 replace H := Option.bind_eq_some_iff.mp H
 obtain ⟨⟨t206, t209⟩, A100, H⟩ := H
 replace H : ((laws_toSkyPlace.f a1_0 a1_1 a1_2).bind fun bt212 => ((spec_SkyFind.f k t206 t209 bt212.1 bt212.2.1 bt212.2.2).bind fun bt215 => ((laws_toSkyIndex.f k l0_0 l0_1).bind fun bt217 => ((laws_toSkyPlace.f a1_0 a1_1 a1_2).bind fun bt224 => ((impl_SkyFind.f k bt217.1 bt217.2 bt224.1 bt224.2.1 bt224.2.2).bind fun bt227 => (if bt227.1.toList = bt215.1.toList then (laws_FnExactSkyFind.j0 k (bt227.2 != bt215.2) l0_0 l0_1 bt217.1 bt217.2) else (laws_FnExactSkyFind.j0 k true l0_0 l0_1 bt217.1 bt217.2))))))) = some r := H
 have A10 := zA A100
 clear A100
 replace H := Option.bind_eq_some_iff.mp H
 obtain ⟨⟨t212, t213, t214⟩, A110, H⟩ := H
 replace H : ((spec_SkyFind.f k t206 t209 t212 t213 t214).bind fun bt215 => ((laws_toSkyIndex.f k l0_0 l0_1).bind fun bt217 => ((laws_toSkyPlace.f a1_0 a1_1 a1_2).bind fun bt224 => ((impl_SkyFind.f k bt217.1 bt217.2 bt224.1 bt224.2.1 bt224.2.2).bind fun bt227 => (if bt227.1.toList = bt215.1.toList then (laws_FnExactSkyFind.j0 k (bt227.2 != bt215.2) l0_0 l0_1 bt217.1 bt217.2) else (laws_FnExactSkyFind.j0 k true l0_0 l0_1 bt217.1 bt217.2)))))) = some r := H
 have A11 := zA A110
 clear A110
 replace H := Option.bind_eq_some_iff.mp H
 obtain ⟨⟨t215, t216⟩, A120, H⟩ := H
 replace H : ((laws_toSkyIndex.f k l0_0 l0_1).bind fun bt217 => ((laws_toSkyPlace.f a1_0 a1_1 a1_2).bind fun bt224 => ((impl_SkyFind.f k bt217.1 bt217.2 bt224.1 bt224.2.1 bt224.2.2).bind fun bt227 => (if bt227.1.toList = t215.toList then (laws_FnExactSkyFind.j0 k (bt227.2 != t216) l0_0 l0_1 bt217.1 bt217.2) else (laws_FnExactSkyFind.j0 k true l0_0 l0_1 bt217.1 bt217.2))))) = some r := H
 have A12 := zA A120
 clear A120
 replace H := Option.bind_eq_some_iff.mp H
 obtain ⟨⟨t217, t220⟩, A130, H⟩ := H
 replace H : ((laws_toSkyPlace.f a1_0 a1_1 a1_2).bind fun bt224 => ((impl_SkyFind.f k t217 t220 bt224.1 bt224.2.1 bt224.2.2).bind fun bt227 => (if bt227.1.toList = t215.toList then (laws_FnExactSkyFind.j0 k (bt227.2 != t216) l0_0 l0_1 t217 t220) else (laws_FnExactSkyFind.j0 k true l0_0 l0_1 t217 t220)))) = some r := H
 have A13 := zA A130
 clear A130
 replace H := Option.bind_eq_some_iff.mp H
 obtain ⟨⟨t224, t225, t226⟩, A140, H⟩ := H
 replace H : ((impl_SkyFind.f k t217 t220 t224 t225 t226).bind fun bt227 => (if bt227.1.toList = t215.toList then (laws_FnExactSkyFind.j0 k (bt227.2 != t216) l0_0 l0_1 t217 t220) else (laws_FnExactSkyFind.j0 k true l0_0 l0_1 t217 t220))) = some r := H
 have A14 := zA A140
 clear A140
 replace H := Option.bind_eq_some_iff.mp H
 obtain ⟨⟨t227, t228⟩, A150, H⟩ := H
 replace H : (if t227.toList = t215.toList then (laws_FnExactSkyFind.j0 k (t228 != t216) l0_0 l0_1 t217 t220) else (laws_FnExactSkyFind.j0 k true l0_0 l0_1 t217 t220)) = some r := H
 have A15 := zA A150
 clear A150
 have HC16 := zA H
 clear H
 go_enter Try.func3, Try.ntmps3
 try go_wp2_with (first | ((with_reducible refine gate_dst (N := 2) rfl ?_); refine zbx 2 #[.slice A0_0 l0_0.length c0_0, .slice A0_1 l0_1.length c0_1] 25 ?_; intro gb203 hg w17 hbox hb; have BK203 := zA hbox; have GW203 := zgs hg (zs0 HB); have GE203 := zgs hg (zs0 HB); replace HB := zE (zs0 HB) hb; clear hb hbox hg) | ((with_reducible refine gate_dst (N := 3) rfl ?_); refine zbx 3 #[.int .i64 a1_0, .int .i64 a1_1, .int .i64 a1_2] 27 ?_; intro gb204 hg w18 hbox hb; have BK204 := zA hbox; have GW204 := zgs hg (zs1 HB GE203); have GE204 := zgs hg (zs1 HB GE203); have NB203_204 := zne hg BK203; have NB204_203 := znf hg BK203; replace BK203 := zb BK203 hb; replace HB := zE (zs1 HB GE203) hb; clear hb hbox hg; have hnb19 := NB203_204.out; have hnc19 := NB204_203.out; obtain ⟨hcz20_0, hcz20_1⟩ := zd2 BK203; obtain ⟨hfz20_0, hfz20_1⟩ := zn2 BK203) | ((with_reducible refine gate_callee (f := 4) rfl ?_); refine zgl (N := some 13) Try.func4 #[.agg #[.slice A0_0 l0_0.length c0_0, .slice A0_1 l0_1.length c0_1], .int .i64 1048576] ?_; (with_reducible refine (laws_szSkyIndex.calls k _ _ l0_0 _ _ l0_1 1048576 t205 _ ?side1 ?side2 ?side3 ?side4 A3.out).mono ?_); (case side1 => exact zC HR0_0 HB); (case side2 => exact HC0_0.out); (case side3 => exact zC HR0_1 HB); (case side4 => exact HC0_1.out); rintro e w21 ⟨rfl, hb⟩; refine ⟨_, rfl, ?_⟩; replace BK203 := zb BK203 hb; replace BK204 := zb BK204 hb; replace HB := zE (zs2 HB GE203 GE204) hb; (try clear hb); (try clear hb2); (try clear hk); (try clear hi)))
 replace BK203 := zA (blk_drew BK203.out)
 replace BK204 := zA (blk_drew BK204.out)
 replace HB := zA (below_drew1 HB.out)
 refine start_ (n := 10) (S := fun w' => w'.cell? ⟨gb203, 0, none⟩ = some (.slice A0_0 l0_0.length c0_0) ∧ w'.cell? ⟨gb203, 1, none⟩ = some (.slice A0_1 l0_1.length c0_1) ∧ w'.cell? ⟨gb204, 0, none⟩ = some (.int .i64 a1_0) ∧ w'.cell? ⟨gb204, 1, none⟩ = some (.int .i64 a1_1) ∧ w'.cell? ⟨gb204, 2, none⟩ = some (.int .i64 a1_2)) (ds := []) #[F,F,F,F,F,F,F,F,F,F] (by kernel_rfl) rfl rfl ⟨zc0 BK203, zc1 BK203, zc0 BK204, zc1 BK204, zc2 BK204⟩ (fun hHeld => ?_); refine with_tabW laws_FnExactSkyFind.tab5 laws_FnExactSkyFind.bits5 (fun HT_ HW_ => ?_)
 generalize w21.drew = w22 at BK203 BK204 HB hHeld ⊢
 refine zk5 HT_ HW_ hHeld 0 ?_
 refine zk5 HT_ HW_ hHeld 2 ?_
 refine zo HT_ 1 (fun K hK => ?_)
 refine zgo Try.func6 #[.agg #[.slice A0_0 l0_0.length c0_0, .slice A0_1 l0_1.length c0_1]] ?_
 with_reducible refine (laws_toSkyIndex.calls k _ _ l0_0 _ _ l0_1 t206 t209 _ ?side1 ?side2 ?side3 ?side4 A10.out).mono ?_
 (case side1 => exact zC HR0_0 HB)
 (case side2 => exact HC0_0.out)
 (case side3 => exact zC HR0_1 HB)
 (case side4 => exact HC0_1.out)
 rintro e w23 ⟨v207, v210, rfl, ho0, ho1, hb⟩
 refine ⟨_, rfl, ?_⟩
 have HO208 := zA (Kd.S_lower ho0 (below_size (zs2 HB GE203 GE204)))
 have HO211 := zA (Kd.R_lower ho1 (below_size (zs2 HB GE203 GE204)))
 replace BK203 := zb BK203 hb
 replace BK204 := zb BK204 hb
 replace HB := zE (zs2 HB GE203 GE204) hb
 (try clear hb)
 (try clear hb2)
 (try clear hk)
 (try clear hi)
 (try clear ho0)
 (try clear ho1)
 refine hK.out _ _ ⟨zc0 BK203, zc1 BK203, zc0 BK204, zc1 BK204, zc2 BK204⟩ (fun hHeld => ?_)
 clear hK K
 refine zN ?_
 refine zo HT_ 3 (fun K hK => ?_)
 refine zgo Try.func7 #[.agg #[.int .i64 a1_0, .int .i64 a1_1, .int .i64 a1_2]] ?_
 with_reducible refine (laws_toSkyPlace.calls a1_0 a1_1 a1_2 t212 t213 t214 _ A11.out).mono ?_
 rintro e w24 ⟨rfl, hb⟩
 refine ⟨_, rfl, ?_⟩
 replace HO208 := zA (Kd.S_below (by (with_reducible repeat (first | apply Kd.S_alloc | apply Kd.S_drewN | apply Kd.S_drew)); exact HO208.out) hb)
 replace HO211 := zA (Kd.R_below (zr HO211) hb)
 replace BK203 := zb BK203 hb
 replace BK204 := zb BK204 hb
 replace HB := zE (zs2 HB GE203 GE204) hb
 (try clear hb)
 (try clear hb2)
 (try clear hk)
 (try clear hi)
 obtain ⟨Ao25, co25, eo25⟩ := Kd.S_slice HO208.out
 (first | subst eo25 | (injection eo25 with f1_ f2_ f3_; have f4_ := f1_.symm; have f5_ := f3_.symm; clear f1_ f2_ f3_; subst f4_; subst f5_))
 obtain ⟨Ao26, co26, eo26⟩ := Kd.R_slice HO211.out
 (first | subst eo26 | (injection eo26 with f1_ f2_ f3_; have f4_ := f1_.symm; have f5_ := f3_.symm; clear f1_ f2_ f3_; subst f4_; subst f5_))
 refine hK.out _ _ ⟨zc0 BK203, zc1 BK203, zc0 BK204, zc1 BK204, zc2 BK204⟩ (fun hHeld => ?_)
 clear hK K
 refine zN ?_
 refine zo HT_ 4 (fun K hK => ?_)
 refine zgo Try.func5 #[.agg #[.slice Ao25 t206.length co25, .slice Ao26 t209.length co26], .agg #[.int .i64 t212, .int .i64 t213, .int .i64 t214]] ?_
 with_reducible refine (spec_SkyFind.calls k _ _ t206 _ _ t209 t212 t213 t214 t215 t216 _ ?side1 ?side2 ?side3 ?side4 A12.out).mono ?_
 (case side1 => repeat (first | exact (Kd.S_reads' HO208.out).2.2 | (with_reducible refine Kd.C_alloc ?_ _) | (with_reducible refine Kd.C_drewN ?_ _) | (with_reducible refine Kd.C_drew ?_)))
 (case side2 => exact (Kd.S_reads' HO208.out).2.1)
 (case side3 => repeat (first | exact (Kd.R_reads' HO211.out).2.2 | (with_reducible refine Kd.C_alloc ?_ _) | (with_reducible refine Kd.C_drewN ?_ _) | (with_reducible refine Kd.C_drew ?_)))
 (case side4 => exact (Kd.R_reads' HO211.out).2.1)
 rintro e w27 ⟨rfl, hb⟩
 refine ⟨_, rfl, ?_⟩
 replace HO208 := zA (Kd.S_below (by (with_reducible repeat (first | apply Kd.S_alloc | apply Kd.S_drewN | apply Kd.S_drew)); exact HO208.out) hb)
 replace HO211 := zA (Kd.R_below (zr HO211) hb)
 replace BK203 := zb BK203 hb
 replace BK204 := zb BK204 hb
 replace HB := zE (zs2 HB GE203 GE204) hb
 (try clear hb)
 (try clear hb2)
 (try clear hk)
 (try clear hi)
 refine hK.out _ _ ⟨zc0 BK203, zc1 BK203, zc0 BK204, zc1 BK204, zc2 BK204⟩ (fun hHeld => ?_)
 clear hK K
 refine zN ?_
 refine zq HT_ 5 ?_
 refine zq HT_ 6 ?_
 refine zq HT_ 7 ?_
 refine zq HT_ 8 ?_
 refine zq HT_ 9 ?_
 refine done_ (done_of HT_.out (by kernel_rfl)) ?_
 obtain ⟨hcz28_0, hcz28_1⟩ := zd2 BK203
 obtain ⟨hfz28_0, hfz28_1⟩ := zn2 BK203
 try go_wp2_with (first | ((with_reducible refine gate_callee (f := 6) rfl ?_); refine zgl (N := some 25) Try.func6 #[.agg #[.slice A0_0 l0_0.length c0_0, .slice A0_1 l0_1.length c0_1]] ?_; (with_reducible refine (laws_toSkyIndex.calls k _ _ l0_0 _ _ l0_1 t217 t220 _ ?side1 ?side2 ?side3 ?side4 A13.out).mono ?_); (case side1 => exact zC HR0_0 HB); (case side2 => exact HC0_0.out); (case side3 => exact zC HR0_1 HB); (case side4 => exact HC0_1.out); rintro e w29 ⟨v218, v221, rfl, ho0, ho1, hb⟩; refine ⟨_, rfl, ?_⟩; have HO219 := zA (Kd.S_lower (Kd.S_new' ho0 (Kd.S_lt (by (with_reducible repeat (first | apply Kd.S_alloc | apply Kd.S_drewN | apply Kd.S_drew)); exact HO208.out))) (below_size (zs2 HB GE203 GE204))); have HO222 := zA (Kd.R_lower (Kd.R_new' ho1 (Kd.R_lt (zr HO211))) (below_size (zs2 HB GE203 GE204))); replace HO208 := zA (Kd.S_elder' (by (with_reducible repeat (first | apply Kd.S_alloc | apply Kd.S_drewN | apply Kd.S_drew)); exact HO208.out) (Kd.S_base ho0) hb); replace HO211 := zA (Kd.R_elder' (zr HO211) (Kd.R_base ho1) hb); replace BK203 := zb BK203 hb; replace BK204 := zb BK204 hb; replace HB := zE (zs2 HB GE203 GE204) hb; (try clear hb); (try clear hb2); (try clear hk); (try clear hi); (try clear ho0); (try clear ho1)) | ((with_reducible refine gate_dst (N := 8) rfl ?_); refine zbx 8 #[.slice none 0 0, .slice none 0 0] 34 ?_; intro gb223 hg w30 hbox hb; have BK223 := zA hbox; have GW223 := zgs hg (zs2 HB GE203 GE204); have GE223 := zgs hg (zs2 HB GE203 GE204); have NB203_223 := zne hg BK203; have NB223_203 := znf hg BK203; have NB204_223 := zne hg BK204; have NB223_204 := znf hg BK204; replace HO208 := zA (Kd.S_below (by (with_reducible repeat (first | apply Kd.S_alloc | apply Kd.S_drewN | apply Kd.S_drew)); exact HO208.out) hb); replace HO211 := zA (Kd.R_below (zr HO211) hb); replace HO219 := zA (Kd.S_below (by (with_reducible repeat (first | apply Kd.S_alloc | apply Kd.S_drewN | apply Kd.S_drew)); exact HO219.out) hb); replace HO222 := zA (Kd.R_below (zr HO222) hb); replace BK203 := zb BK203 hb; replace BK204 := zb BK204 hb; replace HB := zE (zs2 HB GE203 GE204) hb; clear hb hbox hg; obtain ⟨Ao31, co31, eo31⟩ := Kd.S_slice HO219.out; subst eo31; have hnb32 := NB223_203.out; have hnc32 := NB203_223.out; have hnb33 := NB223_204.out; have hnc33 := NB204_223.out; obtain ⟨hcz34_0, hcz34_1⟩ := zd2 BK223; obtain ⟨hfz34_0, hfz34_1⟩ := zn2 BK223; obtain ⟨Ao35, co35, eo35⟩ := Kd.R_slice HO222.out; subst eo35))
 obtain ⟨w36, e_⟩ : ∃ x, x = ((w30.setCell ⟨gb223, 0, none⟩ (.slice Ao31 t217.length co31)).setCell ⟨gb223, 1, none⟩ (.slice Ao35 t220.length co35)) := ⟨_, rfl⟩
 have n0_ : Aside0 (Kd.S k44 44 w36 w.heap.size (fun k_ => some k_ ≠ (.slice Ao31 t217.length co31 : Value).ownBlock) (.slice Ao25 t206.length co25) t206) := by rw [e_]; exact ⟨by (with_reducible repeat (first | apply Kd.S_alloc | apply Kd.S_drewN | apply Kd.S_drew)); exact Kd.S_mono (Kd.S_far (p := ⟨gb223, 1, none⟩) (Kd.S_far (p := ⟨gb223, 0, none⟩) (Kd.S_types HO208.out BK223.out (by decide)) (fun _ hk => hk.2) (.slice Ao31 t217.length co31)) (fun _ hk => hk.2) (.slice Ao35 t220.length co35)) (fun _ hk => hk.1.2)⟩
 have n1_ : Aside0 (Kd.R k60 60 w36 w.heap.size (fun k_ => some k_ ≠ (.slice Ao35 t220.length co35 : Value).ownBlock) (.slice Ao26 t209.length co26) t209) := by rw [e_]; exact ⟨zRf HO211 BK223 (fun _ hk => hk.1.2)⟩
 have n2_ : Aside0 (Kd.S k44 44 w36 w.heap.size (fun k_ => some k_ ≠ (.slice Ao25 t206.length co25 : Value).ownBlock) (.slice Ao31 t217.length co31) t217) := by rw [e_]; exact ⟨by (with_reducible repeat (first | apply Kd.S_alloc | apply Kd.S_drewN | apply Kd.S_drew)); exact Kd.S_mono (Kd.S_far (p := ⟨gb223, 1, none⟩) (Kd.S_far (p := ⟨gb223, 0, none⟩) (Kd.S_types HO219.out BK223.out (by decide)) (fun _ hk => hk.2) (.slice Ao31 t217.length co31)) (fun _ hk => hk.2) (.slice Ao35 t220.length co35)) (fun _ hk => hk.1.2)⟩
 have n3_ : Aside0 (Kd.R k60 60 w36 w.heap.size (fun k_ => some k_ ≠ (.slice Ao26 t209.length co26 : Value).ownBlock) (.slice Ao35 t220.length co35) t220) := by rw [e_]; exact ⟨zRf HO222 BK223 (fun _ hk => hk.1.2)⟩
 have n4_ : Aside0 (w36.heap[gb203]? = some (.cells #[.slice A0_0 l0_0.length c0_0, .slice A0_1 l0_1.length c0_1] 25 (0, 0))) := by rw [e_]; exact ⟨zpf BK203 NB203_223⟩
 have n5_ : Aside0 (w36.heap[gb204]? = some (.cells #[.int .i64 a1_0, .int .i64 a1_1, .int .i64 a1_2] 27 (0, 0))) := by rw [e_]; exact ⟨zpf BK204 NB204_223⟩
 have n6_ : Aside0 (w36.heap[gb223]? = some (.cells #[.slice Ao31 t217.length co31, .slice Ao35 t220.length co35] 34 (0, 0))) := by rw [e_]; exact ⟨zpb BK223⟩
 have n7_ : Aside0 (Below w.heap.size w w36) := by rw [e_]; exact ⟨zs3 HB GE203 GE204 GE223⟩
 (try clear HO208)
 (try clear HO211)
 (try clear HO219)
 (try clear HO222)
 (try clear BK203)
 (try clear BK204)
 (try clear BK223)
 (try clear HB)
 rw [← e_]; clear e_
 have HO208 := n0_
 have HO211 := n1_
 have HO219 := n2_
 have HO222 := n3_
 have BK203 := n4_
 have BK204 := n5_
 have BK223 := n6_
 have HB := n7_
 clear n0_ n1_ n2_ n3_ n4_ n5_ n6_ n7_
 replace HO208 := zA (Kd.S_drew HO208.out)
 replace HO211 := zA (Kd.R_drew HO211.out)
 replace HO219 := zA (Kd.S_drew HO219.out)
 replace HO222 := zA (Kd.R_drew HO222.out)
 replace BK203 := zA (blk_drew BK203.out)
 replace BK204 := zA (blk_drew BK204.out)
 replace BK223 := zA (blk_drew BK223.out)
 replace HB := zA (below_drew1 HB.out)
 refine start_ (n := 9) (S := fun w' => w'.cell? ⟨gb223, 0, none⟩ = some (.slice Ao31 t217.length co31) ∧ w'.cell? ⟨gb223, 1, none⟩ = some (.slice Ao35 t220.length co35) ∧ w'.cell? ⟨gb204, 0, none⟩ = some (.int .i64 a1_0) ∧ w'.cell? ⟨gb204, 1, none⟩ = some (.int .i64 a1_1) ∧ w'.cell? ⟨gb204, 2, none⟩ = some (.int .i64 a1_2)) (ds := []) #[F,F,F,F,F,F,F,F,F] (by kernel_rfl) rfl rfl ⟨zc0 BK223, zc1 BK223, zc0 BK204, zc1 BK204, zc2 BK204⟩ (fun hHeld => ?_); refine with_tabW laws_FnExactSkyFind.tab7 laws_FnExactSkyFind.bits7 (fun HT_ HW_ => ?_)
 generalize w36.drew = w37 at HO208 HO211 HO219 HO222 BK203 BK204 BK223 HB hHeld ⊢
 refine zk5 HT_ HW_ hHeld 0 ?_
 refine zk5 HT_ HW_ hHeld 1 ?_
 refine zo HT_ 2 (fun K hK => ?_)
 refine zgo Try.func7 #[.agg #[.int .i64 a1_0, .int .i64 a1_1, .int .i64 a1_2]] ?_
 with_reducible refine (laws_toSkyPlace.calls a1_0 a1_1 a1_2 t224 t225 t226 _ A14.out).mono ?_
 rintro e w38 ⟨rfl, hb⟩
 refine ⟨_, rfl, ?_⟩
 replace HO208 := zA (Kd.S_below (by (with_reducible repeat (first | apply Kd.S_alloc | apply Kd.S_drewN | apply Kd.S_drew)); exact HO208.out) hb)
 replace HO211 := zA (Kd.R_below (zr HO211) hb)
 replace HO219 := zA (Kd.S_below (by (with_reducible repeat (first | apply Kd.S_alloc | apply Kd.S_drewN | apply Kd.S_drew)); exact HO219.out) hb)
 replace HO222 := zA (Kd.R_below (zr HO222) hb)
 replace BK203 := zb BK203 hb
 replace BK204 := zb BK204 hb
 replace BK223 := zb BK223 hb
 replace HB := zE (zs3 HB GE203 GE204 GE223) hb
 (try clear hb)
 (try clear hb2)
 (try clear hk)
 (try clear hi)
 refine hK.out _ _ ⟨zc0 BK223, zc1 BK223, zc0 BK204, zc1 BK204, zc2 BK204⟩ (fun hHeld => ?_)
 clear hK K
 refine zN ?_
 refine zo HT_ 3 (fun K hK => ?_)
 refine zgo Try.func8 #[.agg #[.slice Ao31 t217.length co31, .slice Ao35 t220.length co35], .agg #[.int .i64 t224, .int .i64 t225, .int .i64 t226]] ?_
 with_reducible refine (impl_SkyFind.calls k _ _ t217 _ _ t220 t224 t225 t226 t227 t228 _ ?side1 ?side2 ?side3 ?side4 A15.out).mono ?_
 (case side1 => repeat (first | exact (Kd.S_reads' HO219.out).2.2 | (with_reducible refine Kd.C_alloc ?_ _) | (with_reducible refine Kd.C_drewN ?_ _) | (with_reducible refine Kd.C_drew ?_)))
 (case side2 => exact (Kd.S_reads' HO219.out).2.1)
 (case side3 => repeat (first | exact (Kd.R_reads' HO222.out).2.2 | (with_reducible refine Kd.C_alloc ?_ _) | (with_reducible refine Kd.C_drewN ?_ _) | (with_reducible refine Kd.C_drew ?_)))
 (case side4 => exact (Kd.R_reads' HO222.out).2.1)
 rintro e w39 ⟨rfl, hb⟩
 refine ⟨_, rfl, ?_⟩
 replace HO208 := zA (Kd.S_below (by (with_reducible repeat (first | apply Kd.S_alloc | apply Kd.S_drewN | apply Kd.S_drew)); exact HO208.out) hb)
 replace HO211 := zA (Kd.R_below (zr HO211) hb)
 replace HO219 := zA (Kd.S_below (by (with_reducible repeat (first | apply Kd.S_alloc | apply Kd.S_drewN | apply Kd.S_drew)); exact HO219.out) hb)
 replace HO222 := zA (Kd.R_below (zr HO222) hb)
 replace BK203 := zb BK203 hb
 replace BK204 := zb BK204 hb
 replace BK223 := zb BK223 hb
 replace HB := zE (zs3 HB GE203 GE204 GE223) hb
 (try clear hb)
 (try clear hb2)
 (try clear hk)
 (try clear hi)
 refine hK.out _ _ ⟨zc0 BK223, zc1 BK223, zc0 BK204, zc1 BK204, zc2 BK204⟩ (fun hHeld => ?_)
 clear hK K
 refine zN ?_
 refine zq HT_ 4 ?_
 refine zq HT_ 5 ?_
 refine zq HT_ 6 ?_
 refine zq HT_ 7 ?_
 refine zq HT_ 8 ?_
 refine done_ (done_of HT_.out (by kernel_rfl)) ?_
 go_upto_region 8 with (fail)
 go_cut [40] (fun v40 wc => ∃ (kq : Nat) (x40_15 : Bool), v40 = .bool x40_15 ∧ Aside0 (laws_FnExactSkyFind.j0 kq x40_15 l0_0 l0_1 t217 t220 = some r) ∧ Aside0 (kq ≤ k) ∧ Aside0 (Kd.S k44 44 wc w.heap.size (fun _ => True) (.slice Ao31 t217.length co31) t217) ∧ Aside0 (Kd.R k60 60 wc w.heap.size (fun _ => True) (.slice Ao35 t220.length co35) t220) ∧ Aside0 (wc.heap[gb203]? = some (.cells #[(.slice A0_0 l0_0.length c0_0), (.slice A0_1 l0_1.length c0_1)] 25 (0, 0))) ∧ Aside0 (wc.heap[gb204]? = some (.cells #[.int .i64 a1_0, .int .i64 a1_1, .int .i64 a1_2] 27 (0, 0))) ∧ Aside0 (wc.heap[gb223]? = some (.cells #[(.slice Ao31 t217.length co31), (.slice Ao35 t220.length co35)] 34 (0, 0))) ∧ Aside0 (Below w.heap.size w wc))
 case first =>
  have H := HC16.out
  clear HC16
  by_cases c40 : t227.toList = t215.toList
  rotate_left
  ·rw [if_neg c40] at H
   have c40b0 : (t227.toList == t215.toList) = false := beq_eq_false_iff_ne.mpr c40
   have c40b1 : (t227.toList != t215.toList) = true := bne_iff_ne.mpr c40
   (first | rw [c40b0] | (simp only [i64_w, i32_w]; rw [c40b0]) | skip)
   have H' := zA H
   clear H
   go_wp2
   go_meet
   case rel => exact ⟨_, (true), zi, H', ⟨by first | omega | exact Nat.le_refl _⟩, ⟨by (with_reducible repeat (first | apply Kd.S_alloc | apply Kd.S_drewN | apply Kd.S_drew)); exact Kd.S_mono HO219.out (fun _ hk => trivial)⟩, ⟨by (with_reducible repeat (first | apply Kd.R_alloc | apply Kd.R_drewN | apply Kd.R_drew)); exact Kd.R_mono HO222.out (fun _ hk => trivial)⟩, ⟨zh BK203⟩, ⟨zh BK204⟩, ⟨zh BK223⟩, ⟨zs3 HB GE203 GE204 GE223⟩⟩
  rw [if_pos c40] at H
  have c40b0 : (t227.toList == t215.toList) = true := beq_iff_eq.mpr c40
  have c40b1 : (t227.toList != t215.toList) = false := bne_eq_false_iff_eq.mpr c40
  clear c40
  (first | rw [c40b0] | (simp only [i64_w, i32_w]; rw [c40b0]) | skip)
  have H' := zA H
  clear H
  go_wp2
  go_meet
  case rel => exact ⟨_, ((t228 != t216)), zi, H', ⟨by first | omega | exact Nat.le_refl _⟩, ⟨by (with_reducible repeat (first | apply Kd.S_alloc | apply Kd.S_drewN | apply Kd.S_drew)); exact Kd.S_mono HO219.out (fun _ hk => trivial)⟩, ⟨by (with_reducible repeat (first | apply Kd.R_alloc | apply Kd.R_drewN | apply Kd.R_drew)); exact Kd.R_mono HO222.out (fun _ hk => trivial)⟩, ⟨zh BK203⟩, ⟨zh BK204⟩, ⟨zh BK223⟩, ⟨zs3 HB GE203 GE204 GE223⟩⟩
 case rest =>
  clear HC16
  try clear c1
  try clear p2
  try clear c3
  try clear c4
  try clear c4b0
  try clear c5
  try clear c6
  try clear c7
  try clear c8
  try clear c19
  try clear c32
  try clear c33
  try clear c40
  try clear c40b0
  try clear c40b1
  try clear hcz20_0 hcz20_1
  try clear hcz28_0 hcz28_1
  try clear hcz34_0 hcz34_1
  try clear hcz8_0 hcz8_1
  try clear hfz20_0 hfz20_1
  try clear hfz28_0 hfz28_1
  try clear hfz34_0 hfz34_1
  try clear hfz8_0 hfz8_1
  obtain ⟨kq, x40_15, rfl, HA, HJ15, HO_224000, HO_224001, BK203, BK204, BK223, HB⟩ := hcut
  cases kq with
  | zero => exact absurd HA.out (by simp [laws_FnExactSkyFind.j0])
  | succ kj15 =>
   have H := HA.out
   clear HA
   simp only [laws_FnExactSkyFind.j0] at H
   by_cases c41 : x40_15 = true
   ·subst c41
    have H1 : (some false) = some r := by rw [if_pos rfl] at H; exact H
    clear H
    have H := H1
    clear H1
    obtain rfl := Option.some.inj H
    go_wp2
    go_ret
    exact ⟨ze, zs3 HB GE203 GE204 GE223⟩
   replace c41 := Bool.eq_false_iff.mpr c41
   subst c41
   have H1 : ((laws_toSkyIndex.f kj15 l0_0 l0_1).bind fun bt229 => ((laws_eqSkyIndex.f kj15 t217 t220 bt229.1 bt229.2).bind fun t235 => (if t235 = true then (some true) else (some false)))) = some r := by rw [if_neg (show ¬ (false = true) by decide)] at H; exact H
   clear H
   have H := H1
   clear H1
   replace H := Option.bind_eq_some_iff.mp H
   obtain ⟨⟨t229, t232⟩, A420, H⟩ := H
   replace H : ((laws_eqSkyIndex.f kj15 t217 t220 t229 t232).bind fun t235 => (if t235 = true then (some true) else (some false))) = some r := H
   have A42 := zA A420
   clear A420
   replace H := zbd H; obtain ⟨t235, A43, H⟩ := H
   by_cases c44 : t235 = true
   ·subst c44
    have H1 : (some true) = some r := by rw [if_pos rfl] at H; exact H
    clear H
    have H := H1
    clear H1
    obtain rfl := Option.some.inj H
    try go_wp2
    replace HO_224000 := zA (Kd.S_drew HO_224000.out)
    replace HO_224001 := zA (Kd.R_drew HO_224001.out)
    replace BK203 := zA (blk_drew BK203.out)
    replace BK204 := zA (blk_drew BK204.out)
    replace BK223 := zA (blk_drew BK223.out)
    replace HB := zA (below_drew1 HB.out)
    refine start_ (n := 5) (S := fun w' => w'.cell? ⟨gb223, 0, none⟩ = some (.slice Ao31 t217.length co31) ∧ w'.cell? ⟨gb223, 1, none⟩ = some (.slice Ao35 t220.length co35) ∧ w'.cell? ⟨gb203, 0, none⟩ = some (.slice A0_0 l0_0.length c0_0) ∧ w'.cell? ⟨gb203, 1, none⟩ = some (.slice A0_1 l0_1.length c0_1)) (ds := []) #[F,F,F,F,F] (by kernel_rfl) rfl rfl ⟨zc0 BK223, zc1 BK223, zc0 BK203, zc1 BK203⟩ (fun hHeld => ?_)
    generalize wc.drew = w45 at HO_224000 HO_224001 BK203 BK204 BK223 HB hHeld ⊢
    refine take_ (i := 0) (N := some 41) (v := ?_) (a' := ?_) #[T,F,F,F,F] rfl rfl (by kernel_rfl) (fun _ _ _ h => h) (Or.inl ⟨by rfl, ?_⟩) hHeld ?_ ?_; rotate_left; exact zt4; rotate_left; exact zput
    refine take_ (i := 1) (N := some 42) (v := ?_) (a' := ?_) #[T,T,F,F,F] rfl rfl (by kernel_rfl) (fun _ _ _ h => h) (Or.inl ⟨by rfl, ?_⟩) hHeld ?_ ?_; rotate_left; exact zt4; rotate_left; exact zput
    refine one_ (i := 2) (N := some 43) #[T,T,T,F,F] rfl rfl (by kernel_rfl) (by decide) (fun K hK => ?_)
    refine zgo Try.func6 #[.agg #[.slice A0_0 l0_0.length c0_0, .slice A0_1 l0_1.length c0_1]] ?_
    with_reducible refine (laws_toSkyIndex.calls kj15 _ _ l0_0 _ _ l0_1 t229 t232 _ ?side1 ?side2 ?side3 ?side4 A42.out).mono ?_
    (case side1 => exact zC HR0_0 HB)
    (case side2 => exact HC0_0.out)
    (case side3 => exact zC HR0_1 HB)
    (case side4 => exact HC0_1.out)
    rintro e w46 ⟨v230, v233, rfl, ho0, ho1, hb⟩
    refine ⟨_, rfl, ?_⟩
    have HO231 := zA (Kd.S_lower (Kd.S_new' ho0 (Kd.S_lt (by (with_reducible repeat (first | apply Kd.S_alloc | apply Kd.S_drewN | apply Kd.S_drew)); exact HO_224000.out))) (below_size (zs3 HB GE203 GE204 GE223)))
    have HO234 := zA (Kd.R_lower (Kd.R_new' ho1 (Kd.R_lt (zr HO_224001))) (below_size (zs3 HB GE203 GE204 GE223)))
    replace HO_224000 := zA (Kd.S_elder' (by (with_reducible repeat (first | apply Kd.S_alloc | apply Kd.S_drewN | apply Kd.S_drew)); exact HO_224000.out) (Kd.S_base ho0) hb)
    replace HO_224001 := zA (Kd.R_elder' (zr HO_224001) (Kd.R_base ho1) hb)
    replace BK203 := zb BK203 hb
    replace BK204 := zb BK204 hb
    replace BK223 := zb BK223 hb
    replace HB := zE (zs3 HB GE203 GE204 GE223) hb
    (try clear hb)
    (try clear hb2)
    (try clear hk)
    (try clear hi)
    (try clear ho0)
    (try clear ho1)
    obtain ⟨Ao47, co47, eo47⟩ := Kd.S_slice HO231.out
    (first | subst eo47 | (injection eo47 with f1_ f2_ f3_; have f4_ := f1_.symm; have f5_ := f3_.symm; clear f1_ f2_ f3_; subst f4_; subst f5_))
    obtain ⟨Ao48, co48, eo48⟩ := Kd.R_slice HO234.out
    (first | subst eo48 | (injection eo48 with f1_ f2_ f3_; have f4_ := f1_.symm; have f5_ := f3_.symm; clear f1_ f2_ f3_; subst f4_; subst f5_))
    refine hK.out _ _ ⟨zc0 BK223, zc1 BK223, zc0 BK203, zc1 BK203⟩ (fun hHeld => ?_)
    clear hK K
    refine zN ?_
    refine one_ (i := 3) (N := some 44) #[T,T,T,T,F] rfl rfl (by kernel_rfl) (by decide) (fun K hK => ?_)
    refine zgo Try.func9 #[.agg #[.slice Ao31 t217.length co31, .slice Ao35 t220.length co35], .agg #[.slice Ao47 t229.length co47, .slice Ao48 t232.length co48]] ?_
    with_reducible refine (laws_eqSkyIndex.calls kj15 _ _ t217 _ _ t220 _ _ t229 _ _ t232 true _ ?side1 ?side2 ?side3 ?side4 ?side5 ?side6 ?side7 ?side8 A43.out).mono ?_
    (case side1 => repeat (first | exact (Kd.S_reads' HO_224000.out).2.2 | (with_reducible refine Kd.C_alloc ?_ _) | (with_reducible refine Kd.C_drewN ?_ _) | (with_reducible refine Kd.C_drew ?_)))
    (case side2 => exact (Kd.S_reads' HO_224000.out).2.1)
    (case side3 => repeat (first | exact (Kd.R_reads' HO_224001.out).2.2 | (with_reducible refine Kd.C_alloc ?_ _) | (with_reducible refine Kd.C_drewN ?_ _) | (with_reducible refine Kd.C_drew ?_)))
    (case side4 => exact (Kd.R_reads' HO_224001.out).2.1)
    (case side5 => repeat (first | exact (Kd.S_reads' HO231.out).2.2 | (with_reducible refine Kd.C_alloc ?_ _) | (with_reducible refine Kd.C_drewN ?_ _) | (with_reducible refine Kd.C_drew ?_)))
    (case side6 => exact (Kd.S_reads' HO231.out).2.1)
    (case side7 => repeat (first | exact (Kd.R_reads' HO234.out).2.2 | (with_reducible refine Kd.C_alloc ?_ _) | (with_reducible refine Kd.C_drewN ?_ _) | (with_reducible refine Kd.C_drew ?_)))
    (case side8 => exact (Kd.R_reads' HO234.out).2.1)
    rintro e w49 ⟨rfl, hb⟩
    refine ⟨_, rfl, ?_⟩
    replace HO_224000 := zA (Kd.S_below (by (with_reducible repeat (first | apply Kd.S_alloc | apply Kd.S_drewN | apply Kd.S_drew)); exact HO_224000.out) hb)
    replace HO_224001 := zA (Kd.R_below (zr HO_224001) hb)
    replace HO231 := zA (Kd.S_below (by (with_reducible repeat (first | apply Kd.S_alloc | apply Kd.S_drewN | apply Kd.S_drew)); exact HO231.out) hb)
    replace HO234 := zA (Kd.R_below (zr HO234) hb)
    replace BK203 := zb BK203 hb
    replace BK204 := zb BK204 hb
    replace BK223 := zb BK223 hb
    replace HB := zE (zs3 HB GE203 GE204 GE223) hb
    (try clear hb)
    (try clear hb2)
    (try clear hk)
    (try clear hi)
    refine hK.out _ _ ⟨zc0 BK223, zc1 BK223, zc0 BK203, zc1 BK203⟩ (fun hHeld => ?_)
    clear hK K
    refine zN ?_
    refine zp 4 ?_
    refine done_ (by kernel_rfl) ?_
    try go_wp2
    go_ret
    exact ⟨ze, zs3 HB GE203 GE204 GE223⟩
   replace c44 := Bool.eq_false_iff.mpr c44
   subst c44
   have H1 : (some false) = some r := by rw [if_neg (show ¬ (false = true) by decide)] at H; exact H
   clear H
   have H := H1
   clear H1
   obtain rfl := Option.some.inj H
   try go_wp2
   replace HO_224000 := zA (Kd.S_drew HO_224000.out)
   replace HO_224001 := zA (Kd.R_drew HO_224001.out)
   replace BK203 := zA (blk_drew BK203.out)
   replace BK204 := zA (blk_drew BK204.out)
   replace BK223 := zA (blk_drew BK223.out)
   replace HB := zA (below_drew1 HB.out)
   refine start_ (n := 5) (S := fun w' => w'.cell? ⟨gb223, 0, none⟩ = some (.slice Ao31 t217.length co31) ∧ w'.cell? ⟨gb223, 1, none⟩ = some (.slice Ao35 t220.length co35) ∧ w'.cell? ⟨gb203, 0, none⟩ = some (.slice A0_0 l0_0.length c0_0) ∧ w'.cell? ⟨gb203, 1, none⟩ = some (.slice A0_1 l0_1.length c0_1)) (ds := []) #[F,F,F,F,F] (by kernel_rfl) rfl rfl ⟨zc0 BK223, zc1 BK223, zc0 BK203, zc1 BK203⟩ (fun hHeld => ?_)
   generalize wc.drew = w50 at HO_224000 HO_224001 BK203 BK204 BK223 HB hHeld ⊢
   refine take_ (i := 0) (N := some 41) (v := ?_) (a' := ?_) #[T,F,F,F,F] rfl rfl (by kernel_rfl) (fun _ _ _ h => h) (Or.inl ⟨by rfl, ?_⟩) hHeld ?_ ?_; rotate_left; exact zt4; rotate_left; exact zput
   refine take_ (i := 1) (N := some 42) (v := ?_) (a' := ?_) #[T,T,F,F,F] rfl rfl (by kernel_rfl) (fun _ _ _ h => h) (Or.inl ⟨by rfl, ?_⟩) hHeld ?_ ?_; rotate_left; exact zt4; rotate_left; exact zput
   refine one_ (i := 2) (N := some 43) #[T,T,T,F,F] rfl rfl (by kernel_rfl) (by decide) (fun K hK => ?_)
   refine zgo Try.func6 #[.agg #[.slice A0_0 l0_0.length c0_0, .slice A0_1 l0_1.length c0_1]] ?_
   with_reducible refine (laws_toSkyIndex.calls kj15 _ _ l0_0 _ _ l0_1 t229 t232 _ ?side1 ?side2 ?side3 ?side4 A42.out).mono ?_
   (case side1 => exact zC HR0_0 HB)
   (case side2 => exact HC0_0.out)
   (case side3 => exact zC HR0_1 HB)
   (case side4 => exact HC0_1.out)
   rintro e w51 ⟨v230, v233, rfl, ho0, ho1, hb⟩
   refine ⟨_, rfl, ?_⟩
   have HO231 := zA (Kd.S_lower (Kd.S_new' ho0 (Kd.S_lt (by (with_reducible repeat (first | apply Kd.S_alloc | apply Kd.S_drewN | apply Kd.S_drew)); exact HO_224000.out))) (below_size (zs3 HB GE203 GE204 GE223)))
   have HO234 := zA (Kd.R_lower (Kd.R_new' ho1 (Kd.R_lt (zr HO_224001))) (below_size (zs3 HB GE203 GE204 GE223)))
   replace HO_224000 := zA (Kd.S_elder' (by (with_reducible repeat (first | apply Kd.S_alloc | apply Kd.S_drewN | apply Kd.S_drew)); exact HO_224000.out) (Kd.S_base ho0) hb)
   replace HO_224001 := zA (Kd.R_elder' (zr HO_224001) (Kd.R_base ho1) hb)
   replace BK203 := zb BK203 hb
   replace BK204 := zb BK204 hb
   replace BK223 := zb BK223 hb
   replace HB := zE (zs3 HB GE203 GE204 GE223) hb
   (try clear hb)
   (try clear hb2)
   (try clear hk)
   (try clear hi)
   (try clear ho0)
   (try clear ho1)
   obtain ⟨Ao52, co52, eo52⟩ := Kd.S_slice HO231.out
   (first | subst eo52 | (injection eo52 with f1_ f2_ f3_; have f4_ := f1_.symm; have f5_ := f3_.symm; clear f1_ f2_ f3_; subst f4_; subst f5_))
   obtain ⟨Ao53, co53, eo53⟩ := Kd.R_slice HO234.out
   (first | subst eo53 | (injection eo53 with f1_ f2_ f3_; have f4_ := f1_.symm; have f5_ := f3_.symm; clear f1_ f2_ f3_; subst f4_; subst f5_))
   refine hK.out _ _ ⟨zc0 BK223, zc1 BK223, zc0 BK203, zc1 BK203⟩ (fun hHeld => ?_)
   clear hK K
   refine zN ?_
   refine one_ (i := 3) (N := some 44) #[T,T,T,T,F] rfl rfl (by kernel_rfl) (by decide) (fun K hK => ?_)
   refine zgo Try.func9 #[.agg #[.slice Ao31 t217.length co31, .slice Ao35 t220.length co35], .agg #[.slice Ao52 t229.length co52, .slice Ao53 t232.length co53]] ?_
   with_reducible refine (laws_eqSkyIndex.calls kj15 _ _ t217 _ _ t220 _ _ t229 _ _ t232 false _ ?side1 ?side2 ?side3 ?side4 ?side5 ?side6 ?side7 ?side8 A43.out).mono ?_
   (case side1 => repeat (first | exact (Kd.S_reads' HO_224000.out).2.2 | (with_reducible refine Kd.C_alloc ?_ _) | (with_reducible refine Kd.C_drewN ?_ _) | (with_reducible refine Kd.C_drew ?_)))
   (case side2 => exact (Kd.S_reads' HO_224000.out).2.1)
   (case side3 => repeat (first | exact (Kd.R_reads' HO_224001.out).2.2 | (with_reducible refine Kd.C_alloc ?_ _) | (with_reducible refine Kd.C_drewN ?_ _) | (with_reducible refine Kd.C_drew ?_)))
   (case side4 => exact (Kd.R_reads' HO_224001.out).2.1)
   (case side5 => repeat (first | exact (Kd.S_reads' HO231.out).2.2 | (with_reducible refine Kd.C_alloc ?_ _) | (with_reducible refine Kd.C_drewN ?_ _) | (with_reducible refine Kd.C_drew ?_)))
   (case side6 => exact (Kd.S_reads' HO231.out).2.1)
   (case side7 => repeat (first | exact (Kd.R_reads' HO234.out).2.2 | (with_reducible refine Kd.C_alloc ?_ _) | (with_reducible refine Kd.C_drewN ?_ _) | (with_reducible refine Kd.C_drew ?_)))
   (case side8 => exact (Kd.R_reads' HO234.out).2.1)
   rintro e w54 ⟨rfl, hb⟩
   refine ⟨_, rfl, ?_⟩
   replace HO_224000 := zA (Kd.S_below (by (with_reducible repeat (first | apply Kd.S_alloc | apply Kd.S_drewN | apply Kd.S_drew)); exact HO_224000.out) hb)
   replace HO_224001 := zA (Kd.R_below (zr HO_224001) hb)
   replace HO231 := zA (Kd.S_below (by (with_reducible repeat (first | apply Kd.S_alloc | apply Kd.S_drewN | apply Kd.S_drew)); exact HO231.out) hb)
   replace HO234 := zA (Kd.R_below (zr HO234) hb)
   replace BK203 := zb BK203 hb
   replace BK204 := zb BK204 hb
   replace BK223 := zb BK223 hb
   replace HB := zE (zs3 HB GE203 GE204 GE223) hb
   (try clear hb)
   (try clear hb2)
   (try clear hk)
   (try clear hi)
   refine hK.out _ _ ⟨zc0 BK223, zc1 BK223, zc0 BK203, zc1 BK203⟩ (fun hHeld => ?_)
   clear hK K
   refine zN ?_
   refine zp 4 ?_
   refine done_ (by kernel_rfl) ?_
   try go_wp2
   go_ret
   exact ⟨ze, zs3 HB GE203 GE204 GE223⟩
end Go.Proofs.Ytlcaalhbdfeflaa.QFnExactSkyFind
