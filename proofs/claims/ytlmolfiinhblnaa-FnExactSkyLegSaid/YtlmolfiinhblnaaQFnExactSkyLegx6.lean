/- The walk of what the law FnExactSkyLeg reaches: laid by a program of this session (ownprint.py). -/
import Derived.Test.YtlmolfiinhblnaaQFnExactSkyLegx0
import Derived.Test.YtlmolfiinhblnaaQFnExactSkyLegx2
import Derived.Test.YtlmolfiinhblnaaQFnExactSkyLegx3
import Derived.Test.YtlmolfiinhblnaaQFnExactSkyLegx4
import Derived.Test.YtlmolfiinhblnaaQFnExactSkyLegx5
namespace Go.Proofs.Ytlmolfiinhblnaa.QFnExactSkyLeg
open Go.RowKit Go.Proofs.YtlmolfiinhblnaaW.PrintWords Go.Proofs.YtlmolfiinhblnaaW.PrintLast Go.Proofs.YtlmolfiinhblnaaW.PrintMore Go.Proofs.Ytlmolfiinhblnaa.Z
attribute [local go_sem] max2_int min2_int max_two min_two max_three min_three max_four min_four zdn   -- for this text's walks alone
set_option linter.unusedVariables false
set_option linter.unusedSimpArgs false
def laws_FnExactSkyLeg.f (k : Nat) (a0_0 : Int) (a0_1 : Int) (a1_0 : Int) (a1_1 : Int) : Option (Bool) := (laws_toSkyCell.f a0_0 a0_1).bind fun bt176 => ((laws_toSkyCell.f a1_0 a1_1).bind fun bt178 => ((spec_SkyLeg.f k bt176.1 bt176.2 bt178.1 bt178.2).bind fun t180 => ((laws_toSkyCell.f a0_0 a0_1).bind fun bt183 => ((laws_toSkyCell.f a1_0 a1_1).bind fun bt185 => ((impl_SkyLeg.f k bt183.1 bt183.2 bt185.1 bt185.2).bind fun t187 => ((laws_eqSkyCellS.f k t187 t180).bind fun t190 => (if t190 = true then ((laws_markSkyCellS.f k t187 1).bind fun bt191 => ((laws_heldSkyCellS.f k bt191.2 1).bind fun t193 => (if t193 < 0 then (some false) else (if t193 = bt191.1 then ((laws_toSkyCell.f a0_0 a0_1).bind fun bt194 => ((laws_toSkyCell.f a1_0 a1_1).bind fun bt196 => ((impl_SkyLeg.f k bt194.1 bt194.2 bt196.1 bt196.2).bind fun t198 => ((laws_eqSkyCellS.f k t198 t180).bind fun t201 => (if t201 = true then ((laws_heldSkyCellS.f k bt191.2 1).bind fun t202 => (if t202 < 0 then (some false) else (if t202 = bt191.1 then (some true) else (some false)))) else (some false)))))) else (some false))))) else (some false))))))))
set_option maxHeartbeats 8000000 in
set_option maxRecDepth 100000 in
theorem laws_FnExactSkyLeg.calls (k : Nat) (a0_0 : Int) (a0_1 : Int) (a1_0 : Int) (a1_1 : Int) (r : Bool) (w : World) (h : laws_FnExactSkyLeg.f k a0_0 a0_1 a1_0 a1_1 = some r) :
 Calls Try.prog 3 #[.agg #[.int .i64 a0_0, .int .i64 a0_1], .agg #[.int .i64 a1_0, .int .i64 a1_1]] w fun e w' => e = .returned (.bool r) ∧ Below w.heap.size w w' := by
 have hu23 := Try.underlying23
 have HB := zA (Below.refl w.heap.size w)
 have H : ((laws_toSkyCell.f a0_0 a0_1).bind fun bt176 => ((laws_toSkyCell.f a1_0 a1_1).bind fun bt178 => ((spec_SkyLeg.f k bt176.1 bt176.2 bt178.1 bt178.2).bind fun t180 => ((laws_toSkyCell.f a0_0 a0_1).bind fun bt183 => ((laws_toSkyCell.f a1_0 a1_1).bind fun bt185 => ((impl_SkyLeg.f k bt183.1 bt183.2 bt185.1 bt185.2).bind fun t187 => ((laws_eqSkyCellS.f k t187 t180).bind fun t190 => (if t190 = true then ((laws_markSkyCellS.f k t187 1).bind fun bt191 => ((laws_heldSkyCellS.f k bt191.2 1).bind fun t193 => (if t193 < 0 then (some false) else (if t193 = bt191.1 then ((laws_toSkyCell.f a0_0 a0_1).bind fun bt194 => ((laws_toSkyCell.f a1_0 a1_1).bind fun bt196 => ((impl_SkyLeg.f k bt194.1 bt194.2 bt196.1 bt196.2).bind fun t198 => ((laws_eqSkyCellS.f k t198 t180).bind fun t201 => (if t201 = true then ((laws_heldSkyCellS.f k bt191.2 1).bind fun t202 => (if t202 < 0 then (some false) else (if t202 = bt191.1 then (some true) else (some false)))) else (some false)))))) else (some false))))) else (some false))))))))) = some r := h
 clear h
 replace H := Option.bind_eq_some_iff.mp H
 obtain ⟨⟨t176, t177⟩, A30, H⟩ := H
 replace H : ((laws_toSkyCell.f a1_0 a1_1).bind fun bt178 => ((spec_SkyLeg.f k t176 t177 bt178.1 bt178.2).bind fun t180 => ((laws_toSkyCell.f a0_0 a0_1).bind fun bt183 => ((laws_toSkyCell.f a1_0 a1_1).bind fun bt185 => ((impl_SkyLeg.f k bt183.1 bt183.2 bt185.1 bt185.2).bind fun t187 => ((laws_eqSkyCellS.f k t187 t180).bind fun t190 => (if t190 = true then ((laws_markSkyCellS.f k t187 1).bind fun bt191 => ((laws_heldSkyCellS.f k bt191.2 1).bind fun t193 => (if t193 < 0 then (some false) else (if t193 = bt191.1 then ((laws_toSkyCell.f a0_0 a0_1).bind fun bt194 => ((laws_toSkyCell.f a1_0 a1_1).bind fun bt196 => ((impl_SkyLeg.f k bt194.1 bt194.2 bt196.1 bt196.2).bind fun t198 => ((laws_eqSkyCellS.f k t198 t180).bind fun t201 => (if t201 = true then ((laws_heldSkyCellS.f k bt191.2 1).bind fun t202 => (if t202 < 0 then (some false) else (if t202 = bt191.1 then (some true) else (some false)))) else (some false)))))) else (some false))))) else (some false)))))))) = some r := H
 have A3 := zA A30
 clear A30
 replace H := Option.bind_eq_some_iff.mp H
 obtain ⟨⟨t178, t179⟩, A40, H⟩ := H
 replace H : ((spec_SkyLeg.f k t176 t177 t178 t179).bind fun t180 => ((laws_toSkyCell.f a0_0 a0_1).bind fun bt183 => ((laws_toSkyCell.f a1_0 a1_1).bind fun bt185 => ((impl_SkyLeg.f k bt183.1 bt183.2 bt185.1 bt185.2).bind fun t187 => ((laws_eqSkyCellS.f k t187 t180).bind fun t190 => (if t190 = true then ((laws_markSkyCellS.f k t187 1).bind fun bt191 => ((laws_heldSkyCellS.f k bt191.2 1).bind fun t193 => (if t193 < 0 then (some false) else (if t193 = bt191.1 then ((laws_toSkyCell.f a0_0 a0_1).bind fun bt194 => ((laws_toSkyCell.f a1_0 a1_1).bind fun bt196 => ((impl_SkyLeg.f k bt194.1 bt194.2 bt196.1 bt196.2).bind fun t198 => ((laws_eqSkyCellS.f k t198 t180).bind fun t201 => (if t201 = true then ((laws_heldSkyCellS.f k bt191.2 1).bind fun t202 => (if t202 < 0 then (some false) else (if t202 = bt191.1 then (some true) else (some false)))) else (some false)))))) else (some false))))) else (some false))))))) = some r := H
 have A4 := zA A40
 clear A40
 replace H := zbd H; obtain ⟨t180, A5, H⟩ := H
 replace H := Option.bind_eq_some_iff.mp H
 obtain ⟨⟨t183, t184⟩, A60, H⟩ := H
 replace H : ((laws_toSkyCell.f a1_0 a1_1).bind fun bt185 => ((impl_SkyLeg.f k t183 t184 bt185.1 bt185.2).bind fun t187 => ((laws_eqSkyCellS.f k t187 t180).bind fun t190 => (if t190 = true then ((laws_markSkyCellS.f k t187 1).bind fun bt191 => ((laws_heldSkyCellS.f k bt191.2 1).bind fun t193 => (if t193 < 0 then (some false) else (if t193 = bt191.1 then ((laws_toSkyCell.f a0_0 a0_1).bind fun bt194 => ((laws_toSkyCell.f a1_0 a1_1).bind fun bt196 => ((impl_SkyLeg.f k bt194.1 bt194.2 bt196.1 bt196.2).bind fun t198 => ((laws_eqSkyCellS.f k t198 t180).bind fun t201 => (if t201 = true then ((laws_heldSkyCellS.f k bt191.2 1).bind fun t202 => (if t202 < 0 then (some false) else (if t202 = bt191.1 then (some true) else (some false)))) else (some false)))))) else (some false))))) else (some false))))) = some r := H
 have A6 := zA A60
 clear A60
 replace H := Option.bind_eq_some_iff.mp H
 obtain ⟨⟨t185, t186⟩, A70, H⟩ := H
 replace H : ((impl_SkyLeg.f k t183 t184 t185 t186).bind fun t187 => ((laws_eqSkyCellS.f k t187 t180).bind fun t190 => (if t190 = true then ((laws_markSkyCellS.f k t187 1).bind fun bt191 => ((laws_heldSkyCellS.f k bt191.2 1).bind fun t193 => (if t193 < 0 then (some false) else (if t193 = bt191.1 then ((laws_toSkyCell.f a0_0 a0_1).bind fun bt194 => ((laws_toSkyCell.f a1_0 a1_1).bind fun bt196 => ((impl_SkyLeg.f k bt194.1 bt194.2 bt196.1 bt196.2).bind fun t198 => ((laws_eqSkyCellS.f k t198 t180).bind fun t201 => (if t201 = true then ((laws_heldSkyCellS.f k bt191.2 1).bind fun t202 => (if t202 < 0 then (some false) else (if t202 = bt191.1 then (some true) else (some false)))) else (some false)))))) else (some false))))) else (some false)))) = some r := H
 have A7 := zA A70
 clear A70
 replace H := zbd H; obtain ⟨t187, A8, H⟩ := H
 replace H := Option.bind_eq_some_iff.mp H
 obtain ⟨t190, A90, H⟩ := H
 replace H : (if t190 = true then ((laws_markSkyCellS.f k t187 1).bind fun bt191 => ((laws_heldSkyCellS.f k bt191.2 1).bind fun t193 => (if t193 < 0 then (some false) else (if t193 = bt191.1 then ((laws_toSkyCell.f a0_0 a0_1).bind fun bt194 => ((laws_toSkyCell.f a1_0 a1_1).bind fun bt196 => ((impl_SkyLeg.f k bt194.1 bt194.2 bt196.1 bt196.2).bind fun t198 => ((laws_eqSkyCellS.f k t198 t180).bind fun t201 => (if t201 = true then ((laws_heldSkyCellS.f k bt191.2 1).bind fun t202 => (if t202 < 0 then (some false) else (if t202 = bt191.1 then (some true) else (some false)))) else (some false)))))) else (some false))))) else (some false)) = some r := H
 have A9 := zA A90
 clear A90
 by_cases c10 : t190 = true
 rotate_left
 ·replace c10 := Bool.eq_false_iff.mpr c10
  subst c10
  have H1 : (some false) = some r := by rw [if_neg (show ¬ (false = true) by decide)] at H; exact H
  clear H
  have H := H1
  clear H1
  obtain rfl := Option.some.inj H
  go_enter Try.func3, Try.ntmps3
  try go_wp2_with (first | ((with_reducible refine gate_dst (N := 2) rfl ?_); refine zbx 2 #[.int .i64 a0_0, .int .i64 a0_1] 23 ?_; intro gb174 hg w131 hbox hb; have BK174 := zA hbox; have GW174 := zgs hg (zs0 HB); have GE174 := zgs hg (zs0 HB); replace HB := zE (zs0 HB) hb; clear hb hbox hg) | ((with_reducible refine gate_dst (N := 3) rfl ?_); refine zbx 3 #[.int .i64 a1_0, .int .i64 a1_1] 23 ?_; intro gb175 hg w132 hbox hb; have BK175 := zA hbox; have GW175 := zgs hg (zs1 HB GE174); have GE175 := zgs hg (zs1 HB GE174); have NB174_175 := zne hg BK174; have NB175_174 := znf hg BK174; replace BK174 := zb BK174 hb; replace HB := zE (zs1 HB GE174) hb; clear hb hbox hg))
  replace BK174 := zA (blk_drew BK174.out)
  replace BK175 := zA (blk_drew BK175.out)
  replace HB := zA (below_drew1 HB.out)
  refine start_ (n := 6) (S := fun w' => w'.cell? ⟨gb174, 0, none⟩ = some (.int .i64 a0_0) ∧ w'.cell? ⟨gb174, 1, none⟩ = some (.int .i64 a0_1) ∧ w'.cell? ⟨gb175, 0, none⟩ = some (.int .i64 a1_0) ∧ w'.cell? ⟨gb175, 1, none⟩ = some (.int .i64 a1_1)) (ds := []) #[F,F,F,F,F,F] (by kernel_rfl) rfl rfl ⟨zc0 BK174, zc1 BK174, zc0 BK175, zc1 BK175⟩ (fun hHeld => ?_)
  generalize w132.drew = w133 at BK174 BK175 HB hHeld ⊢
  refine take_ (i := 0) (N := some 10) (v := ?_) (a' := ?_) #[T,F,F,F,F,F] rfl rfl (by kernel_rfl) (fun _ _ _ h => h) (Or.inl ⟨by rfl, ?_⟩) hHeld ?_ ?_; rotate_left; exact zt4; rotate_left; exact zput
  refine take_ (i := 2) (N := some 12) (v := ?_) (a' := ?_) #[T,F,T,F,F,F] rfl rfl (by kernel_rfl) (fun _ _ _ h => h) (Or.inl ⟨by rfl, ?_⟩) hHeld ?_ ?_; rotate_left; exact zt4; rotate_left; exact zput
  refine one_ (i := 1) (N := some 11) #[T,T,T,F,F,F] rfl rfl (by kernel_rfl) (by decide) (fun K hK => ?_)
  refine zgo Try.func5 #[.agg #[.int .i64 a0_0, .int .i64 a0_1]] ?_
  with_reducible refine (laws_toSkyCell.calls a0_0 a0_1 t176 t177 _ A3.out).mono ?_
  rintro e w134 ⟨rfl, hb⟩
  refine ⟨_, rfl, ?_⟩
  replace BK174 := zb BK174 hb
  replace BK175 := zb BK175 hb
  replace HB := zE (zs2 HB GE174 GE175) hb
  (try clear hb)
  (try clear hb2)
  (try clear hk)
  (try clear hi)
  refine hK.out _ _ ⟨zc0 BK174, zc1 BK174, zc0 BK175, zc1 BK175⟩ (fun hHeld => ?_)
  clear hK K
  refine zN ?_
  refine one_ (i := 3) (N := some 13) #[T,T,T,T,F,F] rfl rfl (by kernel_rfl) (by decide) (fun K hK => ?_)
  refine zgo Try.func5 #[.agg #[.int .i64 a1_0, .int .i64 a1_1]] ?_
  with_reducible refine (laws_toSkyCell.calls a1_0 a1_1 t178 t179 _ A4.out).mono ?_
  rintro e w135 ⟨rfl, hb⟩
  refine ⟨_, rfl, ?_⟩
  replace BK174 := zb BK174 hb
  replace BK175 := zb BK175 hb
  replace HB := zE (zs2 HB GE174 GE175) hb
  (try clear hb)
  (try clear hb2)
  (try clear hk)
  (try clear hi)
  refine hK.out _ _ ⟨zc0 BK174, zc1 BK174, zc0 BK175, zc1 BK175⟩ (fun hHeld => ?_)
  clear hK K
  refine zN ?_
  refine one_ (i := 4) (N := some 14) #[T,T,T,T,T,F] rfl rfl (by kernel_rfl) (by decide) (fun K hK => ?_)
  refine zgo Try.func4 #[.agg #[.int .i64 t176, .int .i64 t177], .agg #[.int .i64 t178, .int .i64 t179]] ?_
  with_reducible refine (spec_SkyLeg.calls k t176 t177 t178 t179 t180 _ A5.out).mono ?_
  rintro e w136 ⟨v181, rfl, ho0, hb⟩
  refine ⟨_, rfl, ?_⟩
  have HO182 := zA (Kd.R_lower ho0 (below_size (zs2 HB GE174 GE175)))
  replace BK174 := zb BK174 hb
  replace BK175 := zb BK175 hb
  replace HB := zE (zs2 HB GE174 GE175) hb
  (try clear hb)
  (try clear hb2)
  (try clear hk)
  (try clear hi)
  (try clear ho0)
  refine hK.out _ _ ⟨zc0 BK174, zc1 BK174, zc0 BK175, zc1 BK175⟩ (fun hHeld => ?_)
  clear hK K
  refine zN ?_
  refine zp 5 ?_
  refine done_ (by kernel_rfl) ?_
  try go_wp2
  replace HO182 := zA (Kd.R_drew HO182.out)
  replace BK174 := zA (blk_drew BK174.out)
  replace BK175 := zA (blk_drew BK175.out)
  replace HB := zA (below_drew1 HB.out)
  refine start_ (n := 6) (S := fun w' => w'.cell? ⟨gb174, 0, none⟩ = some (.int .i64 a0_0) ∧ w'.cell? ⟨gb174, 1, none⟩ = some (.int .i64 a0_1) ∧ w'.cell? ⟨gb175, 0, none⟩ = some (.int .i64 a1_0) ∧ w'.cell? ⟨gb175, 1, none⟩ = some (.int .i64 a1_1)) (ds := []) #[F,F,F,F,F,F] (by kernel_rfl) rfl rfl ⟨zc0 BK174, zc1 BK174, zc0 BK175, zc1 BK175⟩ (fun hHeld => ?_)
  generalize w136.drew = w137 at HO182 BK174 BK175 HB hHeld ⊢
  refine take_ (i := 0) (N := some 15) (v := ?_) (a' := ?_) #[T,F,F,F,F,F] rfl rfl (by kernel_rfl) (fun _ _ _ h => h) (Or.inl ⟨by rfl, ?_⟩) hHeld ?_ ?_; rotate_left; exact zt4; rotate_left; exact zput
  refine take_ (i := 2) (N := some 17) (v := ?_) (a' := ?_) #[T,F,T,F,F,F] rfl rfl (by kernel_rfl) (fun _ _ _ h => h) (Or.inl ⟨by rfl, ?_⟩) hHeld ?_ ?_; rotate_left; exact zt4; rotate_left; exact zput
  refine one_ (i := 1) (N := some 16) #[T,T,T,F,F,F] rfl rfl (by kernel_rfl) (by decide) (fun K hK => ?_)
  refine zgo Try.func5 #[.agg #[.int .i64 a0_0, .int .i64 a0_1]] ?_
  with_reducible refine (laws_toSkyCell.calls a0_0 a0_1 t183 t184 _ A6.out).mono ?_
  rintro e w138 ⟨rfl, hb⟩
  refine ⟨_, rfl, ?_⟩
  replace HO182 := zA (Kd.R_below (zr HO182) hb)
  replace BK174 := zb BK174 hb
  replace BK175 := zb BK175 hb
  replace HB := zE (zs2 HB GE174 GE175) hb
  (try clear hb)
  (try clear hb2)
  (try clear hk)
  (try clear hi)
  refine hK.out _ _ ⟨zc0 BK174, zc1 BK174, zc0 BK175, zc1 BK175⟩ (fun hHeld => ?_)
  clear hK K
  refine zN ?_
  refine one_ (i := 3) (N := some 18) #[T,T,T,T,F,F] rfl rfl (by kernel_rfl) (by decide) (fun K hK => ?_)
  refine zgo Try.func5 #[.agg #[.int .i64 a1_0, .int .i64 a1_1]] ?_
  with_reducible refine (laws_toSkyCell.calls a1_0 a1_1 t185 t186 _ A7.out).mono ?_
  rintro e w139 ⟨rfl, hb⟩
  refine ⟨_, rfl, ?_⟩
  replace HO182 := zA (Kd.R_below (zr HO182) hb)
  replace BK174 := zb BK174 hb
  replace BK175 := zb BK175 hb
  replace HB := zE (zs2 HB GE174 GE175) hb
  (try clear hb)
  (try clear hb2)
  (try clear hk)
  (try clear hi)
  refine hK.out _ _ ⟨zc0 BK174, zc1 BK174, zc0 BK175, zc1 BK175⟩ (fun hHeld => ?_)
  clear hK K
  refine zN ?_
  refine one_ (i := 4) (N := some 19) #[T,T,T,T,T,F] rfl rfl (by kernel_rfl) (by decide) (fun K hK => ?_)
  refine zgo Try.func6 #[.agg #[.int .i64 t183, .int .i64 t184], .agg #[.int .i64 t185, .int .i64 t186]] ?_
  with_reducible refine (impl_SkyLeg.calls k t183 t184 t185 t186 t187 _ A8.out).mono ?_
  rintro e w140 ⟨v188, rfl, ho0, hb⟩
  refine ⟨_, rfl, ?_⟩
  have HO189 := zA (Kd.R_lower (Kd.R_new' ho0 (Kd.R_lt (zr HO182))) (below_size (zs2 HB GE174 GE175)))
  replace HO182 := zA (Kd.R_elder' (zr HO182) (Kd.R_base ho0) hb)
  replace BK174 := zb BK174 hb
  replace BK175 := zb BK175 hb
  replace HB := zE (zs2 HB GE174 GE175) hb
  (try clear hb)
  (try clear hb2)
  (try clear hk)
  (try clear hi)
  (try clear ho0)
  refine hK.out _ _ ⟨zc0 BK174, zc1 BK174, zc0 BK175, zc1 BK175⟩ (fun hHeld => ?_)
  clear hK K
  refine zN ?_
  refine zp 5 ?_
  refine done_ (by kernel_rfl) ?_
  obtain ⟨Ao141, co141, eo141⟩ := Kd.R_slice HO189.out
  subst eo141
  obtain ⟨Ao142, co142, eo142⟩ := Kd.R_slice HO182.out
  subst eo142
  try go_wp2_with (first | ((with_reducible refine gate_callee (f := 7) rfl ?_); refine zgl (N := some 22) Try.func7 #[.slice Ao141 t187.length co141, .slice Ao142 t180.length co142] ?_; (with_reducible refine (laws_eqSkyCellS.calls k _ _ t187 _ _ t180 false _ ?side1 ?side2 ?side3 ?side4 A9.out).mono ?_); (case side1 => repeat (first | exact (Kd.R_reads' HO189.out).2.2 | (with_reducible refine Kd.C_alloc ?_ _) | (with_reducible refine Kd.C_drewN ?_ _) | (with_reducible refine Kd.C_drew ?_))); (case side2 => exact (Kd.R_reads' HO189.out).2.1); (case side3 => repeat (first | exact (Kd.R_reads' HO182.out).2.2 | (with_reducible refine Kd.C_alloc ?_ _) | (with_reducible refine Kd.C_drewN ?_ _) | (with_reducible refine Kd.C_drew ?_))); (case side4 => exact (Kd.R_reads' HO182.out).2.1); rintro e w143 ⟨rfl, hb⟩; refine ⟨_, rfl, ?_⟩; replace HO182 := zA (Kd.R_below (zr HO182) hb); replace HO189 := zA (Kd.R_below (zr HO189) hb); replace BK174 := zb BK174 hb; replace BK175 := zb BK175 hb; replace HB := zE (zs2 HB GE174 GE175) hb; (try clear hb); (try clear hb2); (try clear hk); (try clear hi)))
  go_ret
  exact ⟨ze, zs2 HB GE174 GE175⟩
 subst c10
 have H1 : ((laws_markSkyCellS.f k t187 1).bind fun bt191 => ((laws_heldSkyCellS.f k bt191.2 1).bind fun t193 => (if t193 < 0 then (some false) else (if t193 = bt191.1 then ((laws_toSkyCell.f a0_0 a0_1).bind fun bt194 => ((laws_toSkyCell.f a1_0 a1_1).bind fun bt196 => ((impl_SkyLeg.f k bt194.1 bt194.2 bt196.1 bt196.2).bind fun t198 => ((laws_eqSkyCellS.f k t198 t180).bind fun t201 => (if t201 = true then ((laws_heldSkyCellS.f k bt191.2 1).bind fun t202 => (if t202 < 0 then (some false) else (if t202 = bt191.1 then (some true) else (some false)))) else (some false)))))) else (some false))))) = some r := by rw [if_pos rfl] at H; exact H
 clear H
 have H := H1
 clear H1
 replace H := Option.bind_eq_some_iff.mp H
 obtain ⟨⟨t191, t192⟩, A110, H⟩ := H
 replace H : ((laws_heldSkyCellS.f k t192 1).bind fun t193 => (if t193 < 0 then (some false) else (if t193 = t191 then ((laws_toSkyCell.f a0_0 a0_1).bind fun bt194 => ((laws_toSkyCell.f a1_0 a1_1).bind fun bt196 => ((impl_SkyLeg.f k bt194.1 bt194.2 bt196.1 bt196.2).bind fun t198 => ((laws_eqSkyCellS.f k t198 t180).bind fun t201 => (if t201 = true then ((laws_heldSkyCellS.f k t192 1).bind fun t202 => (if t202 < 0 then (some false) else (if t202 = t191 then (some true) else (some false)))) else (some false)))))) else (some false)))) = some r := H
 have A11 := zA A110
 clear A110
 replace H := zbd H; obtain ⟨t193, A12, H⟩ := H
 by_cases c13 : t193 < 0
 ·rw [if_pos c13] at H
  have c13b0 : decide (t193 < 0) = true := decide_eq_true c13
  clear c13
  obtain rfl := Option.some.inj H
  go_enter Try.func3, Try.ntmps3
  try go_wp2_with (first | ((with_reducible refine gate_dst (N := 2) rfl ?_); refine zbx 2 #[.int .i64 a0_0, .int .i64 a0_1] 23 ?_; intro gb174 hg w14 hbox hb; have BK174 := zA hbox; have GW174 := zgs hg (zs0 HB); have GE174 := zgs hg (zs0 HB); replace HB := zE (zs0 HB) hb; clear hb hbox hg) | ((with_reducible refine gate_dst (N := 3) rfl ?_); refine zbx 3 #[.int .i64 a1_0, .int .i64 a1_1] 23 ?_; intro gb175 hg w15 hbox hb; have BK175 := zA hbox; have GW175 := zgs hg (zs1 HB GE174); have GE175 := zgs hg (zs1 HB GE174); have NB174_175 := zne hg BK174; have NB175_174 := znf hg BK174; replace BK174 := zb BK174 hb; replace HB := zE (zs1 HB GE174) hb; clear hb hbox hg))
  replace BK174 := zA (blk_drew BK174.out)
  replace BK175 := zA (blk_drew BK175.out)
  replace HB := zA (below_drew1 HB.out)
  refine start_ (n := 6) (S := fun w' => w'.cell? ⟨gb174, 0, none⟩ = some (.int .i64 a0_0) ∧ w'.cell? ⟨gb174, 1, none⟩ = some (.int .i64 a0_1) ∧ w'.cell? ⟨gb175, 0, none⟩ = some (.int .i64 a1_0) ∧ w'.cell? ⟨gb175, 1, none⟩ = some (.int .i64 a1_1)) (ds := []) #[F,F,F,F,F,F] (by kernel_rfl) rfl rfl ⟨zc0 BK174, zc1 BK174, zc0 BK175, zc1 BK175⟩ (fun hHeld => ?_)
  generalize w15.drew = w16 at BK174 BK175 HB hHeld ⊢
  refine take_ (i := 0) (N := some 10) (v := ?_) (a' := ?_) #[T,F,F,F,F,F] rfl rfl (by kernel_rfl) (fun _ _ _ h => h) (Or.inl ⟨by rfl, ?_⟩) hHeld ?_ ?_; rotate_left; exact zt4; rotate_left; exact zput
  refine take_ (i := 2) (N := some 12) (v := ?_) (a' := ?_) #[T,F,T,F,F,F] rfl rfl (by kernel_rfl) (fun _ _ _ h => h) (Or.inl ⟨by rfl, ?_⟩) hHeld ?_ ?_; rotate_left; exact zt4; rotate_left; exact zput
  refine one_ (i := 1) (N := some 11) #[T,T,T,F,F,F] rfl rfl (by kernel_rfl) (by decide) (fun K hK => ?_)
  refine zgo Try.func5 #[.agg #[.int .i64 a0_0, .int .i64 a0_1]] ?_
  with_reducible refine (laws_toSkyCell.calls a0_0 a0_1 t176 t177 _ A3.out).mono ?_
  rintro e w17 ⟨rfl, hb⟩
  refine ⟨_, rfl, ?_⟩
  replace BK174 := zb BK174 hb
  replace BK175 := zb BK175 hb
  replace HB := zE (zs2 HB GE174 GE175) hb
  (try clear hb)
  (try clear hb2)
  (try clear hk)
  (try clear hi)
  refine hK.out _ _ ⟨zc0 BK174, zc1 BK174, zc0 BK175, zc1 BK175⟩ (fun hHeld => ?_)
  clear hK K
  refine zN ?_
  refine one_ (i := 3) (N := some 13) #[T,T,T,T,F,F] rfl rfl (by kernel_rfl) (by decide) (fun K hK => ?_)
  refine zgo Try.func5 #[.agg #[.int .i64 a1_0, .int .i64 a1_1]] ?_
  with_reducible refine (laws_toSkyCell.calls a1_0 a1_1 t178 t179 _ A4.out).mono ?_
  rintro e w18 ⟨rfl, hb⟩
  refine ⟨_, rfl, ?_⟩
  replace BK174 := zb BK174 hb
  replace BK175 := zb BK175 hb
  replace HB := zE (zs2 HB GE174 GE175) hb
  (try clear hb)
  (try clear hb2)
  (try clear hk)
  (try clear hi)
  refine hK.out _ _ ⟨zc0 BK174, zc1 BK174, zc0 BK175, zc1 BK175⟩ (fun hHeld => ?_)
  clear hK K
  refine zN ?_
  refine one_ (i := 4) (N := some 14) #[T,T,T,T,T,F] rfl rfl (by kernel_rfl) (by decide) (fun K hK => ?_)
  refine zgo Try.func4 #[.agg #[.int .i64 t176, .int .i64 t177], .agg #[.int .i64 t178, .int .i64 t179]] ?_
  with_reducible refine (spec_SkyLeg.calls k t176 t177 t178 t179 t180 _ A5.out).mono ?_
  rintro e w19 ⟨v181, rfl, ho0, hb⟩
  refine ⟨_, rfl, ?_⟩
  have HO182 := zA (Kd.R_lower ho0 (below_size (zs2 HB GE174 GE175)))
  replace BK174 := zb BK174 hb
  replace BK175 := zb BK175 hb
  replace HB := zE (zs2 HB GE174 GE175) hb
  (try clear hb)
  (try clear hb2)
  (try clear hk)
  (try clear hi)
  (try clear ho0)
  refine hK.out _ _ ⟨zc0 BK174, zc1 BK174, zc0 BK175, zc1 BK175⟩ (fun hHeld => ?_)
  clear hK K
  refine zN ?_
  refine zp 5 ?_
  refine done_ (by kernel_rfl) ?_
  try go_wp2
  replace HO182 := zA (Kd.R_drew HO182.out)
  replace BK174 := zA (blk_drew BK174.out)
  replace BK175 := zA (blk_drew BK175.out)
  replace HB := zA (below_drew1 HB.out)
  refine start_ (n := 6) (S := fun w' => w'.cell? ⟨gb174, 0, none⟩ = some (.int .i64 a0_0) ∧ w'.cell? ⟨gb174, 1, none⟩ = some (.int .i64 a0_1) ∧ w'.cell? ⟨gb175, 0, none⟩ = some (.int .i64 a1_0) ∧ w'.cell? ⟨gb175, 1, none⟩ = some (.int .i64 a1_1)) (ds := []) #[F,F,F,F,F,F] (by kernel_rfl) rfl rfl ⟨zc0 BK174, zc1 BK174, zc0 BK175, zc1 BK175⟩ (fun hHeld => ?_)
  generalize w19.drew = w20 at HO182 BK174 BK175 HB hHeld ⊢
  refine take_ (i := 0) (N := some 15) (v := ?_) (a' := ?_) #[T,F,F,F,F,F] rfl rfl (by kernel_rfl) (fun _ _ _ h => h) (Or.inl ⟨by rfl, ?_⟩) hHeld ?_ ?_; rotate_left; exact zt4; rotate_left; exact zput
  refine take_ (i := 2) (N := some 17) (v := ?_) (a' := ?_) #[T,F,T,F,F,F] rfl rfl (by kernel_rfl) (fun _ _ _ h => h) (Or.inl ⟨by rfl, ?_⟩) hHeld ?_ ?_; rotate_left; exact zt4; rotate_left; exact zput
  refine one_ (i := 1) (N := some 16) #[T,T,T,F,F,F] rfl rfl (by kernel_rfl) (by decide) (fun K hK => ?_)
  refine zgo Try.func5 #[.agg #[.int .i64 a0_0, .int .i64 a0_1]] ?_
  with_reducible refine (laws_toSkyCell.calls a0_0 a0_1 t183 t184 _ A6.out).mono ?_
  rintro e w21 ⟨rfl, hb⟩
  refine ⟨_, rfl, ?_⟩
  replace HO182 := zA (Kd.R_below (zr HO182) hb)
  replace BK174 := zb BK174 hb
  replace BK175 := zb BK175 hb
  replace HB := zE (zs2 HB GE174 GE175) hb
  (try clear hb)
  (try clear hb2)
  (try clear hk)
  (try clear hi)
  refine hK.out _ _ ⟨zc0 BK174, zc1 BK174, zc0 BK175, zc1 BK175⟩ (fun hHeld => ?_)
  clear hK K
  refine zN ?_
  refine one_ (i := 3) (N := some 18) #[T,T,T,T,F,F] rfl rfl (by kernel_rfl) (by decide) (fun K hK => ?_)
  refine zgo Try.func5 #[.agg #[.int .i64 a1_0, .int .i64 a1_1]] ?_
  with_reducible refine (laws_toSkyCell.calls a1_0 a1_1 t185 t186 _ A7.out).mono ?_
  rintro e w22 ⟨rfl, hb⟩
  refine ⟨_, rfl, ?_⟩
  replace HO182 := zA (Kd.R_below (zr HO182) hb)
  replace BK174 := zb BK174 hb
  replace BK175 := zb BK175 hb
  replace HB := zE (zs2 HB GE174 GE175) hb
  (try clear hb)
  (try clear hb2)
  (try clear hk)
  (try clear hi)
  refine hK.out _ _ ⟨zc0 BK174, zc1 BK174, zc0 BK175, zc1 BK175⟩ (fun hHeld => ?_)
  clear hK K
  refine zN ?_
  refine one_ (i := 4) (N := some 19) #[T,T,T,T,T,F] rfl rfl (by kernel_rfl) (by decide) (fun K hK => ?_)
  refine zgo Try.func6 #[.agg #[.int .i64 t183, .int .i64 t184], .agg #[.int .i64 t185, .int .i64 t186]] ?_
  with_reducible refine (impl_SkyLeg.calls k t183 t184 t185 t186 t187 _ A8.out).mono ?_
  rintro e w23 ⟨v188, rfl, ho0, hb⟩
  refine ⟨_, rfl, ?_⟩
  have HO189 := zA (Kd.R_lower (Kd.R_new' ho0 (Kd.R_lt (zr HO182))) (below_size (zs2 HB GE174 GE175)))
  replace HO182 := zA (Kd.R_elder' (zr HO182) (Kd.R_base ho0) hb)
  replace BK174 := zb BK174 hb
  replace BK175 := zb BK175 hb
  replace HB := zE (zs2 HB GE174 GE175) hb
  (try clear hb)
  (try clear hb2)
  (try clear hk)
  (try clear hi)
  (try clear ho0)
  refine hK.out _ _ ⟨zc0 BK174, zc1 BK174, zc0 BK175, zc1 BK175⟩ (fun hHeld => ?_)
  clear hK K
  refine zN ?_
  refine zp 5 ?_
  refine done_ (by kernel_rfl) ?_
  obtain ⟨Ao24, co24, eo24⟩ := Kd.R_slice HO189.out
  subst eo24
  obtain ⟨Ao25, co25, eo25⟩ := Kd.R_slice HO182.out
  subst eo25
  try go_wp2_with (first | ((with_reducible refine gate_callee (f := 7) rfl ?_); refine zgl (N := some 22) Try.func7 #[.slice Ao24 t187.length co24, .slice Ao25 t180.length co25] ?_; (with_reducible refine (laws_eqSkyCellS.calls k _ _ t187 _ _ t180 true _ ?side1 ?side2 ?side3 ?side4 A9.out).mono ?_); (case side1 => repeat (first | exact (Kd.R_reads' HO189.out).2.2 | (with_reducible refine Kd.C_alloc ?_ _) | (with_reducible refine Kd.C_drewN ?_ _) | (with_reducible refine Kd.C_drew ?_))); (case side2 => exact (Kd.R_reads' HO189.out).2.1); (case side3 => repeat (first | exact (Kd.R_reads' HO182.out).2.2 | (with_reducible refine Kd.C_alloc ?_ _) | (with_reducible refine Kd.C_drewN ?_ _) | (with_reducible refine Kd.C_drew ?_))); (case side4 => exact (Kd.R_reads' HO182.out).2.1); rintro e w26 ⟨rfl, hb⟩; refine ⟨_, rfl, ?_⟩; replace HO182 := zA (Kd.R_below (zr HO182) hb); replace HO189 := zA (Kd.R_below (zr HO189) hb); replace BK174 := zb BK174 hb; replace BK175 := zb BK175 hb; replace HB := zE (zs2 HB GE174 GE175) hb; (try clear hb); (try clear hb2); (try clear hk); (try clear hi)) | ((with_reducible refine gate_callee (f := 8) rfl ?_); refine zgl (N := some 26) Try.func8 #[.slice Ao24 t187.length co24, .int .i64 1] ?_; (with_reducible refine (laws_markSkyCellS.calls k (fun k_ => some k_ = (.slice Ao24 t187.length co24 : Value).ownBlock) (.slice Ao24 t187.length co24) t187 1 t191 t192 w _ ?side1 ?side2 A11.out).mono ?_); (case side1 => repeat (first | (with_reducible first | exact HB.out | apply below_alloc | apply pw_below_drewN | apply below_drew1 | refine below_set ?_ GE174.out | refine below_set ?_ GE175.out) | exact HB.out)); (case side2 => exact Kd.R_tight rfl HO189.out); rintro e w27 ⟨rfl, hy0, hb, hkp⟩; refine ⟨_, rfl, ?_⟩; replace BK174 := zA (blk_kept (zh BK174) hkp (fun hs_ => (fun e_ => (Kd.R_ne HO189.out BK174.out (by decide)) e_) hs_)); replace BK175 := zA (blk_kept (zh BK175) hkp (fun hs_ => (fun e_ => (Kd.R_ne HO189.out BK175.out (by decide)) e_) hs_)); replace HO182 := zA (Kd.R_mono (ok' := fun k_ => some k_ ≠ (.slice Ao24 t187.length co24 : Value).ownBlock) (Kd.R_keptB (HO182.out) hkp (fun k_ hk_ hs_ => (hk_.2) hs_)) (fun k_ hk_ => hk_.1.2)); replace HO189 := zA (Kd.R_reok rfl hy0 (fun k_ e_ => HO189.out.1 k_ e_)); replace HB := zA (hb); (try clear hb); (try clear hkp); (try clear hy0)) | ((with_reducible refine gate_callee (f := 9) rfl ?_); refine goesL_ (some 29) rfl rfl Try.func9 (by kernel_rfl) rfl #[.slice Ao24 t192.length co24, .int .i64 1] rfl (by (try simp only [List.map_toArray, List.map_cons, List.map_nil]); first | done | (rw [show t192.length = t187.length from (Kd.R_reads' HO189.out).1.symm] <;> rfl) | rfl | (simp only [List.length_drop, List.length_take]; rfl)) ?_; (with_reducible refine (laws_heldSkyCellS.calls k _ _ t192 1 t193 _ ?side1 ?side2 A12.out).mono ?_); (case side1 => repeat (first | exact (Kd.R_reads' HO189.out).2.2 | (with_reducible refine Kd.C_alloc ?_ _) | (with_reducible refine Kd.C_drewN ?_ _) | (with_reducible refine Kd.C_drew ?_))); (case side2 => rw [show t192.length = t187.length from (Kd.R_reads' HO189.out).1.symm]; exact (Kd.R_reads' HO189.out).2.1); rintro e w' ⟨rfl, ⟨nd, rfl⟩⟩; refine ⟨_, rfl, ?_⟩))
  go_ret
  exact ⟨ze, zs2 HB GE174 GE175⟩
 rw [if_neg c13] at H
 have c13b0 : decide (t193 < 0) = false := decide_eq_false c13
 clear c13
 by_cases c28 : t193 = t191
 rotate_left
 ·rw [if_neg c28] at H
  have c28b0 : (t193 == t191) = false := beq_eq_false_iff_ne.mpr c28
  have c28b1 : (t193 != t191) = true := bne_iff_ne.mpr c28
  obtain rfl := Option.some.inj H
  go_enter Try.func3, Try.ntmps3
  try go_wp2_with (first | ((with_reducible refine gate_dst (N := 2) rfl ?_); refine zbx 2 #[.int .i64 a0_0, .int .i64 a0_1] 23 ?_; intro gb174 hg w117 hbox hb; have BK174 := zA hbox; have GW174 := zgs hg (zs0 HB); have GE174 := zgs hg (zs0 HB); replace HB := zE (zs0 HB) hb; clear hb hbox hg) | ((with_reducible refine gate_dst (N := 3) rfl ?_); refine zbx 3 #[.int .i64 a1_0, .int .i64 a1_1] 23 ?_; intro gb175 hg w118 hbox hb; have BK175 := zA hbox; have GW175 := zgs hg (zs1 HB GE174); have GE175 := zgs hg (zs1 HB GE174); have NB174_175 := zne hg BK174; have NB175_174 := znf hg BK174; replace BK174 := zb BK174 hb; replace HB := zE (zs1 HB GE174) hb; clear hb hbox hg))
  replace BK174 := zA (blk_drew BK174.out)
  replace BK175 := zA (blk_drew BK175.out)
  replace HB := zA (below_drew1 HB.out)
  refine start_ (n := 6) (S := fun w' => w'.cell? ⟨gb174, 0, none⟩ = some (.int .i64 a0_0) ∧ w'.cell? ⟨gb174, 1, none⟩ = some (.int .i64 a0_1) ∧ w'.cell? ⟨gb175, 0, none⟩ = some (.int .i64 a1_0) ∧ w'.cell? ⟨gb175, 1, none⟩ = some (.int .i64 a1_1)) (ds := []) #[F,F,F,F,F,F] (by kernel_rfl) rfl rfl ⟨zc0 BK174, zc1 BK174, zc0 BK175, zc1 BK175⟩ (fun hHeld => ?_)
  generalize w118.drew = w119 at BK174 BK175 HB hHeld ⊢
  refine take_ (i := 0) (N := some 10) (v := ?_) (a' := ?_) #[T,F,F,F,F,F] rfl rfl (by kernel_rfl) (fun _ _ _ h => h) (Or.inl ⟨by rfl, ?_⟩) hHeld ?_ ?_; rotate_left; exact zt4; rotate_left; exact zput
  refine take_ (i := 2) (N := some 12) (v := ?_) (a' := ?_) #[T,F,T,F,F,F] rfl rfl (by kernel_rfl) (fun _ _ _ h => h) (Or.inl ⟨by rfl, ?_⟩) hHeld ?_ ?_; rotate_left; exact zt4; rotate_left; exact zput
  refine one_ (i := 1) (N := some 11) #[T,T,T,F,F,F] rfl rfl (by kernel_rfl) (by decide) (fun K hK => ?_)
  refine zgo Try.func5 #[.agg #[.int .i64 a0_0, .int .i64 a0_1]] ?_
  with_reducible refine (laws_toSkyCell.calls a0_0 a0_1 t176 t177 _ A3.out).mono ?_
  rintro e w120 ⟨rfl, hb⟩
  refine ⟨_, rfl, ?_⟩
  replace BK174 := zb BK174 hb
  replace BK175 := zb BK175 hb
  replace HB := zE (zs2 HB GE174 GE175) hb
  (try clear hb)
  (try clear hb2)
  (try clear hk)
  (try clear hi)
  refine hK.out _ _ ⟨zc0 BK174, zc1 BK174, zc0 BK175, zc1 BK175⟩ (fun hHeld => ?_)
  clear hK K
  refine zN ?_
  refine one_ (i := 3) (N := some 13) #[T,T,T,T,F,F] rfl rfl (by kernel_rfl) (by decide) (fun K hK => ?_)
  refine zgo Try.func5 #[.agg #[.int .i64 a1_0, .int .i64 a1_1]] ?_
  with_reducible refine (laws_toSkyCell.calls a1_0 a1_1 t178 t179 _ A4.out).mono ?_
  rintro e w121 ⟨rfl, hb⟩
  refine ⟨_, rfl, ?_⟩
  replace BK174 := zb BK174 hb
  replace BK175 := zb BK175 hb
  replace HB := zE (zs2 HB GE174 GE175) hb
  (try clear hb)
  (try clear hb2)
  (try clear hk)
  (try clear hi)
  refine hK.out _ _ ⟨zc0 BK174, zc1 BK174, zc0 BK175, zc1 BK175⟩ (fun hHeld => ?_)
  clear hK K
  refine zN ?_
  refine one_ (i := 4) (N := some 14) #[T,T,T,T,T,F] rfl rfl (by kernel_rfl) (by decide) (fun K hK => ?_)
  refine zgo Try.func4 #[.agg #[.int .i64 t176, .int .i64 t177], .agg #[.int .i64 t178, .int .i64 t179]] ?_
  with_reducible refine (spec_SkyLeg.calls k t176 t177 t178 t179 t180 _ A5.out).mono ?_
  rintro e w122 ⟨v181, rfl, ho0, hb⟩
  refine ⟨_, rfl, ?_⟩
  have HO182 := zA (Kd.R_lower ho0 (below_size (zs2 HB GE174 GE175)))
  replace BK174 := zb BK174 hb
  replace BK175 := zb BK175 hb
  replace HB := zE (zs2 HB GE174 GE175) hb
  (try clear hb)
  (try clear hb2)
  (try clear hk)
  (try clear hi)
  (try clear ho0)
  refine hK.out _ _ ⟨zc0 BK174, zc1 BK174, zc0 BK175, zc1 BK175⟩ (fun hHeld => ?_)
  clear hK K
  refine zN ?_
  refine zp 5 ?_
  refine done_ (by kernel_rfl) ?_
  try go_wp2
  replace HO182 := zA (Kd.R_drew HO182.out)
  replace BK174 := zA (blk_drew BK174.out)
  replace BK175 := zA (blk_drew BK175.out)
  replace HB := zA (below_drew1 HB.out)
  refine start_ (n := 6) (S := fun w' => w'.cell? ⟨gb174, 0, none⟩ = some (.int .i64 a0_0) ∧ w'.cell? ⟨gb174, 1, none⟩ = some (.int .i64 a0_1) ∧ w'.cell? ⟨gb175, 0, none⟩ = some (.int .i64 a1_0) ∧ w'.cell? ⟨gb175, 1, none⟩ = some (.int .i64 a1_1)) (ds := []) #[F,F,F,F,F,F] (by kernel_rfl) rfl rfl ⟨zc0 BK174, zc1 BK174, zc0 BK175, zc1 BK175⟩ (fun hHeld => ?_)
  generalize w122.drew = w123 at HO182 BK174 BK175 HB hHeld ⊢
  refine take_ (i := 0) (N := some 15) (v := ?_) (a' := ?_) #[T,F,F,F,F,F] rfl rfl (by kernel_rfl) (fun _ _ _ h => h) (Or.inl ⟨by rfl, ?_⟩) hHeld ?_ ?_; rotate_left; exact zt4; rotate_left; exact zput
  refine take_ (i := 2) (N := some 17) (v := ?_) (a' := ?_) #[T,F,T,F,F,F] rfl rfl (by kernel_rfl) (fun _ _ _ h => h) (Or.inl ⟨by rfl, ?_⟩) hHeld ?_ ?_; rotate_left; exact zt4; rotate_left; exact zput
  refine one_ (i := 1) (N := some 16) #[T,T,T,F,F,F] rfl rfl (by kernel_rfl) (by decide) (fun K hK => ?_)
  refine zgo Try.func5 #[.agg #[.int .i64 a0_0, .int .i64 a0_1]] ?_
  with_reducible refine (laws_toSkyCell.calls a0_0 a0_1 t183 t184 _ A6.out).mono ?_
  rintro e w124 ⟨rfl, hb⟩
  refine ⟨_, rfl, ?_⟩
  replace HO182 := zA (Kd.R_below (zr HO182) hb)
  replace BK174 := zb BK174 hb
  replace BK175 := zb BK175 hb
  replace HB := zE (zs2 HB GE174 GE175) hb
  (try clear hb)
  (try clear hb2)
  (try clear hk)
  (try clear hi)
  refine hK.out _ _ ⟨zc0 BK174, zc1 BK174, zc0 BK175, zc1 BK175⟩ (fun hHeld => ?_)
  clear hK K
  refine zN ?_
  refine one_ (i := 3) (N := some 18) #[T,T,T,T,F,F] rfl rfl (by kernel_rfl) (by decide) (fun K hK => ?_)
  refine zgo Try.func5 #[.agg #[.int .i64 a1_0, .int .i64 a1_1]] ?_
  with_reducible refine (laws_toSkyCell.calls a1_0 a1_1 t185 t186 _ A7.out).mono ?_
  rintro e w125 ⟨rfl, hb⟩
  refine ⟨_, rfl, ?_⟩
  replace HO182 := zA (Kd.R_below (zr HO182) hb)
  replace BK174 := zb BK174 hb
  replace BK175 := zb BK175 hb
  replace HB := zE (zs2 HB GE174 GE175) hb
  (try clear hb)
  (try clear hb2)
  (try clear hk)
  (try clear hi)
  refine hK.out _ _ ⟨zc0 BK174, zc1 BK174, zc0 BK175, zc1 BK175⟩ (fun hHeld => ?_)
  clear hK K
  refine zN ?_
  refine one_ (i := 4) (N := some 19) #[T,T,T,T,T,F] rfl rfl (by kernel_rfl) (by decide) (fun K hK => ?_)
  refine zgo Try.func6 #[.agg #[.int .i64 t183, .int .i64 t184], .agg #[.int .i64 t185, .int .i64 t186]] ?_
  with_reducible refine (impl_SkyLeg.calls k t183 t184 t185 t186 t187 _ A8.out).mono ?_
  rintro e w126 ⟨v188, rfl, ho0, hb⟩
  refine ⟨_, rfl, ?_⟩
  have HO189 := zA (Kd.R_lower (Kd.R_new' ho0 (Kd.R_lt (zr HO182))) (below_size (zs2 HB GE174 GE175)))
  replace HO182 := zA (Kd.R_elder' (zr HO182) (Kd.R_base ho0) hb)
  replace BK174 := zb BK174 hb
  replace BK175 := zb BK175 hb
  replace HB := zE (zs2 HB GE174 GE175) hb
  (try clear hb)
  (try clear hb2)
  (try clear hk)
  (try clear hi)
  (try clear ho0)
  refine hK.out _ _ ⟨zc0 BK174, zc1 BK174, zc0 BK175, zc1 BK175⟩ (fun hHeld => ?_)
  clear hK K
  refine zN ?_
  refine zp 5 ?_
  refine done_ (by kernel_rfl) ?_
  obtain ⟨Ao127, co127, eo127⟩ := Kd.R_slice HO189.out
  subst eo127
  obtain ⟨Ao128, co128, eo128⟩ := Kd.R_slice HO182.out
  subst eo128
  try go_wp2_with (first | ((with_reducible refine gate_callee (f := 7) rfl ?_); refine zgl (N := some 22) Try.func7 #[.slice Ao127 t187.length co127, .slice Ao128 t180.length co128] ?_; (with_reducible refine (laws_eqSkyCellS.calls k _ _ t187 _ _ t180 true _ ?side1 ?side2 ?side3 ?side4 A9.out).mono ?_); (case side1 => repeat (first | exact (Kd.R_reads' HO189.out).2.2 | (with_reducible refine Kd.C_alloc ?_ _) | (with_reducible refine Kd.C_drewN ?_ _) | (with_reducible refine Kd.C_drew ?_))); (case side2 => exact (Kd.R_reads' HO189.out).2.1); (case side3 => repeat (first | exact (Kd.R_reads' HO182.out).2.2 | (with_reducible refine Kd.C_alloc ?_ _) | (with_reducible refine Kd.C_drewN ?_ _) | (with_reducible refine Kd.C_drew ?_))); (case side4 => exact (Kd.R_reads' HO182.out).2.1); rintro e w129 ⟨rfl, hb⟩; refine ⟨_, rfl, ?_⟩; replace HO182 := zA (Kd.R_below (zr HO182) hb); replace HO189 := zA (Kd.R_below (zr HO189) hb); replace BK174 := zb BK174 hb; replace BK175 := zb BK175 hb; replace HB := zE (zs2 HB GE174 GE175) hb; (try clear hb); (try clear hb2); (try clear hk); (try clear hi)) | ((with_reducible refine gate_callee (f := 8) rfl ?_); refine zgl (N := some 26) Try.func8 #[.slice Ao127 t187.length co127, .int .i64 1] ?_; (with_reducible refine (laws_markSkyCellS.calls k (fun k_ => some k_ = (.slice Ao127 t187.length co127 : Value).ownBlock) (.slice Ao127 t187.length co127) t187 1 t191 t192 w _ ?side1 ?side2 A11.out).mono ?_); (case side1 => repeat (first | (with_reducible first | exact HB.out | apply below_alloc | apply pw_below_drewN | apply below_drew1 | refine below_set ?_ GE174.out | refine below_set ?_ GE175.out) | exact HB.out)); (case side2 => exact Kd.R_tight rfl HO189.out); rintro e w130 ⟨rfl, hy0, hb, hkp⟩; refine ⟨_, rfl, ?_⟩; replace BK174 := zA (blk_kept (zh BK174) hkp (fun hs_ => (fun e_ => (Kd.R_ne HO189.out BK174.out (by decide)) e_) hs_)); replace BK175 := zA (blk_kept (zh BK175) hkp (fun hs_ => (fun e_ => (Kd.R_ne HO189.out BK175.out (by decide)) e_) hs_)); replace HO182 := zA (Kd.R_mono (ok' := fun k_ => some k_ ≠ (.slice Ao127 t187.length co127 : Value).ownBlock) (Kd.R_keptB (HO182.out) hkp (fun k_ hk_ hs_ => (hk_.2) hs_)) (fun k_ hk_ => hk_.1.2)); replace HO189 := zA (Kd.R_reok rfl hy0 (fun k_ e_ => HO189.out.1 k_ e_)); replace HB := zA (hb); (try clear hb); (try clear hkp); (try clear hy0)) | ((with_reducible refine gate_callee (f := 9) rfl ?_); refine goesL_ (some 29) rfl rfl Try.func9 (by kernel_rfl) rfl #[.slice Ao127 t192.length co127, .int .i64 1] rfl (by (try simp only [List.map_toArray, List.map_cons, List.map_nil]); first | done | (rw [show t192.length = t187.length from (Kd.R_reads' HO189.out).1.symm] <;> rfl) | rfl | (simp only [List.length_drop, List.length_take]; rfl)) ?_; (with_reducible refine (laws_heldSkyCellS.calls k _ _ t192 1 t193 _ ?side1 ?side2 A12.out).mono ?_); (case side1 => repeat (first | exact (Kd.R_reads' HO189.out).2.2 | (with_reducible refine Kd.C_alloc ?_ _) | (with_reducible refine Kd.C_drewN ?_ _) | (with_reducible refine Kd.C_drew ?_))); (case side2 => rw [show t192.length = t187.length from (Kd.R_reads' HO189.out).1.symm]; exact (Kd.R_reads' HO189.out).2.1); rintro e w' ⟨rfl, ⟨nd, rfl⟩⟩; refine ⟨_, rfl, ?_⟩))
  go_ret
  exact ⟨ze, zs2 HB GE174 GE175⟩
 rw [if_pos c28] at H
 have c28b0 : (t193 == t191) = true := beq_iff_eq.mpr c28
 have c28b1 : (t193 != t191) = false := bne_eq_false_iff_eq.mpr c28
 clear c28
 replace H := Option.bind_eq_some_iff.mp H
 obtain ⟨⟨t194, t195⟩, A290, H⟩ := H
 replace H : ((laws_toSkyCell.f a1_0 a1_1).bind fun bt196 => ((impl_SkyLeg.f k t194 t195 bt196.1 bt196.2).bind fun t198 => ((laws_eqSkyCellS.f k t198 t180).bind fun t201 => (if t201 = true then ((laws_heldSkyCellS.f k t192 1).bind fun t202 => (if t202 < 0 then (some false) else (if t202 = t191 then (some true) else (some false)))) else (some false))))) = some r := H
 have A29 := zA A290
 clear A290
 replace H := Option.bind_eq_some_iff.mp H
 obtain ⟨⟨t196, t197⟩, A300, H⟩ := H
 replace H : ((impl_SkyLeg.f k t194 t195 t196 t197).bind fun t198 => ((laws_eqSkyCellS.f k t198 t180).bind fun t201 => (if t201 = true then ((laws_heldSkyCellS.f k t192 1).bind fun t202 => (if t202 < 0 then (some false) else (if t202 = t191 then (some true) else (some false)))) else (some false)))) = some r := H
 have A30 := zA A300
 clear A300
 replace H := zbd H; obtain ⟨t198, A31, H⟩ := H
 replace H := Option.bind_eq_some_iff.mp H
 obtain ⟨t201, A320, H⟩ := H
 replace H : (if t201 = true then ((laws_heldSkyCellS.f k t192 1).bind fun t202 => (if t202 < 0 then (some false) else (if t202 = t191 then (some true) else (some false)))) else (some false)) = some r := H
 have A32 := zA A320
 clear A320
 by_cases c33 : t201 = true
 rotate_left
 ·replace c33 := Bool.eq_false_iff.mpr c33
  subst c33
  have H1 : (some false) = some r := by rw [if_neg (show ¬ (false = true) by decide)] at H; exact H
  clear H
  have H := H1
  clear H1
  obtain rfl := Option.some.inj H
  go_enter Try.func3, Try.ntmps3
  try go_wp2_with (first | ((with_reducible refine gate_dst (N := 2) rfl ?_); refine zbx 2 #[.int .i64 a0_0, .int .i64 a0_1] 23 ?_; intro gb174 hg w97 hbox hb; have BK174 := zA hbox; have GW174 := zgs hg (zs0 HB); have GE174 := zgs hg (zs0 HB); replace HB := zE (zs0 HB) hb; clear hb hbox hg) | ((with_reducible refine gate_dst (N := 3) rfl ?_); refine zbx 3 #[.int .i64 a1_0, .int .i64 a1_1] 23 ?_; intro gb175 hg w98 hbox hb; have BK175 := zA hbox; have GW175 := zgs hg (zs1 HB GE174); have GE175 := zgs hg (zs1 HB GE174); have NB174_175 := zne hg BK174; have NB175_174 := znf hg BK174; replace BK174 := zb BK174 hb; replace HB := zE (zs1 HB GE174) hb; clear hb hbox hg))
  replace BK174 := zA (blk_drew BK174.out)
  replace BK175 := zA (blk_drew BK175.out)
  replace HB := zA (below_drew1 HB.out)
  refine start_ (n := 6) (S := fun w' => w'.cell? ⟨gb174, 0, none⟩ = some (.int .i64 a0_0) ∧ w'.cell? ⟨gb174, 1, none⟩ = some (.int .i64 a0_1) ∧ w'.cell? ⟨gb175, 0, none⟩ = some (.int .i64 a1_0) ∧ w'.cell? ⟨gb175, 1, none⟩ = some (.int .i64 a1_1)) (ds := []) #[F,F,F,F,F,F] (by kernel_rfl) rfl rfl ⟨zc0 BK174, zc1 BK174, zc0 BK175, zc1 BK175⟩ (fun hHeld => ?_)
  generalize w98.drew = w99 at BK174 BK175 HB hHeld ⊢
  refine take_ (i := 0) (N := some 10) (v := ?_) (a' := ?_) #[T,F,F,F,F,F] rfl rfl (by kernel_rfl) (fun _ _ _ h => h) (Or.inl ⟨by rfl, ?_⟩) hHeld ?_ ?_; rotate_left; exact zt4; rotate_left; exact zput
  refine take_ (i := 2) (N := some 12) (v := ?_) (a' := ?_) #[T,F,T,F,F,F] rfl rfl (by kernel_rfl) (fun _ _ _ h => h) (Or.inl ⟨by rfl, ?_⟩) hHeld ?_ ?_; rotate_left; exact zt4; rotate_left; exact zput
  refine one_ (i := 1) (N := some 11) #[T,T,T,F,F,F] rfl rfl (by kernel_rfl) (by decide) (fun K hK => ?_)
  refine zgo Try.func5 #[.agg #[.int .i64 a0_0, .int .i64 a0_1]] ?_
  with_reducible refine (laws_toSkyCell.calls a0_0 a0_1 t176 t177 _ A3.out).mono ?_
  rintro e w100 ⟨rfl, hb⟩
  refine ⟨_, rfl, ?_⟩
  replace BK174 := zb BK174 hb
  replace BK175 := zb BK175 hb
  replace HB := zE (zs2 HB GE174 GE175) hb
  (try clear hb)
  (try clear hb2)
  (try clear hk)
  (try clear hi)
  refine hK.out _ _ ⟨zc0 BK174, zc1 BK174, zc0 BK175, zc1 BK175⟩ (fun hHeld => ?_)
  clear hK K
  refine zN ?_
  refine one_ (i := 3) (N := some 13) #[T,T,T,T,F,F] rfl rfl (by kernel_rfl) (by decide) (fun K hK => ?_)
  refine zgo Try.func5 #[.agg #[.int .i64 a1_0, .int .i64 a1_1]] ?_
  with_reducible refine (laws_toSkyCell.calls a1_0 a1_1 t178 t179 _ A4.out).mono ?_
  rintro e w101 ⟨rfl, hb⟩
  refine ⟨_, rfl, ?_⟩
  replace BK174 := zb BK174 hb
  replace BK175 := zb BK175 hb
  replace HB := zE (zs2 HB GE174 GE175) hb
  (try clear hb)
  (try clear hb2)
  (try clear hk)
  (try clear hi)
  refine hK.out _ _ ⟨zc0 BK174, zc1 BK174, zc0 BK175, zc1 BK175⟩ (fun hHeld => ?_)
  clear hK K
  refine zN ?_
  refine one_ (i := 4) (N := some 14) #[T,T,T,T,T,F] rfl rfl (by kernel_rfl) (by decide) (fun K hK => ?_)
  refine zgo Try.func4 #[.agg #[.int .i64 t176, .int .i64 t177], .agg #[.int .i64 t178, .int .i64 t179]] ?_
  with_reducible refine (spec_SkyLeg.calls k t176 t177 t178 t179 t180 _ A5.out).mono ?_
  rintro e w102 ⟨v181, rfl, ho0, hb⟩
  refine ⟨_, rfl, ?_⟩
  have HO182 := zA (Kd.R_lower ho0 (below_size (zs2 HB GE174 GE175)))
  replace BK174 := zb BK174 hb
  replace BK175 := zb BK175 hb
  replace HB := zE (zs2 HB GE174 GE175) hb
  (try clear hb)
  (try clear hb2)
  (try clear hk)
  (try clear hi)
  (try clear ho0)
  refine hK.out _ _ ⟨zc0 BK174, zc1 BK174, zc0 BK175, zc1 BK175⟩ (fun hHeld => ?_)
  clear hK K
  refine zN ?_
  refine zp 5 ?_
  refine done_ (by kernel_rfl) ?_
  try go_wp2
  replace HO182 := zA (Kd.R_drew HO182.out)
  replace BK174 := zA (blk_drew BK174.out)
  replace BK175 := zA (blk_drew BK175.out)
  replace HB := zA (below_drew1 HB.out)
  refine start_ (n := 6) (S := fun w' => w'.cell? ⟨gb174, 0, none⟩ = some (.int .i64 a0_0) ∧ w'.cell? ⟨gb174, 1, none⟩ = some (.int .i64 a0_1) ∧ w'.cell? ⟨gb175, 0, none⟩ = some (.int .i64 a1_0) ∧ w'.cell? ⟨gb175, 1, none⟩ = some (.int .i64 a1_1)) (ds := []) #[F,F,F,F,F,F] (by kernel_rfl) rfl rfl ⟨zc0 BK174, zc1 BK174, zc0 BK175, zc1 BK175⟩ (fun hHeld => ?_)
  generalize w102.drew = w103 at HO182 BK174 BK175 HB hHeld ⊢
  refine take_ (i := 0) (N := some 15) (v := ?_) (a' := ?_) #[T,F,F,F,F,F] rfl rfl (by kernel_rfl) (fun _ _ _ h => h) (Or.inl ⟨by rfl, ?_⟩) hHeld ?_ ?_; rotate_left; exact zt4; rotate_left; exact zput
  refine take_ (i := 2) (N := some 17) (v := ?_) (a' := ?_) #[T,F,T,F,F,F] rfl rfl (by kernel_rfl) (fun _ _ _ h => h) (Or.inl ⟨by rfl, ?_⟩) hHeld ?_ ?_; rotate_left; exact zt4; rotate_left; exact zput
  refine one_ (i := 1) (N := some 16) #[T,T,T,F,F,F] rfl rfl (by kernel_rfl) (by decide) (fun K hK => ?_)
  refine zgo Try.func5 #[.agg #[.int .i64 a0_0, .int .i64 a0_1]] ?_
  with_reducible refine (laws_toSkyCell.calls a0_0 a0_1 t183 t184 _ A6.out).mono ?_
  rintro e w104 ⟨rfl, hb⟩
  refine ⟨_, rfl, ?_⟩
  replace HO182 := zA (Kd.R_below (zr HO182) hb)
  replace BK174 := zb BK174 hb
  replace BK175 := zb BK175 hb
  replace HB := zE (zs2 HB GE174 GE175) hb
  (try clear hb)
  (try clear hb2)
  (try clear hk)
  (try clear hi)
  refine hK.out _ _ ⟨zc0 BK174, zc1 BK174, zc0 BK175, zc1 BK175⟩ (fun hHeld => ?_)
  clear hK K
  refine zN ?_
  refine one_ (i := 3) (N := some 18) #[T,T,T,T,F,F] rfl rfl (by kernel_rfl) (by decide) (fun K hK => ?_)
  refine zgo Try.func5 #[.agg #[.int .i64 a1_0, .int .i64 a1_1]] ?_
  with_reducible refine (laws_toSkyCell.calls a1_0 a1_1 t185 t186 _ A7.out).mono ?_
  rintro e w105 ⟨rfl, hb⟩
  refine ⟨_, rfl, ?_⟩
  replace HO182 := zA (Kd.R_below (zr HO182) hb)
  replace BK174 := zb BK174 hb
  replace BK175 := zb BK175 hb
  replace HB := zE (zs2 HB GE174 GE175) hb
  (try clear hb)
  (try clear hb2)
  (try clear hk)
  (try clear hi)
  refine hK.out _ _ ⟨zc0 BK174, zc1 BK174, zc0 BK175, zc1 BK175⟩ (fun hHeld => ?_)
  clear hK K
  refine zN ?_
  refine one_ (i := 4) (N := some 19) #[T,T,T,T,T,F] rfl rfl (by kernel_rfl) (by decide) (fun K hK => ?_)
  refine zgo Try.func6 #[.agg #[.int .i64 t183, .int .i64 t184], .agg #[.int .i64 t185, .int .i64 t186]] ?_
  with_reducible refine (impl_SkyLeg.calls k t183 t184 t185 t186 t187 _ A8.out).mono ?_
  rintro e w106 ⟨v188, rfl, ho0, hb⟩
  refine ⟨_, rfl, ?_⟩
  have HO189 := zA (Kd.R_lower (Kd.R_new' ho0 (Kd.R_lt (zr HO182))) (below_size (zs2 HB GE174 GE175)))
  replace HO182 := zA (Kd.R_elder' (zr HO182) (Kd.R_base ho0) hb)
  replace BK174 := zb BK174 hb
  replace BK175 := zb BK175 hb
  replace HB := zE (zs2 HB GE174 GE175) hb
  (try clear hb)
  (try clear hb2)
  (try clear hk)
  (try clear hi)
  (try clear ho0)
  refine hK.out _ _ ⟨zc0 BK174, zc1 BK174, zc0 BK175, zc1 BK175⟩ (fun hHeld => ?_)
  clear hK K
  refine zN ?_
  refine zp 5 ?_
  refine done_ (by kernel_rfl) ?_
  obtain ⟨Ao107, co107, eo107⟩ := Kd.R_slice HO189.out
  subst eo107
  obtain ⟨Ao108, co108, eo108⟩ := Kd.R_slice HO182.out
  subst eo108
  try go_wp2_with (first | ((with_reducible refine gate_callee (f := 7) rfl ?_); refine zgl (N := some 22) Try.func7 #[.slice Ao107 t187.length co107, .slice Ao108 t180.length co108] ?_; (with_reducible refine (laws_eqSkyCellS.calls k _ _ t187 _ _ t180 true _ ?side1 ?side2 ?side3 ?side4 A9.out).mono ?_); (case side1 => repeat (first | exact (Kd.R_reads' HO189.out).2.2 | (with_reducible refine Kd.C_alloc ?_ _) | (with_reducible refine Kd.C_drewN ?_ _) | (with_reducible refine Kd.C_drew ?_))); (case side2 => exact (Kd.R_reads' HO189.out).2.1); (case side3 => repeat (first | exact (Kd.R_reads' HO182.out).2.2 | (with_reducible refine Kd.C_alloc ?_ _) | (with_reducible refine Kd.C_drewN ?_ _) | (with_reducible refine Kd.C_drew ?_))); (case side4 => exact (Kd.R_reads' HO182.out).2.1); rintro e w109 ⟨rfl, hb⟩; refine ⟨_, rfl, ?_⟩; replace HO182 := zA (Kd.R_below (zr HO182) hb); replace HO189 := zA (Kd.R_below (zr HO189) hb); replace BK174 := zb BK174 hb; replace BK175 := zb BK175 hb; replace HB := zE (zs2 HB GE174 GE175) hb; (try clear hb); (try clear hb2); (try clear hk); (try clear hi)) | ((with_reducible refine gate_callee (f := 8) rfl ?_); refine zgl (N := some 26) Try.func8 #[.slice Ao107 t187.length co107, .int .i64 1] ?_; (with_reducible refine (laws_markSkyCellS.calls k (fun k_ => some k_ = (.slice Ao107 t187.length co107 : Value).ownBlock) (.slice Ao107 t187.length co107) t187 1 t191 t192 w _ ?side1 ?side2 A11.out).mono ?_); (case side1 => repeat (first | (with_reducible first | exact HB.out | apply below_alloc | apply pw_below_drewN | apply below_drew1 | refine below_set ?_ GE174.out | refine below_set ?_ GE175.out) | exact HB.out)); (case side2 => exact Kd.R_tight rfl HO189.out); rintro e w110 ⟨rfl, hy0, hb, hkp⟩; refine ⟨_, rfl, ?_⟩; replace BK174 := zA (blk_kept (zh BK174) hkp (fun hs_ => (fun e_ => (Kd.R_ne HO189.out BK174.out (by decide)) e_) hs_)); replace BK175 := zA (blk_kept (zh BK175) hkp (fun hs_ => (fun e_ => (Kd.R_ne HO189.out BK175.out (by decide)) e_) hs_)); replace HO182 := zA (Kd.R_mono (ok' := fun k_ => some k_ ≠ (.slice Ao107 t187.length co107 : Value).ownBlock) (Kd.R_keptB (HO182.out) hkp (fun k_ hk_ hs_ => (hk_.2) hs_)) (fun k_ hk_ => hk_.1.2)); replace HO189 := zA (Kd.R_reok rfl hy0 (fun k_ e_ => HO189.out.1 k_ e_)); replace HB := zA (hb); (try clear hb); (try clear hkp); (try clear hy0)) | ((with_reducible refine gate_callee (f := 9) rfl ?_); refine goesL_ (some 29) rfl rfl Try.func9 (by kernel_rfl) rfl #[.slice Ao107 t192.length co107, .int .i64 1] rfl (by (try simp only [List.map_toArray, List.map_cons, List.map_nil]); first | done | (rw [show t192.length = t187.length from (Kd.R_reads' HO189.out).1.symm] <;> rfl) | rfl | (simp only [List.length_drop, List.length_take]; rfl)) ?_; (with_reducible refine (laws_heldSkyCellS.calls k _ _ t192 1 t193 _ ?side1 ?side2 A12.out).mono ?_); (case side1 => repeat (first | exact (Kd.R_reads' HO189.out).2.2 | (with_reducible refine Kd.C_alloc ?_ _) | (with_reducible refine Kd.C_drewN ?_ _) | (with_reducible refine Kd.C_drew ?_))); (case side2 => rw [show t192.length = t187.length from (Kd.R_reads' HO189.out).1.symm]; exact (Kd.R_reads' HO189.out).2.1); rintro e w' ⟨rfl, ⟨nd, rfl⟩⟩; refine ⟨_, rfl, ?_⟩))
  (try (rw [drewN_self w110]; generalize hq_ : World.drewN w110 _ = w110; replace HO182 : Aside0 (Kd.R k26 26 w110 w.heap.size (fun k_ => some k_ ≠ (.slice Ao107 t187.length co107 : Value).ownBlock) (.slice Ao108 t180.length co108) t180) := ⟨by rw [← hq_]; exact (zr HO182)⟩; replace HO189 : Aside0 (Kd.R k26 26 w110 w.heap.size (fun k_ => some k_ ≠ (.slice Ao108 t180.length co108 : Value).ownBlock) (.slice Ao107 t187.length co107) t192) := ⟨by rw [← hq_]; exact (by (with_reducible repeat (first | apply Kd.R_alloc | apply Kd.R_drewN | apply Kd.R_drew)); exact Kd.R_mono HO189.out (fun _ hk => hk.2))⟩; replace BK174 : Aside0 (w110.heap[gb174]? = some (.cells #[.int .i64 a0_0, .int .i64 a0_1] 23 (0, 0))) := ⟨by rw [← hq_]; exact (zh BK174)⟩; replace BK175 : Aside0 (w110.heap[gb175]? = some (.cells #[.int .i64 a1_0, .int .i64 a1_1] 23 (0, 0))) := ⟨by rw [← hq_]; exact (zh BK175)⟩; replace HB : Aside0 (Below w.heap.size w w110) := ⟨by rw [← hq_]; exact (zs2 HB GE174 GE175)⟩; clear hq_))
  replace HO182 := zA (Kd.R_drew HO182.out)
  replace HO189 := zA (Kd.R_drew HO189.out)
  replace BK174 := zA (blk_drew BK174.out)
  replace BK175 := zA (blk_drew BK175.out)
  replace HB := zA (below_drew1 HB.out)
  refine start_ (n := 6) (S := fun w' => w'.cell? ⟨gb174, 0, none⟩ = some (.int .i64 a0_0) ∧ w'.cell? ⟨gb174, 1, none⟩ = some (.int .i64 a0_1) ∧ w'.cell? ⟨gb175, 0, none⟩ = some (.int .i64 a1_0) ∧ w'.cell? ⟨gb175, 1, none⟩ = some (.int .i64 a1_1)) (ds := []) #[F,F,F,F,F,F] (by kernel_rfl) rfl rfl ⟨zc0 BK174, zc1 BK174, zc0 BK175, zc1 BK175⟩ (fun hHeld => ?_)
  generalize w110.drew = w111 at HO182 HO189 BK174 BK175 HB hHeld ⊢
  refine take_ (i := 0) (N := some 35) (v := ?_) (a' := ?_) #[T,F,F,F,F,F] rfl rfl (by kernel_rfl) (fun _ _ _ h => h) (Or.inl ⟨by rfl, ?_⟩) hHeld ?_ ?_; rotate_left; exact zt4; rotate_left; exact zput
  refine take_ (i := 2) (N := some 37) (v := ?_) (a' := ?_) #[T,F,T,F,F,F] rfl rfl (by kernel_rfl) (fun _ _ _ h => h) (Or.inl ⟨by rfl, ?_⟩) hHeld ?_ ?_; rotate_left; exact zt4; rotate_left; exact zput
  refine one_ (i := 1) (N := some 36) #[T,T,T,F,F,F] rfl rfl (by kernel_rfl) (by decide) (fun K hK => ?_)
  refine zgo Try.func5 #[.agg #[.int .i64 a0_0, .int .i64 a0_1]] ?_
  with_reducible refine (laws_toSkyCell.calls a0_0 a0_1 t194 t195 _ A29.out).mono ?_
  rintro e w112 ⟨rfl, hb⟩
  refine ⟨_, rfl, ?_⟩
  replace HO182 := zA (Kd.R_below (zr HO182) hb)
  replace HO189 := zA (Kd.R_below (zr HO189) hb)
  replace BK174 := zb BK174 hb
  replace BK175 := zb BK175 hb
  replace HB := zE (zs2 HB GE174 GE175) hb
  (try clear hb)
  (try clear hb2)
  (try clear hk)
  (try clear hi)
  refine hK.out _ _ ⟨zc0 BK174, zc1 BK174, zc0 BK175, zc1 BK175⟩ (fun hHeld => ?_)
  clear hK K
  refine zN ?_
  refine one_ (i := 3) (N := some 38) #[T,T,T,T,F,F] rfl rfl (by kernel_rfl) (by decide) (fun K hK => ?_)
  refine zgo Try.func5 #[.agg #[.int .i64 a1_0, .int .i64 a1_1]] ?_
  with_reducible refine (laws_toSkyCell.calls a1_0 a1_1 t196 t197 _ A30.out).mono ?_
  rintro e w113 ⟨rfl, hb⟩
  refine ⟨_, rfl, ?_⟩
  replace HO182 := zA (Kd.R_below (zr HO182) hb)
  replace HO189 := zA (Kd.R_below (zr HO189) hb)
  replace BK174 := zb BK174 hb
  replace BK175 := zb BK175 hb
  replace HB := zE (zs2 HB GE174 GE175) hb
  (try clear hb)
  (try clear hb2)
  (try clear hk)
  (try clear hi)
  refine hK.out _ _ ⟨zc0 BK174, zc1 BK174, zc0 BK175, zc1 BK175⟩ (fun hHeld => ?_)
  clear hK K
  refine zN ?_
  refine one_ (i := 4) (N := some 39) #[T,T,T,T,T,F] rfl rfl (by kernel_rfl) (by decide) (fun K hK => ?_)
  refine zgo Try.func6 #[.agg #[.int .i64 t194, .int .i64 t195], .agg #[.int .i64 t196, .int .i64 t197]] ?_
  with_reducible refine (impl_SkyLeg.calls k t194 t195 t196 t197 t198 _ A31.out).mono ?_
  rintro e w114 ⟨v199, rfl, ho0, hb⟩
  refine ⟨_, rfl, ?_⟩
  have HO200 := zA (Kd.R_lower (Kd.R_new' (Kd.R_new' ho0 (Kd.R_lt (zr HO182))) (Kd.R_lt (zr HO189))) (below_size (zs2 HB GE174 GE175)))
  replace HO182 := zA (Kd.R_elder' (zr HO182) (Kd.R_base ho0) hb)
  replace HO189 := zA (Kd.R_elder' (zr HO189) (Kd.R_base ho0) hb)
  replace BK174 := zb BK174 hb
  replace BK175 := zb BK175 hb
  replace HB := zE (zs2 HB GE174 GE175) hb
  (try clear hb)
  (try clear hb2)
  (try clear hk)
  (try clear hi)
  (try clear ho0)
  refine hK.out _ _ ⟨zc0 BK174, zc1 BK174, zc0 BK175, zc1 BK175⟩ (fun hHeld => ?_)
  clear hK K
  refine zN ?_
  refine zp 5 ?_
  refine done_ (by kernel_rfl) ?_
  obtain ⟨Ao115, co115, eo115⟩ := Kd.R_slice HO200.out
  subst eo115
  try go_wp2_with (first | ((with_reducible refine gate_callee (f := 7) rfl ?_); refine zgl (N := some 42) Try.func7 #[.slice Ao115 t198.length co115, .slice Ao108 t180.length co108] ?_; (with_reducible refine (laws_eqSkyCellS.calls k _ _ t198 _ _ t180 false _ ?side1 ?side2 ?side3 ?side4 A32.out).mono ?_); (case side1 => repeat (first | exact (Kd.R_reads' HO200.out).2.2 | (with_reducible refine Kd.C_alloc ?_ _) | (with_reducible refine Kd.C_drewN ?_ _) | (with_reducible refine Kd.C_drew ?_))); (case side2 => exact (Kd.R_reads' HO200.out).2.1); (case side3 => repeat (first | exact (Kd.R_reads' HO182.out).2.2 | (with_reducible refine Kd.C_alloc ?_ _) | (with_reducible refine Kd.C_drewN ?_ _) | (with_reducible refine Kd.C_drew ?_))); (case side4 => exact (Kd.R_reads' HO182.out).2.1); rintro e w116 ⟨rfl, hb⟩; refine ⟨_, rfl, ?_⟩; replace HO182 := zA (Kd.R_below (zr HO182) hb); replace HO189 := zA (Kd.R_below (zr HO189) hb); replace HO200 := zA (Kd.R_below (zr HO200) hb); replace BK174 := zb BK174 hb; replace BK175 := zb BK175 hb; replace HB := zE (zs2 HB GE174 GE175) hb; (try clear hb); (try clear hb2); (try clear hk); (try clear hi)))
  go_ret
  exact ⟨ze, zs2 HB GE174 GE175⟩
 subst c33
 have H1 : ((laws_heldSkyCellS.f k t192 1).bind fun t202 => (if t202 < 0 then (some false) else (if t202 = t191 then (some true) else (some false)))) = some r := by rw [if_pos rfl] at H; exact H
 clear H
 have H := H1
 clear H1
 replace H := zbd H; obtain ⟨t202, A34, H⟩ := H
 by_cases c35 : t202 < 0
 ·rw [if_pos c35] at H
  have c35b0 : decide (t202 < 0) = true := decide_eq_true c35
  clear c35
  obtain rfl := Option.some.inj H
  go_enter Try.func3, Try.ntmps3
  try go_wp2_with (first | ((with_reducible refine gate_dst (N := 2) rfl ?_); refine zbx 2 #[.int .i64 a0_0, .int .i64 a0_1] 23 ?_; intro gb174 hg w36 hbox hb; have BK174 := zA hbox; have GW174 := zgs hg (zs0 HB); have GE174 := zgs hg (zs0 HB); replace HB := zE (zs0 HB) hb; clear hb hbox hg) | ((with_reducible refine gate_dst (N := 3) rfl ?_); refine zbx 3 #[.int .i64 a1_0, .int .i64 a1_1] 23 ?_; intro gb175 hg w37 hbox hb; have BK175 := zA hbox; have GW175 := zgs hg (zs1 HB GE174); have GE175 := zgs hg (zs1 HB GE174); have NB174_175 := zne hg BK174; have NB175_174 := znf hg BK174; replace BK174 := zb BK174 hb; replace HB := zE (zs1 HB GE174) hb; clear hb hbox hg))
  replace BK174 := zA (blk_drew BK174.out)
  replace BK175 := zA (blk_drew BK175.out)
  replace HB := zA (below_drew1 HB.out)
  refine start_ (n := 6) (S := fun w' => w'.cell? ⟨gb174, 0, none⟩ = some (.int .i64 a0_0) ∧ w'.cell? ⟨gb174, 1, none⟩ = some (.int .i64 a0_1) ∧ w'.cell? ⟨gb175, 0, none⟩ = some (.int .i64 a1_0) ∧ w'.cell? ⟨gb175, 1, none⟩ = some (.int .i64 a1_1)) (ds := []) #[F,F,F,F,F,F] (by kernel_rfl) rfl rfl ⟨zc0 BK174, zc1 BK174, zc0 BK175, zc1 BK175⟩ (fun hHeld => ?_)
  generalize w37.drew = w38 at BK174 BK175 HB hHeld ⊢
  refine take_ (i := 0) (N := some 10) (v := ?_) (a' := ?_) #[T,F,F,F,F,F] rfl rfl (by kernel_rfl) (fun _ _ _ h => h) (Or.inl ⟨by rfl, ?_⟩) hHeld ?_ ?_; rotate_left; exact zt4; rotate_left; exact zput
  refine take_ (i := 2) (N := some 12) (v := ?_) (a' := ?_) #[T,F,T,F,F,F] rfl rfl (by kernel_rfl) (fun _ _ _ h => h) (Or.inl ⟨by rfl, ?_⟩) hHeld ?_ ?_; rotate_left; exact zt4; rotate_left; exact zput
  refine one_ (i := 1) (N := some 11) #[T,T,T,F,F,F] rfl rfl (by kernel_rfl) (by decide) (fun K hK => ?_)
  refine zgo Try.func5 #[.agg #[.int .i64 a0_0, .int .i64 a0_1]] ?_
  with_reducible refine (laws_toSkyCell.calls a0_0 a0_1 t176 t177 _ A3.out).mono ?_
  rintro e w39 ⟨rfl, hb⟩
  refine ⟨_, rfl, ?_⟩
  replace BK174 := zb BK174 hb
  replace BK175 := zb BK175 hb
  replace HB := zE (zs2 HB GE174 GE175) hb
  (try clear hb)
  (try clear hb2)
  (try clear hk)
  (try clear hi)
  refine hK.out _ _ ⟨zc0 BK174, zc1 BK174, zc0 BK175, zc1 BK175⟩ (fun hHeld => ?_)
  clear hK K
  refine zN ?_
  refine one_ (i := 3) (N := some 13) #[T,T,T,T,F,F] rfl rfl (by kernel_rfl) (by decide) (fun K hK => ?_)
  refine zgo Try.func5 #[.agg #[.int .i64 a1_0, .int .i64 a1_1]] ?_
  with_reducible refine (laws_toSkyCell.calls a1_0 a1_1 t178 t179 _ A4.out).mono ?_
  rintro e w40 ⟨rfl, hb⟩
  refine ⟨_, rfl, ?_⟩
  replace BK174 := zb BK174 hb
  replace BK175 := zb BK175 hb
  replace HB := zE (zs2 HB GE174 GE175) hb
  (try clear hb)
  (try clear hb2)
  (try clear hk)
  (try clear hi)
  refine hK.out _ _ ⟨zc0 BK174, zc1 BK174, zc0 BK175, zc1 BK175⟩ (fun hHeld => ?_)
  clear hK K
  refine zN ?_
  refine one_ (i := 4) (N := some 14) #[T,T,T,T,T,F] rfl rfl (by kernel_rfl) (by decide) (fun K hK => ?_)
  refine zgo Try.func4 #[.agg #[.int .i64 t176, .int .i64 t177], .agg #[.int .i64 t178, .int .i64 t179]] ?_
  with_reducible refine (spec_SkyLeg.calls k t176 t177 t178 t179 t180 _ A5.out).mono ?_
  rintro e w41 ⟨v181, rfl, ho0, hb⟩
  refine ⟨_, rfl, ?_⟩
  have HO182 := zA (Kd.R_lower ho0 (below_size (zs2 HB GE174 GE175)))
  replace BK174 := zb BK174 hb
  replace BK175 := zb BK175 hb
  replace HB := zE (zs2 HB GE174 GE175) hb
  (try clear hb)
  (try clear hb2)
  (try clear hk)
  (try clear hi)
  (try clear ho0)
  refine hK.out _ _ ⟨zc0 BK174, zc1 BK174, zc0 BK175, zc1 BK175⟩ (fun hHeld => ?_)
  clear hK K
  refine zN ?_
  refine zp 5 ?_
  refine done_ (by kernel_rfl) ?_
  try go_wp2
  replace HO182 := zA (Kd.R_drew HO182.out)
  replace BK174 := zA (blk_drew BK174.out)
  replace BK175 := zA (blk_drew BK175.out)
  replace HB := zA (below_drew1 HB.out)
  refine start_ (n := 6) (S := fun w' => w'.cell? ⟨gb174, 0, none⟩ = some (.int .i64 a0_0) ∧ w'.cell? ⟨gb174, 1, none⟩ = some (.int .i64 a0_1) ∧ w'.cell? ⟨gb175, 0, none⟩ = some (.int .i64 a1_0) ∧ w'.cell? ⟨gb175, 1, none⟩ = some (.int .i64 a1_1)) (ds := []) #[F,F,F,F,F,F] (by kernel_rfl) rfl rfl ⟨zc0 BK174, zc1 BK174, zc0 BK175, zc1 BK175⟩ (fun hHeld => ?_)
  generalize w41.drew = w42 at HO182 BK174 BK175 HB hHeld ⊢
  refine take_ (i := 0) (N := some 15) (v := ?_) (a' := ?_) #[T,F,F,F,F,F] rfl rfl (by kernel_rfl) (fun _ _ _ h => h) (Or.inl ⟨by rfl, ?_⟩) hHeld ?_ ?_; rotate_left; exact zt4; rotate_left; exact zput
  refine take_ (i := 2) (N := some 17) (v := ?_) (a' := ?_) #[T,F,T,F,F,F] rfl rfl (by kernel_rfl) (fun _ _ _ h => h) (Or.inl ⟨by rfl, ?_⟩) hHeld ?_ ?_; rotate_left; exact zt4; rotate_left; exact zput
  refine one_ (i := 1) (N := some 16) #[T,T,T,F,F,F] rfl rfl (by kernel_rfl) (by decide) (fun K hK => ?_)
  refine zgo Try.func5 #[.agg #[.int .i64 a0_0, .int .i64 a0_1]] ?_
  with_reducible refine (laws_toSkyCell.calls a0_0 a0_1 t183 t184 _ A6.out).mono ?_
  rintro e w43 ⟨rfl, hb⟩
  refine ⟨_, rfl, ?_⟩
  replace HO182 := zA (Kd.R_below (zr HO182) hb)
  replace BK174 := zb BK174 hb
  replace BK175 := zb BK175 hb
  replace HB := zE (zs2 HB GE174 GE175) hb
  (try clear hb)
  (try clear hb2)
  (try clear hk)
  (try clear hi)
  refine hK.out _ _ ⟨zc0 BK174, zc1 BK174, zc0 BK175, zc1 BK175⟩ (fun hHeld => ?_)
  clear hK K
  refine zN ?_
  refine one_ (i := 3) (N := some 18) #[T,T,T,T,F,F] rfl rfl (by kernel_rfl) (by decide) (fun K hK => ?_)
  refine zgo Try.func5 #[.agg #[.int .i64 a1_0, .int .i64 a1_1]] ?_
  with_reducible refine (laws_toSkyCell.calls a1_0 a1_1 t185 t186 _ A7.out).mono ?_
  rintro e w44 ⟨rfl, hb⟩
  refine ⟨_, rfl, ?_⟩
  replace HO182 := zA (Kd.R_below (zr HO182) hb)
  replace BK174 := zb BK174 hb
  replace BK175 := zb BK175 hb
  replace HB := zE (zs2 HB GE174 GE175) hb
  (try clear hb)
  (try clear hb2)
  (try clear hk)
  (try clear hi)
  refine hK.out _ _ ⟨zc0 BK174, zc1 BK174, zc0 BK175, zc1 BK175⟩ (fun hHeld => ?_)
  clear hK K
  refine zN ?_
  refine one_ (i := 4) (N := some 19) #[T,T,T,T,T,F] rfl rfl (by kernel_rfl) (by decide) (fun K hK => ?_)
  refine zgo Try.func6 #[.agg #[.int .i64 t183, .int .i64 t184], .agg #[.int .i64 t185, .int .i64 t186]] ?_
  with_reducible refine (impl_SkyLeg.calls k t183 t184 t185 t186 t187 _ A8.out).mono ?_
  rintro e w45 ⟨v188, rfl, ho0, hb⟩
  refine ⟨_, rfl, ?_⟩
  have HO189 := zA (Kd.R_lower (Kd.R_new' ho0 (Kd.R_lt (zr HO182))) (below_size (zs2 HB GE174 GE175)))
  replace HO182 := zA (Kd.R_elder' (zr HO182) (Kd.R_base ho0) hb)
  replace BK174 := zb BK174 hb
  replace BK175 := zb BK175 hb
  replace HB := zE (zs2 HB GE174 GE175) hb
  (try clear hb)
  (try clear hb2)
  (try clear hk)
  (try clear hi)
  (try clear ho0)
  refine hK.out _ _ ⟨zc0 BK174, zc1 BK174, zc0 BK175, zc1 BK175⟩ (fun hHeld => ?_)
  clear hK K
  refine zN ?_
  refine zp 5 ?_
  refine done_ (by kernel_rfl) ?_
  obtain ⟨Ao46, co46, eo46⟩ := Kd.R_slice HO189.out
  subst eo46
  obtain ⟨Ao47, co47, eo47⟩ := Kd.R_slice HO182.out
  subst eo47
  try go_wp2_with (first | ((with_reducible refine gate_callee (f := 7) rfl ?_); refine zgl (N := some 22) Try.func7 #[.slice Ao46 t187.length co46, .slice Ao47 t180.length co47] ?_; (with_reducible refine (laws_eqSkyCellS.calls k _ _ t187 _ _ t180 true _ ?side1 ?side2 ?side3 ?side4 A9.out).mono ?_); (case side1 => repeat (first | exact (Kd.R_reads' HO189.out).2.2 | (with_reducible refine Kd.C_alloc ?_ _) | (with_reducible refine Kd.C_drewN ?_ _) | (with_reducible refine Kd.C_drew ?_))); (case side2 => exact (Kd.R_reads' HO189.out).2.1); (case side3 => repeat (first | exact (Kd.R_reads' HO182.out).2.2 | (with_reducible refine Kd.C_alloc ?_ _) | (with_reducible refine Kd.C_drewN ?_ _) | (with_reducible refine Kd.C_drew ?_))); (case side4 => exact (Kd.R_reads' HO182.out).2.1); rintro e w48 ⟨rfl, hb⟩; refine ⟨_, rfl, ?_⟩; replace HO182 := zA (Kd.R_below (zr HO182) hb); replace HO189 := zA (Kd.R_below (zr HO189) hb); replace BK174 := zb BK174 hb; replace BK175 := zb BK175 hb; replace HB := zE (zs2 HB GE174 GE175) hb; (try clear hb); (try clear hb2); (try clear hk); (try clear hi)) | ((with_reducible refine gate_callee (f := 8) rfl ?_); refine zgl (N := some 26) Try.func8 #[.slice Ao46 t187.length co46, .int .i64 1] ?_; (with_reducible refine (laws_markSkyCellS.calls k (fun k_ => some k_ = (.slice Ao46 t187.length co46 : Value).ownBlock) (.slice Ao46 t187.length co46) t187 1 t191 t192 w _ ?side1 ?side2 A11.out).mono ?_); (case side1 => repeat (first | (with_reducible first | exact HB.out | apply below_alloc | apply pw_below_drewN | apply below_drew1 | refine below_set ?_ GE174.out | refine below_set ?_ GE175.out) | exact HB.out)); (case side2 => exact Kd.R_tight rfl HO189.out); rintro e w49 ⟨rfl, hy0, hb, hkp⟩; refine ⟨_, rfl, ?_⟩; replace BK174 := zA (blk_kept (zh BK174) hkp (fun hs_ => (fun e_ => (Kd.R_ne HO189.out BK174.out (by decide)) e_) hs_)); replace BK175 := zA (blk_kept (zh BK175) hkp (fun hs_ => (fun e_ => (Kd.R_ne HO189.out BK175.out (by decide)) e_) hs_)); replace HO182 := zA (Kd.R_mono (ok' := fun k_ => some k_ ≠ (.slice Ao46 t187.length co46 : Value).ownBlock) (Kd.R_keptB (HO182.out) hkp (fun k_ hk_ hs_ => (hk_.2) hs_)) (fun k_ hk_ => hk_.1.2)); replace HO189 := zA (Kd.R_reok rfl hy0 (fun k_ e_ => HO189.out.1 k_ e_)); replace HB := zA (hb); (try clear hb); (try clear hkp); (try clear hy0)) | ((with_reducible refine gate_callee (f := 9) rfl ?_); refine goesL_ (some 29) rfl rfl Try.func9 (by kernel_rfl) rfl #[.slice Ao46 t192.length co46, .int .i64 1] rfl (by (try simp only [List.map_toArray, List.map_cons, List.map_nil]); first | done | (rw [show t192.length = t187.length from (Kd.R_reads' HO189.out).1.symm] <;> rfl) | rfl | (simp only [List.length_drop, List.length_take]; rfl)) ?_; (with_reducible refine (laws_heldSkyCellS.calls k _ _ t192 1 t193 _ ?side1 ?side2 A12.out).mono ?_); (case side1 => repeat (first | exact (Kd.R_reads' HO189.out).2.2 | (with_reducible refine Kd.C_alloc ?_ _) | (with_reducible refine Kd.C_drewN ?_ _) | (with_reducible refine Kd.C_drew ?_))); (case side2 => rw [show t192.length = t187.length from (Kd.R_reads' HO189.out).1.symm]; exact (Kd.R_reads' HO189.out).2.1); rintro e w' ⟨rfl, ⟨nd, rfl⟩⟩; refine ⟨_, rfl, ?_⟩))
  (try (rw [drewN_self w49]; generalize hq_ : World.drewN w49 _ = w49; replace HO182 : Aside0 (Kd.R k26 26 w49 w.heap.size (fun k_ => some k_ ≠ (.slice Ao46 t187.length co46 : Value).ownBlock) (.slice Ao47 t180.length co47) t180) := ⟨by rw [← hq_]; exact (zr HO182)⟩; replace HO189 : Aside0 (Kd.R k26 26 w49 w.heap.size (fun k_ => some k_ ≠ (.slice Ao47 t180.length co47 : Value).ownBlock) (.slice Ao46 t187.length co46) t192) := ⟨by rw [← hq_]; exact (by (with_reducible repeat (first | apply Kd.R_alloc | apply Kd.R_drewN | apply Kd.R_drew)); exact Kd.R_mono HO189.out (fun _ hk => hk.2))⟩; replace BK174 : Aside0 (w49.heap[gb174]? = some (.cells #[.int .i64 a0_0, .int .i64 a0_1] 23 (0, 0))) := ⟨by rw [← hq_]; exact (zh BK174)⟩; replace BK175 : Aside0 (w49.heap[gb175]? = some (.cells #[.int .i64 a1_0, .int .i64 a1_1] 23 (0, 0))) := ⟨by rw [← hq_]; exact (zh BK175)⟩; replace HB : Aside0 (Below w.heap.size w w49) := ⟨by rw [← hq_]; exact (zs2 HB GE174 GE175)⟩; clear hq_))
  replace HO182 := zA (Kd.R_drew HO182.out)
  replace HO189 := zA (Kd.R_drew HO189.out)
  replace BK174 := zA (blk_drew BK174.out)
  replace BK175 := zA (blk_drew BK175.out)
  replace HB := zA (below_drew1 HB.out)
  refine start_ (n := 6) (S := fun w' => w'.cell? ⟨gb174, 0, none⟩ = some (.int .i64 a0_0) ∧ w'.cell? ⟨gb174, 1, none⟩ = some (.int .i64 a0_1) ∧ w'.cell? ⟨gb175, 0, none⟩ = some (.int .i64 a1_0) ∧ w'.cell? ⟨gb175, 1, none⟩ = some (.int .i64 a1_1)) (ds := []) #[F,F,F,F,F,F] (by kernel_rfl) rfl rfl ⟨zc0 BK174, zc1 BK174, zc0 BK175, zc1 BK175⟩ (fun hHeld => ?_)
  generalize w49.drew = w50 at HO182 HO189 BK174 BK175 HB hHeld ⊢
  refine take_ (i := 0) (N := some 35) (v := ?_) (a' := ?_) #[T,F,F,F,F,F] rfl rfl (by kernel_rfl) (fun _ _ _ h => h) (Or.inl ⟨by rfl, ?_⟩) hHeld ?_ ?_; rotate_left; exact zt4; rotate_left; exact zput
  refine take_ (i := 2) (N := some 37) (v := ?_) (a' := ?_) #[T,F,T,F,F,F] rfl rfl (by kernel_rfl) (fun _ _ _ h => h) (Or.inl ⟨by rfl, ?_⟩) hHeld ?_ ?_; rotate_left; exact zt4; rotate_left; exact zput
  refine one_ (i := 1) (N := some 36) #[T,T,T,F,F,F] rfl rfl (by kernel_rfl) (by decide) (fun K hK => ?_)
  refine zgo Try.func5 #[.agg #[.int .i64 a0_0, .int .i64 a0_1]] ?_
  with_reducible refine (laws_toSkyCell.calls a0_0 a0_1 t194 t195 _ A29.out).mono ?_
  rintro e w51 ⟨rfl, hb⟩
  refine ⟨_, rfl, ?_⟩
  replace HO182 := zA (Kd.R_below (zr HO182) hb)
  replace HO189 := zA (Kd.R_below (zr HO189) hb)
  replace BK174 := zb BK174 hb
  replace BK175 := zb BK175 hb
  replace HB := zE (zs2 HB GE174 GE175) hb
  (try clear hb)
  (try clear hb2)
  (try clear hk)
  (try clear hi)
  refine hK.out _ _ ⟨zc0 BK174, zc1 BK174, zc0 BK175, zc1 BK175⟩ (fun hHeld => ?_)
  clear hK K
  refine zN ?_
  refine one_ (i := 3) (N := some 38) #[T,T,T,T,F,F] rfl rfl (by kernel_rfl) (by decide) (fun K hK => ?_)
  refine zgo Try.func5 #[.agg #[.int .i64 a1_0, .int .i64 a1_1]] ?_
  with_reducible refine (laws_toSkyCell.calls a1_0 a1_1 t196 t197 _ A30.out).mono ?_
  rintro e w52 ⟨rfl, hb⟩
  refine ⟨_, rfl, ?_⟩
  replace HO182 := zA (Kd.R_below (zr HO182) hb)
  replace HO189 := zA (Kd.R_below (zr HO189) hb)
  replace BK174 := zb BK174 hb
  replace BK175 := zb BK175 hb
  replace HB := zE (zs2 HB GE174 GE175) hb
  (try clear hb)
  (try clear hb2)
  (try clear hk)
  (try clear hi)
  refine hK.out _ _ ⟨zc0 BK174, zc1 BK174, zc0 BK175, zc1 BK175⟩ (fun hHeld => ?_)
  clear hK K
  refine zN ?_
  refine one_ (i := 4) (N := some 39) #[T,T,T,T,T,F] rfl rfl (by kernel_rfl) (by decide) (fun K hK => ?_)
  refine zgo Try.func6 #[.agg #[.int .i64 t194, .int .i64 t195], .agg #[.int .i64 t196, .int .i64 t197]] ?_
  with_reducible refine (impl_SkyLeg.calls k t194 t195 t196 t197 t198 _ A31.out).mono ?_
  rintro e w53 ⟨v199, rfl, ho0, hb⟩
  refine ⟨_, rfl, ?_⟩
  have HO200 := zA (Kd.R_lower (Kd.R_new' (Kd.R_new' ho0 (Kd.R_lt (zr HO182))) (Kd.R_lt (zr HO189))) (below_size (zs2 HB GE174 GE175)))
  replace HO182 := zA (Kd.R_elder' (zr HO182) (Kd.R_base ho0) hb)
  replace HO189 := zA (Kd.R_elder' (zr HO189) (Kd.R_base ho0) hb)
  replace BK174 := zb BK174 hb
  replace BK175 := zb BK175 hb
  replace HB := zE (zs2 HB GE174 GE175) hb
  (try clear hb)
  (try clear hb2)
  (try clear hk)
  (try clear hi)
  (try clear ho0)
  refine hK.out _ _ ⟨zc0 BK174, zc1 BK174, zc0 BK175, zc1 BK175⟩ (fun hHeld => ?_)
  clear hK K
  refine zN ?_
  refine zp 5 ?_
  refine done_ (by kernel_rfl) ?_
  obtain ⟨Ao54, co54, eo54⟩ := Kd.R_slice HO200.out
  subst eo54
  try go_wp2_with (first | ((with_reducible refine gate_callee (f := 7) rfl ?_); refine zgl (N := some 42) Try.func7 #[.slice Ao54 t198.length co54, .slice Ao47 t180.length co47] ?_; (with_reducible refine (laws_eqSkyCellS.calls k _ _ t198 _ _ t180 true _ ?side1 ?side2 ?side3 ?side4 A32.out).mono ?_); (case side1 => repeat (first | exact (Kd.R_reads' HO200.out).2.2 | (with_reducible refine Kd.C_alloc ?_ _) | (with_reducible refine Kd.C_drewN ?_ _) | (with_reducible refine Kd.C_drew ?_))); (case side2 => exact (Kd.R_reads' HO200.out).2.1); (case side3 => repeat (first | exact (Kd.R_reads' HO182.out).2.2 | (with_reducible refine Kd.C_alloc ?_ _) | (with_reducible refine Kd.C_drewN ?_ _) | (with_reducible refine Kd.C_drew ?_))); (case side4 => exact (Kd.R_reads' HO182.out).2.1); rintro e w55 ⟨rfl, hb⟩; refine ⟨_, rfl, ?_⟩; replace HO182 := zA (Kd.R_below (zr HO182) hb); replace HO189 := zA (Kd.R_below (zr HO189) hb); replace HO200 := zA (Kd.R_below (zr HO200) hb); replace BK174 := zb BK174 hb; replace BK175 := zb BK175 hb; replace HB := zE (zs2 HB GE174 GE175) hb; (try clear hb); (try clear hb2); (try clear hk); (try clear hi)) | ((with_reducible refine gate_callee (f := 9) rfl ?_); refine goesL_ (some 46) rfl rfl Try.func9 (by kernel_rfl) rfl #[.slice Ao46 t192.length co46, .int .i64 1] rfl (by (try simp only [List.map_toArray, List.map_cons, List.map_nil]); first | done | (rw [show t192.length = t187.length from (Kd.R_reads' HO189.out).1.symm] <;> rfl) | rfl | (simp only [List.length_drop, List.length_take]; rfl)) ?_; (with_reducible refine (laws_heldSkyCellS.calls k _ _ t192 1 t202 _ ?side1 ?side2 A34.out).mono ?_); (case side1 => repeat (first | exact (Kd.R_reads' HO189.out).2.2 | (with_reducible refine Kd.C_alloc ?_ _) | (with_reducible refine Kd.C_drewN ?_ _) | (with_reducible refine Kd.C_drew ?_))); (case side2 => rw [show t192.length = t187.length from (Kd.R_reads' HO189.out).1.symm]; exact (Kd.R_reads' HO189.out).2.1); rintro e w' ⟨rfl, ⟨nd, rfl⟩⟩; refine ⟨_, rfl, ?_⟩))
  go_ret
  exact ⟨ze, zs2 HB GE174 GE175⟩
 rw [if_neg c35] at H
 have c35b0 : decide (t202 < 0) = false := decide_eq_false c35
 clear c35
 by_cases c56 : t202 = t191
 rotate_left
 ·rw [if_neg c56] at H
  have c56b0 : (t202 == t191) = false := beq_eq_false_iff_ne.mpr c56
  have c56b1 : (t202 != t191) = true := bne_iff_ne.mpr c56
  obtain rfl := Option.some.inj H
  go_enter Try.func3, Try.ntmps3
  try go_wp2_with (first | ((with_reducible refine gate_dst (N := 2) rfl ?_); refine zbx 2 #[.int .i64 a0_0, .int .i64 a0_1] 23 ?_; intro gb174 hg w77 hbox hb; have BK174 := zA hbox; have GW174 := zgs hg (zs0 HB); have GE174 := zgs hg (zs0 HB); replace HB := zE (zs0 HB) hb; clear hb hbox hg) | ((with_reducible refine gate_dst (N := 3) rfl ?_); refine zbx 3 #[.int .i64 a1_0, .int .i64 a1_1] 23 ?_; intro gb175 hg w78 hbox hb; have BK175 := zA hbox; have GW175 := zgs hg (zs1 HB GE174); have GE175 := zgs hg (zs1 HB GE174); have NB174_175 := zne hg BK174; have NB175_174 := znf hg BK174; replace BK174 := zb BK174 hb; replace HB := zE (zs1 HB GE174) hb; clear hb hbox hg))
  replace BK174 := zA (blk_drew BK174.out)
  replace BK175 := zA (blk_drew BK175.out)
  replace HB := zA (below_drew1 HB.out)
  refine start_ (n := 6) (S := fun w' => w'.cell? ⟨gb174, 0, none⟩ = some (.int .i64 a0_0) ∧ w'.cell? ⟨gb174, 1, none⟩ = some (.int .i64 a0_1) ∧ w'.cell? ⟨gb175, 0, none⟩ = some (.int .i64 a1_0) ∧ w'.cell? ⟨gb175, 1, none⟩ = some (.int .i64 a1_1)) (ds := []) #[F,F,F,F,F,F] (by kernel_rfl) rfl rfl ⟨zc0 BK174, zc1 BK174, zc0 BK175, zc1 BK175⟩ (fun hHeld => ?_)
  generalize w78.drew = w79 at BK174 BK175 HB hHeld ⊢
  refine take_ (i := 0) (N := some 10) (v := ?_) (a' := ?_) #[T,F,F,F,F,F] rfl rfl (by kernel_rfl) (fun _ _ _ h => h) (Or.inl ⟨by rfl, ?_⟩) hHeld ?_ ?_; rotate_left; exact zt4; rotate_left; exact zput
  refine take_ (i := 2) (N := some 12) (v := ?_) (a' := ?_) #[T,F,T,F,F,F] rfl rfl (by kernel_rfl) (fun _ _ _ h => h) (Or.inl ⟨by rfl, ?_⟩) hHeld ?_ ?_; rotate_left; exact zt4; rotate_left; exact zput
  refine one_ (i := 1) (N := some 11) #[T,T,T,F,F,F] rfl rfl (by kernel_rfl) (by decide) (fun K hK => ?_)
  refine zgo Try.func5 #[.agg #[.int .i64 a0_0, .int .i64 a0_1]] ?_
  with_reducible refine (laws_toSkyCell.calls a0_0 a0_1 t176 t177 _ A3.out).mono ?_
  rintro e w80 ⟨rfl, hb⟩
  refine ⟨_, rfl, ?_⟩
  replace BK174 := zb BK174 hb
  replace BK175 := zb BK175 hb
  replace HB := zE (zs2 HB GE174 GE175) hb
  (try clear hb)
  (try clear hb2)
  (try clear hk)
  (try clear hi)
  refine hK.out _ _ ⟨zc0 BK174, zc1 BK174, zc0 BK175, zc1 BK175⟩ (fun hHeld => ?_)
  clear hK K
  refine zN ?_
  refine one_ (i := 3) (N := some 13) #[T,T,T,T,F,F] rfl rfl (by kernel_rfl) (by decide) (fun K hK => ?_)
  refine zgo Try.func5 #[.agg #[.int .i64 a1_0, .int .i64 a1_1]] ?_
  with_reducible refine (laws_toSkyCell.calls a1_0 a1_1 t178 t179 _ A4.out).mono ?_
  rintro e w81 ⟨rfl, hb⟩
  refine ⟨_, rfl, ?_⟩
  replace BK174 := zb BK174 hb
  replace BK175 := zb BK175 hb
  replace HB := zE (zs2 HB GE174 GE175) hb
  (try clear hb)
  (try clear hb2)
  (try clear hk)
  (try clear hi)
  refine hK.out _ _ ⟨zc0 BK174, zc1 BK174, zc0 BK175, zc1 BK175⟩ (fun hHeld => ?_)
  clear hK K
  refine zN ?_
  refine one_ (i := 4) (N := some 14) #[T,T,T,T,T,F] rfl rfl (by kernel_rfl) (by decide) (fun K hK => ?_)
  refine zgo Try.func4 #[.agg #[.int .i64 t176, .int .i64 t177], .agg #[.int .i64 t178, .int .i64 t179]] ?_
  with_reducible refine (spec_SkyLeg.calls k t176 t177 t178 t179 t180 _ A5.out).mono ?_
  rintro e w82 ⟨v181, rfl, ho0, hb⟩
  refine ⟨_, rfl, ?_⟩
  have HO182 := zA (Kd.R_lower ho0 (below_size (zs2 HB GE174 GE175)))
  replace BK174 := zb BK174 hb
  replace BK175 := zb BK175 hb
  replace HB := zE (zs2 HB GE174 GE175) hb
  (try clear hb)
  (try clear hb2)
  (try clear hk)
  (try clear hi)
  (try clear ho0)
  refine hK.out _ _ ⟨zc0 BK174, zc1 BK174, zc0 BK175, zc1 BK175⟩ (fun hHeld => ?_)
  clear hK K
  refine zN ?_
  refine zp 5 ?_
  refine done_ (by kernel_rfl) ?_
  try go_wp2
  replace HO182 := zA (Kd.R_drew HO182.out)
  replace BK174 := zA (blk_drew BK174.out)
  replace BK175 := zA (blk_drew BK175.out)
  replace HB := zA (below_drew1 HB.out)
  refine start_ (n := 6) (S := fun w' => w'.cell? ⟨gb174, 0, none⟩ = some (.int .i64 a0_0) ∧ w'.cell? ⟨gb174, 1, none⟩ = some (.int .i64 a0_1) ∧ w'.cell? ⟨gb175, 0, none⟩ = some (.int .i64 a1_0) ∧ w'.cell? ⟨gb175, 1, none⟩ = some (.int .i64 a1_1)) (ds := []) #[F,F,F,F,F,F] (by kernel_rfl) rfl rfl ⟨zc0 BK174, zc1 BK174, zc0 BK175, zc1 BK175⟩ (fun hHeld => ?_)
  generalize w82.drew = w83 at HO182 BK174 BK175 HB hHeld ⊢
  refine take_ (i := 0) (N := some 15) (v := ?_) (a' := ?_) #[T,F,F,F,F,F] rfl rfl (by kernel_rfl) (fun _ _ _ h => h) (Or.inl ⟨by rfl, ?_⟩) hHeld ?_ ?_; rotate_left; exact zt4; rotate_left; exact zput
  refine take_ (i := 2) (N := some 17) (v := ?_) (a' := ?_) #[T,F,T,F,F,F] rfl rfl (by kernel_rfl) (fun _ _ _ h => h) (Or.inl ⟨by rfl, ?_⟩) hHeld ?_ ?_; rotate_left; exact zt4; rotate_left; exact zput
  refine one_ (i := 1) (N := some 16) #[T,T,T,F,F,F] rfl rfl (by kernel_rfl) (by decide) (fun K hK => ?_)
  refine zgo Try.func5 #[.agg #[.int .i64 a0_0, .int .i64 a0_1]] ?_
  with_reducible refine (laws_toSkyCell.calls a0_0 a0_1 t183 t184 _ A6.out).mono ?_
  rintro e w84 ⟨rfl, hb⟩
  refine ⟨_, rfl, ?_⟩
  replace HO182 := zA (Kd.R_below (zr HO182) hb)
  replace BK174 := zb BK174 hb
  replace BK175 := zb BK175 hb
  replace HB := zE (zs2 HB GE174 GE175) hb
  (try clear hb)
  (try clear hb2)
  (try clear hk)
  (try clear hi)
  refine hK.out _ _ ⟨zc0 BK174, zc1 BK174, zc0 BK175, zc1 BK175⟩ (fun hHeld => ?_)
  clear hK K
  refine zN ?_
  refine one_ (i := 3) (N := some 18) #[T,T,T,T,F,F] rfl rfl (by kernel_rfl) (by decide) (fun K hK => ?_)
  refine zgo Try.func5 #[.agg #[.int .i64 a1_0, .int .i64 a1_1]] ?_
  with_reducible refine (laws_toSkyCell.calls a1_0 a1_1 t185 t186 _ A7.out).mono ?_
  rintro e w85 ⟨rfl, hb⟩
  refine ⟨_, rfl, ?_⟩
  replace HO182 := zA (Kd.R_below (zr HO182) hb)
  replace BK174 := zb BK174 hb
  replace BK175 := zb BK175 hb
  replace HB := zE (zs2 HB GE174 GE175) hb
  (try clear hb)
  (try clear hb2)
  (try clear hk)
  (try clear hi)
  refine hK.out _ _ ⟨zc0 BK174, zc1 BK174, zc0 BK175, zc1 BK175⟩ (fun hHeld => ?_)
  clear hK K
  refine zN ?_
  refine one_ (i := 4) (N := some 19) #[T,T,T,T,T,F] rfl rfl (by kernel_rfl) (by decide) (fun K hK => ?_)
  refine zgo Try.func6 #[.agg #[.int .i64 t183, .int .i64 t184], .agg #[.int .i64 t185, .int .i64 t186]] ?_
  with_reducible refine (impl_SkyLeg.calls k t183 t184 t185 t186 t187 _ A8.out).mono ?_
  rintro e w86 ⟨v188, rfl, ho0, hb⟩
  refine ⟨_, rfl, ?_⟩
  have HO189 := zA (Kd.R_lower (Kd.R_new' ho0 (Kd.R_lt (zr HO182))) (below_size (zs2 HB GE174 GE175)))
  replace HO182 := zA (Kd.R_elder' (zr HO182) (Kd.R_base ho0) hb)
  replace BK174 := zb BK174 hb
  replace BK175 := zb BK175 hb
  replace HB := zE (zs2 HB GE174 GE175) hb
  (try clear hb)
  (try clear hb2)
  (try clear hk)
  (try clear hi)
  (try clear ho0)
  refine hK.out _ _ ⟨zc0 BK174, zc1 BK174, zc0 BK175, zc1 BK175⟩ (fun hHeld => ?_)
  clear hK K
  refine zN ?_
  refine zp 5 ?_
  refine done_ (by kernel_rfl) ?_
  obtain ⟨Ao87, co87, eo87⟩ := Kd.R_slice HO189.out
  subst eo87
  obtain ⟨Ao88, co88, eo88⟩ := Kd.R_slice HO182.out
  subst eo88
  try go_wp2_with (first | ((with_reducible refine gate_callee (f := 7) rfl ?_); refine zgl (N := some 22) Try.func7 #[.slice Ao87 t187.length co87, .slice Ao88 t180.length co88] ?_; (with_reducible refine (laws_eqSkyCellS.calls k _ _ t187 _ _ t180 true _ ?side1 ?side2 ?side3 ?side4 A9.out).mono ?_); (case side1 => repeat (first | exact (Kd.R_reads' HO189.out).2.2 | (with_reducible refine Kd.C_alloc ?_ _) | (with_reducible refine Kd.C_drewN ?_ _) | (with_reducible refine Kd.C_drew ?_))); (case side2 => exact (Kd.R_reads' HO189.out).2.1); (case side3 => repeat (first | exact (Kd.R_reads' HO182.out).2.2 | (with_reducible refine Kd.C_alloc ?_ _) | (with_reducible refine Kd.C_drewN ?_ _) | (with_reducible refine Kd.C_drew ?_))); (case side4 => exact (Kd.R_reads' HO182.out).2.1); rintro e w89 ⟨rfl, hb⟩; refine ⟨_, rfl, ?_⟩; replace HO182 := zA (Kd.R_below (zr HO182) hb); replace HO189 := zA (Kd.R_below (zr HO189) hb); replace BK174 := zb BK174 hb; replace BK175 := zb BK175 hb; replace HB := zE (zs2 HB GE174 GE175) hb; (try clear hb); (try clear hb2); (try clear hk); (try clear hi)) | ((with_reducible refine gate_callee (f := 8) rfl ?_); refine zgl (N := some 26) Try.func8 #[.slice Ao87 t187.length co87, .int .i64 1] ?_; (with_reducible refine (laws_markSkyCellS.calls k (fun k_ => some k_ = (.slice Ao87 t187.length co87 : Value).ownBlock) (.slice Ao87 t187.length co87) t187 1 t191 t192 w _ ?side1 ?side2 A11.out).mono ?_); (case side1 => repeat (first | (with_reducible first | exact HB.out | apply below_alloc | apply pw_below_drewN | apply below_drew1 | refine below_set ?_ GE174.out | refine below_set ?_ GE175.out) | exact HB.out)); (case side2 => exact Kd.R_tight rfl HO189.out); rintro e w90 ⟨rfl, hy0, hb, hkp⟩; refine ⟨_, rfl, ?_⟩; replace BK174 := zA (blk_kept (zh BK174) hkp (fun hs_ => (fun e_ => (Kd.R_ne HO189.out BK174.out (by decide)) e_) hs_)); replace BK175 := zA (blk_kept (zh BK175) hkp (fun hs_ => (fun e_ => (Kd.R_ne HO189.out BK175.out (by decide)) e_) hs_)); replace HO182 := zA (Kd.R_mono (ok' := fun k_ => some k_ ≠ (.slice Ao87 t187.length co87 : Value).ownBlock) (Kd.R_keptB (HO182.out) hkp (fun k_ hk_ hs_ => (hk_.2) hs_)) (fun k_ hk_ => hk_.1.2)); replace HO189 := zA (Kd.R_reok rfl hy0 (fun k_ e_ => HO189.out.1 k_ e_)); replace HB := zA (hb); (try clear hb); (try clear hkp); (try clear hy0)) | ((with_reducible refine gate_callee (f := 9) rfl ?_); refine goesL_ (some 29) rfl rfl Try.func9 (by kernel_rfl) rfl #[.slice Ao87 t192.length co87, .int .i64 1] rfl (by (try simp only [List.map_toArray, List.map_cons, List.map_nil]); first | done | (rw [show t192.length = t187.length from (Kd.R_reads' HO189.out).1.symm] <;> rfl) | rfl | (simp only [List.length_drop, List.length_take]; rfl)) ?_; (with_reducible refine (laws_heldSkyCellS.calls k _ _ t192 1 t193 _ ?side1 ?side2 A12.out).mono ?_); (case side1 => repeat (first | exact (Kd.R_reads' HO189.out).2.2 | (with_reducible refine Kd.C_alloc ?_ _) | (with_reducible refine Kd.C_drewN ?_ _) | (with_reducible refine Kd.C_drew ?_))); (case side2 => rw [show t192.length = t187.length from (Kd.R_reads' HO189.out).1.symm]; exact (Kd.R_reads' HO189.out).2.1); rintro e w' ⟨rfl, ⟨nd, rfl⟩⟩; refine ⟨_, rfl, ?_⟩))
  (try (rw [drewN_self w90]; generalize hq_ : World.drewN w90 _ = w90; replace HO182 : Aside0 (Kd.R k26 26 w90 w.heap.size (fun k_ => some k_ ≠ (.slice Ao87 t187.length co87 : Value).ownBlock) (.slice Ao88 t180.length co88) t180) := ⟨by rw [← hq_]; exact (zr HO182)⟩; replace HO189 : Aside0 (Kd.R k26 26 w90 w.heap.size (fun k_ => some k_ ≠ (.slice Ao88 t180.length co88 : Value).ownBlock) (.slice Ao87 t187.length co87) t192) := ⟨by rw [← hq_]; exact (by (with_reducible repeat (first | apply Kd.R_alloc | apply Kd.R_drewN | apply Kd.R_drew)); exact Kd.R_mono HO189.out (fun _ hk => hk.2))⟩; replace BK174 : Aside0 (w90.heap[gb174]? = some (.cells #[.int .i64 a0_0, .int .i64 a0_1] 23 (0, 0))) := ⟨by rw [← hq_]; exact (zh BK174)⟩; replace BK175 : Aside0 (w90.heap[gb175]? = some (.cells #[.int .i64 a1_0, .int .i64 a1_1] 23 (0, 0))) := ⟨by rw [← hq_]; exact (zh BK175)⟩; replace HB : Aside0 (Below w.heap.size w w90) := ⟨by rw [← hq_]; exact (zs2 HB GE174 GE175)⟩; clear hq_))
  replace HO182 := zA (Kd.R_drew HO182.out)
  replace HO189 := zA (Kd.R_drew HO189.out)
  replace BK174 := zA (blk_drew BK174.out)
  replace BK175 := zA (blk_drew BK175.out)
  replace HB := zA (below_drew1 HB.out)
  refine start_ (n := 6) (S := fun w' => w'.cell? ⟨gb174, 0, none⟩ = some (.int .i64 a0_0) ∧ w'.cell? ⟨gb174, 1, none⟩ = some (.int .i64 a0_1) ∧ w'.cell? ⟨gb175, 0, none⟩ = some (.int .i64 a1_0) ∧ w'.cell? ⟨gb175, 1, none⟩ = some (.int .i64 a1_1)) (ds := []) #[F,F,F,F,F,F] (by kernel_rfl) rfl rfl ⟨zc0 BK174, zc1 BK174, zc0 BK175, zc1 BK175⟩ (fun hHeld => ?_)
  generalize w90.drew = w91 at HO182 HO189 BK174 BK175 HB hHeld ⊢
  refine take_ (i := 0) (N := some 35) (v := ?_) (a' := ?_) #[T,F,F,F,F,F] rfl rfl (by kernel_rfl) (fun _ _ _ h => h) (Or.inl ⟨by rfl, ?_⟩) hHeld ?_ ?_; rotate_left; exact zt4; rotate_left; exact zput
  refine take_ (i := 2) (N := some 37) (v := ?_) (a' := ?_) #[T,F,T,F,F,F] rfl rfl (by kernel_rfl) (fun _ _ _ h => h) (Or.inl ⟨by rfl, ?_⟩) hHeld ?_ ?_; rotate_left; exact zt4; rotate_left; exact zput
  refine one_ (i := 1) (N := some 36) #[T,T,T,F,F,F] rfl rfl (by kernel_rfl) (by decide) (fun K hK => ?_)
  refine zgo Try.func5 #[.agg #[.int .i64 a0_0, .int .i64 a0_1]] ?_
  with_reducible refine (laws_toSkyCell.calls a0_0 a0_1 t194 t195 _ A29.out).mono ?_
  rintro e w92 ⟨rfl, hb⟩
  refine ⟨_, rfl, ?_⟩
  replace HO182 := zA (Kd.R_below (zr HO182) hb)
  replace HO189 := zA (Kd.R_below (zr HO189) hb)
  replace BK174 := zb BK174 hb
  replace BK175 := zb BK175 hb
  replace HB := zE (zs2 HB GE174 GE175) hb
  (try clear hb)
  (try clear hb2)
  (try clear hk)
  (try clear hi)
  refine hK.out _ _ ⟨zc0 BK174, zc1 BK174, zc0 BK175, zc1 BK175⟩ (fun hHeld => ?_)
  clear hK K
  refine zN ?_
  refine one_ (i := 3) (N := some 38) #[T,T,T,T,F,F] rfl rfl (by kernel_rfl) (by decide) (fun K hK => ?_)
  refine zgo Try.func5 #[.agg #[.int .i64 a1_0, .int .i64 a1_1]] ?_
  with_reducible refine (laws_toSkyCell.calls a1_0 a1_1 t196 t197 _ A30.out).mono ?_
  rintro e w93 ⟨rfl, hb⟩
  refine ⟨_, rfl, ?_⟩
  replace HO182 := zA (Kd.R_below (zr HO182) hb)
  replace HO189 := zA (Kd.R_below (zr HO189) hb)
  replace BK174 := zb BK174 hb
  replace BK175 := zb BK175 hb
  replace HB := zE (zs2 HB GE174 GE175) hb
  (try clear hb)
  (try clear hb2)
  (try clear hk)
  (try clear hi)
  refine hK.out _ _ ⟨zc0 BK174, zc1 BK174, zc0 BK175, zc1 BK175⟩ (fun hHeld => ?_)
  clear hK K
  refine zN ?_
  refine one_ (i := 4) (N := some 39) #[T,T,T,T,T,F] rfl rfl (by kernel_rfl) (by decide) (fun K hK => ?_)
  refine zgo Try.func6 #[.agg #[.int .i64 t194, .int .i64 t195], .agg #[.int .i64 t196, .int .i64 t197]] ?_
  with_reducible refine (impl_SkyLeg.calls k t194 t195 t196 t197 t198 _ A31.out).mono ?_
  rintro e w94 ⟨v199, rfl, ho0, hb⟩
  refine ⟨_, rfl, ?_⟩
  have HO200 := zA (Kd.R_lower (Kd.R_new' (Kd.R_new' ho0 (Kd.R_lt (zr HO182))) (Kd.R_lt (zr HO189))) (below_size (zs2 HB GE174 GE175)))
  replace HO182 := zA (Kd.R_elder' (zr HO182) (Kd.R_base ho0) hb)
  replace HO189 := zA (Kd.R_elder' (zr HO189) (Kd.R_base ho0) hb)
  replace BK174 := zb BK174 hb
  replace BK175 := zb BK175 hb
  replace HB := zE (zs2 HB GE174 GE175) hb
  (try clear hb)
  (try clear hb2)
  (try clear hk)
  (try clear hi)
  (try clear ho0)
  refine hK.out _ _ ⟨zc0 BK174, zc1 BK174, zc0 BK175, zc1 BK175⟩ (fun hHeld => ?_)
  clear hK K
  refine zN ?_
  refine zp 5 ?_
  refine done_ (by kernel_rfl) ?_
  obtain ⟨Ao95, co95, eo95⟩ := Kd.R_slice HO200.out
  subst eo95
  try go_wp2_with (first | ((with_reducible refine gate_callee (f := 7) rfl ?_); refine zgl (N := some 42) Try.func7 #[.slice Ao95 t198.length co95, .slice Ao88 t180.length co88] ?_; (with_reducible refine (laws_eqSkyCellS.calls k _ _ t198 _ _ t180 true _ ?side1 ?side2 ?side3 ?side4 A32.out).mono ?_); (case side1 => repeat (first | exact (Kd.R_reads' HO200.out).2.2 | (with_reducible refine Kd.C_alloc ?_ _) | (with_reducible refine Kd.C_drewN ?_ _) | (with_reducible refine Kd.C_drew ?_))); (case side2 => exact (Kd.R_reads' HO200.out).2.1); (case side3 => repeat (first | exact (Kd.R_reads' HO182.out).2.2 | (with_reducible refine Kd.C_alloc ?_ _) | (with_reducible refine Kd.C_drewN ?_ _) | (with_reducible refine Kd.C_drew ?_))); (case side4 => exact (Kd.R_reads' HO182.out).2.1); rintro e w96 ⟨rfl, hb⟩; refine ⟨_, rfl, ?_⟩; replace HO182 := zA (Kd.R_below (zr HO182) hb); replace HO189 := zA (Kd.R_below (zr HO189) hb); replace HO200 := zA (Kd.R_below (zr HO200) hb); replace BK174 := zb BK174 hb; replace BK175 := zb BK175 hb; replace HB := zE (zs2 HB GE174 GE175) hb; (try clear hb); (try clear hb2); (try clear hk); (try clear hi)) | ((with_reducible refine gate_callee (f := 9) rfl ?_); refine goesL_ (some 46) rfl rfl Try.func9 (by kernel_rfl) rfl #[.slice Ao87 t192.length co87, .int .i64 1] rfl (by (try simp only [List.map_toArray, List.map_cons, List.map_nil]); first | done | (rw [show t192.length = t187.length from (Kd.R_reads' HO189.out).1.symm] <;> rfl) | rfl | (simp only [List.length_drop, List.length_take]; rfl)) ?_; (with_reducible refine (laws_heldSkyCellS.calls k _ _ t192 1 t202 _ ?side1 ?side2 A34.out).mono ?_); (case side1 => repeat (first | exact (Kd.R_reads' HO189.out).2.2 | (with_reducible refine Kd.C_alloc ?_ _) | (with_reducible refine Kd.C_drewN ?_ _) | (with_reducible refine Kd.C_drew ?_))); (case side2 => rw [show t192.length = t187.length from (Kd.R_reads' HO189.out).1.symm]; exact (Kd.R_reads' HO189.out).2.1); rintro e w' ⟨rfl, ⟨nd, rfl⟩⟩; refine ⟨_, rfl, ?_⟩))
  go_ret
  exact ⟨ze, zs2 HB GE174 GE175⟩
 rw [if_pos c56] at H
 have c56b0 : (t202 == t191) = true := beq_iff_eq.mpr c56
 have c56b1 : (t202 != t191) = false := bne_eq_false_iff_eq.mpr c56
 clear c56
 obtain rfl := Option.some.inj H
 go_enter Try.func3, Try.ntmps3
 try go_wp2_with (first | ((with_reducible refine gate_dst (N := 2) rfl ?_); refine zbx 2 #[.int .i64 a0_0, .int .i64 a0_1] 23 ?_; intro gb174 hg w57 hbox hb; have BK174 := zA hbox; have GW174 := zgs hg (zs0 HB); have GE174 := zgs hg (zs0 HB); replace HB := zE (zs0 HB) hb; clear hb hbox hg) | ((with_reducible refine gate_dst (N := 3) rfl ?_); refine zbx 3 #[.int .i64 a1_0, .int .i64 a1_1] 23 ?_; intro gb175 hg w58 hbox hb; have BK175 := zA hbox; have GW175 := zgs hg (zs1 HB GE174); have GE175 := zgs hg (zs1 HB GE174); have NB174_175 := zne hg BK174; have NB175_174 := znf hg BK174; replace BK174 := zb BK174 hb; replace HB := zE (zs1 HB GE174) hb; clear hb hbox hg))
 replace BK174 := zA (blk_drew BK174.out)
 replace BK175 := zA (blk_drew BK175.out)
 replace HB := zA (below_drew1 HB.out)
 refine start_ (n := 6) (S := fun w' => w'.cell? ⟨gb174, 0, none⟩ = some (.int .i64 a0_0) ∧ w'.cell? ⟨gb174, 1, none⟩ = some (.int .i64 a0_1) ∧ w'.cell? ⟨gb175, 0, none⟩ = some (.int .i64 a1_0) ∧ w'.cell? ⟨gb175, 1, none⟩ = some (.int .i64 a1_1)) (ds := []) #[F,F,F,F,F,F] (by kernel_rfl) rfl rfl ⟨zc0 BK174, zc1 BK174, zc0 BK175, zc1 BK175⟩ (fun hHeld => ?_)
 generalize w58.drew = w59 at BK174 BK175 HB hHeld ⊢
 refine take_ (i := 0) (N := some 10) (v := ?_) (a' := ?_) #[T,F,F,F,F,F] rfl rfl (by kernel_rfl) (fun _ _ _ h => h) (Or.inl ⟨by rfl, ?_⟩) hHeld ?_ ?_; rotate_left; exact zt4; rotate_left; exact zput
 refine take_ (i := 2) (N := some 12) (v := ?_) (a' := ?_) #[T,F,T,F,F,F] rfl rfl (by kernel_rfl) (fun _ _ _ h => h) (Or.inl ⟨by rfl, ?_⟩) hHeld ?_ ?_; rotate_left; exact zt4; rotate_left; exact zput
 refine one_ (i := 1) (N := some 11) #[T,T,T,F,F,F] rfl rfl (by kernel_rfl) (by decide) (fun K hK => ?_)
 refine zgo Try.func5 #[.agg #[.int .i64 a0_0, .int .i64 a0_1]] ?_
 with_reducible refine (laws_toSkyCell.calls a0_0 a0_1 t176 t177 _ A3.out).mono ?_
 rintro e w60 ⟨rfl, hb⟩
 refine ⟨_, rfl, ?_⟩
 replace BK174 := zb BK174 hb
 replace BK175 := zb BK175 hb
 replace HB := zE (zs2 HB GE174 GE175) hb
 (try clear hb)
 (try clear hb2)
 (try clear hk)
 (try clear hi)
 refine hK.out _ _ ⟨zc0 BK174, zc1 BK174, zc0 BK175, zc1 BK175⟩ (fun hHeld => ?_)
 clear hK K
 refine zN ?_
 refine one_ (i := 3) (N := some 13) #[T,T,T,T,F,F] rfl rfl (by kernel_rfl) (by decide) (fun K hK => ?_)
 refine zgo Try.func5 #[.agg #[.int .i64 a1_0, .int .i64 a1_1]] ?_
 with_reducible refine (laws_toSkyCell.calls a1_0 a1_1 t178 t179 _ A4.out).mono ?_
 rintro e w61 ⟨rfl, hb⟩
 refine ⟨_, rfl, ?_⟩
 replace BK174 := zb BK174 hb
 replace BK175 := zb BK175 hb
 replace HB := zE (zs2 HB GE174 GE175) hb
 (try clear hb)
 (try clear hb2)
 (try clear hk)
 (try clear hi)
 refine hK.out _ _ ⟨zc0 BK174, zc1 BK174, zc0 BK175, zc1 BK175⟩ (fun hHeld => ?_)
 clear hK K
 refine zN ?_
 refine one_ (i := 4) (N := some 14) #[T,T,T,T,T,F] rfl rfl (by kernel_rfl) (by decide) (fun K hK => ?_)
 refine zgo Try.func4 #[.agg #[.int .i64 t176, .int .i64 t177], .agg #[.int .i64 t178, .int .i64 t179]] ?_
 with_reducible refine (spec_SkyLeg.calls k t176 t177 t178 t179 t180 _ A5.out).mono ?_
 rintro e w62 ⟨v181, rfl, ho0, hb⟩
 refine ⟨_, rfl, ?_⟩
 have HO182 := zA (Kd.R_lower ho0 (below_size (zs2 HB GE174 GE175)))
 replace BK174 := zb BK174 hb
 replace BK175 := zb BK175 hb
 replace HB := zE (zs2 HB GE174 GE175) hb
 (try clear hb)
 (try clear hb2)
 (try clear hk)
 (try clear hi)
 (try clear ho0)
 refine hK.out _ _ ⟨zc0 BK174, zc1 BK174, zc0 BK175, zc1 BK175⟩ (fun hHeld => ?_)
 clear hK K
 refine zN ?_
 refine zp 5 ?_
 refine done_ (by kernel_rfl) ?_
 try go_wp2
 replace HO182 := zA (Kd.R_drew HO182.out)
 replace BK174 := zA (blk_drew BK174.out)
 replace BK175 := zA (blk_drew BK175.out)
 replace HB := zA (below_drew1 HB.out)
 refine start_ (n := 6) (S := fun w' => w'.cell? ⟨gb174, 0, none⟩ = some (.int .i64 a0_0) ∧ w'.cell? ⟨gb174, 1, none⟩ = some (.int .i64 a0_1) ∧ w'.cell? ⟨gb175, 0, none⟩ = some (.int .i64 a1_0) ∧ w'.cell? ⟨gb175, 1, none⟩ = some (.int .i64 a1_1)) (ds := []) #[F,F,F,F,F,F] (by kernel_rfl) rfl rfl ⟨zc0 BK174, zc1 BK174, zc0 BK175, zc1 BK175⟩ (fun hHeld => ?_)
 generalize w62.drew = w63 at HO182 BK174 BK175 HB hHeld ⊢
 refine take_ (i := 0) (N := some 15) (v := ?_) (a' := ?_) #[T,F,F,F,F,F] rfl rfl (by kernel_rfl) (fun _ _ _ h => h) (Or.inl ⟨by rfl, ?_⟩) hHeld ?_ ?_; rotate_left; exact zt4; rotate_left; exact zput
 refine take_ (i := 2) (N := some 17) (v := ?_) (a' := ?_) #[T,F,T,F,F,F] rfl rfl (by kernel_rfl) (fun _ _ _ h => h) (Or.inl ⟨by rfl, ?_⟩) hHeld ?_ ?_; rotate_left; exact zt4; rotate_left; exact zput
 refine one_ (i := 1) (N := some 16) #[T,T,T,F,F,F] rfl rfl (by kernel_rfl) (by decide) (fun K hK => ?_)
 refine zgo Try.func5 #[.agg #[.int .i64 a0_0, .int .i64 a0_1]] ?_
 with_reducible refine (laws_toSkyCell.calls a0_0 a0_1 t183 t184 _ A6.out).mono ?_
 rintro e w64 ⟨rfl, hb⟩
 refine ⟨_, rfl, ?_⟩
 replace HO182 := zA (Kd.R_below (zr HO182) hb)
 replace BK174 := zb BK174 hb
 replace BK175 := zb BK175 hb
 replace HB := zE (zs2 HB GE174 GE175) hb
 (try clear hb)
 (try clear hb2)
 (try clear hk)
 (try clear hi)
 refine hK.out _ _ ⟨zc0 BK174, zc1 BK174, zc0 BK175, zc1 BK175⟩ (fun hHeld => ?_)
 clear hK K
 refine zN ?_
 refine one_ (i := 3) (N := some 18) #[T,T,T,T,F,F] rfl rfl (by kernel_rfl) (by decide) (fun K hK => ?_)
 refine zgo Try.func5 #[.agg #[.int .i64 a1_0, .int .i64 a1_1]] ?_
 with_reducible refine (laws_toSkyCell.calls a1_0 a1_1 t185 t186 _ A7.out).mono ?_
 rintro e w65 ⟨rfl, hb⟩
 refine ⟨_, rfl, ?_⟩
 replace HO182 := zA (Kd.R_below (zr HO182) hb)
 replace BK174 := zb BK174 hb
 replace BK175 := zb BK175 hb
 replace HB := zE (zs2 HB GE174 GE175) hb
 (try clear hb)
 (try clear hb2)
 (try clear hk)
 (try clear hi)
 refine hK.out _ _ ⟨zc0 BK174, zc1 BK174, zc0 BK175, zc1 BK175⟩ (fun hHeld => ?_)
 clear hK K
 refine zN ?_
 refine one_ (i := 4) (N := some 19) #[T,T,T,T,T,F] rfl rfl (by kernel_rfl) (by decide) (fun K hK => ?_)
 refine zgo Try.func6 #[.agg #[.int .i64 t183, .int .i64 t184], .agg #[.int .i64 t185, .int .i64 t186]] ?_
 with_reducible refine (impl_SkyLeg.calls k t183 t184 t185 t186 t187 _ A8.out).mono ?_
 rintro e w66 ⟨v188, rfl, ho0, hb⟩
 refine ⟨_, rfl, ?_⟩
 have HO189 := zA (Kd.R_lower (Kd.R_new' ho0 (Kd.R_lt (zr HO182))) (below_size (zs2 HB GE174 GE175)))
 replace HO182 := zA (Kd.R_elder' (zr HO182) (Kd.R_base ho0) hb)
 replace BK174 := zb BK174 hb
 replace BK175 := zb BK175 hb
 replace HB := zE (zs2 HB GE174 GE175) hb
 (try clear hb)
 (try clear hb2)
 (try clear hk)
 (try clear hi)
 (try clear ho0)
 refine hK.out _ _ ⟨zc0 BK174, zc1 BK174, zc0 BK175, zc1 BK175⟩ (fun hHeld => ?_)
 clear hK K
 refine zN ?_
 refine zp 5 ?_
 refine done_ (by kernel_rfl) ?_
 obtain ⟨Ao67, co67, eo67⟩ := Kd.R_slice HO189.out
 subst eo67
 obtain ⟨Ao68, co68, eo68⟩ := Kd.R_slice HO182.out
 subst eo68
 try go_wp2_with (first | ((with_reducible refine gate_callee (f := 7) rfl ?_); refine zgl (N := some 22) Try.func7 #[.slice Ao67 t187.length co67, .slice Ao68 t180.length co68] ?_; (with_reducible refine (laws_eqSkyCellS.calls k _ _ t187 _ _ t180 true _ ?side1 ?side2 ?side3 ?side4 A9.out).mono ?_); (case side1 => repeat (first | exact (Kd.R_reads' HO189.out).2.2 | (with_reducible refine Kd.C_alloc ?_ _) | (with_reducible refine Kd.C_drewN ?_ _) | (with_reducible refine Kd.C_drew ?_))); (case side2 => exact (Kd.R_reads' HO189.out).2.1); (case side3 => repeat (first | exact (Kd.R_reads' HO182.out).2.2 | (with_reducible refine Kd.C_alloc ?_ _) | (with_reducible refine Kd.C_drewN ?_ _) | (with_reducible refine Kd.C_drew ?_))); (case side4 => exact (Kd.R_reads' HO182.out).2.1); rintro e w69 ⟨rfl, hb⟩; refine ⟨_, rfl, ?_⟩; replace HO182 := zA (Kd.R_below (zr HO182) hb); replace HO189 := zA (Kd.R_below (zr HO189) hb); replace BK174 := zb BK174 hb; replace BK175 := zb BK175 hb; replace HB := zE (zs2 HB GE174 GE175) hb; (try clear hb); (try clear hb2); (try clear hk); (try clear hi)) | ((with_reducible refine gate_callee (f := 8) rfl ?_); refine zgl (N := some 26) Try.func8 #[.slice Ao67 t187.length co67, .int .i64 1] ?_; (with_reducible refine (laws_markSkyCellS.calls k (fun k_ => some k_ = (.slice Ao67 t187.length co67 : Value).ownBlock) (.slice Ao67 t187.length co67) t187 1 t191 t192 w _ ?side1 ?side2 A11.out).mono ?_); (case side1 => repeat (first | (with_reducible first | exact HB.out | apply below_alloc | apply pw_below_drewN | apply below_drew1 | refine below_set ?_ GE174.out | refine below_set ?_ GE175.out) | exact HB.out)); (case side2 => exact Kd.R_tight rfl HO189.out); rintro e w70 ⟨rfl, hy0, hb, hkp⟩; refine ⟨_, rfl, ?_⟩; replace BK174 := zA (blk_kept (zh BK174) hkp (fun hs_ => (fun e_ => (Kd.R_ne HO189.out BK174.out (by decide)) e_) hs_)); replace BK175 := zA (blk_kept (zh BK175) hkp (fun hs_ => (fun e_ => (Kd.R_ne HO189.out BK175.out (by decide)) e_) hs_)); replace HO182 := zA (Kd.R_mono (ok' := fun k_ => some k_ ≠ (.slice Ao67 t187.length co67 : Value).ownBlock) (Kd.R_keptB (HO182.out) hkp (fun k_ hk_ hs_ => (hk_.2) hs_)) (fun k_ hk_ => hk_.1.2)); replace HO189 := zA (Kd.R_reok rfl hy0 (fun k_ e_ => HO189.out.1 k_ e_)); replace HB := zA (hb); (try clear hb); (try clear hkp); (try clear hy0)) | ((with_reducible refine gate_callee (f := 9) rfl ?_); refine goesL_ (some 29) rfl rfl Try.func9 (by kernel_rfl) rfl #[.slice Ao67 t192.length co67, .int .i64 1] rfl (by (try simp only [List.map_toArray, List.map_cons, List.map_nil]); first | done | (rw [show t192.length = t187.length from (Kd.R_reads' HO189.out).1.symm] <;> rfl) | rfl | (simp only [List.length_drop, List.length_take]; rfl)) ?_; (with_reducible refine (laws_heldSkyCellS.calls k _ _ t192 1 t193 _ ?side1 ?side2 A12.out).mono ?_); (case side1 => repeat (first | exact (Kd.R_reads' HO189.out).2.2 | (with_reducible refine Kd.C_alloc ?_ _) | (with_reducible refine Kd.C_drewN ?_ _) | (with_reducible refine Kd.C_drew ?_))); (case side2 => rw [show t192.length = t187.length from (Kd.R_reads' HO189.out).1.symm]; exact (Kd.R_reads' HO189.out).2.1); rintro e w' ⟨rfl, ⟨nd, rfl⟩⟩; refine ⟨_, rfl, ?_⟩))
 (try (rw [drewN_self w70]; generalize hq_ : World.drewN w70 _ = w70; replace HO182 : Aside0 (Kd.R k26 26 w70 w.heap.size (fun k_ => some k_ ≠ (.slice Ao67 t187.length co67 : Value).ownBlock) (.slice Ao68 t180.length co68) t180) := ⟨by rw [← hq_]; exact (zr HO182)⟩; replace HO189 : Aside0 (Kd.R k26 26 w70 w.heap.size (fun k_ => some k_ ≠ (.slice Ao68 t180.length co68 : Value).ownBlock) (.slice Ao67 t187.length co67) t192) := ⟨by rw [← hq_]; exact (by (with_reducible repeat (first | apply Kd.R_alloc | apply Kd.R_drewN | apply Kd.R_drew)); exact Kd.R_mono HO189.out (fun _ hk => hk.2))⟩; replace BK174 : Aside0 (w70.heap[gb174]? = some (.cells #[.int .i64 a0_0, .int .i64 a0_1] 23 (0, 0))) := ⟨by rw [← hq_]; exact (zh BK174)⟩; replace BK175 : Aside0 (w70.heap[gb175]? = some (.cells #[.int .i64 a1_0, .int .i64 a1_1] 23 (0, 0))) := ⟨by rw [← hq_]; exact (zh BK175)⟩; replace HB : Aside0 (Below w.heap.size w w70) := ⟨by rw [← hq_]; exact (zs2 HB GE174 GE175)⟩; clear hq_))
 replace HO182 := zA (Kd.R_drew HO182.out)
 replace HO189 := zA (Kd.R_drew HO189.out)
 replace BK174 := zA (blk_drew BK174.out)
 replace BK175 := zA (blk_drew BK175.out)
 replace HB := zA (below_drew1 HB.out)
 refine start_ (n := 6) (S := fun w' => w'.cell? ⟨gb174, 0, none⟩ = some (.int .i64 a0_0) ∧ w'.cell? ⟨gb174, 1, none⟩ = some (.int .i64 a0_1) ∧ w'.cell? ⟨gb175, 0, none⟩ = some (.int .i64 a1_0) ∧ w'.cell? ⟨gb175, 1, none⟩ = some (.int .i64 a1_1)) (ds := []) #[F,F,F,F,F,F] (by kernel_rfl) rfl rfl ⟨zc0 BK174, zc1 BK174, zc0 BK175, zc1 BK175⟩ (fun hHeld => ?_)
 generalize w70.drew = w71 at HO182 HO189 BK174 BK175 HB hHeld ⊢
 refine take_ (i := 0) (N := some 35) (v := ?_) (a' := ?_) #[T,F,F,F,F,F] rfl rfl (by kernel_rfl) (fun _ _ _ h => h) (Or.inl ⟨by rfl, ?_⟩) hHeld ?_ ?_; rotate_left; exact zt4; rotate_left; exact zput
 refine take_ (i := 2) (N := some 37) (v := ?_) (a' := ?_) #[T,F,T,F,F,F] rfl rfl (by kernel_rfl) (fun _ _ _ h => h) (Or.inl ⟨by rfl, ?_⟩) hHeld ?_ ?_; rotate_left; exact zt4; rotate_left; exact zput
 refine one_ (i := 1) (N := some 36) #[T,T,T,F,F,F] rfl rfl (by kernel_rfl) (by decide) (fun K hK => ?_)
 refine zgo Try.func5 #[.agg #[.int .i64 a0_0, .int .i64 a0_1]] ?_
 with_reducible refine (laws_toSkyCell.calls a0_0 a0_1 t194 t195 _ A29.out).mono ?_
 rintro e w72 ⟨rfl, hb⟩
 refine ⟨_, rfl, ?_⟩
 replace HO182 := zA (Kd.R_below (zr HO182) hb)
 replace HO189 := zA (Kd.R_below (zr HO189) hb)
 replace BK174 := zb BK174 hb
 replace BK175 := zb BK175 hb
 replace HB := zE (zs2 HB GE174 GE175) hb
 (try clear hb)
 (try clear hb2)
 (try clear hk)
 (try clear hi)
 refine hK.out _ _ ⟨zc0 BK174, zc1 BK174, zc0 BK175, zc1 BK175⟩ (fun hHeld => ?_)
 clear hK K
 refine zN ?_
 refine one_ (i := 3) (N := some 38) #[T,T,T,T,F,F] rfl rfl (by kernel_rfl) (by decide) (fun K hK => ?_)
 refine zgo Try.func5 #[.agg #[.int .i64 a1_0, .int .i64 a1_1]] ?_
 with_reducible refine (laws_toSkyCell.calls a1_0 a1_1 t196 t197 _ A30.out).mono ?_
 rintro e w73 ⟨rfl, hb⟩
 refine ⟨_, rfl, ?_⟩
 replace HO182 := zA (Kd.R_below (zr HO182) hb)
 replace HO189 := zA (Kd.R_below (zr HO189) hb)
 replace BK174 := zb BK174 hb
 replace BK175 := zb BK175 hb
 replace HB := zE (zs2 HB GE174 GE175) hb
 (try clear hb)
 (try clear hb2)
 (try clear hk)
 (try clear hi)
 refine hK.out _ _ ⟨zc0 BK174, zc1 BK174, zc0 BK175, zc1 BK175⟩ (fun hHeld => ?_)
 clear hK K
 refine zN ?_
 refine one_ (i := 4) (N := some 39) #[T,T,T,T,T,F] rfl rfl (by kernel_rfl) (by decide) (fun K hK => ?_)
 refine zgo Try.func6 #[.agg #[.int .i64 t194, .int .i64 t195], .agg #[.int .i64 t196, .int .i64 t197]] ?_
 with_reducible refine (impl_SkyLeg.calls k t194 t195 t196 t197 t198 _ A31.out).mono ?_
 rintro e w74 ⟨v199, rfl, ho0, hb⟩
 refine ⟨_, rfl, ?_⟩
 have HO200 := zA (Kd.R_lower (Kd.R_new' (Kd.R_new' ho0 (Kd.R_lt (zr HO182))) (Kd.R_lt (zr HO189))) (below_size (zs2 HB GE174 GE175)))
 replace HO182 := zA (Kd.R_elder' (zr HO182) (Kd.R_base ho0) hb)
 replace HO189 := zA (Kd.R_elder' (zr HO189) (Kd.R_base ho0) hb)
 replace BK174 := zb BK174 hb
 replace BK175 := zb BK175 hb
 replace HB := zE (zs2 HB GE174 GE175) hb
 (try clear hb)
 (try clear hb2)
 (try clear hk)
 (try clear hi)
 (try clear ho0)
 refine hK.out _ _ ⟨zc0 BK174, zc1 BK174, zc0 BK175, zc1 BK175⟩ (fun hHeld => ?_)
 clear hK K
 refine zN ?_
 refine zp 5 ?_
 refine done_ (by kernel_rfl) ?_
 obtain ⟨Ao75, co75, eo75⟩ := Kd.R_slice HO200.out
 subst eo75
 try go_wp2_with (first | ((with_reducible refine gate_callee (f := 7) rfl ?_); refine zgl (N := some 42) Try.func7 #[.slice Ao75 t198.length co75, .slice Ao68 t180.length co68] ?_; (with_reducible refine (laws_eqSkyCellS.calls k _ _ t198 _ _ t180 true _ ?side1 ?side2 ?side3 ?side4 A32.out).mono ?_); (case side1 => repeat (first | exact (Kd.R_reads' HO200.out).2.2 | (with_reducible refine Kd.C_alloc ?_ _) | (with_reducible refine Kd.C_drewN ?_ _) | (with_reducible refine Kd.C_drew ?_))); (case side2 => exact (Kd.R_reads' HO200.out).2.1); (case side3 => repeat (first | exact (Kd.R_reads' HO182.out).2.2 | (with_reducible refine Kd.C_alloc ?_ _) | (with_reducible refine Kd.C_drewN ?_ _) | (with_reducible refine Kd.C_drew ?_))); (case side4 => exact (Kd.R_reads' HO182.out).2.1); rintro e w76 ⟨rfl, hb⟩; refine ⟨_, rfl, ?_⟩; replace HO182 := zA (Kd.R_below (zr HO182) hb); replace HO189 := zA (Kd.R_below (zr HO189) hb); replace HO200 := zA (Kd.R_below (zr HO200) hb); replace BK174 := zb BK174 hb; replace BK175 := zb BK175 hb; replace HB := zE (zs2 HB GE174 GE175) hb; (try clear hb); (try clear hb2); (try clear hk); (try clear hi)) | ((with_reducible refine gate_callee (f := 9) rfl ?_); refine goesL_ (some 46) rfl rfl Try.func9 (by kernel_rfl) rfl #[.slice Ao67 t192.length co67, .int .i64 1] rfl (by (try simp only [List.map_toArray, List.map_cons, List.map_nil]); first | done | (rw [show t192.length = t187.length from (Kd.R_reads' HO189.out).1.symm] <;> rfl) | rfl | (simp only [List.length_drop, List.length_take]; rfl)) ?_; (with_reducible refine (laws_heldSkyCellS.calls k _ _ t192 1 t202 _ ?side1 ?side2 A34.out).mono ?_); (case side1 => repeat (first | exact (Kd.R_reads' HO189.out).2.2 | (with_reducible refine Kd.C_alloc ?_ _) | (with_reducible refine Kd.C_drewN ?_ _) | (with_reducible refine Kd.C_drew ?_))); (case side2 => rw [show t192.length = t187.length from (Kd.R_reads' HO189.out).1.symm]; exact (Kd.R_reads' HO189.out).2.1); rintro e w' ⟨rfl, ⟨nd, rfl⟩⟩; refine ⟨_, rfl, ?_⟩))
 go_ret
 exact ⟨ze, zs2 HB GE174 GE175⟩
end Go.Proofs.Ytlmolfiinhblnaa.QFnExactSkyLeg
