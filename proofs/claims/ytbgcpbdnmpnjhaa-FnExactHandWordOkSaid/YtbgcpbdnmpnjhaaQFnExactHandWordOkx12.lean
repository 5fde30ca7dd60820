/- The walk of what the law FnExactHandWordOk reaches: laid by a program of this session (ownprint.py). -/
import Derived.Test.YtbgcpbdnmpnjhaaQFnExactHandWordOkx0
import Derived.Test.YtbgcpbdnmpnjhaaQFnExactHandWordOkx1
import Derived.Test.YtbgcpbdnmpnjhaaQFnExactHandWordOkx5
import Derived.Test.YtbgcpbdnmpnjhaaQFnExactHandWordOkx6
import Derived.Test.YtbgcpbdnmpnjhaaQFnExactHandWordOkx9
import Derived.Test.YtbgcpbdnmpnjhaaQFnExactHandWordOkx10
import Derived.Test.YtbgcpbdnmpnjhaaQFnExactHandWordOkx11
namespace Go.Proofs.Ytbgcpbdnmpnjhaa.QFnExactHandWordOk
open Go.RowKit Go.Proofs.YtbgcpbdnmpnjhaaW.PrintWords Go.Proofs.YtbgcpbdnmpnjhaaW.PrintLast Go.Proofs.YtbgcpbdnmpnjhaaW.PrintMore Go.Proofs.Ytbgcpbdnmpnjhaa.Z
attribute [local go_sem] max2_int min2_int max_two min_two max_three min_three max_four min_four zdn   -- for this text's walks alone
set_option linter.unusedVariables false
set_option linter.unusedSimpArgs false
def laws_FnExactHandWordOk.f (k : Nat) (l0 : List (S40)) (a1_0 : Int) (a1_1 : ByteArray) (a1_2 : ByteArray) (a1_3 : ByteArray) (a1_4 : Int) (a1_5 : Int) (a1_6 : Int) (l1_7 : List (S59)) : Option (Bool) := (laws_szHandZoneS.f k l0 1048576).bind fun t229 => (if t229 < 0 then (some true) else ((laws_szHandWord.f a1_0 a1_1 a1_2 a1_3 a1_4 a1_5 a1_6 l1_7 t229).bind fun t230 => (if t230 < 0 then (some true) else ((laws_toHandZoneS.f k l0).bind fun t231 => ((laws_toHandWord.f k a1_0 a1_1 a1_2 a1_3 a1_4 a1_5 a1_6 l1_7).bind fun bt234 => ((spec_HandWordOk.f k t231 bt234.1 bt234.2.1 bt234.2.2.1 bt234.2.2.2.1 bt234.2.2.2.2.1 bt234.2.2.2.2.2.1 bt234.2.2.2.2.2.2.1 bt234.2.2.2.2.2.2.2).bind fun t244 => ((laws_toHandZoneS.f k l0).bind fun t245 => ((laws_toHandWord.f k a1_0 a1_1 a1_2 a1_3 a1_4 a1_5 a1_6 l1_7).bind fun bt248 => ((impl_HandWordOk.f k t245 bt248.1 bt248.2.1 bt248.2.2.1 bt248.2.2.2.1 bt248.2.2.2.2.1 bt248.2.2.2.2.2.1 bt248.2.2.2.2.2.2.1 bt248.2.2.2.2.2.2.2).bind fun t259 => (if (t259 != t244) = true then (some false) else ((laws_toHandZoneS.f k l0).bind fun t260 => ((laws_eqHandZoneS.f k t245 t260).bind fun t263 => (if t263 = true then ((laws_toHandWord.f k a1_0 a1_1 a1_2 a1_3 a1_4 a1_5 a1_6 l1_7).bind fun bt264 => ((laws_eqHandWord.f k bt248.1 bt248.2.1 bt248.2.2.1 bt248.2.2.2.1 bt248.2.2.2.2.1 bt248.2.2.2.2.2.1 bt248.2.2.2.2.2.2.1 bt248.2.2.2.2.2.2.2 bt264.1 bt264.2.1 bt264.2.2.1 bt264.2.2.2.1 bt264.2.2.2.2.1 bt264.2.2.2.2.2.1 bt264.2.2.2.2.2.2.1 bt264.2.2.2.2.2.2.2).bind fun t274 => (if t274 = true then (some true) else (some false)))) else (some false))))))))))))))
set_option maxHeartbeats 8000000 in
set_option maxRecDepth 100000 in
theorem laws_FnExactHandWordOk.calls (k : Nat) (A0 : Option Addr) (c0 : Nat) (l0 : List (S40)) (a1_0 : Int) (a1_1 : ByteArray) (a1_2 : ByteArray) (a1_3 : ByteArray) (a1_4 : Int) (a1_5 : Int) (a1_6 : Int) (A1_7 : Option Addr) (c1_7 : Nat) (l1_7 : List (S59)) (r : Bool) (w : World) (hr0 : Kd.C k40 w A0 l0.length l0) (hc0 : l0.length ≤ c0) (hr1_7 : Kd.C k59 w A1_7 l1_7.length l1_7) (hc1_7 : l1_7.length ≤ c1_7) (h : laws_FnExactHandWordOk.f k l0 a1_0 a1_1 a1_2 a1_3 a1_4 a1_5 a1_6 l1_7 = some r) :
 Calls Try.prog 3 #[.slice A0 l0.length c0, .agg #[.int .i64 a1_0, .string a1_1, .string a1_2, .string a1_3, .int .i64 a1_4, .int .i64 a1_5, .int .i64 a1_6, .slice A1_7 l1_7.length c1_7]] w fun e w' => e = .returned (.bool r) ∧ Below w.heap.size w w' := by
 have hu25 := Try.underlying25
 have hu33 := Try.underlying33
 have HR0 := Aside0.mk hr0
 have HC0 := Aside0.mk hc0
 clear hr0 hc0
 have HR1_7 := Aside0.mk hr1_7
 have HC1_7 := Aside0.mk hc1_7
 clear hr1_7 hc1_7
 have HB := Aside0.mk (Below.refl w.heap.size w)
 have H : ((laws_szHandZoneS.f k l0 1048576).bind fun t229 => (if t229 < 0 then (some true) else ((laws_szHandWord.f a1_0 a1_1 a1_2 a1_3 a1_4 a1_5 a1_6 l1_7 t229).bind fun t230 => (if t230 < 0 then (some true) else ((laws_toHandZoneS.f k l0).bind fun t231 => ((laws_toHandWord.f k a1_0 a1_1 a1_2 a1_3 a1_4 a1_5 a1_6 l1_7).bind fun bt234 => ((spec_HandWordOk.f k t231 bt234.1 bt234.2.1 bt234.2.2.1 bt234.2.2.2.1 bt234.2.2.2.2.1 bt234.2.2.2.2.2.1 bt234.2.2.2.2.2.2.1 bt234.2.2.2.2.2.2.2).bind fun t244 => ((laws_toHandZoneS.f k l0).bind fun t245 => ((laws_toHandWord.f k a1_0 a1_1 a1_2 a1_3 a1_4 a1_5 a1_6 l1_7).bind fun bt248 => ((impl_HandWordOk.f k t245 bt248.1 bt248.2.1 bt248.2.2.1 bt248.2.2.2.1 bt248.2.2.2.2.1 bt248.2.2.2.2.2.1 bt248.2.2.2.2.2.2.1 bt248.2.2.2.2.2.2.2).bind fun t259 => (if (t259 != t244) = true then (some false) else ((laws_toHandZoneS.f k l0).bind fun t260 => ((laws_eqHandZoneS.f k t245 t260).bind fun t263 => (if t263 = true then ((laws_toHandWord.f k a1_0 a1_1 a1_2 a1_3 a1_4 a1_5 a1_6 l1_7).bind fun bt264 => ((laws_eqHandWord.f k bt248.1 bt248.2.1 bt248.2.2.1 bt248.2.2.2.1 bt248.2.2.2.2.1 bt248.2.2.2.2.2.1 bt248.2.2.2.2.2.2.1 bt248.2.2.2.2.2.2.2 bt264.1 bt264.2.1 bt264.2.2.1 bt264.2.2.2.1 bt264.2.2.2.2.1 bt264.2.2.2.2.2.1 bt264.2.2.2.2.2.2.1 bt264.2.2.2.2.2.2.2).bind fun t274 => (if t274 = true then (some true) else (some false)))) else (some false))))))))))))))) = some r := h
 clear h
 replace H := zbd H; obtain ⟨t229, A3, H⟩ := H
 by_cases c4 : t229 < 0
 ·rw [if_pos c4] at H
  have c4b0 : decide (t229 < 0) = true := decide_eq_true c4
  clear c4
  obtain rfl := Option.some.inj H
  go_enter Try.func3, Try.ntmps3
  go_wp2_with (first | ((with_reducible refine gate_dst (N := 3) rfl ?_); refine zbx 3 #[.int .i64 a1_0, .string a1_1, .string a1_2, .string a1_3, .int .i64 a1_4, .int .i64 a1_5, .int .i64 a1_6, .slice A1_7 l1_7.length c1_7] 25 ?_; intro gb228 hg w5 hbox hb; have BK228 := zA hbox; have GW228 := zgs hg (zs0 HB); have GE228 := zgs hg (zs0 HB); replace HB := zE (zs0 HB) hb; clear hb hbox hg) | ((with_reducible refine gate_callee (f := 4) rfl ?_); refine zgl (N := some 12) Try.func4 #[.slice A0 l0.length c0, .int .i64 1048576] ?_; (with_reducible refine (laws_szHandZoneS.calls k _ _ l0 1048576 t229 _ ?side1 ?side2 A3.out).mono ?_); (case side1 => exact zC HR0 HB); (case side2 => exact HC0.out); rintro e w6 ⟨rfl, hb⟩; refine ⟨_, rfl, ?_⟩; replace BK228 := zb BK228 hb; replace HB := zE (zs1 HB GE228) hb; (try clear hb); (try clear hb2); (try clear hk); (try clear hi)))
  go_ret
  exact ⟨ze, zs1 HB GE228⟩
 rw [if_neg c4] at H
 have c4b0 : decide (t229 < 0) = false := decide_eq_false c4
 clear c4
 replace H := zbd H; obtain ⟨t230, A7, H⟩ := H
 by_cases c8 : t230 < 0
 ·rw [if_pos c8] at H
  have c8b0 : decide (t230 < 0) = true := decide_eq_true c8
  clear c8
  obtain rfl := Option.some.inj H
  go_enter Try.func3, Try.ntmps3
  go_wp2_with (first | ((with_reducible refine gate_dst (N := 3) rfl ?_); refine zbx 3 #[.int .i64 a1_0, .string a1_1, .string a1_2, .string a1_3, .int .i64 a1_4, .int .i64 a1_5, .int .i64 a1_6, .slice A1_7 l1_7.length c1_7] 25 ?_; intro gb228 hg w9 hbox hb; have BK228 := zA hbox; have GW228 := zgs hg (zs0 HB); have GE228 := zgs hg (zs0 HB); replace HB := zE (zs0 HB) hb; clear hb hbox hg) | ((with_reducible refine gate_callee (f := 4) rfl ?_); refine zgl (N := some 12) Try.func4 #[.slice A0 l0.length c0, .int .i64 1048576] ?_; (with_reducible refine (laws_szHandZoneS.calls k _ _ l0 1048576 t229 _ ?side1 ?side2 A3.out).mono ?_); (case side1 => exact zC HR0 HB); (case side2 => exact HC0.out); rintro e w10 ⟨rfl, hb⟩; refine ⟨_, rfl, ?_⟩; replace BK228 := zb BK228 hb; replace HB := zE (zs1 HB GE228) hb; (try clear hb); (try clear hb2); (try clear hk); (try clear hi); obtain ⟨hcz11_0, hcz11_1, hcz11_2, hcz11_3, hcz11_4, hcz11_5, hcz11_6, hcz11_7⟩ := zd8 BK228; obtain ⟨hfz11_0, hfz11_1, hfz11_2, hfz11_3, hfz11_4, hfz11_5, hfz11_6, hfz11_7⟩ := zn8 BK228) | ((with_reducible refine gate_callee (f := 5) rfl ?_); refine zgl (N := some 17) Try.func5 #[.agg #[.int .i64 a1_0, .string a1_1, .string a1_2, .string a1_3, .int .i64 a1_4, .int .i64 a1_5, .int .i64 a1_6, .slice A1_7 l1_7.length c1_7], .int .i64 t229] ?_; (with_reducible refine (laws_szHandWord.calls a1_0 a1_1 a1_2 a1_3 a1_4 a1_5 a1_6 _ _ l1_7 t229 t230 _ ?side1 ?side2 A7.out).mono ?_); (case side1 => exact zC HR1_7 HB); (case side2 => exact HC1_7.out); rintro e w12 ⟨rfl, hb⟩; refine ⟨_, rfl, ?_⟩; replace BK228 := zb BK228 hb; replace HB := zE (zs1 HB GE228) hb; (try clear hb); (try clear hb2); (try clear hk); (try clear hi)))
  go_ret
  exact ⟨ze, zs1 HB GE228⟩
 rw [if_neg c8] at H
 have c8b0 : decide (t230 < 0) = false := decide_eq_false c8
 clear c8
 replace H := zbd H; obtain ⟨t231, A13, H⟩ := H
 replace H := Option.bind_eq_some_iff.mp H
 obtain ⟨⟨t234, t235, t236, t237, t238, t239, t240, t241⟩, A140, H⟩ := H
 replace H : ((spec_HandWordOk.f k t231 t234 t235 t236 t237 t238 t239 t240 t241).bind fun t244 => ((laws_toHandZoneS.f k l0).bind fun t245 => ((laws_toHandWord.f k a1_0 a1_1 a1_2 a1_3 a1_4 a1_5 a1_6 l1_7).bind fun bt248 => ((impl_HandWordOk.f k t245 bt248.1 bt248.2.1 bt248.2.2.1 bt248.2.2.2.1 bt248.2.2.2.2.1 bt248.2.2.2.2.2.1 bt248.2.2.2.2.2.2.1 bt248.2.2.2.2.2.2.2).bind fun t259 => (if (t259 != t244) = true then (some false) else ((laws_toHandZoneS.f k l0).bind fun t260 => ((laws_eqHandZoneS.f k t245 t260).bind fun t263 => (if t263 = true then ((laws_toHandWord.f k a1_0 a1_1 a1_2 a1_3 a1_4 a1_5 a1_6 l1_7).bind fun bt264 => ((laws_eqHandWord.f k bt248.1 bt248.2.1 bt248.2.2.1 bt248.2.2.2.1 bt248.2.2.2.2.1 bt248.2.2.2.2.2.1 bt248.2.2.2.2.2.2.1 bt248.2.2.2.2.2.2.2 bt264.1 bt264.2.1 bt264.2.2.1 bt264.2.2.2.1 bt264.2.2.2.2.1 bt264.2.2.2.2.2.1 bt264.2.2.2.2.2.2.1 bt264.2.2.2.2.2.2.2).bind fun t274 => (if t274 = true then (some true) else (some false)))) else (some false))))))))) = some r := H
 have A14 := Aside0.mk A140
 clear A140
 replace H := zbd H; obtain ⟨t244, A15, H⟩ := H
 replace H := Option.bind_eq_some_iff.mp H
 obtain ⟨t245, A160, H⟩ := H
 replace H : ((laws_toHandWord.f k a1_0 a1_1 a1_2 a1_3 a1_4 a1_5 a1_6 l1_7).bind fun bt248 => ((impl_HandWordOk.f k t245 bt248.1 bt248.2.1 bt248.2.2.1 bt248.2.2.2.1 bt248.2.2.2.2.1 bt248.2.2.2.2.2.1 bt248.2.2.2.2.2.2.1 bt248.2.2.2.2.2.2.2).bind fun t259 => (if (t259 != t244) = true then (some false) else ((laws_toHandZoneS.f k l0).bind fun t260 => ((laws_eqHandZoneS.f k t245 t260).bind fun t263 => (if t263 = true then ((laws_toHandWord.f k a1_0 a1_1 a1_2 a1_3 a1_4 a1_5 a1_6 l1_7).bind fun bt264 => ((laws_eqHandWord.f k bt248.1 bt248.2.1 bt248.2.2.1 bt248.2.2.2.1 bt248.2.2.2.2.1 bt248.2.2.2.2.2.1 bt248.2.2.2.2.2.2.1 bt248.2.2.2.2.2.2.2 bt264.1 bt264.2.1 bt264.2.2.1 bt264.2.2.2.1 bt264.2.2.2.2.1 bt264.2.2.2.2.2.1 bt264.2.2.2.2.2.2.1 bt264.2.2.2.2.2.2.2).bind fun t274 => (if t274 = true then (some true) else (some false)))) else (some false))))))) = some r := H
 have A16 := Aside0.mk A160
 clear A160
 replace H := Option.bind_eq_some_iff.mp H
 obtain ⟨⟨t248, t249, t250, t251, t252, t253, t254, t255⟩, A170, H⟩ := H
 replace H : ((impl_HandWordOk.f k t245 t248 t249 t250 t251 t252 t253 t254 t255).bind fun t259 => (if (t259 != t244) = true then (some false) else ((laws_toHandZoneS.f k l0).bind fun t260 => ((laws_eqHandZoneS.f k t245 t260).bind fun t263 => (if t263 = true then ((laws_toHandWord.f k a1_0 a1_1 a1_2 a1_3 a1_4 a1_5 a1_6 l1_7).bind fun bt264 => ((laws_eqHandWord.f k t248 t249 t250 t251 t252 t253 t254 t255 bt264.1 bt264.2.1 bt264.2.2.1 bt264.2.2.2.1 bt264.2.2.2.2.1 bt264.2.2.2.2.2.1 bt264.2.2.2.2.2.2.1 bt264.2.2.2.2.2.2.2).bind fun t274 => (if t274 = true then (some true) else (some false)))) else (some false)))))) = some r := H
 have A17 := Aside0.mk A170
 clear A170
 replace H := zbd H; obtain ⟨t259, A18, H⟩ := H
 by_cases c19 : (t259 != t244) = true
 ·rw [if_pos c19] at H
  have c19b0 : (t259 != t244) = true := c19
  (try (have c19b1 : decide (t259 = t244) = false := by simpa using c19))
  (try (have c19b2 : (t259 == t244) = false := by simpa using c19))
  (try (have c19b3 : ¬ (t259 = t244) := by simpa using c19))
  clear c19
  obtain rfl := Option.some.inj H
  go_enter Try.func3, Try.ntmps3
  try go_wp2_with (first | ((with_reducible refine gate_dst (N := 3) rfl ?_); refine zbx 3 #[.int .i64 a1_0, .string a1_1, .string a1_2, .string a1_3, .int .i64 a1_4, .int .i64 a1_5, .int .i64 a1_6, .slice A1_7 l1_7.length c1_7] 25 ?_; intro gb228 hg w20 hbox hb; have BK228 := zA hbox; have GW228 := zgs hg (zs0 HB); have GE228 := zgs hg (zs0 HB); replace HB := zE (zs0 HB) hb; clear hb hbox hg) | ((with_reducible refine gate_callee (f := 4) rfl ?_); refine zgl (N := some 12) Try.func4 #[.slice A0 l0.length c0, .int .i64 1048576] ?_; (with_reducible refine (laws_szHandZoneS.calls k _ _ l0 1048576 t229 _ ?side1 ?side2 A3.out).mono ?_); (case side1 => exact zC HR0 HB); (case side2 => exact HC0.out); rintro e w21 ⟨rfl, hb⟩; refine ⟨_, rfl, ?_⟩; replace BK228 := zb BK228 hb; replace HB := zE (zs1 HB GE228) hb; (try clear hb); (try clear hb2); (try clear hk); (try clear hi); obtain ⟨hcz22_0, hcz22_1, hcz22_2, hcz22_3, hcz22_4, hcz22_5, hcz22_6, hcz22_7⟩ := zd8 BK228; obtain ⟨hfz22_0, hfz22_1, hfz22_2, hfz22_3, hfz22_4, hfz22_5, hfz22_6, hfz22_7⟩ := zn8 BK228) | ((with_reducible refine gate_callee (f := 5) rfl ?_); refine zgl (N := some 17) Try.func5 #[.agg #[.int .i64 a1_0, .string a1_1, .string a1_2, .string a1_3, .int .i64 a1_4, .int .i64 a1_5, .int .i64 a1_6, .slice A1_7 l1_7.length c1_7], .int .i64 t229] ?_; (with_reducible refine (laws_szHandWord.calls a1_0 a1_1 a1_2 a1_3 a1_4 a1_5 a1_6 _ _ l1_7 t229 t230 _ ?side1 ?side2 A7.out).mono ?_); (case side1 => exact zC HR1_7 HB); (case side2 => exact HC1_7.out); rintro e w23 ⟨rfl, hb⟩; refine ⟨_, rfl, ?_⟩; replace BK228 := zb BK228 hb; replace HB := zE (zs1 HB GE228) hb; (try clear hb); (try clear hb2); (try clear hk); (try clear hi)))
  replace BK228 := Aside0.mk (blk_drew BK228.out)
  replace HB := Aside0.mk (below_drew1 HB.out)
  refine start_ (n := 6) (S := fun w' => w'.cell? ⟨gb228, 0, none⟩ = some (.int .i64 a1_0) ∧ w'.cell? ⟨gb228, 1, none⟩ = some (.string a1_1) ∧ w'.cell? ⟨gb228, 2, none⟩ = some (.string a1_2) ∧ w'.cell? ⟨gb228, 3, none⟩ = some (.string a1_3) ∧ w'.cell? ⟨gb228, 4, none⟩ = some (.int .i64 a1_4) ∧ w'.cell? ⟨gb228, 5, none⟩ = some (.int .i64 a1_5) ∧ w'.cell? ⟨gb228, 6, none⟩ = some (.int .i64 a1_6) ∧ w'.cell? ⟨gb228, 7, none⟩ = some (.slice A1_7 l1_7.length c1_7)) (ds := []) #[false, false, false, false, false, false] (by kernel_rfl) rfl rfl ⟨zc0 BK228, zc1 BK228, zc2 BK228, zc3 BK228, zc4 BK228, zc5 BK228, zc6 BK228, zc7 BK228⟩ (fun hHeld => ?_)
  generalize w23.drew = w24 at BK228 HB hHeld ⊢
  refine zp 0 ?_
  refine take_ (i := 2) (N := some 22) (v := ?_) (a' := ?_) #[true, false, true, false, false, false] rfl rfl (by kernel_rfl) (fun _ _ _ h => h) (Or.inl ⟨by rfl, ?_⟩) hHeld ?_ ?_; rotate_left; exact zt8; rotate_left; exact zput
  refine one_ (i := 1) (N := some 21) #[true, true, true, false, false, false] rfl rfl (by kernel_rfl) (by decide) (fun K hK => ?_)
  refine zgo Try.func7 #[.slice A0 l0.length c0] ?_
  with_reducible refine (laws_toHandZoneS.calls k _ _ l0 t231 _ ?side1 ?side2 A13.out).mono ?_
  (case side1 => exact zC HR0 HB)
  (case side2 => exact HC0.out)
  rintro e w25 ⟨v232, rfl, ho0, hb⟩
  refine ⟨_, rfl, ?_⟩
  have HO233 := Aside0.mk (Kd.R_lower ho0 (below_size (zs1 HB GE228)))
  replace BK228 := zb BK228 hb
  replace HB := zE (zs1 HB GE228) hb
  (try clear hb)
  (try clear hb2)
  (try clear hk)
  (try clear hi)
  (try clear ho0)
  refine hK.out _ _ ⟨zc0 BK228, zc1 BK228, zc2 BK228, zc3 BK228, zc4 BK228, zc5 BK228, zc6 BK228, zc7 BK228⟩ (fun hHeld => ?_)
  clear hK K
  refine zN ?_
  refine one_ (i := 3) (N := some 23) #[true, true, true, true, false, false] rfl rfl (by kernel_rfl) (by decide) (fun K hK => ?_)
  refine zgo Try.func8 #[.agg #[.int .i64 a1_0, .string a1_1, .string a1_2, .string a1_3, .int .i64 a1_4, .int .i64 a1_5, .int .i64 a1_6, .slice A1_7 l1_7.length c1_7]] ?_
  with_reducible refine (laws_toHandWord.calls k a1_0 a1_1 a1_2 a1_3 a1_4 a1_5 a1_6 _ _ l1_7 t234 t235 t236 t237 t238 t239 t240 t241 _ ?side1 ?side2 A14.out).mono ?_
  (case side1 => exact zC HR1_7 HB)
  (case side2 => exact HC1_7.out)
  rintro e w26 ⟨v242, rfl, ho0, hb⟩
  refine ⟨_, rfl, ?_⟩
  have HO243 := Aside0.mk (Kd.R_lower ho0 (below_size (zs1 HB GE228)))
  replace HO233 := Aside0.mk (Kd.R_below (zr HO233) hb)
  replace BK228 := zb BK228 hb
  replace HB := zE (zs1 HB GE228) hb
  (try clear hb)
  (try clear hb2)
  (try clear hk)
  (try clear hi)
  (try clear ho0)
  obtain ⟨Ao27, co27, eo27⟩ := Kd.R_slice HO233.out
  (first | subst eo27 | (injection eo27 with f1_ f2_ f3_; have f4_ := f1_.symm; have f5_ := f3_.symm; clear f1_ f2_ f3_; subst f4_; subst f5_))
  obtain ⟨Ao28, co28, eo28⟩ := Kd.R_slice HO243.out
  (first | subst eo28 | (injection eo28 with f1_ f2_ f3_; have f4_ := f1_.symm; have f5_ := f3_.symm; clear f1_ f2_ f3_; subst f4_; subst f5_))
  refine hK.out _ _ ⟨zc0 BK228, zc1 BK228, zc2 BK228, zc3 BK228, zc4 BK228, zc5 BK228, zc6 BK228, zc7 BK228⟩ (fun hHeld => ?_)
  clear hK K
  refine zN ?_
  refine one_ (i := 4) (N := some 24) #[true, true, true, true, true, false] rfl rfl (by kernel_rfl) (by decide) (fun K hK => ?_)
  refine zgo Try.func6 #[.slice Ao27 t231.length co27, .agg #[.int .i64 t234, .string t235, .string t236, .string t237, .int .i64 t238, .int .i64 t239, .int .i64 t240, .slice Ao28 t241.length co28]] ?_
  with_reducible refine (spec_HandWordOk.calls k _ _ t231 t234 t235 t236 t237 t238 t239 t240 _ _ t241 t244 _ ?side1 ?side2 ?side3 ?side4 A15.out).mono ?_
  (case side1 => repeat (first | exact (Kd.R_reads' HO233.out).2.2 | (with_reducible refine Kd.C_alloc ?_ _) | (with_reducible refine Kd.C_drewN ?_ _) | (with_reducible refine Kd.C_drew ?_)))
  (case side2 => exact (Kd.R_reads' HO233.out).2.1)
  (case side3 => repeat (first | exact (Kd.R_reads' HO243.out).2.2 | (with_reducible refine Kd.C_alloc ?_ _) | (with_reducible refine Kd.C_drewN ?_ _) | (with_reducible refine Kd.C_drew ?_)))
  (case side4 => exact (Kd.R_reads' HO243.out).2.1)
  rintro e w29 ⟨rfl, hb⟩
  refine ⟨_, rfl, ?_⟩
  replace HO233 := Aside0.mk (Kd.R_below (zr HO233) hb)
  replace HO243 := Aside0.mk (Kd.R_below (zr HO243) hb)
  replace BK228 := zb BK228 hb
  replace HB := zE (zs1 HB GE228) hb
  (try clear hb)
  (try clear hb2)
  (try clear hk)
  (try clear hi)
  refine hK.out _ _ ⟨zc0 BK228, zc1 BK228, zc2 BK228, zc3 BK228, zc4 BK228, zc5 BK228, zc6 BK228, zc7 BK228⟩ (fun hHeld => ?_)
  clear hK K
  refine zN ?_
  refine zp 5 ?_
  refine done_ (by kernel_rfl) ?_
  try go_wp2_with (first | ((with_reducible refine gate_callee (f := 7) rfl ?_); refine zgl (N := some 26) Try.func7 #[.slice A0 l0.length c0] ?_; (with_reducible refine (laws_toHandZoneS.calls k _ _ l0 t245 _ ?side1 ?side2 A16.out).mono ?_); (case side1 => exact zC HR0 HB); (case side2 => exact HC0.out); rintro e w30 ⟨v246, rfl, ho0, hb⟩; refine ⟨_, rfl, ?_⟩; have HO247 := Aside0.mk (Kd.R_lower (Kd.R_new' ho0 (Kd.R_lt (zr HO233))) (below_size (zs1 HB GE228))); replace HO233 := Aside0.mk (Kd.R_elder' (zr HO233) (Kd.R_base ho0) hb); replace HO243 := Aside0.mk (Kd.R_below (zr HO243) hb); replace BK228 := zb BK228 hb; replace HB := zE (zs1 HB GE228) hb; (try clear hb); (try clear hb2); (try clear hk); (try clear hi); (try clear ho0); obtain ⟨hcz31_0, hcz31_1, hcz31_2, hcz31_3, hcz31_4, hcz31_5, hcz31_6, hcz31_7⟩ := zd8 BK228; obtain ⟨hfz31_0, hfz31_1, hfz31_2, hfz31_3, hfz31_4, hfz31_5, hfz31_6, hfz31_7⟩ := zn8 BK228) | ((with_reducible refine gate_callee (f := 8) rfl ?_); refine zgl (N := some 28) Try.func8 #[.agg #[.int .i64 a1_0, .string a1_1, .string a1_2, .string a1_3, .int .i64 a1_4, .int .i64 a1_5, .int .i64 a1_6, .slice A1_7 l1_7.length c1_7]] ?_; (with_reducible refine (laws_toHandWord.calls k a1_0 a1_1 a1_2 a1_3 a1_4 a1_5 a1_6 _ _ l1_7 t248 t249 t250 t251 t252 t253 t254 t255 _ ?side1 ?side2 A17.out).mono ?_); (case side1 => exact zC HR1_7 HB); (case side2 => exact HC1_7.out); rintro e w32 ⟨v256, rfl, ho0, hb⟩; refine ⟨_, rfl, ?_⟩; have HO257 := Aside0.mk (Kd.R_lower (Kd.R_new' ho0 (Kd.R_lt (zr HO243))) (below_size (zs1 HB GE228))); replace HO233 := Aside0.mk (Kd.R_below (zr HO233) hb); replace HO243 := Aside0.mk (Kd.R_elder' (zr HO243) (Kd.R_base ho0) hb); replace HO247 := Aside0.mk (Kd.R_below (zr HO247) hb); replace BK228 := zb BK228 hb; replace HB := zE (zs1 HB GE228) hb; (try clear hb); (try clear hb2); (try clear hk); (try clear hi); (try clear ho0)) | ((with_reducible refine gate_dst (N := 8) rfl ?_); refine zbx 8 #[.int .i64 0, .string (⟨#[]⟩ : ByteArray), .string (⟨#[]⟩ : ByteArray), .string (⟨#[]⟩ : ByteArray), .int .i64 0, .int .i64 0, .int .i64 0, .slice none 0 0] 33 ?_; intro gb258 hg w33 hbox hb; have BK258 := zA hbox; have GW258 := zgs hg (zs1 HB GE228); have GE258 := zgs hg (zs1 HB GE228); have NB228_258 := zne hg BK228; have NB258_228 := znf hg BK228; replace HO233 := Aside0.mk (Kd.R_below (zr HO233) hb); replace HO243 := Aside0.mk (Kd.R_below (zr HO243) hb); replace HO247 := Aside0.mk (Kd.R_below (zr HO247) hb); replace HO257 := Aside0.mk (Kd.R_below (zr HO257) hb); replace BK228 := zb BK228 hb; replace HB := zE (zs1 HB GE228) hb; clear hb hbox hg; have hnb34 := NB258_228.out; have hnc34 := NB228_258.out; obtain ⟨hcz35_0, hcz35_1, hcz35_2, hcz35_3, hcz35_4, hcz35_5, hcz35_6, hcz35_7⟩ := zd8 BK258; obtain ⟨hfz35_0, hfz35_1, hfz35_2, hfz35_3, hfz35_4, hfz35_5, hfz35_6, hfz35_7⟩ := zn8 BK258; obtain ⟨Ao36, co36, eo36⟩ := Kd.R_slice HO257.out; subst eo36; obtain ⟨Ao37, co37, eo37⟩ := Kd.R_slice HO247.out; subst eo37) | ((with_reducible refine gate_callee (f := 9) rfl ?_); refine zgl (N := some 31) Try.func9 #[.slice Ao37 t245.length co37, .agg #[.int .i64 t248, .string t249, .string t250, .string t251, .int .i64 t252, .int .i64 t253, .int .i64 t254, .slice Ao36 t255.length co36]] ?_; (with_reducible refine (impl_HandWordOk.calls k _ _ t245 t248 t249 t250 t251 t252 t253 t254 _ _ t255 t259 _ ?side1 ?side2 ?side3 ?side4 A18.out).mono ?_); (case side1 => refine (Kd.R_reads' (e := 48) (base := w.heap.size) (ok := fun k_ => (True ∧ some k_ ≠ (.slice Ao27 t231.length co27 : Value).ownBlock)) (n := t245.length) (c := co37) ?_).2.2; exact (zRf HO247 BK258 (fun _ h_ => h_.1))); (case side2 => exact (Kd.R_reads' HO247.out).2.1); (case side3 => refine (Kd.R_reads' (e := 56) (base := w.heap.size) (ok := fun k_ => (True ∧ some k_ ≠ (.slice Ao28 t241.length co28 : Value).ownBlock)) (n := t255.length) (c := co36) ?_).2.2; exact (zRf HO257 BK258 (fun _ h_ => h_.1))); (case side4 => exact (Kd.R_reads' HO257.out).2.1); rintro e w38 ⟨rfl, hb⟩; refine ⟨_, rfl, ?_⟩; replace HO233 := Aside0.mk (Kd.R_below (zRf HO233 BK258 (fun _ h_ => h_.1)) hb); replace HO243 := Aside0.mk (Kd.R_below (zRf HO243 BK258 (fun _ h_ => h_.1)) hb); replace HO247 := Aside0.mk (Kd.R_below (zRf HO247 BK258 (fun _ h_ => h_.1)) hb); replace HO257 := Aside0.mk (Kd.R_below (zRf HO257 BK258 (fun _ h_ => h_.1)) hb); replace BK228 := Aside0.mk (blk_below (g := gb228) (o := .cells #[.int .i64 a1_0, .string a1_1, .string a1_2, .string a1_3, .int .i64 a1_4, .int .i64 a1_5, .int .i64 a1_6, .slice A1_7 l1_7.length c1_7] 25 (0, 0)) (zpf BK228 NB228_258) hb); replace BK258 := Aside0.mk (blk_below (g := gb258) (o := .cells #[.int .i64 t248, .string t249, .string t250, .string t251, .int .i64 t252, .int .i64 t253, .int .i64 t254, .slice Ao36 t255.length co36] 33 (0, 0)) (zpb BK258) hb); replace HB := zE (zs2 HB GE228 GE258) hb; (try clear hb); (try clear hb2); (try clear hk); (try clear hi)))
  go_ret
  exact ⟨ze, zs2 HB GE228 GE258⟩
 rw [if_neg c19] at H
 have c19b0 : (t259 != t244) = false := by simpa using c19
 (try (have c19b1 : decide (t259 = t244) = true := by simpa using c19))
 (try (have c19b2 : (t259 == t244) = true := by simpa using c19))
 clear c19
 replace H := zbd H; obtain ⟨t260, A39, H⟩ := H
 replace H := Option.bind_eq_some_iff.mp H
 obtain ⟨t263, A400, H⟩ := H
 replace H : (if t263 = true then ((laws_toHandWord.f k a1_0 a1_1 a1_2 a1_3 a1_4 a1_5 a1_6 l1_7).bind fun bt264 => ((laws_eqHandWord.f k t248 t249 t250 t251 t252 t253 t254 t255 bt264.1 bt264.2.1 bt264.2.2.1 bt264.2.2.2.1 bt264.2.2.2.2.1 bt264.2.2.2.2.2.1 bt264.2.2.2.2.2.2.1 bt264.2.2.2.2.2.2.2).bind fun t274 => (if t274 = true then (some true) else (some false)))) else (some false)) = some r := H
 have A40 := Aside0.mk A400
 clear A400
 by_cases c41 : t263 = true
 rotate_left
 ·replace c41 := Bool.eq_false_iff.mpr c41
  subst c41
  have H1 : (some false) = some r := by rw [if_neg (show ¬ (false = true) by decide)] at H; exact H
  clear H
  have H := H1
  clear H1
  obtain rfl := Option.some.inj H
  go_enter Try.func3, Try.ntmps3
  try go_wp2_with (first | ((with_reducible refine gate_dst (N := 3) rfl ?_); refine zbx 3 #[.int .i64 a1_0, .string a1_1, .string a1_2, .string a1_3, .int .i64 a1_4, .int .i64 a1_5, .int .i64 a1_6, .slice A1_7 l1_7.length c1_7] 25 ?_; intro gb228 hg w97 hbox hb; have BK228 := zA hbox; have GW228 := zgs hg (zs0 HB); have GE228 := zgs hg (zs0 HB); replace HB := zE (zs0 HB) hb; clear hb hbox hg) | ((with_reducible refine gate_callee (f := 4) rfl ?_); refine zgl (N := some 12) Try.func4 #[.slice A0 l0.length c0, .int .i64 1048576] ?_; (with_reducible refine (laws_szHandZoneS.calls k _ _ l0 1048576 t229 _ ?side1 ?side2 A3.out).mono ?_); (case side1 => exact zC HR0 HB); (case side2 => exact HC0.out); rintro e w98 ⟨rfl, hb⟩; refine ⟨_, rfl, ?_⟩; replace BK228 := zb BK228 hb; replace HB := zE (zs1 HB GE228) hb; (try clear hb); (try clear hb2); (try clear hk); (try clear hi); obtain ⟨hcz99_0, hcz99_1, hcz99_2, hcz99_3, hcz99_4, hcz99_5, hcz99_6, hcz99_7⟩ := zd8 BK228; obtain ⟨hfz99_0, hfz99_1, hfz99_2, hfz99_3, hfz99_4, hfz99_5, hfz99_6, hfz99_7⟩ := zn8 BK228) | ((with_reducible refine gate_callee (f := 5) rfl ?_); refine zgl (N := some 17) Try.func5 #[.agg #[.int .i64 a1_0, .string a1_1, .string a1_2, .string a1_3, .int .i64 a1_4, .int .i64 a1_5, .int .i64 a1_6, .slice A1_7 l1_7.length c1_7], .int .i64 t229] ?_; (with_reducible refine (laws_szHandWord.calls a1_0 a1_1 a1_2 a1_3 a1_4 a1_5 a1_6 _ _ l1_7 t229 t230 _ ?side1 ?side2 A7.out).mono ?_); (case side1 => exact zC HR1_7 HB); (case side2 => exact HC1_7.out); rintro e w100 ⟨rfl, hb⟩; refine ⟨_, rfl, ?_⟩; replace BK228 := zb BK228 hb; replace HB := zE (zs1 HB GE228) hb; (try clear hb); (try clear hb2); (try clear hk); (try clear hi)))
  replace BK228 := Aside0.mk (blk_drew BK228.out)
  replace HB := Aside0.mk (below_drew1 HB.out)
  refine start_ (n := 6) (S := fun w' => w'.cell? ⟨gb228, 0, none⟩ = some (.int .i64 a1_0) ∧ w'.cell? ⟨gb228, 1, none⟩ = some (.string a1_1) ∧ w'.cell? ⟨gb228, 2, none⟩ = some (.string a1_2) ∧ w'.cell? ⟨gb228, 3, none⟩ = some (.string a1_3) ∧ w'.cell? ⟨gb228, 4, none⟩ = some (.int .i64 a1_4) ∧ w'.cell? ⟨gb228, 5, none⟩ = some (.int .i64 a1_5) ∧ w'.cell? ⟨gb228, 6, none⟩ = some (.int .i64 a1_6) ∧ w'.cell? ⟨gb228, 7, none⟩ = some (.slice A1_7 l1_7.length c1_7)) (ds := []) #[false, false, false, false, false, false] (by kernel_rfl) rfl rfl ⟨zc0 BK228, zc1 BK228, zc2 BK228, zc3 BK228, zc4 BK228, zc5 BK228, zc6 BK228, zc7 BK228⟩ (fun hHeld => ?_)
  generalize w100.drew = w101 at BK228 HB hHeld ⊢
  refine zp 0 ?_
  refine take_ (i := 2) (N := some 22) (v := ?_) (a' := ?_) #[true, false, true, false, false, false] rfl rfl (by kernel_rfl) (fun _ _ _ h => h) (Or.inl ⟨by rfl, ?_⟩) hHeld ?_ ?_; rotate_left; exact zt8; rotate_left; exact zput
  refine one_ (i := 1) (N := some 21) #[true, true, true, false, false, false] rfl rfl (by kernel_rfl) (by decide) (fun K hK => ?_)
  refine zgo Try.func7 #[.slice A0 l0.length c0] ?_
  with_reducible refine (laws_toHandZoneS.calls k _ _ l0 t231 _ ?side1 ?side2 A13.out).mono ?_
  (case side1 => exact zC HR0 HB)
  (case side2 => exact HC0.out)
  rintro e w102 ⟨v232, rfl, ho0, hb⟩
  refine ⟨_, rfl, ?_⟩
  have HO233 := Aside0.mk (Kd.R_lower ho0 (below_size (zs1 HB GE228)))
  replace BK228 := zb BK228 hb
  replace HB := zE (zs1 HB GE228) hb
  (try clear hb)
  (try clear hb2)
  (try clear hk)
  (try clear hi)
  (try clear ho0)
  refine hK.out _ _ ⟨zc0 BK228, zc1 BK228, zc2 BK228, zc3 BK228, zc4 BK228, zc5 BK228, zc6 BK228, zc7 BK228⟩ (fun hHeld => ?_)
  clear hK K
  refine zN ?_
  refine one_ (i := 3) (N := some 23) #[true, true, true, true, false, false] rfl rfl (by kernel_rfl) (by decide) (fun K hK => ?_)
  refine zgo Try.func8 #[.agg #[.int .i64 a1_0, .string a1_1, .string a1_2, .string a1_3, .int .i64 a1_4, .int .i64 a1_5, .int .i64 a1_6, .slice A1_7 l1_7.length c1_7]] ?_
  with_reducible refine (laws_toHandWord.calls k a1_0 a1_1 a1_2 a1_3 a1_4 a1_5 a1_6 _ _ l1_7 t234 t235 t236 t237 t238 t239 t240 t241 _ ?side1 ?side2 A14.out).mono ?_
  (case side1 => exact zC HR1_7 HB)
  (case side2 => exact HC1_7.out)
  rintro e w103 ⟨v242, rfl, ho0, hb⟩
  refine ⟨_, rfl, ?_⟩
  have HO243 := Aside0.mk (Kd.R_lower ho0 (below_size (zs1 HB GE228)))
  replace HO233 := Aside0.mk (Kd.R_below (zr HO233) hb)
  replace BK228 := zb BK228 hb
  replace HB := zE (zs1 HB GE228) hb
  (try clear hb)
  (try clear hb2)
  (try clear hk)
  (try clear hi)
  (try clear ho0)
  obtain ⟨Ao104, co104, eo104⟩ := Kd.R_slice HO233.out
  (first | subst eo104 | (injection eo104 with f1_ f2_ f3_; have f4_ := f1_.symm; have f5_ := f3_.symm; clear f1_ f2_ f3_; subst f4_; subst f5_))
  obtain ⟨Ao105, co105, eo105⟩ := Kd.R_slice HO243.out
  (first | subst eo105 | (injection eo105 with f1_ f2_ f3_; have f4_ := f1_.symm; have f5_ := f3_.symm; clear f1_ f2_ f3_; subst f4_; subst f5_))
  refine hK.out _ _ ⟨zc0 BK228, zc1 BK228, zc2 BK228, zc3 BK228, zc4 BK228, zc5 BK228, zc6 BK228, zc7 BK228⟩ (fun hHeld => ?_)
  clear hK K
  refine zN ?_
  refine one_ (i := 4) (N := some 24) #[true, true, true, true, true, false] rfl rfl (by kernel_rfl) (by decide) (fun K hK => ?_)
  refine zgo Try.func6 #[.slice Ao104 t231.length co104, .agg #[.int .i64 t234, .string t235, .string t236, .string t237, .int .i64 t238, .int .i64 t239, .int .i64 t240, .slice Ao105 t241.length co105]] ?_
  with_reducible refine (spec_HandWordOk.calls k _ _ t231 t234 t235 t236 t237 t238 t239 t240 _ _ t241 t244 _ ?side1 ?side2 ?side3 ?side4 A15.out).mono ?_
  (case side1 => repeat (first | exact (Kd.R_reads' HO233.out).2.2 | (with_reducible refine Kd.C_alloc ?_ _) | (with_reducible refine Kd.C_drewN ?_ _) | (with_reducible refine Kd.C_drew ?_)))
  (case side2 => exact (Kd.R_reads' HO233.out).2.1)
  (case side3 => repeat (first | exact (Kd.R_reads' HO243.out).2.2 | (with_reducible refine Kd.C_alloc ?_ _) | (with_reducible refine Kd.C_drewN ?_ _) | (with_reducible refine Kd.C_drew ?_)))
  (case side4 => exact (Kd.R_reads' HO243.out).2.1)
  rintro e w106 ⟨rfl, hb⟩
  refine ⟨_, rfl, ?_⟩
  replace HO233 := Aside0.mk (Kd.R_below (zr HO233) hb)
  replace HO243 := Aside0.mk (Kd.R_below (zr HO243) hb)
  replace BK228 := zb BK228 hb
  replace HB := zE (zs1 HB GE228) hb
  (try clear hb)
  (try clear hb2)
  (try clear hk)
  (try clear hi)
  refine hK.out _ _ ⟨zc0 BK228, zc1 BK228, zc2 BK228, zc3 BK228, zc4 BK228, zc5 BK228, zc6 BK228, zc7 BK228⟩ (fun hHeld => ?_)
  clear hK K
  refine zN ?_
  refine zp 5 ?_
  refine done_ (by kernel_rfl) ?_
  try go_wp2_with (first | ((with_reducible refine gate_callee (f := 7) rfl ?_); refine zgl (N := some 26) Try.func7 #[.slice A0 l0.length c0] ?_; (with_reducible refine (laws_toHandZoneS.calls k _ _ l0 t245 _ ?side1 ?side2 A16.out).mono ?_); (case side1 => exact zC HR0 HB); (case side2 => exact HC0.out); rintro e w107 ⟨v246, rfl, ho0, hb⟩; refine ⟨_, rfl, ?_⟩; have HO247 := Aside0.mk (Kd.R_lower (Kd.R_new' ho0 (Kd.R_lt (zr HO233))) (below_size (zs1 HB GE228))); replace HO233 := Aside0.mk (Kd.R_elder' (zr HO233) (Kd.R_base ho0) hb); replace HO243 := Aside0.mk (Kd.R_below (zr HO243) hb); replace BK228 := zb BK228 hb; replace HB := zE (zs1 HB GE228) hb; (try clear hb); (try clear hb2); (try clear hk); (try clear hi); (try clear ho0); obtain ⟨hcz108_0, hcz108_1, hcz108_2, hcz108_3, hcz108_4, hcz108_5, hcz108_6, hcz108_7⟩ := zd8 BK228; obtain ⟨hfz108_0, hfz108_1, hfz108_2, hfz108_3, hfz108_4, hfz108_5, hfz108_6, hfz108_7⟩ := zn8 BK228) | ((with_reducible refine gate_callee (f := 8) rfl ?_); refine zgl (N := some 28) Try.func8 #[.agg #[.int .i64 a1_0, .string a1_1, .string a1_2, .string a1_3, .int .i64 a1_4, .int .i64 a1_5, .int .i64 a1_6, .slice A1_7 l1_7.length c1_7]] ?_; (with_reducible refine (laws_toHandWord.calls k a1_0 a1_1 a1_2 a1_3 a1_4 a1_5 a1_6 _ _ l1_7 t248 t249 t250 t251 t252 t253 t254 t255 _ ?side1 ?side2 A17.out).mono ?_); (case side1 => exact zC HR1_7 HB); (case side2 => exact HC1_7.out); rintro e w109 ⟨v256, rfl, ho0, hb⟩; refine ⟨_, rfl, ?_⟩; have HO257 := Aside0.mk (Kd.R_lower (Kd.R_new' ho0 (Kd.R_lt (zr HO243))) (below_size (zs1 HB GE228))); replace HO233 := Aside0.mk (Kd.R_below (zr HO233) hb); replace HO243 := Aside0.mk (Kd.R_elder' (zr HO243) (Kd.R_base ho0) hb); replace HO247 := Aside0.mk (Kd.R_below (zr HO247) hb); replace BK228 := zb BK228 hb; replace HB := zE (zs1 HB GE228) hb; (try clear hb); (try clear hb2); (try clear hk); (try clear hi); (try clear ho0)) | ((with_reducible refine gate_dst (N := 8) rfl ?_); refine zbx 8 #[.int .i64 0, .string (⟨#[]⟩ : ByteArray), .string (⟨#[]⟩ : ByteArray), .string (⟨#[]⟩ : ByteArray), .int .i64 0, .int .i64 0, .int .i64 0, .slice none 0 0] 33 ?_; intro gb258 hg w110 hbox hb; have BK258 := zA hbox; have GW258 := zgs hg (zs1 HB GE228); have GE258 := zgs hg (zs1 HB GE228); have NB228_258 := zne hg BK228; have NB258_228 := znf hg BK228; replace HO233 := Aside0.mk (Kd.R_below (zr HO233) hb); replace HO243 := Aside0.mk (Kd.R_below (zr HO243) hb); replace HO247 := Aside0.mk (Kd.R_below (zr HO247) hb); replace HO257 := Aside0.mk (Kd.R_below (zr HO257) hb); replace BK228 := zb BK228 hb; replace HB := zE (zs1 HB GE228) hb; clear hb hbox hg; have hnb111 := NB258_228.out; have hnc111 := NB228_258.out; obtain ⟨hcz112_0, hcz112_1, hcz112_2, hcz112_3, hcz112_4, hcz112_5, hcz112_6, hcz112_7⟩ := zd8 BK258; obtain ⟨hfz112_0, hfz112_1, hfz112_2, hfz112_3, hfz112_4, hfz112_5, hfz112_6, hfz112_7⟩ := zn8 BK258; obtain ⟨Ao113, co113, eo113⟩ := Kd.R_slice HO257.out; subst eo113; obtain ⟨Ao114, co114, eo114⟩ := Kd.R_slice HO247.out; subst eo114) | ((with_reducible refine gate_callee (f := 9) rfl ?_); refine zgl (N := some 31) Try.func9 #[.slice Ao114 t245.length co114, .agg #[.int .i64 t248, .string t249, .string t250, .string t251, .int .i64 t252, .int .i64 t253, .int .i64 t254, .slice Ao113 t255.length co113]] ?_; (with_reducible refine (impl_HandWordOk.calls k _ _ t245 t248 t249 t250 t251 t252 t253 t254 _ _ t255 t259 _ ?side1 ?side2 ?side3 ?side4 A18.out).mono ?_); (case side1 => refine (Kd.R_reads' (e := 48) (base := w.heap.size) (ok := fun k_ => (True ∧ some k_ ≠ (.slice Ao104 t231.length co104 : Value).ownBlock)) (n := t245.length) (c := co114) ?_).2.2; exact (zRf HO247 BK258 (fun _ h_ => h_.1))); (case side2 => exact (Kd.R_reads' HO247.out).2.1); (case side3 => refine (Kd.R_reads' (e := 56) (base := w.heap.size) (ok := fun k_ => (True ∧ some k_ ≠ (.slice Ao105 t241.length co105 : Value).ownBlock)) (n := t255.length) (c := co113) ?_).2.2; exact (zRf HO257 BK258 (fun _ h_ => h_.1))); (case side4 => exact (Kd.R_reads' HO257.out).2.1); rintro e w115 ⟨rfl, hb⟩; refine ⟨_, rfl, ?_⟩; replace HO233 := Aside0.mk (Kd.R_below (zRf HO233 BK258 (fun _ h_ => h_.1)) hb); replace HO243 := Aside0.mk (Kd.R_below (zRf HO243 BK258 (fun _ h_ => h_.1)) hb); replace HO247 := Aside0.mk (Kd.R_below (zRf HO247 BK258 (fun _ h_ => h_.1)) hb); replace HO257 := Aside0.mk (Kd.R_below (zRf HO257 BK258 (fun _ h_ => h_.1)) hb); replace BK228 := Aside0.mk (blk_below (g := gb228) (o := .cells #[.int .i64 a1_0, .string a1_1, .string a1_2, .string a1_3, .int .i64 a1_4, .int .i64 a1_5, .int .i64 a1_6, .slice A1_7 l1_7.length c1_7] 25 (0, 0)) (zpf BK228 NB228_258) hb); replace BK258 := Aside0.mk (blk_below (g := gb258) (o := .cells #[.int .i64 t248, .string t249, .string t250, .string t251, .int .i64 t252, .int .i64 t253, .int .i64 t254, .slice Ao113 t255.length co113] 33 (0, 0)) (zpb BK258) hb); replace HB := zE (zs2 HB GE228 GE258) hb; (try clear hb); (try clear hb2); (try clear hk); (try clear hi)) | ((with_reducible refine gate_callee (f := 7) rfl ?_); refine zgl (N := some 37) Try.func7 #[.slice A0 l0.length c0] ?_; (with_reducible refine (laws_toHandZoneS.calls k _ _ l0 t260 _ ?side1 ?side2 A39.out).mono ?_); (case side1 => exact zC HR0 HB); (case side2 => exact HC0.out); rintro e w116 ⟨v261, rfl, ho0, hb⟩; refine ⟨_, rfl, ?_⟩; have HO262 := Aside0.mk (Kd.R_lower (Kd.R_new' (Kd.R_new' ho0 (Kd.R_lt (zr HO233))) (Kd.R_lt (zr HO247))) (below_size (zs2 HB GE228 GE258))); replace HO233 := Aside0.mk (Kd.R_elder' (zr HO233) (Kd.R_base ho0) hb); replace HO243 := Aside0.mk (Kd.R_below (zr HO243) hb); replace HO247 := Aside0.mk (Kd.R_elder' (zr HO247) (Kd.R_base ho0) hb); replace HO257 := Aside0.mk (Kd.R_below (zr HO257) hb); replace BK228 := zb BK228 hb; replace BK258 := zb BK258 hb; replace HB := zE (zs2 HB GE228 GE258) hb; (try clear hb); (try clear hb2); (try clear hk); (try clear hi); (try clear ho0); obtain ⟨Ao117, co117, eo117⟩ := Kd.R_slice HO262.out; subst eo117) | ((with_reducible refine gate_callee (f := 10) rfl ?_); refine zgl (N := some 38) Try.func10 #[.slice Ao114 t245.length co114, .slice Ao117 t260.length co117] ?_; (with_reducible refine (laws_eqHandZoneS.calls k _ _ t245 _ _ t260 false _ ?side1 ?side2 ?side3 ?side4 A40.out).mono ?_); (case side1 => repeat (first | exact (Kd.R_reads' HO247.out).2.2 | (with_reducible refine Kd.C_alloc ?_ _) | (with_reducible refine Kd.C_drewN ?_ _) | (with_reducible refine Kd.C_drew ?_))); (case side2 => exact (Kd.R_reads' HO247.out).2.1); (case side3 => repeat (first | exact (Kd.R_reads' HO262.out).2.2 | (with_reducible refine Kd.C_alloc ?_ _) | (with_reducible refine Kd.C_drewN ?_ _) | (with_reducible refine Kd.C_drew ?_))); (case side4 => exact (Kd.R_reads' HO262.out).2.1); rintro e w118 ⟨rfl, hb⟩; refine ⟨_, rfl, ?_⟩; replace HO233 := Aside0.mk (Kd.R_below (zr HO233) hb); replace HO243 := Aside0.mk (Kd.R_below (zr HO243) hb); replace HO247 := Aside0.mk (Kd.R_below (zr HO247) hb); replace HO257 := Aside0.mk (Kd.R_below (zr HO257) hb); replace HO262 := Aside0.mk (Kd.R_below (zr HO262) hb); replace BK228 := zb BK228 hb; replace BK258 := zb BK258 hb; replace HB := zE (zs2 HB GE228 GE258) hb; (try clear hb); (try clear hb2); (try clear hk); (try clear hi)))
  go_ret
  exact ⟨ze, zs2 HB GE228 GE258⟩
 subst c41
 have H1 : ((laws_toHandWord.f k a1_0 a1_1 a1_2 a1_3 a1_4 a1_5 a1_6 l1_7).bind fun bt264 => ((laws_eqHandWord.f k t248 t249 t250 t251 t252 t253 t254 t255 bt264.1 bt264.2.1 bt264.2.2.1 bt264.2.2.2.1 bt264.2.2.2.2.1 bt264.2.2.2.2.2.1 bt264.2.2.2.2.2.2.1 bt264.2.2.2.2.2.2.2).bind fun t274 => (if t274 = true then (some true) else (some false)))) = some r := by rw [if_pos rfl] at H; exact H
 clear H
 have H := H1
 clear H1
 replace H := Option.bind_eq_some_iff.mp H
 obtain ⟨⟨t264, t265, t266, t267, t268, t269, t270, t271⟩, A420, H⟩ := H
 replace H : ((laws_eqHandWord.f k t248 t249 t250 t251 t252 t253 t254 t255 t264 t265 t266 t267 t268 t269 t270 t271).bind fun t274 => (if t274 = true then (some true) else (some false))) = some r := H
 have A42 := Aside0.mk A420
 clear A420
 replace H := zbd H; obtain ⟨t274, A43, H⟩ := H
 by_cases c44 : t274 = true
 ·subst c44
  have H1 : (some true) = some r := by rw [if_pos rfl] at H; exact H
  clear H
  have H := H1
  clear H1
  obtain rfl := Option.some.inj H
  go_enter Try.func3, Try.ntmps3
  try go_wp2_with (first | ((with_reducible refine gate_dst (N := 3) rfl ?_); refine zbx 3 #[.int .i64 a1_0, .string a1_1, .string a1_2, .string a1_3, .int .i64 a1_4, .int .i64 a1_5, .int .i64 a1_6, .slice A1_7 l1_7.length c1_7] 25 ?_; intro gb228 hg w45 hbox hb; have BK228 := zA hbox; have GW228 := zgs hg (zs0 HB); have GE228 := zgs hg (zs0 HB); replace HB := zE (zs0 HB) hb; clear hb hbox hg) | ((with_reducible refine gate_callee (f := 4) rfl ?_); refine zgl (N := some 12) Try.func4 #[.slice A0 l0.length c0, .int .i64 1048576] ?_; (with_reducible refine (laws_szHandZoneS.calls k _ _ l0 1048576 t229 _ ?side1 ?side2 A3.out).mono ?_); (case side1 => exact zC HR0 HB); (case side2 => exact HC0.out); rintro e w46 ⟨rfl, hb⟩; refine ⟨_, rfl, ?_⟩; replace BK228 := zb BK228 hb; replace HB := zE (zs1 HB GE228) hb; (try clear hb); (try clear hb2); (try clear hk); (try clear hi); obtain ⟨hcz47_0, hcz47_1, hcz47_2, hcz47_3, hcz47_4, hcz47_5, hcz47_6, hcz47_7⟩ := zd8 BK228; obtain ⟨hfz47_0, hfz47_1, hfz47_2, hfz47_3, hfz47_4, hfz47_5, hfz47_6, hfz47_7⟩ := zn8 BK228) | ((with_reducible refine gate_callee (f := 5) rfl ?_); refine zgl (N := some 17) Try.func5 #[.agg #[.int .i64 a1_0, .string a1_1, .string a1_2, .string a1_3, .int .i64 a1_4, .int .i64 a1_5, .int .i64 a1_6, .slice A1_7 l1_7.length c1_7], .int .i64 t229] ?_; (with_reducible refine (laws_szHandWord.calls a1_0 a1_1 a1_2 a1_3 a1_4 a1_5 a1_6 _ _ l1_7 t229 t230 _ ?side1 ?side2 A7.out).mono ?_); (case side1 => exact zC HR1_7 HB); (case side2 => exact HC1_7.out); rintro e w48 ⟨rfl, hb⟩; refine ⟨_, rfl, ?_⟩; replace BK228 := zb BK228 hb; replace HB := zE (zs1 HB GE228) hb; (try clear hb); (try clear hb2); (try clear hk); (try clear hi)))
  replace BK228 := Aside0.mk (blk_drew BK228.out)
  replace HB := Aside0.mk (below_drew1 HB.out)
  refine start_ (n := 6) (S := fun w' => w'.cell? ⟨gb228, 0, none⟩ = some (.int .i64 a1_0) ∧ w'.cell? ⟨gb228, 1, none⟩ = some (.string a1_1) ∧ w'.cell? ⟨gb228, 2, none⟩ = some (.string a1_2) ∧ w'.cell? ⟨gb228, 3, none⟩ = some (.string a1_3) ∧ w'.cell? ⟨gb228, 4, none⟩ = some (.int .i64 a1_4) ∧ w'.cell? ⟨gb228, 5, none⟩ = some (.int .i64 a1_5) ∧ w'.cell? ⟨gb228, 6, none⟩ = some (.int .i64 a1_6) ∧ w'.cell? ⟨gb228, 7, none⟩ = some (.slice A1_7 l1_7.length c1_7)) (ds := []) #[false, false, false, false, false, false] (by kernel_rfl) rfl rfl ⟨zc0 BK228, zc1 BK228, zc2 BK228, zc3 BK228, zc4 BK228, zc5 BK228, zc6 BK228, zc7 BK228⟩ (fun hHeld => ?_)
  generalize w48.drew = w49 at BK228 HB hHeld ⊢
  refine zp 0 ?_
  refine take_ (i := 2) (N := some 22) (v := ?_) (a' := ?_) #[true, false, true, false, false, false] rfl rfl (by kernel_rfl) (fun _ _ _ h => h) (Or.inl ⟨by rfl, ?_⟩) hHeld ?_ ?_; rotate_left; exact zt8; rotate_left; exact zput
  refine one_ (i := 1) (N := some 21) #[true, true, true, false, false, false] rfl rfl (by kernel_rfl) (by decide) (fun K hK => ?_)
  refine zgo Try.func7 #[.slice A0 l0.length c0] ?_
  with_reducible refine (laws_toHandZoneS.calls k _ _ l0 t231 _ ?side1 ?side2 A13.out).mono ?_
  (case side1 => exact zC HR0 HB)
  (case side2 => exact HC0.out)
  rintro e w50 ⟨v232, rfl, ho0, hb⟩
  refine ⟨_, rfl, ?_⟩
  have HO233 := Aside0.mk (Kd.R_lower ho0 (below_size (zs1 HB GE228)))
  replace BK228 := zb BK228 hb
  replace HB := zE (zs1 HB GE228) hb
  (try clear hb)
  (try clear hb2)
  (try clear hk)
  (try clear hi)
  (try clear ho0)
  refine hK.out _ _ ⟨zc0 BK228, zc1 BK228, zc2 BK228, zc3 BK228, zc4 BK228, zc5 BK228, zc6 BK228, zc7 BK228⟩ (fun hHeld => ?_)
  clear hK K
  refine zN ?_
  refine one_ (i := 3) (N := some 23) #[true, true, true, true, false, false] rfl rfl (by kernel_rfl) (by decide) (fun K hK => ?_)
  refine zgo Try.func8 #[.agg #[.int .i64 a1_0, .string a1_1, .string a1_2, .string a1_3, .int .i64 a1_4, .int .i64 a1_5, .int .i64 a1_6, .slice A1_7 l1_7.length c1_7]] ?_
  with_reducible refine (laws_toHandWord.calls k a1_0 a1_1 a1_2 a1_3 a1_4 a1_5 a1_6 _ _ l1_7 t234 t235 t236 t237 t238 t239 t240 t241 _ ?side1 ?side2 A14.out).mono ?_
  (case side1 => exact zC HR1_7 HB)
  (case side2 => exact HC1_7.out)
  rintro e w51 ⟨v242, rfl, ho0, hb⟩
  refine ⟨_, rfl, ?_⟩
  have HO243 := Aside0.mk (Kd.R_lower ho0 (below_size (zs1 HB GE228)))
  replace HO233 := Aside0.mk (Kd.R_below (zr HO233) hb)
  replace BK228 := zb BK228 hb
  replace HB := zE (zs1 HB GE228) hb
  (try clear hb)
  (try clear hb2)
  (try clear hk)
  (try clear hi)
  (try clear ho0)
  obtain ⟨Ao52, co52, eo52⟩ := Kd.R_slice HO233.out
  (first | subst eo52 | (injection eo52 with f1_ f2_ f3_; have f4_ := f1_.symm; have f5_ := f3_.symm; clear f1_ f2_ f3_; subst f4_; subst f5_))
  obtain ⟨Ao53, co53, eo53⟩ := Kd.R_slice HO243.out
  (first | subst eo53 | (injection eo53 with f1_ f2_ f3_; have f4_ := f1_.symm; have f5_ := f3_.symm; clear f1_ f2_ f3_; subst f4_; subst f5_))
  refine hK.out _ _ ⟨zc0 BK228, zc1 BK228, zc2 BK228, zc3 BK228, zc4 BK228, zc5 BK228, zc6 BK228, zc7 BK228⟩ (fun hHeld => ?_)
  clear hK K
  refine zN ?_
  refine one_ (i := 4) (N := some 24) #[true, true, true, true, true, false] rfl rfl (by kernel_rfl) (by decide) (fun K hK => ?_)
  refine zgo Try.func6 #[.slice Ao52 t231.length co52, .agg #[.int .i64 t234, .string t235, .string t236, .string t237, .int .i64 t238, .int .i64 t239, .int .i64 t240, .slice Ao53 t241.length co53]] ?_
  with_reducible refine (spec_HandWordOk.calls k _ _ t231 t234 t235 t236 t237 t238 t239 t240 _ _ t241 t244 _ ?side1 ?side2 ?side3 ?side4 A15.out).mono ?_
  (case side1 => repeat (first | exact (Kd.R_reads' HO233.out).2.2 | (with_reducible refine Kd.C_alloc ?_ _) | (with_reducible refine Kd.C_drewN ?_ _) | (with_reducible refine Kd.C_drew ?_)))
  (case side2 => exact (Kd.R_reads' HO233.out).2.1)
  (case side3 => repeat (first | exact (Kd.R_reads' HO243.out).2.2 | (with_reducible refine Kd.C_alloc ?_ _) | (with_reducible refine Kd.C_drewN ?_ _) | (with_reducible refine Kd.C_drew ?_)))
  (case side4 => exact (Kd.R_reads' HO243.out).2.1)
  rintro e w54 ⟨rfl, hb⟩
  refine ⟨_, rfl, ?_⟩
  replace HO233 := Aside0.mk (Kd.R_below (zr HO233) hb)
  replace HO243 := Aside0.mk (Kd.R_below (zr HO243) hb)
  replace BK228 := zb BK228 hb
  replace HB := zE (zs1 HB GE228) hb
  (try clear hb)
  (try clear hb2)
  (try clear hk)
  (try clear hi)
  refine hK.out _ _ ⟨zc0 BK228, zc1 BK228, zc2 BK228, zc3 BK228, zc4 BK228, zc5 BK228, zc6 BK228, zc7 BK228⟩ (fun hHeld => ?_)
  clear hK K
  refine zN ?_
  refine zp 5 ?_
  refine done_ (by kernel_rfl) ?_
  try go_wp2_with (first | ((with_reducible refine gate_callee (f := 7) rfl ?_); refine zgl (N := some 26) Try.func7 #[.slice A0 l0.length c0] ?_; (with_reducible refine (laws_toHandZoneS.calls k _ _ l0 t245 _ ?side1 ?side2 A16.out).mono ?_); (case side1 => exact zC HR0 HB); (case side2 => exact HC0.out); rintro e w55 ⟨v246, rfl, ho0, hb⟩; refine ⟨_, rfl, ?_⟩; have HO247 := Aside0.mk (Kd.R_lower (Kd.R_new' ho0 (Kd.R_lt (zr HO233))) (below_size (zs1 HB GE228))); replace HO233 := Aside0.mk (Kd.R_elder' (zr HO233) (Kd.R_base ho0) hb); replace HO243 := Aside0.mk (Kd.R_below (zr HO243) hb); replace BK228 := zb BK228 hb; replace HB := zE (zs1 HB GE228) hb; (try clear hb); (try clear hb2); (try clear hk); (try clear hi); (try clear ho0); obtain ⟨hcz56_0, hcz56_1, hcz56_2, hcz56_3, hcz56_4, hcz56_5, hcz56_6, hcz56_7⟩ := zd8 BK228; obtain ⟨hfz56_0, hfz56_1, hfz56_2, hfz56_3, hfz56_4, hfz56_5, hfz56_6, hfz56_7⟩ := zn8 BK228) | ((with_reducible refine gate_callee (f := 8) rfl ?_); refine zgl (N := some 28) Try.func8 #[.agg #[.int .i64 a1_0, .string a1_1, .string a1_2, .string a1_3, .int .i64 a1_4, .int .i64 a1_5, .int .i64 a1_6, .slice A1_7 l1_7.length c1_7]] ?_; (with_reducible refine (laws_toHandWord.calls k a1_0 a1_1 a1_2 a1_3 a1_4 a1_5 a1_6 _ _ l1_7 t248 t249 t250 t251 t252 t253 t254 t255 _ ?side1 ?side2 A17.out).mono ?_); (case side1 => exact zC HR1_7 HB); (case side2 => exact HC1_7.out); rintro e w57 ⟨v256, rfl, ho0, hb⟩; refine ⟨_, rfl, ?_⟩; have HO257 := Aside0.mk (Kd.R_lower (Kd.R_new' ho0 (Kd.R_lt (zr HO243))) (below_size (zs1 HB GE228))); replace HO233 := Aside0.mk (Kd.R_below (zr HO233) hb); replace HO243 := Aside0.mk (Kd.R_elder' (zr HO243) (Kd.R_base ho0) hb); replace HO247 := Aside0.mk (Kd.R_below (zr HO247) hb); replace BK228 := zb BK228 hb; replace HB := zE (zs1 HB GE228) hb; (try clear hb); (try clear hb2); (try clear hk); (try clear hi); (try clear ho0)) | ((with_reducible refine gate_dst (N := 8) rfl ?_); refine zbx 8 #[.int .i64 0, .string (⟨#[]⟩ : ByteArray), .string (⟨#[]⟩ : ByteArray), .string (⟨#[]⟩ : ByteArray), .int .i64 0, .int .i64 0, .int .i64 0, .slice none 0 0] 33 ?_; intro gb258 hg w58 hbox hb; have BK258 := zA hbox; have GW258 := zgs hg (zs1 HB GE228); have GE258 := zgs hg (zs1 HB GE228); have NB228_258 := zne hg BK228; have NB258_228 := znf hg BK228; replace HO233 := Aside0.mk (Kd.R_below (zr HO233) hb); replace HO243 := Aside0.mk (Kd.R_below (zr HO243) hb); replace HO247 := Aside0.mk (Kd.R_below (zr HO247) hb); replace HO257 := Aside0.mk (Kd.R_below (zr HO257) hb); replace BK228 := zb BK228 hb; replace HB := zE (zs1 HB GE228) hb; clear hb hbox hg; have hnb59 := NB258_228.out; have hnc59 := NB228_258.out; obtain ⟨hcz60_0, hcz60_1, hcz60_2, hcz60_3, hcz60_4, hcz60_5, hcz60_6, hcz60_7⟩ := zd8 BK258; obtain ⟨hfz60_0, hfz60_1, hfz60_2, hfz60_3, hfz60_4, hfz60_5, hfz60_6, hfz60_7⟩ := zn8 BK258; obtain ⟨Ao61, co61, eo61⟩ := Kd.R_slice HO257.out; subst eo61; obtain ⟨Ao62, co62, eo62⟩ := Kd.R_slice HO247.out; subst eo62) | ((with_reducible refine gate_callee (f := 9) rfl ?_); refine zgl (N := some 31) Try.func9 #[.slice Ao62 t245.length co62, .agg #[.int .i64 t248, .string t249, .string t250, .string t251, .int .i64 t252, .int .i64 t253, .int .i64 t254, .slice Ao61 t255.length co61]] ?_; (with_reducible refine (impl_HandWordOk.calls k _ _ t245 t248 t249 t250 t251 t252 t253 t254 _ _ t255 t259 _ ?side1 ?side2 ?side3 ?side4 A18.out).mono ?_); (case side1 => refine (Kd.R_reads' (e := 48) (base := w.heap.size) (ok := fun k_ => (True ∧ some k_ ≠ (.slice Ao52 t231.length co52 : Value).ownBlock)) (n := t245.length) (c := co62) ?_).2.2; exact (zRf HO247 BK258 (fun _ h_ => h_.1))); (case side2 => exact (Kd.R_reads' HO247.out).2.1); (case side3 => refine (Kd.R_reads' (e := 56) (base := w.heap.size) (ok := fun k_ => (True ∧ some k_ ≠ (.slice Ao53 t241.length co53 : Value).ownBlock)) (n := t255.length) (c := co61) ?_).2.2; exact (zRf HO257 BK258 (fun _ h_ => h_.1))); (case side4 => exact (Kd.R_reads' HO257.out).2.1); rintro e w63 ⟨rfl, hb⟩; refine ⟨_, rfl, ?_⟩; replace HO233 := Aside0.mk (Kd.R_below (zRf HO233 BK258 (fun _ h_ => h_.1)) hb); replace HO243 := Aside0.mk (Kd.R_below (zRf HO243 BK258 (fun _ h_ => h_.1)) hb); replace HO247 := Aside0.mk (Kd.R_below (zRf HO247 BK258 (fun _ h_ => h_.1)) hb); replace HO257 := Aside0.mk (Kd.R_below (zRf HO257 BK258 (fun _ h_ => h_.1)) hb); replace BK228 := Aside0.mk (blk_below (g := gb228) (o := .cells #[.int .i64 a1_0, .string a1_1, .string a1_2, .string a1_3, .int .i64 a1_4, .int .i64 a1_5, .int .i64 a1_6, .slice A1_7 l1_7.length c1_7] 25 (0, 0)) (zpf BK228 NB228_258) hb); replace BK258 := Aside0.mk (blk_below (g := gb258) (o := .cells #[.int .i64 t248, .string t249, .string t250, .string t251, .int .i64 t252, .int .i64 t253, .int .i64 t254, .slice Ao61 t255.length co61] 33 (0, 0)) (zpb BK258) hb); replace HB := zE (zs2 HB GE228 GE258) hb; (try clear hb); (try clear hb2); (try clear hk); (try clear hi)) | ((with_reducible refine gate_callee (f := 7) rfl ?_); refine zgl (N := some 37) Try.func7 #[.slice A0 l0.length c0] ?_; (with_reducible refine (laws_toHandZoneS.calls k _ _ l0 t260 _ ?side1 ?side2 A39.out).mono ?_); (case side1 => exact zC HR0 HB); (case side2 => exact HC0.out); rintro e w64 ⟨v261, rfl, ho0, hb⟩; refine ⟨_, rfl, ?_⟩; have HO262 := Aside0.mk (Kd.R_lower (Kd.R_new' (Kd.R_new' ho0 (Kd.R_lt (zr HO233))) (Kd.R_lt (zr HO247))) (below_size (zs2 HB GE228 GE258))); replace HO233 := Aside0.mk (Kd.R_elder' (zr HO233) (Kd.R_base ho0) hb); replace HO243 := Aside0.mk (Kd.R_below (zr HO243) hb); replace HO247 := Aside0.mk (Kd.R_elder' (zr HO247) (Kd.R_base ho0) hb); replace HO257 := Aside0.mk (Kd.R_below (zr HO257) hb); replace BK228 := zb BK228 hb; replace BK258 := zb BK258 hb; replace HB := zE (zs2 HB GE228 GE258) hb; (try clear hb); (try clear hb2); (try clear hk); (try clear hi); (try clear ho0); obtain ⟨Ao65, co65, eo65⟩ := Kd.R_slice HO262.out; subst eo65) | ((with_reducible refine gate_callee (f := 10) rfl ?_); refine zgl (N := some 38) Try.func10 #[.slice Ao62 t245.length co62, .slice Ao65 t260.length co65] ?_; (with_reducible refine (laws_eqHandZoneS.calls k _ _ t245 _ _ t260 true _ ?side1 ?side2 ?side3 ?side4 A40.out).mono ?_); (case side1 => repeat (first | exact (Kd.R_reads' HO247.out).2.2 | (with_reducible refine Kd.C_alloc ?_ _) | (with_reducible refine Kd.C_drewN ?_ _) | (with_reducible refine Kd.C_drew ?_))); (case side2 => exact (Kd.R_reads' HO247.out).2.1); (case side3 => repeat (first | exact (Kd.R_reads' HO262.out).2.2 | (with_reducible refine Kd.C_alloc ?_ _) | (with_reducible refine Kd.C_drewN ?_ _) | (with_reducible refine Kd.C_drew ?_))); (case side4 => exact (Kd.R_reads' HO262.out).2.1); rintro e w66 ⟨rfl, hb⟩; refine ⟨_, rfl, ?_⟩; replace HO233 := Aside0.mk (Kd.R_below (zr HO233) hb); replace HO243 := Aside0.mk (Kd.R_below (zr HO243) hb); replace HO247 := Aside0.mk (Kd.R_below (zr HO247) hb); replace HO257 := Aside0.mk (Kd.R_below (zr HO257) hb); replace HO262 := Aside0.mk (Kd.R_below (zr HO262) hb); replace BK228 := zb BK228 hb; replace BK258 := zb BK258 hb; replace HB := zE (zs2 HB GE228 GE258) hb; (try clear hb); (try clear hb2); (try clear hk); (try clear hi)))
  replace HO233 := Aside0.mk (Kd.R_drew HO233.out)
  replace HO243 := Aside0.mk (Kd.R_drew HO243.out)
  replace HO247 := Aside0.mk (Kd.R_drew HO247.out)
  replace HO257 := Aside0.mk (Kd.R_drew HO257.out)
  replace HO262 := Aside0.mk (Kd.R_drew HO262.out)
  replace BK228 := Aside0.mk (blk_drew BK228.out)
  replace BK258 := Aside0.mk (blk_drew BK258.out)
  replace HB := Aside0.mk (below_drew1 HB.out)
  refine start_ (n := 5) (S := fun w' => w'.cell? ⟨gb258, 0, none⟩ = some (.int .i64 t248) ∧ w'.cell? ⟨gb258, 1, none⟩ = some (.string t249) ∧ w'.cell? ⟨gb258, 2, none⟩ = some (.string t250) ∧ w'.cell? ⟨gb258, 3, none⟩ = some (.string t251) ∧ w'.cell? ⟨gb258, 4, none⟩ = some (.int .i64 t252) ∧ w'.cell? ⟨gb258, 5, none⟩ = some (.int .i64 t253) ∧ w'.cell? ⟨gb258, 6, none⟩ = some (.int .i64 t254) ∧ w'.cell? ⟨gb258, 7, none⟩ = some (.slice Ao61 t255.length co61) ∧ w'.cell? ⟨gb228, 0, none⟩ = some (.int .i64 a1_0) ∧ w'.cell? ⟨gb228, 1, none⟩ = some (.string a1_1) ∧ w'.cell? ⟨gb228, 2, none⟩ = some (.string a1_2) ∧ w'.cell? ⟨gb228, 3, none⟩ = some (.string a1_3) ∧ w'.cell? ⟨gb228, 4, none⟩ = some (.int .i64 a1_4) ∧ w'.cell? ⟨gb228, 5, none⟩ = some (.int .i64 a1_5) ∧ w'.cell? ⟨gb228, 6, none⟩ = some (.int .i64 a1_6) ∧ w'.cell? ⟨gb228, 7, none⟩ = some (.slice A1_7 l1_7.length c1_7)) (ds := []) #[false, false, false, false, false] (by kernel_rfl) rfl rfl ⟨zc0 BK258, zc1 BK258, zc2 BK258, zc3 BK258, zc4 BK258, zc5 BK258, zc6 BK258, zc7 BK258, zc0 BK228, zc1 BK228, zc2 BK228, zc3 BK228, zc4 BK228, zc5 BK228, zc6 BK228, zc7 BK228⟩ (fun hHeld => ?_)
  generalize w66.drew = w67 at HO233 HO243 HO247 HO257 HO262 BK228 BK258 HB hHeld ⊢
  refine take_ (i := 0) (N := some 40) (v := ?_) (a' := ?_) #[true, false, false, false, false] rfl rfl (by kernel_rfl) (fun _ _ _ h => h) (Or.inl ⟨by rfl, ?_⟩) hHeld ?_ ?_; rotate_left; exact zt16; rotate_left; exact zput
  refine take_ (i := 1) (N := some 41) (v := ?_) (a' := ?_) #[true, true, false, false, false] rfl rfl (by kernel_rfl) (fun _ _ _ h => h) (Or.inl ⟨by rfl, ?_⟩) hHeld ?_ ?_; rotate_left; exact zt16; rotate_left; exact zput
  refine one_ (i := 2) (N := some 42) #[true, true, true, false, false] rfl rfl (by kernel_rfl) (by decide) (fun K hK => ?_)
  refine zgo Try.func8 #[.agg #[.int .i64 a1_0, .string a1_1, .string a1_2, .string a1_3, .int .i64 a1_4, .int .i64 a1_5, .int .i64 a1_6, .slice A1_7 l1_7.length c1_7]] ?_
  with_reducible refine (laws_toHandWord.calls k a1_0 a1_1 a1_2 a1_3 a1_4 a1_5 a1_6 _ _ l1_7 t264 t265 t266 t267 t268 t269 t270 t271 _ ?side1 ?side2 A42.out).mono ?_
  (case side1 => exact zC HR1_7 HB)
  (case side2 => exact HC1_7.out)
  rintro e w68 ⟨v272, rfl, ho0, hb⟩
  refine ⟨_, rfl, ?_⟩
  have HO273 := Aside0.mk (Kd.R_lower (Kd.R_new' (Kd.R_new' ho0 (Kd.R_lt (zr HO243))) (Kd.R_lt (zr HO257))) (below_size (zs2 HB GE228 GE258)))
  replace HO233 := Aside0.mk (Kd.R_below (zr HO233) hb)
  replace HO243 := Aside0.mk (Kd.R_elder' (zr HO243) (Kd.R_base ho0) hb)
  replace HO247 := Aside0.mk (Kd.R_below (zr HO247) hb)
  replace HO257 := Aside0.mk (Kd.R_elder' (zr HO257) (Kd.R_base ho0) hb)
  replace HO262 := Aside0.mk (Kd.R_below (zr HO262) hb)
  replace BK228 := zb BK228 hb
  replace BK258 := zb BK258 hb
  replace HB := zE (zs2 HB GE228 GE258) hb
  (try clear hb)
  (try clear hb2)
  (try clear hk)
  (try clear hi)
  (try clear ho0)
  obtain ⟨Ao69, co69, eo69⟩ := Kd.R_slice HO273.out
  (first | subst eo69 | (injection eo69 with f1_ f2_ f3_; have f4_ := f1_.symm; have f5_ := f3_.symm; clear f1_ f2_ f3_; subst f4_; subst f5_))
  refine hK.out _ _ ⟨zc0 BK258, zc1 BK258, zc2 BK258, zc3 BK258, zc4 BK258, zc5 BK258, zc6 BK258, zc7 BK258, zc0 BK228, zc1 BK228, zc2 BK228, zc3 BK228, zc4 BK228, zc5 BK228, zc6 BK228, zc7 BK228⟩ (fun hHeld => ?_)
  clear hK K
  refine zN ?_
  refine one_ (i := 3) (N := some 43) #[true, true, true, true, false] rfl rfl (by kernel_rfl) (by decide) (fun K hK => ?_)
  refine zgo Try.func11 #[.agg #[.int .i64 t248, .string t249, .string t250, .string t251, .int .i64 t252, .int .i64 t253, .int .i64 t254, .slice Ao61 t255.length co61], .agg #[.int .i64 t264, .string t265, .string t266, .string t267, .int .i64 t268, .int .i64 t269, .int .i64 t270, .slice Ao69 t271.length co69]] ?_
  with_reducible refine (laws_eqHandWord.calls k t248 t249 t250 t251 t252 t253 t254 _ _ t255 t264 t265 t266 t267 t268 t269 t270 _ _ t271 true _ ?side1 ?side2 ?side3 ?side4 A43.out).mono ?_
  (case side1 => repeat (first | exact (Kd.R_reads' HO257.out).2.2 | (with_reducible refine Kd.C_alloc ?_ _) | (with_reducible refine Kd.C_drewN ?_ _) | (with_reducible refine Kd.C_drew ?_)))
  (case side2 => exact (Kd.R_reads' HO257.out).2.1)
  (case side3 => repeat (first | exact (Kd.R_reads' HO273.out).2.2 | (with_reducible refine Kd.C_alloc ?_ _) | (with_reducible refine Kd.C_drewN ?_ _) | (with_reducible refine Kd.C_drew ?_)))
  (case side4 => exact (Kd.R_reads' HO273.out).2.1)
  rintro e w70 ⟨rfl, hb⟩
  refine ⟨_, rfl, ?_⟩
  replace HO233 := Aside0.mk (Kd.R_below (zr HO233) hb)
  replace HO243 := Aside0.mk (Kd.R_below (zr HO243) hb)
  replace HO247 := Aside0.mk (Kd.R_below (zr HO247) hb)
  replace HO257 := Aside0.mk (Kd.R_below (zr HO257) hb)
  replace HO262 := Aside0.mk (Kd.R_below (zr HO262) hb)
  replace HO273 := Aside0.mk (Kd.R_below (zr HO273) hb)
  replace BK228 := zb BK228 hb
  replace BK258 := zb BK258 hb
  replace HB := zE (zs2 HB GE228 GE258) hb
  (try clear hb)
  (try clear hb2)
  (try clear hk)
  (try clear hi)
  refine hK.out _ _ ⟨zc0 BK258, zc1 BK258, zc2 BK258, zc3 BK258, zc4 BK258, zc5 BK258, zc6 BK258, zc7 BK258, zc0 BK228, zc1 BK228, zc2 BK228, zc3 BK228, zc4 BK228, zc5 BK228, zc6 BK228, zc7 BK228⟩ (fun hHeld => ?_)
  clear hK K
  refine zN ?_
  refine zp 4 ?_
  refine done_ (by kernel_rfl) ?_
  try go_wp2
  go_ret
  exact ⟨ze, zs2 HB GE228 GE258⟩
 replace c44 := Bool.eq_false_iff.mpr c44
 subst c44
 have H1 : (some false) = some r := by rw [if_neg (show ¬ (false = true) by decide)] at H; exact H
 clear H
 have H := H1
 clear H1
 obtain rfl := Option.some.inj H
 go_enter Try.func3, Try.ntmps3
 try go_wp2_with (first | ((with_reducible refine gate_dst (N := 3) rfl ?_); refine zbx 3 #[.int .i64 a1_0, .string a1_1, .string a1_2, .string a1_3, .int .i64 a1_4, .int .i64 a1_5, .int .i64 a1_6, .slice A1_7 l1_7.length c1_7] 25 ?_; intro gb228 hg w71 hbox hb; have BK228 := zA hbox; have GW228 := zgs hg (zs0 HB); have GE228 := zgs hg (zs0 HB); replace HB := zE (zs0 HB) hb; clear hb hbox hg) | ((with_reducible refine gate_callee (f := 4) rfl ?_); refine zgl (N := some 12) Try.func4 #[.slice A0 l0.length c0, .int .i64 1048576] ?_; (with_reducible refine (laws_szHandZoneS.calls k _ _ l0 1048576 t229 _ ?side1 ?side2 A3.out).mono ?_); (case side1 => exact zC HR0 HB); (case side2 => exact HC0.out); rintro e w72 ⟨rfl, hb⟩; refine ⟨_, rfl, ?_⟩; replace BK228 := zb BK228 hb; replace HB := zE (zs1 HB GE228) hb; (try clear hb); (try clear hb2); (try clear hk); (try clear hi); obtain ⟨hcz73_0, hcz73_1, hcz73_2, hcz73_3, hcz73_4, hcz73_5, hcz73_6, hcz73_7⟩ := zd8 BK228; obtain ⟨hfz73_0, hfz73_1, hfz73_2, hfz73_3, hfz73_4, hfz73_5, hfz73_6, hfz73_7⟩ := zn8 BK228) | ((with_reducible refine gate_callee (f := 5) rfl ?_); refine zgl (N := some 17) Try.func5 #[.agg #[.int .i64 a1_0, .string a1_1, .string a1_2, .string a1_3, .int .i64 a1_4, .int .i64 a1_5, .int .i64 a1_6, .slice A1_7 l1_7.length c1_7], .int .i64 t229] ?_; (with_reducible refine (laws_szHandWord.calls a1_0 a1_1 a1_2 a1_3 a1_4 a1_5 a1_6 _ _ l1_7 t229 t230 _ ?side1 ?side2 A7.out).mono ?_); (case side1 => exact zC HR1_7 HB); (case side2 => exact HC1_7.out); rintro e w74 ⟨rfl, hb⟩; refine ⟨_, rfl, ?_⟩; replace BK228 := zb BK228 hb; replace HB := zE (zs1 HB GE228) hb; (try clear hb); (try clear hb2); (try clear hk); (try clear hi)))
 replace BK228 := Aside0.mk (blk_drew BK228.out)
 replace HB := Aside0.mk (below_drew1 HB.out)
 refine start_ (n := 6) (S := fun w' => w'.cell? ⟨gb228, 0, none⟩ = some (.int .i64 a1_0) ∧ w'.cell? ⟨gb228, 1, none⟩ = some (.string a1_1) ∧ w'.cell? ⟨gb228, 2, none⟩ = some (.string a1_2) ∧ w'.cell? ⟨gb228, 3, none⟩ = some (.string a1_3) ∧ w'.cell? ⟨gb228, 4, none⟩ = some (.int .i64 a1_4) ∧ w'.cell? ⟨gb228, 5, none⟩ = some (.int .i64 a1_5) ∧ w'.cell? ⟨gb228, 6, none⟩ = some (.int .i64 a1_6) ∧ w'.cell? ⟨gb228, 7, none⟩ = some (.slice A1_7 l1_7.length c1_7)) (ds := []) #[false, false, false, false, false, false] (by kernel_rfl) rfl rfl ⟨zc0 BK228, zc1 BK228, zc2 BK228, zc3 BK228, zc4 BK228, zc5 BK228, zc6 BK228, zc7 BK228⟩ (fun hHeld => ?_)
 generalize w74.drew = w75 at BK228 HB hHeld ⊢
 refine zp 0 ?_
 refine take_ (i := 2) (N := some 22) (v := ?_) (a' := ?_) #[true, false, true, false, false, false] rfl rfl (by kernel_rfl) (fun _ _ _ h => h) (Or.inl ⟨by rfl, ?_⟩) hHeld ?_ ?_; rotate_left; exact zt8; rotate_left; exact zput
 refine one_ (i := 1) (N := some 21) #[true, true, true, false, false, false] rfl rfl (by kernel_rfl) (by decide) (fun K hK => ?_)
 refine zgo Try.func7 #[.slice A0 l0.length c0] ?_
 with_reducible refine (laws_toHandZoneS.calls k _ _ l0 t231 _ ?side1 ?side2 A13.out).mono ?_
 (case side1 => exact zC HR0 HB)
 (case side2 => exact HC0.out)
 rintro e w76 ⟨v232, rfl, ho0, hb⟩
 refine ⟨_, rfl, ?_⟩
 have HO233 := Aside0.mk (Kd.R_lower ho0 (below_size (zs1 HB GE228)))
 replace BK228 := zb BK228 hb
 replace HB := zE (zs1 HB GE228) hb
 (try clear hb)
 (try clear hb2)
 (try clear hk)
 (try clear hi)
 (try clear ho0)
 refine hK.out _ _ ⟨zc0 BK228, zc1 BK228, zc2 BK228, zc3 BK228, zc4 BK228, zc5 BK228, zc6 BK228, zc7 BK228⟩ (fun hHeld => ?_)
 clear hK K
 refine zN ?_
 refine one_ (i := 3) (N := some 23) #[true, true, true, true, false, false] rfl rfl (by kernel_rfl) (by decide) (fun K hK => ?_)
 refine zgo Try.func8 #[.agg #[.int .i64 a1_0, .string a1_1, .string a1_2, .string a1_3, .int .i64 a1_4, .int .i64 a1_5, .int .i64 a1_6, .slice A1_7 l1_7.length c1_7]] ?_
 with_reducible refine (laws_toHandWord.calls k a1_0 a1_1 a1_2 a1_3 a1_4 a1_5 a1_6 _ _ l1_7 t234 t235 t236 t237 t238 t239 t240 t241 _ ?side1 ?side2 A14.out).mono ?_
 (case side1 => exact zC HR1_7 HB)
 (case side2 => exact HC1_7.out)
 rintro e w77 ⟨v242, rfl, ho0, hb⟩
 refine ⟨_, rfl, ?_⟩
 have HO243 := Aside0.mk (Kd.R_lower ho0 (below_size (zs1 HB GE228)))
 replace HO233 := Aside0.mk (Kd.R_below (zr HO233) hb)
 replace BK228 := zb BK228 hb
 replace HB := zE (zs1 HB GE228) hb
 (try clear hb)
 (try clear hb2)
 (try clear hk)
 (try clear hi)
 (try clear ho0)
 obtain ⟨Ao78, co78, eo78⟩ := Kd.R_slice HO233.out
 (first | subst eo78 | (injection eo78 with f1_ f2_ f3_; have f4_ := f1_.symm; have f5_ := f3_.symm; clear f1_ f2_ f3_; subst f4_; subst f5_))
 obtain ⟨Ao79, co79, eo79⟩ := Kd.R_slice HO243.out
 (first | subst eo79 | (injection eo79 with f1_ f2_ f3_; have f4_ := f1_.symm; have f5_ := f3_.symm; clear f1_ f2_ f3_; subst f4_; subst f5_))
 refine hK.out _ _ ⟨zc0 BK228, zc1 BK228, zc2 BK228, zc3 BK228, zc4 BK228, zc5 BK228, zc6 BK228, zc7 BK228⟩ (fun hHeld => ?_)
 clear hK K
 refine zN ?_
 refine one_ (i := 4) (N := some 24) #[true, true, true, true, true, false] rfl rfl (by kernel_rfl) (by decide) (fun K hK => ?_)
 refine zgo Try.func6 #[.slice Ao78 t231.length co78, .agg #[.int .i64 t234, .string t235, .string t236, .string t237, .int .i64 t238, .int .i64 t239, .int .i64 t240, .slice Ao79 t241.length co79]] ?_
 with_reducible refine (spec_HandWordOk.calls k _ _ t231 t234 t235 t236 t237 t238 t239 t240 _ _ t241 t244 _ ?side1 ?side2 ?side3 ?side4 A15.out).mono ?_
 (case side1 => repeat (first | exact (Kd.R_reads' HO233.out).2.2 | (with_reducible refine Kd.C_alloc ?_ _) | (with_reducible refine Kd.C_drewN ?_ _) | (with_reducible refine Kd.C_drew ?_)))
 (case side2 => exact (Kd.R_reads' HO233.out).2.1)
 (case side3 => repeat (first | exact (Kd.R_reads' HO243.out).2.2 | (with_reducible refine Kd.C_alloc ?_ _) | (with_reducible refine Kd.C_drewN ?_ _) | (with_reducible refine Kd.C_drew ?_)))
 (case side4 => exact (Kd.R_reads' HO243.out).2.1)
 rintro e w80 ⟨rfl, hb⟩
 refine ⟨_, rfl, ?_⟩
 replace HO233 := Aside0.mk (Kd.R_below (zr HO233) hb)
 replace HO243 := Aside0.mk (Kd.R_below (zr HO243) hb)
 replace BK228 := zb BK228 hb
 replace HB := zE (zs1 HB GE228) hb
 (try clear hb)
 (try clear hb2)
 (try clear hk)
 (try clear hi)
 refine hK.out _ _ ⟨zc0 BK228, zc1 BK228, zc2 BK228, zc3 BK228, zc4 BK228, zc5 BK228, zc6 BK228, zc7 BK228⟩ (fun hHeld => ?_)
 clear hK K
 refine zN ?_
 refine zp 5 ?_
 refine done_ (by kernel_rfl) ?_
 try go_wp2_with (first | ((with_reducible refine gate_callee (f := 7) rfl ?_); refine zgl (N := some 26) Try.func7 #[.slice A0 l0.length c0] ?_; (with_reducible refine (laws_toHandZoneS.calls k _ _ l0 t245 _ ?side1 ?side2 A16.out).mono ?_); (case side1 => exact zC HR0 HB); (case side2 => exact HC0.out); rintro e w81 ⟨v246, rfl, ho0, hb⟩; refine ⟨_, rfl, ?_⟩; have HO247 := Aside0.mk (Kd.R_lower (Kd.R_new' ho0 (Kd.R_lt (zr HO233))) (below_size (zs1 HB GE228))); replace HO233 := Aside0.mk (Kd.R_elder' (zr HO233) (Kd.R_base ho0) hb); replace HO243 := Aside0.mk (Kd.R_below (zr HO243) hb); replace BK228 := zb BK228 hb; replace HB := zE (zs1 HB GE228) hb; (try clear hb); (try clear hb2); (try clear hk); (try clear hi); (try clear ho0); obtain ⟨hcz82_0, hcz82_1, hcz82_2, hcz82_3, hcz82_4, hcz82_5, hcz82_6, hcz82_7⟩ := zd8 BK228; obtain ⟨hfz82_0, hfz82_1, hfz82_2, hfz82_3, hfz82_4, hfz82_5, hfz82_6, hfz82_7⟩ := zn8 BK228) | ((with_reducible refine gate_callee (f := 8) rfl ?_); refine zgl (N := some 28) Try.func8 #[.agg #[.int .i64 a1_0, .string a1_1, .string a1_2, .string a1_3, .int .i64 a1_4, .int .i64 a1_5, .int .i64 a1_6, .slice A1_7 l1_7.length c1_7]] ?_; (with_reducible refine (laws_toHandWord.calls k a1_0 a1_1 a1_2 a1_3 a1_4 a1_5 a1_6 _ _ l1_7 t248 t249 t250 t251 t252 t253 t254 t255 _ ?side1 ?side2 A17.out).mono ?_); (case side1 => exact zC HR1_7 HB); (case side2 => exact HC1_7.out); rintro e w83 ⟨v256, rfl, ho0, hb⟩; refine ⟨_, rfl, ?_⟩; have HO257 := Aside0.mk (Kd.R_lower (Kd.R_new' ho0 (Kd.R_lt (zr HO243))) (below_size (zs1 HB GE228))); replace HO233 := Aside0.mk (Kd.R_below (zr HO233) hb); replace HO243 := Aside0.mk (Kd.R_elder' (zr HO243) (Kd.R_base ho0) hb); replace HO247 := Aside0.mk (Kd.R_below (zr HO247) hb); replace BK228 := zb BK228 hb; replace HB := zE (zs1 HB GE228) hb; (try clear hb); (try clear hb2); (try clear hk); (try clear hi); (try clear ho0)) | ((with_reducible refine gate_dst (N := 8) rfl ?_); refine zbx 8 #[.int .i64 0, .string (⟨#[]⟩ : ByteArray), .string (⟨#[]⟩ : ByteArray), .string (⟨#[]⟩ : ByteArray), .int .i64 0, .int .i64 0, .int .i64 0, .slice none 0 0] 33 ?_; intro gb258 hg w84 hbox hb; have BK258 := zA hbox; have GW258 := zgs hg (zs1 HB GE228); have GE258 := zgs hg (zs1 HB GE228); have NB228_258 := zne hg BK228; have NB258_228 := znf hg BK228; replace HO233 := Aside0.mk (Kd.R_below (zr HO233) hb); replace HO243 := Aside0.mk (Kd.R_below (zr HO243) hb); replace HO247 := Aside0.mk (Kd.R_below (zr HO247) hb); replace HO257 := Aside0.mk (Kd.R_below (zr HO257) hb); replace BK228 := zb BK228 hb; replace HB := zE (zs1 HB GE228) hb; clear hb hbox hg; have hnb85 := NB258_228.out; have hnc85 := NB228_258.out; obtain ⟨hcz86_0, hcz86_1, hcz86_2, hcz86_3, hcz86_4, hcz86_5, hcz86_6, hcz86_7⟩ := zd8 BK258; obtain ⟨hfz86_0, hfz86_1, hfz86_2, hfz86_3, hfz86_4, hfz86_5, hfz86_6, hfz86_7⟩ := zn8 BK258; obtain ⟨Ao87, co87, eo87⟩ := Kd.R_slice HO257.out; subst eo87; obtain ⟨Ao88, co88, eo88⟩ := Kd.R_slice HO247.out; subst eo88) | ((with_reducible refine gate_callee (f := 9) rfl ?_); refine zgl (N := some 31) Try.func9 #[.slice Ao88 t245.length co88, .agg #[.int .i64 t248, .string t249, .string t250, .string t251, .int .i64 t252, .int .i64 t253, .int .i64 t254, .slice Ao87 t255.length co87]] ?_; (with_reducible refine (impl_HandWordOk.calls k _ _ t245 t248 t249 t250 t251 t252 t253 t254 _ _ t255 t259 _ ?side1 ?side2 ?side3 ?side4 A18.out).mono ?_); (case side1 => refine (Kd.R_reads' (e := 48) (base := w.heap.size) (ok := fun k_ => (True ∧ some k_ ≠ (.slice Ao78 t231.length co78 : Value).ownBlock)) (n := t245.length) (c := co88) ?_).2.2; exact (zRf HO247 BK258 (fun _ h_ => h_.1))); (case side2 => exact (Kd.R_reads' HO247.out).2.1); (case side3 => refine (Kd.R_reads' (e := 56) (base := w.heap.size) (ok := fun k_ => (True ∧ some k_ ≠ (.slice Ao79 t241.length co79 : Value).ownBlock)) (n := t255.length) (c := co87) ?_).2.2; exact (zRf HO257 BK258 (fun _ h_ => h_.1))); (case side4 => exact (Kd.R_reads' HO257.out).2.1); rintro e w89 ⟨rfl, hb⟩; refine ⟨_, rfl, ?_⟩; replace HO233 := Aside0.mk (Kd.R_below (zRf HO233 BK258 (fun _ h_ => h_.1)) hb); replace HO243 := Aside0.mk (Kd.R_below (zRf HO243 BK258 (fun _ h_ => h_.1)) hb); replace HO247 := Aside0.mk (Kd.R_below (zRf HO247 BK258 (fun _ h_ => h_.1)) hb); replace HO257 := Aside0.mk (Kd.R_below (zRf HO257 BK258 (fun _ h_ => h_.1)) hb); replace BK228 := Aside0.mk (blk_below (g := gb228) (o := .cells #[.int .i64 a1_0, .string a1_1, .string a1_2, .string a1_3, .int .i64 a1_4, .int .i64 a1_5, .int .i64 a1_6, .slice A1_7 l1_7.length c1_7] 25 (0, 0)) (zpf BK228 NB228_258) hb); replace BK258 := Aside0.mk (blk_below (g := gb258) (o := .cells #[.int .i64 t248, .string t249, .string t250, .string t251, .int .i64 t252, .int .i64 t253, .int .i64 t254, .slice Ao87 t255.length co87] 33 (0, 0)) (zpb BK258) hb); replace HB := zE (zs2 HB GE228 GE258) hb; (try clear hb); (try clear hb2); (try clear hk); (try clear hi)) | ((with_reducible refine gate_callee (f := 7) rfl ?_); refine zgl (N := some 37) Try.func7 #[.slice A0 l0.length c0] ?_; (with_reducible refine (laws_toHandZoneS.calls k _ _ l0 t260 _ ?side1 ?side2 A39.out).mono ?_); (case side1 => exact zC HR0 HB); (case side2 => exact HC0.out); rintro e w90 ⟨v261, rfl, ho0, hb⟩; refine ⟨_, rfl, ?_⟩; have HO262 := Aside0.mk (Kd.R_lower (Kd.R_new' (Kd.R_new' ho0 (Kd.R_lt (zr HO233))) (Kd.R_lt (zr HO247))) (below_size (zs2 HB GE228 GE258))); replace HO233 := Aside0.mk (Kd.R_elder' (zr HO233) (Kd.R_base ho0) hb); replace HO243 := Aside0.mk (Kd.R_below (zr HO243) hb); replace HO247 := Aside0.mk (Kd.R_elder' (zr HO247) (Kd.R_base ho0) hb); replace HO257 := Aside0.mk (Kd.R_below (zr HO257) hb); replace BK228 := zb BK228 hb; replace BK258 := zb BK258 hb; replace HB := zE (zs2 HB GE228 GE258) hb; (try clear hb); (try clear hb2); (try clear hk); (try clear hi); (try clear ho0); obtain ⟨Ao91, co91, eo91⟩ := Kd.R_slice HO262.out; subst eo91) | ((with_reducible refine gate_callee (f := 10) rfl ?_); refine zgl (N := some 38) Try.func10 #[.slice Ao88 t245.length co88, .slice Ao91 t260.length co91] ?_; (with_reducible refine (laws_eqHandZoneS.calls k _ _ t245 _ _ t260 true _ ?side1 ?side2 ?side3 ?side4 A40.out).mono ?_); (case side1 => repeat (first | exact (Kd.R_reads' HO247.out).2.2 | (with_reducible refine Kd.C_alloc ?_ _) | (with_reducible refine Kd.C_drewN ?_ _) | (with_reducible refine Kd.C_drew ?_))); (case side2 => exact (Kd.R_reads' HO247.out).2.1); (case side3 => repeat (first | exact (Kd.R_reads' HO262.out).2.2 | (with_reducible refine Kd.C_alloc ?_ _) | (with_reducible refine Kd.C_drewN ?_ _) | (with_reducible refine Kd.C_drew ?_))); (case side4 => exact (Kd.R_reads' HO262.out).2.1); rintro e w92 ⟨rfl, hb⟩; refine ⟨_, rfl, ?_⟩; replace HO233 := Aside0.mk (Kd.R_below (zr HO233) hb); replace HO243 := Aside0.mk (Kd.R_below (zr HO243) hb); replace HO247 := Aside0.mk (Kd.R_below (zr HO247) hb); replace HO257 := Aside0.mk (Kd.R_below (zr HO257) hb); replace HO262 := Aside0.mk (Kd.R_below (zr HO262) hb); replace BK228 := zb BK228 hb; replace BK258 := zb BK258 hb; replace HB := zE (zs2 HB GE228 GE258) hb; (try clear hb); (try clear hb2); (try clear hk); (try clear hi)))
 replace HO233 := Aside0.mk (Kd.R_drew HO233.out)
 replace HO243 := Aside0.mk (Kd.R_drew HO243.out)
 replace HO247 := Aside0.mk (Kd.R_drew HO247.out)
 replace HO257 := Aside0.mk (Kd.R_drew HO257.out)
 replace HO262 := Aside0.mk (Kd.R_drew HO262.out)
 replace BK228 := Aside0.mk (blk_drew BK228.out)
 replace BK258 := Aside0.mk (blk_drew BK258.out)
 replace HB := Aside0.mk (below_drew1 HB.out)
 refine start_ (n := 5) (S := fun w' => w'.cell? ⟨gb258, 0, none⟩ = some (.int .i64 t248) ∧ w'.cell? ⟨gb258, 1, none⟩ = some (.string t249) ∧ w'.cell? ⟨gb258, 2, none⟩ = some (.string t250) ∧ w'.cell? ⟨gb258, 3, none⟩ = some (.string t251) ∧ w'.cell? ⟨gb258, 4, none⟩ = some (.int .i64 t252) ∧ w'.cell? ⟨gb258, 5, none⟩ = some (.int .i64 t253) ∧ w'.cell? ⟨gb258, 6, none⟩ = some (.int .i64 t254) ∧ w'.cell? ⟨gb258, 7, none⟩ = some (.slice Ao87 t255.length co87) ∧ w'.cell? ⟨gb228, 0, none⟩ = some (.int .i64 a1_0) ∧ w'.cell? ⟨gb228, 1, none⟩ = some (.string a1_1) ∧ w'.cell? ⟨gb228, 2, none⟩ = some (.string a1_2) ∧ w'.cell? ⟨gb228, 3, none⟩ = some (.string a1_3) ∧ w'.cell? ⟨gb228, 4, none⟩ = some (.int .i64 a1_4) ∧ w'.cell? ⟨gb228, 5, none⟩ = some (.int .i64 a1_5) ∧ w'.cell? ⟨gb228, 6, none⟩ = some (.int .i64 a1_6) ∧ w'.cell? ⟨gb228, 7, none⟩ = some (.slice A1_7 l1_7.length c1_7)) (ds := []) #[false, false, false, false, false] (by kernel_rfl) rfl rfl ⟨zc0 BK258, zc1 BK258, zc2 BK258, zc3 BK258, zc4 BK258, zc5 BK258, zc6 BK258, zc7 BK258, zc0 BK228, zc1 BK228, zc2 BK228, zc3 BK228, zc4 BK228, zc5 BK228, zc6 BK228, zc7 BK228⟩ (fun hHeld => ?_)
 generalize w92.drew = w93 at HO233 HO243 HO247 HO257 HO262 BK228 BK258 HB hHeld ⊢
 refine take_ (i := 0) (N := some 40) (v := ?_) (a' := ?_) #[true, false, false, false, false] rfl rfl (by kernel_rfl) (fun _ _ _ h => h) (Or.inl ⟨by rfl, ?_⟩) hHeld ?_ ?_; rotate_left; exact zt16; rotate_left; exact zput
 refine take_ (i := 1) (N := some 41) (v := ?_) (a' := ?_) #[true, true, false, false, false] rfl rfl (by kernel_rfl) (fun _ _ _ h => h) (Or.inl ⟨by rfl, ?_⟩) hHeld ?_ ?_; rotate_left; exact zt16; rotate_left; exact zput
 refine one_ (i := 2) (N := some 42) #[true, true, true, false, false] rfl rfl (by kernel_rfl) (by decide) (fun K hK => ?_)
 refine zgo Try.func8 #[.agg #[.int .i64 a1_0, .string a1_1, .string a1_2, .string a1_3, .int .i64 a1_4, .int .i64 a1_5, .int .i64 a1_6, .slice A1_7 l1_7.length c1_7]] ?_
 with_reducible refine (laws_toHandWord.calls k a1_0 a1_1 a1_2 a1_3 a1_4 a1_5 a1_6 _ _ l1_7 t264 t265 t266 t267 t268 t269 t270 t271 _ ?side1 ?side2 A42.out).mono ?_
 (case side1 => exact zC HR1_7 HB)
 (case side2 => exact HC1_7.out)
 rintro e w94 ⟨v272, rfl, ho0, hb⟩
 refine ⟨_, rfl, ?_⟩
 have HO273 := Aside0.mk (Kd.R_lower (Kd.R_new' (Kd.R_new' ho0 (Kd.R_lt (zr HO243))) (Kd.R_lt (zr HO257))) (below_size (zs2 HB GE228 GE258)))
 replace HO233 := Aside0.mk (Kd.R_below (zr HO233) hb)
 replace HO243 := Aside0.mk (Kd.R_elder' (zr HO243) (Kd.R_base ho0) hb)
 replace HO247 := Aside0.mk (Kd.R_below (zr HO247) hb)
 replace HO257 := Aside0.mk (Kd.R_elder' (zr HO257) (Kd.R_base ho0) hb)
 replace HO262 := Aside0.mk (Kd.R_below (zr HO262) hb)
 replace BK228 := zb BK228 hb
 replace BK258 := zb BK258 hb
 replace HB := zE (zs2 HB GE228 GE258) hb
 (try clear hb)
 (try clear hb2)
 (try clear hk)
 (try clear hi)
 (try clear ho0)
 obtain ⟨Ao95, co95, eo95⟩ := Kd.R_slice HO273.out
 (first | subst eo95 | (injection eo95 with f1_ f2_ f3_; have f4_ := f1_.symm; have f5_ := f3_.symm; clear f1_ f2_ f3_; subst f4_; subst f5_))
 refine hK.out _ _ ⟨zc0 BK258, zc1 BK258, zc2 BK258, zc3 BK258, zc4 BK258, zc5 BK258, zc6 BK258, zc7 BK258, zc0 BK228, zc1 BK228, zc2 BK228, zc3 BK228, zc4 BK228, zc5 BK228, zc6 BK228, zc7 BK228⟩ (fun hHeld => ?_)
 clear hK K
 refine zN ?_
 refine one_ (i := 3) (N := some 43) #[true, true, true, true, false] rfl rfl (by kernel_rfl) (by decide) (fun K hK => ?_)
 refine zgo Try.func11 #[.agg #[.int .i64 t248, .string t249, .string t250, .string t251, .int .i64 t252, .int .i64 t253, .int .i64 t254, .slice Ao87 t255.length co87], .agg #[.int .i64 t264, .string t265, .string t266, .string t267, .int .i64 t268, .int .i64 t269, .int .i64 t270, .slice Ao95 t271.length co95]] ?_
 with_reducible refine (laws_eqHandWord.calls k t248 t249 t250 t251 t252 t253 t254 _ _ t255 t264 t265 t266 t267 t268 t269 t270 _ _ t271 false _ ?side1 ?side2 ?side3 ?side4 A43.out).mono ?_
 (case side1 => repeat (first | exact (Kd.R_reads' HO257.out).2.2 | (with_reducible refine Kd.C_alloc ?_ _) | (with_reducible refine Kd.C_drewN ?_ _) | (with_reducible refine Kd.C_drew ?_)))
 (case side2 => exact (Kd.R_reads' HO257.out).2.1)
 (case side3 => repeat (first | exact (Kd.R_reads' HO273.out).2.2 | (with_reducible refine Kd.C_alloc ?_ _) | (with_reducible refine Kd.C_drewN ?_ _) | (with_reducible refine Kd.C_drew ?_)))
 (case side4 => exact (Kd.R_reads' HO273.out).2.1)
 rintro e w96 ⟨rfl, hb⟩
 refine ⟨_, rfl, ?_⟩
 replace HO233 := Aside0.mk (Kd.R_below (zr HO233) hb)
 replace HO243 := Aside0.mk (Kd.R_below (zr HO243) hb)
 replace HO247 := Aside0.mk (Kd.R_below (zr HO247) hb)
 replace HO257 := Aside0.mk (Kd.R_below (zr HO257) hb)
 replace HO262 := Aside0.mk (Kd.R_below (zr HO262) hb)
 replace HO273 := Aside0.mk (Kd.R_below (zr HO273) hb)
 replace BK228 := zb BK228 hb
 replace BK258 := zb BK258 hb
 replace HB := zE (zs2 HB GE228 GE258) hb
 (try clear hb)
 (try clear hb2)
 (try clear hk)
 (try clear hi)
 refine hK.out _ _ ⟨zc0 BK258, zc1 BK258, zc2 BK258, zc3 BK258, zc4 BK258, zc5 BK258, zc6 BK258, zc7 BK258, zc0 BK228, zc1 BK228, zc2 BK228, zc3 BK228, zc4 BK228, zc5 BK228, zc6 BK228, zc7 BK228⟩ (fun hHeld => ?_)
 clear hK K
 refine zN ?_
 refine zp 4 ?_
 refine done_ (by kernel_rfl) ?_
 try go_wp2
 go_ret
 exact ⟨ze, zs2 HB GE228 GE258⟩
end Go.Proofs.Ytbgcpbdnmpnjhaa.QFnExactHandWordOk
