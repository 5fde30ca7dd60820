/- The walk of what the law FnExactHandWordOk reaches: laid by a program of this session (ownprint.py). -/
import Derived.Test.YtbgcpbdnmpnjhaaQFnExactHandWordOkx0
import Derived.Test.YtbgcpbdnmpnjhaaQFnExactHandWordOkx1
import Derived.Test.YtbgcpbdnmpnjhaaQFnExactHandWordOkx2
import Derived.Test.YtbgcpbdnmpnjhaaQFnExactHandWordOkx3
import Derived.Test.YtbgcpbdnmpnjhaaQFnExactHandWordOkx4
namespace Go.Proofs.Ytbgcpbdnmpnjhaa.QFnExactHandWordOk
open Go.RowKit Go.Proofs.YtbgcpbdnmpnjhaaW.PrintWords Go.Proofs.YtbgcpbdnmpnjhaaW.PrintLast Go.Proofs.YtbgcpbdnmpnjhaaW.PrintMore Go.Proofs.Ytbgcpbdnmpnjhaa.Z
attribute [local go_sem] max2_int min2_int max_two min_two max_three min_three max_four min_four zdn   -- for this text's walks alone
set_option linter.unusedVariables false
set_option linter.unusedSimpArgs false
mutual
def spec_HandWordOk.j0 : Nat → List (S48) → Bool → Int → ByteArray → ByteArray → ByteArray → Int → Int → Int → List (S56) → Option (Bool)
 | 0, _, _, _, _, _, _, _, _, _, _ => none
 | k + 1, x0, x26, x142000, x142001, x142002, x142003, x142004, x142005, x142006, x142007 => if x26 = true then (some false) else (if x142000 = 5 then (spec_HandWordOk.j1 k x0 true x142000 x142001 x142002 x142003 x142004 x142005 x142006 x142007) else (spec_HandWordOk.j1 k x0 (x142000 == 6) x142000 x142001 x142002 x142003 x142004 x142005 x142006 x142007))
def spec_HandWordOk.j1 : Nat → List (S48) → Bool → Int → ByteArray → ByteArray → ByteArray → Int → Int → Int → List (S56) → Option (Bool)
 | 0, _, _, _, _, _, _, _, _, _, _ => none
 | k + 1, x0, x5, x142000, x142001, x142002, x142003, x142004, x142005, x142006, x142007 => if (x5 != (decide (x142006 > 0))) = true then (spec_HandWordOk.j2 k x0 true x142000 x142001 x142002 x142003 x142004 x142005 x142006 x142007) else ((spec_l31In.f x142006 0 1000000).bind fun t146 => (if t146 = true then ((spec_l31In.f x142004 0 1000000).bind fun t147 => (if t147 = true then ((spec_l32LastOk.f x142000 x142001 x142002 x142003 x142004 x142005 x142006 x142007).bind fun t148 => (spec_HandWordOk.j2 k x0 (!t148) x142000 x142001 x142002 x142003 x142004 x142005 x142006 x142007)) else (spec_HandWordOk.j2 k x0 true x142000 x142001 x142002 x142003 x142004 x142005 x142006 x142007))) else (spec_HandWordOk.j2 k x0 true x142000 x142001 x142002 x142003 x142004 x142005 x142006 x142007)))
def spec_HandWordOk.j2 : Nat → List (S48) → Bool → Int → ByteArray → ByteArray → ByteArray → Int → Int → Int → List (S56) → Option (Bool)
 | 0, _, _, _, _, _, _, _, _, _, _ => none
 | k + 1, x0, x56, x142000, x142001, x142002, x142003, x142004, x142005, x142006, x142007 => if x56 = true then (some false) else ((spec_l32HasTube.f x142000).bind fun t149 => (if t149 = true then ((spec_HandTubeOk.f k x0 x142007).bind fun t150 => (some t150)) else (some ((x142007.length : Int) == 0))))
end
def spec_HandWordOk.f (k : Nat) (l0 : List (S48)) (a1_0 : Int) (a1_1 : ByteArray) (a1_2 : ByteArray) (a1_3 : ByteArray) (a1_4 : Int) (a1_5 : Int) (a1_6 : Int) (l1_7 : List (S56)) : Option (Bool) := (spec_HandZonesOk.f k l0).bind fun t142 => (if t142 = true then ((spec_l31In.f a1_0 1 9).bind fun t143 => (if t143 = true then ((spec_l32EndsOk.f k l0 a1_0 a1_1 a1_2 a1_3 a1_4 a1_5 a1_6 l1_7).bind fun t144 => (if t144 = true then ((spec_l31NameOk.f k a1_3).bind fun t145 => (spec_HandWordOk.j0 k l0 (!t145) a1_0 a1_1 a1_2 a1_3 a1_4 a1_5 a1_6 l1_7)) else (spec_HandWordOk.j0 k l0 true a1_0 a1_1 a1_2 a1_3 a1_4 a1_5 a1_6 l1_7))) else (spec_HandWordOk.j0 k l0 true a1_0 a1_1 a1_2 a1_3 a1_4 a1_5 a1_6 l1_7))) else (spec_HandWordOk.j0 k l0 true a1_0 a1_1 a1_2 a1_3 a1_4 a1_5 a1_6 l1_7))
set_option maxHeartbeats 8000000 in
set_option maxRecDepth 100000 in
theorem spec_HandWordOk.calls (k : Nat) (A0 : Option Addr) (c0 : Nat) (l0 : List (S48)) (a1_0 : Int) (a1_1 : ByteArray) (a1_2 : ByteArray) (a1_3 : ByteArray) (a1_4 : Int) (a1_5 : Int) (a1_6 : Int) (A1_7 : Option Addr) (c1_7 : Nat) (l1_7 : List (S56)) (r : Bool) (w : World) (hr0 : Kd.C k48 w A0 l0.length l0) (hc0 : l0.length ≤ c0) (hr1_7 : Kd.C k56 w A1_7 l1_7.length l1_7) (hc1_7 : l1_7.length ≤ c1_7) (h : spec_HandWordOk.f k l0 a1_0 a1_1 a1_2 a1_3 a1_4 a1_5 a1_6 l1_7 = some r) :
 Calls Try.prog 6 #[.slice A0 l0.length c0, .agg #[.int .i64 a1_0, .string a1_1, .string a1_2, .string a1_3, .int .i64 a1_4, .int .i64 a1_5, .int .i64 a1_6, .slice A1_7 l1_7.length c1_7]] w fun e w' => e = .returned (.bool r) ∧ Below w.heap.size w w' := by
 have hu33 := Try.underlying33
 have HR0 := Aside0.mk hr0
 have HC0 := Aside0.mk hc0
 clear hr0 hc0
 have HR1_7 := Aside0.mk hr1_7
 have HC1_7 := Aside0.mk hc1_7
 clear hr1_7 hc1_7
 have HB := Aside0.mk (Below.refl w.heap.size w)
 have H : ((spec_HandZonesOk.f k l0).bind fun t142 => (if t142 = true then ((spec_l31In.f a1_0 1 9).bind fun t143 => (if t143 = true then ((spec_l32EndsOk.f k l0 a1_0 a1_1 a1_2 a1_3 a1_4 a1_5 a1_6 l1_7).bind fun t144 => (if t144 = true then ((spec_l31NameOk.f k a1_3).bind fun t145 => (spec_HandWordOk.j0 k l0 (!t145) a1_0 a1_1 a1_2 a1_3 a1_4 a1_5 a1_6 l1_7)) else (spec_HandWordOk.j0 k l0 true a1_0 a1_1 a1_2 a1_3 a1_4 a1_5 a1_6 l1_7))) else (spec_HandWordOk.j0 k l0 true a1_0 a1_1 a1_2 a1_3 a1_4 a1_5 a1_6 l1_7))) else (spec_HandWordOk.j0 k l0 true a1_0 a1_1 a1_2 a1_3 a1_4 a1_5 a1_6 l1_7))) = some r := h
 clear h
 have HC3 := Aside0.mk H
 clear H
 go_enter Try.func6, Try.ntmps6
 go_upto_region 1 with (first | ((with_reducible refine gate_dst (N := 3) rfl ?_); refine zbx 3 #[.int .i64 a1_0, .string a1_1, .string a1_2, .string a1_3, .int .i64 a1_4, .int .i64 a1_5, .int .i64 a1_6, .slice A1_7 l1_7.length c1_7] 33 ?_; intro gb141 hg w4 hbox hb; have BK141 := zA hbox; have GW141 := zgs hg (zs0 HB); have GE141 := zgs hg (zs0 HB); replace HB := zE (zs0 HB) hb; clear hb hbox hg))
 (try simp only [Act.put, List.setIfInBounds_toArray, List.set_cons_zero, List.set_cons_succ])
 go_cut [26] (fun v26 wc => ∃ (kq : Nat) (x26_2 : Bool), v26 = .bool x26_2 ∧ Aside0 (spec_HandWordOk.j0 kq l0 x26_2 a1_0 a1_1 a1_2 a1_3 a1_4 a1_5 a1_6 l1_7 = some r) ∧ Aside0 (kq ≤ k) ∧ Aside0 (wc.heap[gb141]? = some (.cells #[.int .i64 a1_0, .string a1_1, .string a1_2, .string a1_3, .int .i64 a1_4, .int .i64 a1_5, .int .i64 a1_6, (.slice A1_7 l1_7.length c1_7)] 33 (0, 0))) ∧ Aside0 (Below w.heap.size w wc))
 case first =>
  have H := HC3.out
  clear HC3
  replace H := zbd H; obtain ⟨t142, A5, H⟩ := H
  by_cases c6 : t142 = true
  rotate_left
  ·replace c6 := Bool.eq_false_iff.mpr c6
   subst c6
   have H1 : (spec_HandWordOk.j0 k l0 true a1_0 a1_1 a1_2 a1_3 a1_4 a1_5 a1_6 l1_7) = some r := by rw [if_neg (show ¬ (false = true) by decide)] at H; exact H
   clear H
   have H := H1
   clear H1
   have H' := Aside0.mk H
   clear H
   go_wp2_with (first | ((with_reducible refine gate_callee (f := 14) rfl ?_); refine zgl (N := some 7) Try.func14 #[.slice A0 l0.length c0] ?_; (with_reducible refine (spec_HandZonesOk.calls k _ _ l0 false _ ?side1 ?side2 A5.out).mono ?_); (case side1 => exact zC HR0 HB); (case side2 => exact HC0.out); rintro e w21 ⟨rfl, hb⟩; refine ⟨_, rfl, ?_⟩; replace BK141 := zb BK141 hb; replace HB := zE (zs1 HB GE141) hb; (try clear hb); (try clear hb2); (try clear hk); (try clear hi)))
   go_meet
   case rel => exact ⟨_, (true), zi, H', ⟨by first | omega | exact Nat.le_refl _⟩, ⟨zh BK141⟩, ⟨zs1 HB GE141⟩⟩
  subst c6
  have H1 : ((spec_l31In.f a1_0 1 9).bind fun t143 => (if t143 = true then ((spec_l32EndsOk.f k l0 a1_0 a1_1 a1_2 a1_3 a1_4 a1_5 a1_6 l1_7).bind fun t144 => (if t144 = true then ((spec_l31NameOk.f k a1_3).bind fun t145 => (spec_HandWordOk.j0 k l0 (!t145) a1_0 a1_1 a1_2 a1_3 a1_4 a1_5 a1_6 l1_7)) else (spec_HandWordOk.j0 k l0 true a1_0 a1_1 a1_2 a1_3 a1_4 a1_5 a1_6 l1_7))) else (spec_HandWordOk.j0 k l0 true a1_0 a1_1 a1_2 a1_3 a1_4 a1_5 a1_6 l1_7))) = some r := by rw [if_pos rfl] at H; exact H
  clear H
  have H := H1
  clear H1
  replace H := zbd H; obtain ⟨t143, A7, H⟩ := H
  by_cases c8 : t143 = true
  rotate_left
  ·replace c8 := Bool.eq_false_iff.mpr c8
   subst c8
   have H1 : (spec_HandWordOk.j0 k l0 true a1_0 a1_1 a1_2 a1_3 a1_4 a1_5 a1_6 l1_7) = some r := by rw [if_neg (show ¬ (false = true) by decide)] at H; exact H
   clear H
   have H := H1
   clear H1
   have H' := Aside0.mk H
   clear H
   go_wp2_with (first | ((with_reducible refine gate_callee (f := 14) rfl ?_); refine zgl (N := some 7) Try.func14 #[.slice A0 l0.length c0] ?_; (with_reducible refine (spec_HandZonesOk.calls k _ _ l0 true _ ?side1 ?side2 A5.out).mono ?_); (case side1 => exact zC HR0 HB); (case side2 => exact HC0.out); rintro e w19 ⟨rfl, hb⟩; refine ⟨_, rfl, ?_⟩; replace BK141 := zb BK141 hb; replace HB := zE (zs1 HB GE141) hb; (try clear hb); (try clear hb2); (try clear hk); (try clear hi); obtain ⟨hcz20_0, hcz20_1, hcz20_2, hcz20_3, hcz20_4, hcz20_5, hcz20_6, hcz20_7⟩ := zd8 BK141; obtain ⟨hfz20_0, hfz20_1, hfz20_2, hfz20_3, hfz20_4, hfz20_5, hfz20_6, hfz20_7⟩ := zn8 BK141) | (go_at_call 15; (with_reducible refine (spec_l31In.calls a1_0 1 9 false _ A7.out).mono ?_); rintro e w' ⟨rfl, ⟨nd, rfl⟩⟩))
   go_meet
   case rel => exact ⟨_, (true), zi, H', ⟨by first | omega | exact Nat.le_refl _⟩, ⟨zh BK141⟩, ⟨zs1 HB GE141⟩⟩
  subst c8
  have H1 : ((spec_l32EndsOk.f k l0 a1_0 a1_1 a1_2 a1_3 a1_4 a1_5 a1_6 l1_7).bind fun t144 => (if t144 = true then ((spec_l31NameOk.f k a1_3).bind fun t145 => (spec_HandWordOk.j0 k l0 (!t145) a1_0 a1_1 a1_2 a1_3 a1_4 a1_5 a1_6 l1_7)) else (spec_HandWordOk.j0 k l0 true a1_0 a1_1 a1_2 a1_3 a1_4 a1_5 a1_6 l1_7))) = some r := by rw [if_pos rfl] at H; exact H
  clear H
  have H := H1
  clear H1
  replace H := zbd H; obtain ⟨t144, A9, H⟩ := H
  by_cases c10 : t144 = true
  rotate_left
  ·replace c10 := Bool.eq_false_iff.mpr c10
   subst c10
   have H1 : (spec_HandWordOk.j0 k l0 true a1_0 a1_1 a1_2 a1_3 a1_4 a1_5 a1_6 l1_7) = some r := by rw [if_neg (show ¬ (false = true) by decide)] at H; exact H
   clear H
   have H := H1
   clear H1
   have H' := Aside0.mk H
   clear H
   go_wp2_with (first | ((with_reducible refine gate_callee (f := 14) rfl ?_); refine zgl (N := some 7) Try.func14 #[.slice A0 l0.length c0] ?_; (with_reducible refine (spec_HandZonesOk.calls k _ _ l0 true _ ?side1 ?side2 A5.out).mono ?_); (case side1 => exact zC HR0 HB); (case side2 => exact HC0.out); rintro e w16 ⟨rfl, hb⟩; refine ⟨_, rfl, ?_⟩; replace BK141 := zb BK141 hb; replace HB := zE (zs1 HB GE141) hb; (try clear hb); (try clear hb2); (try clear hk); (try clear hi); obtain ⟨hcz17_0, hcz17_1, hcz17_2, hcz17_3, hcz17_4, hcz17_5, hcz17_6, hcz17_7⟩ := zd8 BK141; obtain ⟨hfz17_0, hfz17_1, hfz17_2, hfz17_3, hfz17_4, hfz17_5, hfz17_6, hfz17_7⟩ := zn8 BK141) | (go_at_call 15; (with_reducible refine (spec_l31In.calls a1_0 1 9 true _ A7.out).mono ?_); rintro e w' ⟨rfl, ⟨nd, rfl⟩⟩) | (go_at_call 16; (with_reducible refine (spec_l32EndsOk.calls k _ _ l0 a1_0 a1_1 a1_2 a1_3 a1_4 a1_5 a1_6 _ _ l1_7 false _ ?side1 ?side2 ?side3 ?side4 A9.out).mono ?_); (case side1 => repeat (first | exact (Kd.C_below HR0.out (zs1 HB GE141)) | (with_reducible refine Kd.C_alloc ?_ _) | (with_reducible refine Kd.C_drewN ?_ _) | (with_reducible refine Kd.C_drew ?_))); (case side2 => exact HC0.out); (case side3 => repeat (first | exact (Kd.C_below HR1_7.out (zs1 HB GE141)) | (with_reducible refine Kd.C_alloc ?_ _) | (with_reducible refine Kd.C_drewN ?_ _) | (with_reducible refine Kd.C_drew ?_))); (case side4 => exact HC1_7.out); rintro e w18 ⟨rfl, hb⟩; replace BK141 := zb BK141 hb; replace HB := zE (zs1 HB GE141) hb; (try clear hb); (try clear hb2); (try clear hk); (try clear hi)))
   go_meet
   case rel => exact ⟨_, (true), zi, H', ⟨by first | omega | exact Nat.le_refl _⟩, ⟨zh BK141⟩, ⟨zs1 HB GE141⟩⟩
  subst c10
  have H1 : ((spec_l31NameOk.f k a1_3).bind fun t145 => (spec_HandWordOk.j0 k l0 (!t145) a1_0 a1_1 a1_2 a1_3 a1_4 a1_5 a1_6 l1_7)) = some r := by rw [if_pos rfl] at H; exact H
  clear H
  have H := H1
  clear H1
  replace H := zbd H; obtain ⟨t145, A11, H⟩ := H
  have H' := Aside0.mk H
  clear H
  go_wp2_with (first | ((with_reducible refine gate_callee (f := 14) rfl ?_); refine zgl (N := some 7) Try.func14 #[.slice A0 l0.length c0] ?_; (with_reducible refine (spec_HandZonesOk.calls k _ _ l0 true _ ?side1 ?side2 A5.out).mono ?_); (case side1 => exact zC HR0 HB); (case side2 => exact HC0.out); rintro e w12 ⟨rfl, hb⟩; refine ⟨_, rfl, ?_⟩; replace BK141 := zb BK141 hb; replace HB := zE (zs1 HB GE141) hb; (try clear hb); (try clear hb2); (try clear hk); (try clear hi); obtain ⟨hcz13_0, hcz13_1, hcz13_2, hcz13_3, hcz13_4, hcz13_5, hcz13_6, hcz13_7⟩ := zd8 BK141; obtain ⟨hfz13_0, hfz13_1, hfz13_2, hfz13_3, hfz13_4, hfz13_5, hfz13_6, hfz13_7⟩ := zn8 BK141) | (go_at_call 15; (with_reducible refine (spec_l31In.calls a1_0 1 9 true _ A7.out).mono ?_); rintro e w' ⟨rfl, ⟨nd, rfl⟩⟩) | (go_at_call 16; (with_reducible refine (spec_l32EndsOk.calls k _ _ l0 a1_0 a1_1 a1_2 a1_3 a1_4 a1_5 a1_6 _ _ l1_7 true _ ?side1 ?side2 ?side3 ?side4 A9.out).mono ?_); (case side1 => repeat (first | exact (Kd.C_below HR0.out (zs1 HB GE141)) | (with_reducible refine Kd.C_alloc ?_ _) | (with_reducible refine Kd.C_drewN ?_ _) | (with_reducible refine Kd.C_drew ?_))); (case side2 => exact HC0.out); (case side3 => repeat (first | exact (Kd.C_below HR1_7.out (zs1 HB GE141)) | (with_reducible refine Kd.C_alloc ?_ _) | (with_reducible refine Kd.C_drewN ?_ _) | (with_reducible refine Kd.C_drew ?_))); (case side4 => exact HC1_7.out); rintro e w14 ⟨rfl, hb⟩; replace BK141 := zb BK141 hb; replace HB := zE (zs1 HB GE141) hb; (try clear hb); (try clear hb2); (try clear hk); (try clear hi); obtain ⟨hcz15_0, hcz15_1, hcz15_2, hcz15_3, hcz15_4, hcz15_5, hcz15_6, hcz15_7⟩ := zd8 BK141; obtain ⟨hfz15_0, hfz15_1, hfz15_2, hfz15_3, hfz15_4, hfz15_5, hfz15_6, hfz15_7⟩ := zn8 BK141) | (go_at_call 17; (with_reducible refine (spec_l31NameOk.calls k a1_3 t145 _ A11.out).mono ?_); rintro e w' ⟨rfl, ⟨nd, rfl⟩⟩))
  go_meet
  case rel => exact ⟨_, (!t145), zi, H', ⟨by first | omega | exact Nat.le_refl _⟩, ⟨zh BK141⟩, ⟨zs1 HB GE141⟩⟩
 case rest =>
  clear HC3
  try clear c1
  try clear p2
  try clear c6
  try clear c8
  try clear c10
  try clear c14
  try clear hcz13_0 hcz13_1 hcz13_2 hcz13_3 hcz13_4 hcz13_5 hcz13_6 hcz13_7
  try clear hcz15_0 hcz15_1 hcz15_2 hcz15_3 hcz15_4 hcz15_5 hcz15_6 hcz15_7
  try clear hcz17_0 hcz17_1 hcz17_2 hcz17_3 hcz17_4 hcz17_5 hcz17_6 hcz17_7
  try clear hcz20_0 hcz20_1 hcz20_2 hcz20_3 hcz20_4 hcz20_5 hcz20_6 hcz20_7
  try clear hfz13_0 hfz13_1 hfz13_2 hfz13_3 hfz13_4 hfz13_5 hfz13_6 hfz13_7
  try clear hfz15_0 hfz15_1 hfz15_2 hfz15_3 hfz15_4 hfz15_5 hfz15_6 hfz15_7
  try clear hfz17_0 hfz17_1 hfz17_2 hfz17_3 hfz17_4 hfz17_5 hfz17_6 hfz17_7
  try clear hfz20_0 hfz20_1 hfz20_2 hfz20_3 hfz20_4 hfz20_5 hfz20_6 hfz20_7
  obtain ⟨kq, x26_2, rfl, HA, HJ2, BK141, HB⟩ := hcut
  cases kq with
  | zero => exact absurd HA.out (by simp [spec_HandWordOk.j0])
  | succ kj2 =>
   have H := HA.out
   clear HA
   simp only [spec_HandWordOk.j0] at H
   by_cases c22 : x26_2 = true
   ·subst c22
    have H1 : (some false) = some r := by rw [if_pos rfl] at H; exact H
    clear H
    have H := H1
    clear H1
    obtain rfl := Option.some.inj H
    go_wp2
    go_ret
    exact ⟨ze, zs1 HB GE141⟩
   replace c22 := Bool.eq_false_iff.mpr c22
   subst c22
   have H1 : (if a1_0 = 5 then (spec_HandWordOk.j1 kj2 l0 true a1_0 a1_1 a1_2 a1_3 a1_4 a1_5 a1_6 l1_7) else (spec_HandWordOk.j1 kj2 l0 (a1_0 == 6) a1_0 a1_1 a1_2 a1_3 a1_4 a1_5 a1_6 l1_7)) = some r := by rw [if_neg (show ¬ (false = true) by decide)] at H; exact H
   clear H
   have H := H1
   clear H1
   have HC23 := Aside0.mk H
   clear H
   go_upto_region 3 with (fail)
   go_cut [5] (fun v5 wc => ∃ (kq : Nat) (x5_22 : Bool), v5 = .bool x5_22 ∧ Aside0 (spec_HandWordOk.j1 kq l0 x5_22 a1_0 a1_1 a1_2 a1_3 a1_4 a1_5 a1_6 l1_7 = some r) ∧ Aside0 (kq ≤ kj2) ∧ Aside0 (wc.heap[gb141]? = some (.cells #[.int .i64 a1_0, .string a1_1, .string a1_2, .string a1_3, .int .i64 a1_4, .int .i64 a1_5, .int .i64 a1_6, (.slice A1_7 l1_7.length c1_7)] 33 (0, 0))) ∧ Aside0 (Below w.heap.size w wc))
   case first =>
    have H := HC23.out
    clear HC23
    by_cases c24 : a1_0 = 5
    rotate_left
    ·rw [if_neg c24] at H
     have c24b0 : (a1_0 == 5) = false := beq_eq_false_iff_ne.mpr c24
     have c24b1 : (a1_0 != 5) = true := bne_iff_ne.mpr c24
     (first | rw [c24b0] | (simp only [i64_w, i32_w]; rw [c24b0]) | skip)
     have H' := Aside0.mk H
     clear H
     obtain ⟨hcz26_0, hcz26_1, hcz26_2, hcz26_3, hcz26_4, hcz26_5, hcz26_6, hcz26_7⟩ := zd8 BK141
     obtain ⟨hfz26_0, hfz26_1, hfz26_2, hfz26_3, hfz26_4, hfz26_5, hfz26_6, hfz26_7⟩ := zn8 BK141
     go_wp2
     go_meet
     case rel => exact ⟨_, ((a1_0 == 6)), zi, H', ⟨by have := HJ2.out; first | omega | exact Nat.le_refl _⟩, ⟨zh BK141⟩, ⟨zs1 HB GE141⟩⟩
    rw [if_pos c24] at H
    have c24b0 : (a1_0 == 5) = true := beq_iff_eq.mpr c24
    have c24b1 : (a1_0 != 5) = false := bne_eq_false_iff_eq.mpr c24
    clear c24
    (first | rw [c24b0] | (simp only [i64_w, i32_w]; rw [c24b0]) | skip)
    have H' := Aside0.mk H
    clear H
    obtain ⟨hcz25_0, hcz25_1, hcz25_2, hcz25_3, hcz25_4, hcz25_5, hcz25_6, hcz25_7⟩ := zd8 BK141
    obtain ⟨hfz25_0, hfz25_1, hfz25_2, hfz25_3, hfz25_4, hfz25_5, hfz25_6, hfz25_7⟩ := zn8 BK141
    go_wp2
    go_meet
    case rel => exact ⟨_, (true), zi, H', ⟨by have := HJ2.out; first | omega | exact Nat.le_refl _⟩, ⟨zh BK141⟩, ⟨zs1 HB GE141⟩⟩
   case rest =>
    clear HC23
    try clear c1
    try clear c2
    try clear p2
    try clear c6
    try clear c8
    try clear c10
    try clear c14
    try clear c22
    try clear c24
    try clear c24b0
    try clear c24b1
    try clear hcz13_0 hcz13_1 hcz13_2 hcz13_3 hcz13_4 hcz13_5 hcz13_6 hcz13_7
    try clear hcz15_0 hcz15_1 hcz15_2 hcz15_3 hcz15_4 hcz15_5 hcz15_6 hcz15_7
    try clear hcz17_0 hcz17_1 hcz17_2 hcz17_3 hcz17_4 hcz17_5 hcz17_6 hcz17_7
    try clear hcz20_0 hcz20_1 hcz20_2 hcz20_3 hcz20_4 hcz20_5 hcz20_6 hcz20_7
    try clear hcz25_0 hcz25_1 hcz25_2 hcz25_3 hcz25_4 hcz25_5 hcz25_6 hcz25_7
    try clear hcz26_0 hcz26_1 hcz26_2 hcz26_3 hcz26_4 hcz26_5 hcz26_6 hcz26_7
    try clear hfz13_0 hfz13_1 hfz13_2 hfz13_3 hfz13_4 hfz13_5 hfz13_6 hfz13_7
    try clear hfz15_0 hfz15_1 hfz15_2 hfz15_3 hfz15_4 hfz15_5 hfz15_6 hfz15_7
    try clear hfz17_0 hfz17_1 hfz17_2 hfz17_3 hfz17_4 hfz17_5 hfz17_6 hfz17_7
    try clear hfz20_0 hfz20_1 hfz20_2 hfz20_3 hfz20_4 hfz20_5 hfz20_6 hfz20_7
    try clear hfz25_0 hfz25_1 hfz25_2 hfz25_3 hfz25_4 hfz25_5 hfz25_6 hfz25_7
    try clear hfz26_0 hfz26_1 hfz26_2 hfz26_3 hfz26_4 hfz26_5 hfz26_6 hfz26_7
    try clear p2
    obtain ⟨kq, x5_22, rfl, HA, HJ22, BK141, HB⟩ := hcut
    cases kq with
    | zero => exact absurd HA.out (by simp [spec_HandWordOk.j1])
    | succ kj22 =>
     have H := HA.out
     clear HA
     simp only [spec_HandWordOk.j1] at H
     have HC27 := Aside0.mk H
     clear H
     go_upto_region 4 with (fail)
     go_cut [56] (fun v56 wc => ∃ (kq : Nat) (x56_26 : Bool), v56 = .bool x56_26 ∧ Aside0 (spec_HandWordOk.j2 kq l0 x56_26 a1_0 a1_1 a1_2 a1_3 a1_4 a1_5 a1_6 l1_7 = some r) ∧ Aside0 (kq ≤ kj22) ∧ Aside0 (wc.heap[gb141]? = some (.cells #[.int .i64 a1_0, .string a1_1, .string a1_2, .string a1_3, .int .i64 a1_4, .int .i64 a1_5, .int .i64 a1_6, (.slice A1_7 l1_7.length c1_7)] 33 (0, 0))) ∧ Aside0 (Below w.heap.size w wc))
     case first =>
      have H := HC27.out
      clear HC27
      by_cases c28 : (x5_22 != (decide (a1_6 > 0))) = true
      ·rw [if_pos c28] at H
       have c28b0 : (x5_22 != (decide (a1_6 > 0))) = true := c28
       (try (have c28b1 : decide (x5_22 = (decide (a1_6 > 0))) = false := by simpa using c28))
       (try (have c28b2 : (x5_22 == (decide (a1_6 > 0))) = false := by simpa using c28))
       (try (have c28b3 : ¬ (x5_22 = (decide (a1_6 > 0))) := by simpa using c28))
       clear c28
       (first | rw [c28b0] | (simp only [i64_w, i32_w]; rw [c28b0]) | skip)
       have H' := Aside0.mk H
       clear H
       obtain ⟨hcz29_0, hcz29_1, hcz29_2, hcz29_3, hcz29_4, hcz29_5, hcz29_6, hcz29_7⟩ := zd8 BK141
       obtain ⟨hfz29_0, hfz29_1, hfz29_2, hfz29_3, hfz29_4, hfz29_5, hfz29_6, hfz29_7⟩ := zn8 BK141
       go_wp2
       go_meet
       case rel => exact ⟨_, (true), zi, H', ⟨by have := HJ2.out; have := HJ22.out; first | omega | exact Nat.le_refl _⟩, ⟨zh BK141⟩, ⟨zs1 HB GE141⟩⟩
      rw [if_neg c28] at H
      have c28b0 : (x5_22 != (decide (a1_6 > 0))) = false := by simpa using c28
      (try (have c28b1 : decide (x5_22 = (decide (a1_6 > 0))) = true := by simpa using c28))
      (try (have c28b2 : (x5_22 == (decide (a1_6 > 0))) = true := by simpa using c28))
      clear c28
      (first | rw [c28b0] | (simp only [i64_w, i32_w]; rw [c28b0]) | skip)
      replace H := zbd H; obtain ⟨t146, A30, H⟩ := H
      by_cases c31 : t146 = true
      rotate_left
      ·replace c31 := Bool.eq_false_iff.mpr c31
       subst c31
       have H1 : (spec_HandWordOk.j2 kj22 l0 true a1_0 a1_1 a1_2 a1_3 a1_4 a1_5 a1_6 l1_7) = some r := by rw [if_neg (show ¬ (false = true) by decide)] at H; exact H
       clear H
       have H := H1
       clear H1
       have H' := Aside0.mk H
       clear H
       obtain ⟨hcz38_0, hcz38_1, hcz38_2, hcz38_3, hcz38_4, hcz38_5, hcz38_6, hcz38_7⟩ := zd8 BK141
       obtain ⟨hfz38_0, hfz38_1, hfz38_2, hfz38_3, hfz38_4, hfz38_5, hfz38_6, hfz38_7⟩ := zn8 BK141
       go_wp2_with (first | (go_at_call 15; (with_reducible refine (spec_l31In.calls a1_6 0 1000000 false _ A30.out).mono ?_); rintro e w' ⟨rfl, ⟨nd, rfl⟩⟩))
       go_meet
       case rel => exact ⟨_, (true), zi, H', ⟨by have := HJ2.out; have := HJ22.out; first | omega | exact Nat.le_refl _⟩, ⟨zh BK141⟩, ⟨zs1 HB GE141⟩⟩
      subst c31
      have H1 : ((spec_l31In.f a1_4 0 1000000).bind fun t147 => (if t147 = true then ((spec_l32LastOk.f a1_0 a1_1 a1_2 a1_3 a1_4 a1_5 a1_6 l1_7).bind fun t148 => (spec_HandWordOk.j2 kj22 l0 (!t148) a1_0 a1_1 a1_2 a1_3 a1_4 a1_5 a1_6 l1_7)) else (spec_HandWordOk.j2 kj22 l0 true a1_0 a1_1 a1_2 a1_3 a1_4 a1_5 a1_6 l1_7))) = some r := by rw [if_pos rfl] at H; exact H
      clear H
      have H := H1
      clear H1
      replace H := zbd H; obtain ⟨t147, A32, H⟩ := H
      by_cases c33 : t147 = true
      rotate_left
      ·replace c33 := Bool.eq_false_iff.mpr c33
       subst c33
       have H1 : (spec_HandWordOk.j2 kj22 l0 true a1_0 a1_1 a1_2 a1_3 a1_4 a1_5 a1_6 l1_7) = some r := by rw [if_neg (show ¬ (false = true) by decide)] at H; exact H
       clear H
       have H := H1
       clear H1
       have H' := Aside0.mk H
       clear H
       obtain ⟨hcz37_0, hcz37_1, hcz37_2, hcz37_3, hcz37_4, hcz37_5, hcz37_6, hcz37_7⟩ := zd8 BK141
       obtain ⟨hfz37_0, hfz37_1, hfz37_2, hfz37_3, hfz37_4, hfz37_5, hfz37_6, hfz37_7⟩ := zn8 BK141
       go_wp2_with (first | (go_at_call 15; (with_reducible refine (spec_l31In.calls a1_6 0 1000000 true _ A30.out).mono ?_); rintro e w' ⟨rfl, ⟨nd, rfl⟩⟩) | (go_at_call 15; (with_reducible refine (spec_l31In.calls a1_4 0 1000000 false _ A32.out).mono ?_); rintro e w' ⟨rfl, ⟨nd, rfl⟩⟩))
       go_meet
       case rel => exact ⟨_, (true), zi, H', ⟨by have := HJ2.out; have := HJ22.out; first | omega | exact Nat.le_refl _⟩, ⟨zh BK141⟩, ⟨zs1 HB GE141⟩⟩
      subst c33
      have H1 : ((spec_l32LastOk.f a1_0 a1_1 a1_2 a1_3 a1_4 a1_5 a1_6 l1_7).bind fun t148 => (spec_HandWordOk.j2 kj22 l0 (!t148) a1_0 a1_1 a1_2 a1_3 a1_4 a1_5 a1_6 l1_7)) = some r := by rw [if_pos rfl] at H; exact H
      clear H
      have H := H1
      clear H1
      replace H := zbd H; obtain ⟨t148, A34, H⟩ := H
      have H' := Aside0.mk H
      clear H
      obtain ⟨hcz35_0, hcz35_1, hcz35_2, hcz35_3, hcz35_4, hcz35_5, hcz35_6, hcz35_7⟩ := zd8 BK141
      obtain ⟨hfz35_0, hfz35_1, hfz35_2, hfz35_3, hfz35_4, hfz35_5, hfz35_6, hfz35_7⟩ := zn8 BK141
      go_wp2_with (first | (go_at_call 15; (with_reducible refine (spec_l31In.calls a1_6 0 1000000 true _ A30.out).mono ?_); rintro e w' ⟨rfl, ⟨nd, rfl⟩⟩) | (go_at_call 15; (with_reducible refine (spec_l31In.calls a1_4 0 1000000 true _ A32.out).mono ?_); rintro e w' ⟨rfl, ⟨nd, rfl⟩⟩) | (go_at_call 18; (with_reducible refine (spec_l32LastOk.calls a1_0 a1_1 a1_2 a1_3 a1_4 a1_5 a1_6 _ _ l1_7 t148 _ ?side1 ?side2 A34.out).mono ?_); (case side1 => repeat (first | exact (Kd.C_below HR1_7.out (zs1 HB GE141)) | (with_reducible refine Kd.C_alloc ?_ _) | (with_reducible refine Kd.C_drewN ?_ _) | (with_reducible refine Kd.C_drew ?_))); (case side2 => exact HC1_7.out); rintro e w36 ⟨rfl, hb⟩; replace BK141 := zb BK141 hb; replace HB := zE (zs1 HB GE141) hb; (try clear hb); (try clear hb2); (try clear hk); (try clear hi)))
      go_meet
      case rel => exact ⟨_, (!t148), zi, H', ⟨by have := HJ2.out; have := HJ22.out; first | omega | exact Nat.le_refl _⟩, ⟨zh BK141⟩, ⟨zs1 HB GE141⟩⟩
     case rest =>
      clear HC27
      try clear c1
      try clear c2
      try clear p2
      try clear c3
      try clear c6
      try clear c8
      try clear c10
      try clear c14
      try clear c22
      try clear c24
      try clear c24b0
      try clear c24b1
      try clear c28
      try clear c28b0
      try clear c28b1
      try clear c28b2
      try clear c31
      try clear c33
      try clear hcz13_0 hcz13_1 hcz13_2 hcz13_3 hcz13_4 hcz13_5 hcz13_6 hcz13_7
      try clear hcz15_0 hcz15_1 hcz15_2 hcz15_3 hcz15_4 hcz15_5 hcz15_6 hcz15_7
      try clear hcz17_0 hcz17_1 hcz17_2 hcz17_3 hcz17_4 hcz17_5 hcz17_6 hcz17_7
      try clear hcz20_0 hcz20_1 hcz20_2 hcz20_3 hcz20_4 hcz20_5 hcz20_6 hcz20_7
      try clear hcz25_0 hcz25_1 hcz25_2 hcz25_3 hcz25_4 hcz25_5 hcz25_6 hcz25_7
      try clear hcz26_0 hcz26_1 hcz26_2 hcz26_3 hcz26_4 hcz26_5 hcz26_6 hcz26_7
      try clear hcz29_0 hcz29_1 hcz29_2 hcz29_3 hcz29_4 hcz29_5 hcz29_6 hcz29_7
      try clear hcz35_0 hcz35_1 hcz35_2 hcz35_3 hcz35_4 hcz35_5 hcz35_6 hcz35_7
      try clear hcz37_0 hcz37_1 hcz37_2 hcz37_3 hcz37_4 hcz37_5 hcz37_6 hcz37_7
      try clear hcz38_0 hcz38_1 hcz38_2 hcz38_3 hcz38_4 hcz38_5 hcz38_6 hcz38_7
      try clear hfz13_0 hfz13_1 hfz13_2 hfz13_3 hfz13_4 hfz13_5 hfz13_6 hfz13_7
      try clear hfz15_0 hfz15_1 hfz15_2 hfz15_3 hfz15_4 hfz15_5 hfz15_6 hfz15_7
      try clear hfz17_0 hfz17_1 hfz17_2 hfz17_3 hfz17_4 hfz17_5 hfz17_6 hfz17_7
      try clear hfz20_0 hfz20_1 hfz20_2 hfz20_3 hfz20_4 hfz20_5 hfz20_6 hfz20_7
      try clear hfz25_0 hfz25_1 hfz25_2 hfz25_3 hfz25_4 hfz25_5 hfz25_6 hfz25_7
      try clear hfz26_0 hfz26_1 hfz26_2 hfz26_3 hfz26_4 hfz26_5 hfz26_6 hfz26_7
      try clear hfz29_0 hfz29_1 hfz29_2 hfz29_3 hfz29_4 hfz29_5 hfz29_6 hfz29_7
      try clear hfz35_0 hfz35_1 hfz35_2 hfz35_3 hfz35_4 hfz35_5 hfz35_6 hfz35_7
      try clear hfz37_0 hfz37_1 hfz37_2 hfz37_3 hfz37_4 hfz37_5 hfz37_6 hfz37_7
      try clear hfz38_0 hfz38_1 hfz38_2 hfz38_3 hfz38_4 hfz38_5 hfz38_6 hfz38_7
      try clear p2
      obtain ⟨kq, x56_26, rfl, HA, HJ26, BK141, HB⟩ := hcut
      cases kq with
      | zero => exact absurd HA.out (by simp [spec_HandWordOk.j2])
      | succ kj26 =>
       have H := HA.out
       clear HA
       simp only [spec_HandWordOk.j2] at H
       by_cases c39 : x56_26 = true
       ·subst c39
        have H1 : (some false) = some r := by rw [if_pos rfl] at H; exact H
        clear H
        have H := H1
        clear H1
        obtain rfl := Option.some.inj H
        go_wp2
        go_ret
        exact ⟨ze, zs1 HB GE141⟩
       replace c39 := Bool.eq_false_iff.mpr c39
       subst c39
       have H1 : ((spec_l32HasTube.f a1_0).bind fun t149 => (if t149 = true then ((spec_HandTubeOk.f kj26 l0 l1_7).bind fun t150 => (some t150)) else (some ((l1_7.length : Int) == 0)))) = some r := by rw [if_neg (show ¬ (false = true) by decide)] at H; exact H
       clear H
       have H := H1
       clear H1
       replace H := zbd H; obtain ⟨t149, A40, H⟩ := H
       by_cases c41 : t149 = true
       rotate_left
       ·replace c41 := Bool.eq_false_iff.mpr c41
        subst c41
        have H1 : (some ((l1_7.length : Int) == 0)) = some r := by rw [if_neg (show ¬ (false = true) by decide)] at H; exact H
        clear H
        have H := H1
        clear H1
        obtain rfl := Option.some.inj H
        obtain ⟨hcz45_0, hcz45_1, hcz45_2, hcz45_3, hcz45_4, hcz45_5, hcz45_6, hcz45_7⟩ := zd8 BK141
        obtain ⟨hfz45_0, hfz45_1, hfz45_2, hfz45_3, hfz45_4, hfz45_5, hfz45_6, hfz45_7⟩ := zn8 BK141
        go_wp2_with (first | ((with_reducible refine gate_callee (f := 19) rfl ?_); refine zgl (N := some 59) Try.func19 #[.int .i64 a1_0] ?_; (with_reducible refine (spec_l32HasTube.calls a1_0 false _ A40.out).mono ?_); rintro e w' ⟨rfl, ⟨nd, rfl⟩⟩; refine ⟨_, rfl, ?_⟩))
        go_ret
        exact ⟨ze, zs1 HB GE141⟩
       subst c41
       have H1 : ((spec_HandTubeOk.f kj26 l0 l1_7).bind fun t150 => (some t150)) = some r := by rw [if_pos rfl] at H; exact H
       clear H
       have H := H1
       clear H1
       replace H := zbd H; obtain ⟨t150, A42, H⟩ := H
       obtain rfl := Option.some.inj H
       obtain ⟨hcz43_0, hcz43_1, hcz43_2, hcz43_3, hcz43_4, hcz43_5, hcz43_6, hcz43_7⟩ := zd8 BK141
       obtain ⟨hfz43_0, hfz43_1, hfz43_2, hfz43_3, hfz43_4, hfz43_5, hfz43_6, hfz43_7⟩ := zn8 BK141
       go_wp2_with (first | ((with_reducible refine gate_callee (f := 19) rfl ?_); refine zgl (N := some 59) Try.func19 #[.int .i64 a1_0] ?_; (with_reducible refine (spec_l32HasTube.calls a1_0 true _ A40.out).mono ?_); rintro e w' ⟨rfl, ⟨nd, rfl⟩⟩; refine ⟨_, rfl, ?_⟩) | ((with_reducible refine gate_callee (f := 20) rfl ?_); refine zgl (N := some 68) Try.func20 #[.slice A0 l0.length c0, .slice A1_7 l1_7.length c1_7] ?_; (with_reducible refine (spec_HandTubeOk.calls kj26 _ _ l0 _ _ l1_7 t150 _ ?side1 ?side2 ?side3 ?side4 A42.out).mono ?_); (case side1 => repeat (first | exact (Kd.C_below HR0.out (zs1 HB GE141)) | (with_reducible refine Kd.C_alloc ?_ _) | (with_reducible refine Kd.C_drewN ?_ _) | (with_reducible refine Kd.C_drew ?_))); (case side2 => exact HC0.out); (case side3 => repeat (first | exact (Kd.C_below HR1_7.out (zs1 HB GE141)) | (with_reducible refine Kd.C_alloc ?_ _) | (with_reducible refine Kd.C_drewN ?_ _) | (with_reducible refine Kd.C_drew ?_))); (case side4 => exact HC1_7.out); rintro e w44 ⟨rfl, hb⟩; refine ⟨_, rfl, ?_⟩; replace BK141 := zb BK141 hb; replace HB := zE (zs1 HB GE141) hb; (try clear hb); (try clear hb2); (try clear hk); (try clear hi)))
       go_ret
       exact ⟨ze, zs1 HB GE141⟩
end Go.Proofs.Ytbgcpbdnmpnjhaa.QFnExactHandWordOk
