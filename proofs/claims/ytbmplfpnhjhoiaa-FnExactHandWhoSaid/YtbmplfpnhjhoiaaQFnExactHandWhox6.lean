/- The walk of what the law FnExactHandWho reaches: laid by a program of this session (ownprint.py). -/
import Derived.Test.YtbmplfpnhjhoiaaQFnExactHandWhox0
import Derived.Test.YtbmplfpnhjhoiaaQFnExactHandWhox3
import Derived.Test.YtbmplfpnhjhoiaaQFnExactHandWhox5
namespace Go.Proofs.Ytbmplfpnhjhoiaa.QFnExactHandWho
open Go.RowKit Go.Proofs.YtbmplfpnhjhoiaaW.PrintWords Go.Proofs.YtbmplfpnhjhoiaaW.PrintLast Go.Proofs.YtbmplfpnhjhoiaaW.PrintMore Go.Proofs.Ytbmplfpnhjhoiaa.Z
attribute [local go_sem] max2_int min2_int max_two min_two max_three min_three max_four min_four zdn   -- for this text's walks alone
set_option linter.unusedVariables false
set_option linter.unusedSimpArgs false
def spec_l31ZoneOk.f (k : Nat) (a0_0 : ByteArray) (a0_1 : Int) (a0_2 : Int) (a0_3 : Int) (a0_4 : Int) : Option (Bool) := (spec_HandZonesOk.f k (([(⟨a0_0, a0_1, a0_2, a0_3, a0_4⟩ : S55)] : List (S55)))).bind fun t163 => (some t163)
set_option maxHeartbeats 8000000 in
set_option maxRecDepth 100000 in
theorem spec_l31ZoneOk.calls (k : Nat) (a0_0 : ByteArray) (a0_1 : Int) (a0_2 : Int) (a0_3 : Int) (a0_4 : Int) (r : Bool) (w : World) (h : spec_l31ZoneOk.f k a0_0 a0_1 a0_2 a0_3 a0_4 = some r) :
 Calls Try.prog 90 #[.agg #[.string a0_0, .int .i64 a0_1, .int .i64 a0_2, .int .i64 a0_3, .int .i64 a0_4]] w fun e w' => e = .returned (.bool r) ∧ Below w.heap.size w w' := by
 have hu55 := Try.underlying55
 have HB := zA (Below.refl w.heap.size w)
 have H : ((spec_HandZonesOk.f k (([(⟨a0_0, a0_1, a0_2, a0_3, a0_4⟩ : S55)] : List (S55)))).bind fun t163 => (some t163)) = some r := h
 clear h
 obtain ⟨y160, hy160⟩ : ∃ y_ : List (S55), y_ = (([(⟨a0_0, a0_1, a0_2, a0_3, a0_4⟩ : S55)] : List (S55))) := ⟨_, rfl⟩
 replace H : ((spec_HandZonesOk.f k y160).bind fun t163 => (some t163)) = some r := by first | (rw [hy160]; with_reducible exact H) | (have H2_ := (Option.bind_some _ _).symm.trans H; rw [hy160]; with_reducible exact H2_) | (have H2_ := (Option.bind_some _ _).symm.trans H; with_reducible exact H2_) | with_reducible exact H | (rw [hy160]; exact H) | exact H
 have Ny160 := zA hy160
 clear hy160
 replace H := zbd H; obtain ⟨t163, A2, H⟩ := H
 obtain rfl := Option.some.inj H
 go_enter Try.func90, Try.ntmps90
 go_wp2_with (first | ((with_reducible refine gate_dst (N := 1) rfl ?_); refine zbx 1 #[.string a0_0, .int .i64 a0_1, .int .i64 a0_2, .int .i64 a0_3, .int .i64 a0_4] 55 ?_; intro gb159 hg w3 hbox hb; have BK159 := zA hbox; have GW159 := zgs hg (zs0 HB); have GE159 := zgs hg (zs0 HB); replace HB := zE (zs0 HB) hb; clear hb hbox hg; obtain ⟨hcz4_0, hcz4_1, hcz4_2, hcz4_3, hcz4_4⟩ := zd5 BK159; obtain ⟨hfz4_0, hfz4_1, hfz4_2, hfz4_3, hfz4_4⟩ := zn5 BK159) | ((with_reducible refine gate_dst (N := 4) rfl ?_); refine Kd.R_lit k55 _ 55 ?hg (N := 4) ?hd (xs := ([(⟨a0_0, a0_1, a0_2, a0_3, a0_4⟩ : S55)] : List (S55))) (inner := [.string a0_0, .int .i64 a0_1, .int .i64 a0_2, .int .i64 a0_3, .int .i64 a0_4]) (ok := fun _ => True) (okp := fun _ => True) ?hr ?hp (fun _ hk => hk) trivial (Below.refl _ _) (Nat.le_refl _) (by simp) ?_; (case hd => rfl); (case hg => rfl); (case hr => first | (go_simp; done) | (go_simp; rfl)); (case hp => exact (Reps.c5 (show Kd.M k55 _ _ _ (⟨a0_0, a0_1, a0_2, a0_3, a0_4⟩ : S55) [.string a0_0, .int .i64 a0_1, .int .i64 a0_2, .int .i64 a0_3, .int .i64 a0_4] from (k55_mkM _ _ _ (⟨a0_0, a0_1, a0_2, a0_3, a0_4⟩ : S55) )) (Reps.none _ _))); intro v161 w5 ho6 hb hg_ hnew_; clear hg_ hnew_; (first | rw [← Ny160.out] at ho6 | (simp only [Int.reduceToNat] at ho6; rw [← Ny160.out] at ho6)); have HO162 := zA (Kd.R_lower (Kd.R_newB ho6 (g := gb159) (o := .cells #[.string a0_0, .int .i64 a0_1, .int .i64 a0_2, .int .i64 a0_3, .int .i64 a0_4] 55 (0, 0)) (zh BK159)) (below_size (zs1 HB GE159))); replace BK159 := zb BK159 hb; replace HB := zE (zs1 HB GE159) hb; clear hb ho6; obtain ⟨Ao7, co7, eo7⟩ := Kd.R_slice HO162.out; subst eo7) | ((with_reducible refine gate_callee (f := 51) rfl ?_); refine zgl Try.func51 #[.slice Ao7 y160.length co7] ?_; (with_reducible refine (spec_HandZonesOk.calls k _ _ y160 t163 _ ?side1 ?side2 A2.out).mono ?_); (case side1 => repeat (first | exact (Kd.R_reads' HO162.out).2.2 | (with_reducible refine Kd.C_alloc ?_ _) | (with_reducible refine Kd.C_drewN ?_ _) | (with_reducible refine Kd.C_drew ?_))); (case side2 => exact (Kd.R_reads' HO162.out).2.1); rintro e w8 ⟨rfl, hb⟩; refine ⟨_, rfl, ?_⟩; replace HO162 := zA (Kd.R_below (zr HO162) hb); replace BK159 := zb BK159 hb; replace HB := zE (zs1 HB GE159) hb; (try clear hb); (try clear hb2); (try clear hk); (try clear hi)))
 go_ret
 exact ⟨ze, zs1 HB GE159⟩
def spec_l31BoxOk.f (a0_0 : Int) (a0_1 : Int) (a0_2 : Int) (a0_3 : Int) (a0_4 : Int) (a0_5 : Int) : Option (Bool) := (spec_l31In.f a0_0 0 15).bind fun t165 => (if t165 = true then ((spec_l31In.f a0_1 0 15).bind fun t166 => (if t166 = true then ((spec_l31In.f a0_2 0 a0_3).bind fun t167 => (if t167 = true then (if a0_3 ≤ 6 then ((spec_l31In.f a0_4 0 a0_5).bind fun t168 => (if t168 = true then (some (decide (a0_5 ≤ 10000))) else (some false))) else (some false)) else (some false))) else (some false))) else (some false))
set_option maxHeartbeats 8000000 in
set_option maxRecDepth 100000 in
theorem spec_l31BoxOk.calls (a0_0 : Int) (a0_1 : Int) (a0_2 : Int) (a0_3 : Int) (a0_4 : Int) (a0_5 : Int) (r : Bool) (w : World) (h : spec_l31BoxOk.f a0_0 a0_1 a0_2 a0_3 a0_4 a0_5 = some r) :
 Calls Try.prog 95 #[.agg #[.int .i64 a0_0, .int .i64 a0_1, .int .i64 a0_2, .int .i64 a0_3, .int .i64 a0_4, .int .i64 a0_5]] w fun e w' => e = .returned (.bool r) ∧ Below w.heap.size w w' := by
 have hu41 := Try.underlying41
 have HB := zA (Below.refl w.heap.size w)
 have H : ((spec_l31In.f a0_0 0 15).bind fun t165 => (if t165 = true then ((spec_l31In.f a0_1 0 15).bind fun t166 => (if t166 = true then ((spec_l31In.f a0_2 0 a0_3).bind fun t167 => (if t167 = true then (if a0_3 ≤ 6 then ((spec_l31In.f a0_4 0 a0_5).bind fun t168 => (if t168 = true then (some (decide (a0_5 ≤ 10000))) else (some false))) else (some false)) else (some false))) else (some false))) else (some false))) = some r := h
 clear h
 replace H := zbd H; obtain ⟨t165, A2, H⟩ := H
 by_cases c3 : t165 = true
 rotate_left
 ·replace c3 := Bool.eq_false_iff.mpr c3
  subst c3
  have H1 : (some false) = some r := by rw [if_neg (show ¬ (false = true) by decide)] at H; exact H
  clear H
  have H := H1
  clear H1
  obtain rfl := Option.some.inj H
  go_enter Try.func95, Try.ntmps95
  go_wp2_with (first | ((with_reducible refine gate_dst (N := 1) rfl ?_); refine zbx 1 #[.int .i64 a0_0, .int .i64 a0_1, .int .i64 a0_2, .int .i64 a0_3, .int .i64 a0_4, .int .i64 a0_5] 41 ?_; intro gb164 hg w21 hbox hb; have BK164 := zA hbox; have GW164 := zgs hg (zs0 HB); have GE164 := zgs hg (zs0 HB); replace HB := zE (zs0 HB) hb; clear hb hbox hg; obtain ⟨hcz22_0, hcz22_1, hcz22_2, hcz22_3, hcz22_4, hcz22_5⟩ := zd6 BK164; obtain ⟨hfz22_0, hfz22_1, hfz22_2, hfz22_3, hfz22_4, hfz22_5⟩ := zn6 BK164) | ((with_reducible refine gate_callee (f := 94) rfl ?_); refine zgl Try.func94 #[.int .i64 a0_0, .int .i64 0, .int .i64 15] ?_; (with_reducible refine (spec_l31In.calls a0_0 0 15 false _ A2.out).mono ?_); rintro e w' ⟨rfl, ⟨nd, rfl⟩⟩; refine ⟨_, rfl, ?_⟩))
  go_ret
  exact ⟨ze, zs1 HB GE164⟩
 subst c3
 have H1 : ((spec_l31In.f a0_1 0 15).bind fun t166 => (if t166 = true then ((spec_l31In.f a0_2 0 a0_3).bind fun t167 => (if t167 = true then (if a0_3 ≤ 6 then ((spec_l31In.f a0_4 0 a0_5).bind fun t168 => (if t168 = true then (some (decide (a0_5 ≤ 10000))) else (some false))) else (some false)) else (some false))) else (some false))) = some r := by rw [if_pos rfl] at H; exact H
 clear H
 have H := H1
 clear H1
 replace H := zbd H; obtain ⟨t166, A4, H⟩ := H
 by_cases c5 : t166 = true
 rotate_left
 ·replace c5 := Bool.eq_false_iff.mpr c5
  subst c5
  have H1 : (some false) = some r := by rw [if_neg (show ¬ (false = true) by decide)] at H; exact H
  clear H
  have H := H1
  clear H1
  obtain rfl := Option.some.inj H
  go_enter Try.func95, Try.ntmps95
  go_wp2_with (first | ((with_reducible refine gate_dst (N := 1) rfl ?_); refine zbx 1 #[.int .i64 a0_0, .int .i64 a0_1, .int .i64 a0_2, .int .i64 a0_3, .int .i64 a0_4, .int .i64 a0_5] 41 ?_; intro gb164 hg w19 hbox hb; have BK164 := zA hbox; have GW164 := zgs hg (zs0 HB); have GE164 := zgs hg (zs0 HB); replace HB := zE (zs0 HB) hb; clear hb hbox hg; obtain ⟨hcz20_0, hcz20_1, hcz20_2, hcz20_3, hcz20_4, hcz20_5⟩ := zd6 BK164; obtain ⟨hfz20_0, hfz20_1, hfz20_2, hfz20_3, hfz20_4, hfz20_5⟩ := zn6 BK164) | ((with_reducible refine gate_callee (f := 94) rfl ?_); refine zgl Try.func94 #[.int .i64 a0_0, .int .i64 0, .int .i64 15] ?_; (with_reducible refine (spec_l31In.calls a0_0 0 15 true _ A2.out).mono ?_); rintro e w' ⟨rfl, ⟨nd, rfl⟩⟩; refine ⟨_, rfl, ?_⟩) | (go_at_call 94; (with_reducible refine (spec_l31In.calls a0_1 0 15 false _ A4.out).mono ?_); rintro e w' ⟨rfl, ⟨nd, rfl⟩⟩))
  go_ret
  exact ⟨ze, zs1 HB GE164⟩
 subst c5
 have H1 : ((spec_l31In.f a0_2 0 a0_3).bind fun t167 => (if t167 = true then (if a0_3 ≤ 6 then ((spec_l31In.f a0_4 0 a0_5).bind fun t168 => (if t168 = true then (some (decide (a0_5 ≤ 10000))) else (some false))) else (some false)) else (some false))) = some r := by rw [if_pos rfl] at H; exact H
 clear H
 have H := H1
 clear H1
 replace H := zbd H; obtain ⟨t167, A6, H⟩ := H
 by_cases c7 : t167 = true
 rotate_left
 ·replace c7 := Bool.eq_false_iff.mpr c7
  subst c7
  have H1 : (some false) = some r := by rw [if_neg (show ¬ (false = true) by decide)] at H; exact H
  clear H
  have H := H1
  clear H1
  obtain rfl := Option.some.inj H
  go_enter Try.func95, Try.ntmps95
  go_wp2_with (first | ((with_reducible refine gate_dst (N := 1) rfl ?_); refine zbx 1 #[.int .i64 a0_0, .int .i64 a0_1, .int .i64 a0_2, .int .i64 a0_3, .int .i64 a0_4, .int .i64 a0_5] 41 ?_; intro gb164 hg w17 hbox hb; have BK164 := zA hbox; have GW164 := zgs hg (zs0 HB); have GE164 := zgs hg (zs0 HB); replace HB := zE (zs0 HB) hb; clear hb hbox hg; obtain ⟨hcz18_0, hcz18_1, hcz18_2, hcz18_3, hcz18_4, hcz18_5⟩ := zd6 BK164; obtain ⟨hfz18_0, hfz18_1, hfz18_2, hfz18_3, hfz18_4, hfz18_5⟩ := zn6 BK164) | ((with_reducible refine gate_callee (f := 94) rfl ?_); refine zgl Try.func94 #[.int .i64 a0_0, .int .i64 0, .int .i64 15] ?_; (with_reducible refine (spec_l31In.calls a0_0 0 15 true _ A2.out).mono ?_); rintro e w' ⟨rfl, ⟨nd, rfl⟩⟩; refine ⟨_, rfl, ?_⟩) | (go_at_call 94; (with_reducible refine (spec_l31In.calls a0_1 0 15 true _ A4.out).mono ?_); rintro e w' ⟨rfl, ⟨nd, rfl⟩⟩) | (go_at_call 94; (with_reducible refine (spec_l31In.calls a0_2 0 a0_3 false _ A6.out).mono ?_); rintro e w' ⟨rfl, ⟨nd, rfl⟩⟩))
  go_ret
  exact ⟨ze, zs1 HB GE164⟩
 subst c7
 have H1 : (if a0_3 ≤ 6 then ((spec_l31In.f a0_4 0 a0_5).bind fun t168 => (if t168 = true then (some (decide (a0_5 ≤ 10000))) else (some false))) else (some false)) = some r := by rw [if_pos rfl] at H; exact H
 clear H
 have H := H1
 clear H1
 by_cases c8 : a0_3 ≤ 6
 rotate_left
 ·rw [if_neg c8] at H
  have c8b0 : decide (a0_3 ≤ 6) = false := decide_eq_false c8
  clear c8
  obtain rfl := Option.some.inj H
  go_enter Try.func95, Try.ntmps95
  go_wp2_with (first | ((with_reducible refine gate_dst (N := 1) rfl ?_); refine zbx 1 #[.int .i64 a0_0, .int .i64 a0_1, .int .i64 a0_2, .int .i64 a0_3, .int .i64 a0_4, .int .i64 a0_5] 41 ?_; intro gb164 hg w15 hbox hb; have BK164 := zA hbox; have GW164 := zgs hg (zs0 HB); have GE164 := zgs hg (zs0 HB); replace HB := zE (zs0 HB) hb; clear hb hbox hg; obtain ⟨hcz16_0, hcz16_1, hcz16_2, hcz16_3, hcz16_4, hcz16_5⟩ := zd6 BK164; obtain ⟨hfz16_0, hfz16_1, hfz16_2, hfz16_3, hfz16_4, hfz16_5⟩ := zn6 BK164) | ((with_reducible refine gate_callee (f := 94) rfl ?_); refine zgl Try.func94 #[.int .i64 a0_0, .int .i64 0, .int .i64 15] ?_; (with_reducible refine (spec_l31In.calls a0_0 0 15 true _ A2.out).mono ?_); rintro e w' ⟨rfl, ⟨nd, rfl⟩⟩; refine ⟨_, rfl, ?_⟩) | (go_at_call 94; (with_reducible refine (spec_l31In.calls a0_1 0 15 true _ A4.out).mono ?_); rintro e w' ⟨rfl, ⟨nd, rfl⟩⟩) | (go_at_call 94; (with_reducible refine (spec_l31In.calls a0_2 0 a0_3 true _ A6.out).mono ?_); rintro e w' ⟨rfl, ⟨nd, rfl⟩⟩))
  go_ret
  exact ⟨ze, zs1 HB GE164⟩
 rw [if_pos c8] at H
 have c8b0 : decide (a0_3 ≤ 6) = true := decide_eq_true c8
 clear c8
 replace H := zbd H; obtain ⟨t168, A9, H⟩ := H
 by_cases c10 : t168 = true
 ·subst c10
  have H1 : (some (decide (a0_5 ≤ 10000))) = some r := by rw [if_pos rfl] at H; exact H
  clear H
  have H := H1
  clear H1
  obtain rfl := Option.some.inj H
  go_enter Try.func95, Try.ntmps95
  go_wp2_with (first | ((with_reducible refine gate_dst (N := 1) rfl ?_); refine zbx 1 #[.int .i64 a0_0, .int .i64 a0_1, .int .i64 a0_2, .int .i64 a0_3, .int .i64 a0_4, .int .i64 a0_5] 41 ?_; intro gb164 hg w11 hbox hb; have BK164 := zA hbox; have GW164 := zgs hg (zs0 HB); have GE164 := zgs hg (zs0 HB); replace HB := zE (zs0 HB) hb; clear hb hbox hg; obtain ⟨hcz12_0, hcz12_1, hcz12_2, hcz12_3, hcz12_4, hcz12_5⟩ := zd6 BK164; obtain ⟨hfz12_0, hfz12_1, hfz12_2, hfz12_3, hfz12_4, hfz12_5⟩ := zn6 BK164) | ((with_reducible refine gate_callee (f := 94) rfl ?_); refine zgl Try.func94 #[.int .i64 a0_0, .int .i64 0, .int .i64 15] ?_; (with_reducible refine (spec_l31In.calls a0_0 0 15 true _ A2.out).mono ?_); rintro e w' ⟨rfl, ⟨nd, rfl⟩⟩; refine ⟨_, rfl, ?_⟩) | (go_at_call 94; (with_reducible refine (spec_l31In.calls a0_1 0 15 true _ A4.out).mono ?_); rintro e w' ⟨rfl, ⟨nd, rfl⟩⟩) | (go_at_call 94; (with_reducible refine (spec_l31In.calls a0_2 0 a0_3 true _ A6.out).mono ?_); rintro e w' ⟨rfl, ⟨nd, rfl⟩⟩) | (go_at_call 94; (with_reducible refine (spec_l31In.calls a0_4 0 a0_5 true _ A9.out).mono ?_); rintro e w' ⟨rfl, ⟨nd, rfl⟩⟩))
  go_ret
  exact ⟨ze, zs1 HB GE164⟩
 replace c10 := Bool.eq_false_iff.mpr c10
 subst c10
 have H1 : (some false) = some r := by rw [if_neg (show ¬ (false = true) by decide)] at H; exact H
 clear H
 have H := H1
 clear H1
 obtain rfl := Option.some.inj H
 go_enter Try.func95, Try.ntmps95
 go_wp2_with (first | ((with_reducible refine gate_dst (N := 1) rfl ?_); refine zbx 1 #[.int .i64 a0_0, .int .i64 a0_1, .int .i64 a0_2, .int .i64 a0_3, .int .i64 a0_4, .int .i64 a0_5] 41 ?_; intro gb164 hg w13 hbox hb; have BK164 := zA hbox; have GW164 := zgs hg (zs0 HB); have GE164 := zgs hg (zs0 HB); replace HB := zE (zs0 HB) hb; clear hb hbox hg; obtain ⟨hcz14_0, hcz14_1, hcz14_2, hcz14_3, hcz14_4, hcz14_5⟩ := zd6 BK164; obtain ⟨hfz14_0, hfz14_1, hfz14_2, hfz14_3, hfz14_4, hfz14_5⟩ := zn6 BK164) | ((with_reducible refine gate_callee (f := 94) rfl ?_); refine zgl Try.func94 #[.int .i64 a0_0, .int .i64 0, .int .i64 15] ?_; (with_reducible refine (spec_l31In.calls a0_0 0 15 true _ A2.out).mono ?_); rintro e w' ⟨rfl, ⟨nd, rfl⟩⟩; refine ⟨_, rfl, ?_⟩) | (go_at_call 94; (with_reducible refine (spec_l31In.calls a0_1 0 15 true _ A4.out).mono ?_); rintro e w' ⟨rfl, ⟨nd, rfl⟩⟩) | (go_at_call 94; (with_reducible refine (spec_l31In.calls a0_2 0 a0_3 true _ A6.out).mono ?_); rintro e w' ⟨rfl, ⟨nd, rfl⟩⟩) | (go_at_call 94; (with_reducible refine (spec_l31In.calls a0_4 0 a0_5 false _ A9.out).mono ?_); rintro e w' ⟨rfl, ⟨nd, rfl⟩⟩))
 go_ret
 exact ⟨ze, zs1 HB GE164⟩
def spec_l31Sees.f (a0_0 : ByteArray) (a0_1 : Int) (a0_2 : Int) (a0_3 : Int) (a0_4 : Int) (a1_0 : Int) (a1_1 : Int) (a1_2 : Int) (a1_3 : Int) (a1_4 : Int) (a1_5 : Int) : Option (Bool) := (spec_l31BoxOk.f a1_0 a1_1 a1_2 a1_3 a1_4 a1_5).bind fun t171 => (if t171 = true then ((spec_l31In.f a1_0 (wrap64 ((wrap64 (a0_1 - 2)) + 1)) (wrap64 ((wrap64 (a0_3 + 2)) - 1))).bind fun t172 => (if t172 = true then ((spec_l31In.f a1_1 (wrap64 ((wrap64 (a0_2 - 2)) + 1)) (wrap64 ((wrap64 (a0_4 + 2)) - 1))).bind fun t173 => (some t173)) else (some false))) else (some false))
set_option maxHeartbeats 8000000 in
set_option maxRecDepth 100000 in
theorem spec_l31Sees.calls (a0_0 : ByteArray) (a0_1 : Int) (a0_2 : Int) (a0_3 : Int) (a0_4 : Int) (a1_0 : Int) (a1_1 : Int) (a1_2 : Int) (a1_3 : Int) (a1_4 : Int) (a1_5 : Int) (r : Bool) (w : World) (h : spec_l31Sees.f a0_0 a0_1 a0_2 a0_3 a0_4 a1_0 a1_1 a1_2 a1_3 a1_4 a1_5 = some r) :
 Calls Try.prog 91 #[.agg #[.string a0_0, .int .i64 a0_1, .int .i64 a0_2, .int .i64 a0_3, .int .i64 a0_4], .agg #[.int .i64 a1_0, .int .i64 a1_1, .int .i64 a1_2, .int .i64 a1_3, .int .i64 a1_4, .int .i64 a1_5]] w fun e w' => e = .returned (.bool r) ∧ Below w.heap.size w w' := by
 have hu55 := Try.underlying55
 have hu41 := Try.underlying41
 have HB := zA (Below.refl w.heap.size w)
 have H : ((spec_l31BoxOk.f a1_0 a1_1 a1_2 a1_3 a1_4 a1_5).bind fun t171 => (if t171 = true then ((spec_l31In.f a1_0 (wrap64 ((wrap64 (a0_1 - 2)) + 1)) (wrap64 ((wrap64 (a0_3 + 2)) - 1))).bind fun t172 => (if t172 = true then ((spec_l31In.f a1_1 (wrap64 ((wrap64 (a0_2 - 2)) + 1)) (wrap64 ((wrap64 (a0_4 + 2)) - 1))).bind fun t173 => (some t173)) else (some false))) else (some false))) = some r := h
 clear h
 replace H := zbd H; obtain ⟨t171, A3, H⟩ := H
 by_cases c4 : t171 = true
 rotate_left
 ·replace c4 := Bool.eq_false_iff.mpr c4
  subst c4
  have H1 : (some false) = some r := by rw [if_neg (show ¬ (false = true) by decide)] at H; exact H
  clear H
  have H := H1
  clear H1
  obtain rfl := Option.some.inj H
  go_enter Try.func91, Try.ntmps91
  go_wp2_with (first | ((with_reducible refine gate_dst (N := 2) rfl ?_); refine zbx 2 #[.string a0_0, .int .i64 a0_1, .int .i64 a0_2, .int .i64 a0_3, .int .i64 a0_4] 55 ?_; intro gb169 hg w22 hbox hb; have BK169 := zA hbox; have GW169 := zgs hg (zs0 HB); have GE169 := zgs hg (zs0 HB); replace HB := zE (zs0 HB) hb; clear hb hbox hg) | ((with_reducible refine gate_dst (N := 3) rfl ?_); refine zbx 3 #[.int .i64 a1_0, .int .i64 a1_1, .int .i64 a1_2, .int .i64 a1_3, .int .i64 a1_4, .int .i64 a1_5] 41 ?_; intro gb170 hg w23 hbox hb; have BK170 := zA hbox; have GW170 := zgs hg (zs1 HB GE169); have GE170 := zgs hg (zs1 HB GE169); have NB169_170 := zne hg BK169; have NB170_169 := znf hg BK169; replace BK169 := zb BK169 hb; replace HB := zE (zs1 HB GE169) hb; clear hb hbox hg; have hnb24 := NB170_169.out; have hnc24 := NB169_170.out; obtain ⟨hcz25_0, hcz25_1, hcz25_2, hcz25_3, hcz25_4, hcz25_5⟩ := zd6 BK170; obtain ⟨hfz25_0, hfz25_1, hfz25_2, hfz25_3, hfz25_4, hfz25_5⟩ := zn6 BK170) | ((with_reducible refine gate_callee (f := 95) rfl ?_); refine zgl Try.func95 #[.agg #[.int .i64 a1_0, .int .i64 a1_1, .int .i64 a1_2, .int .i64 a1_3, .int .i64 a1_4, .int .i64 a1_5]] ?_; (with_reducible refine (spec_l31BoxOk.calls a1_0 a1_1 a1_2 a1_3 a1_4 a1_5 false _ A3.out).mono ?_); rintro e w26 ⟨rfl, hb⟩; refine ⟨_, rfl, ?_⟩; replace BK169 := zb BK169 hb; replace BK170 := zb BK170 hb; replace HB := zE (zs2 HB GE169 GE170) hb; (try clear hb); (try clear hb2); (try clear hk); (try clear hi)))
  go_ret
  exact ⟨ze, zs2 HB GE169 GE170⟩
 subst c4
 have H1 : ((spec_l31In.f a1_0 (wrap64 ((wrap64 (a0_1 - 2)) + 1)) (wrap64 ((wrap64 (a0_3 + 2)) - 1))).bind fun t172 => (if t172 = true then ((spec_l31In.f a1_1 (wrap64 ((wrap64 (a0_2 - 2)) + 1)) (wrap64 ((wrap64 (a0_4 + 2)) - 1))).bind fun t173 => (some t173)) else (some false))) = some r := by rw [if_pos rfl] at H; exact H
 clear H
 have H := H1
 clear H1
 replace H := zbd H; obtain ⟨t172, A5, H⟩ := H
 by_cases c6 : t172 = true
 rotate_left
 ·replace c6 := Bool.eq_false_iff.mpr c6
  subst c6
  have H1 : (some false) = some r := by rw [if_neg (show ¬ (false = true) by decide)] at H; exact H
  clear H
  have H := H1
  clear H1
  obtain rfl := Option.some.inj H
  go_enter Try.func91, Try.ntmps91
  go_wp2_with (first | ((with_reducible refine gate_dst (N := 2) rfl ?_); refine zbx 2 #[.string a0_0, .int .i64 a0_1, .int .i64 a0_2, .int .i64 a0_3, .int .i64 a0_4] 55 ?_; intro gb169 hg w15 hbox hb; have BK169 := zA hbox; have GW169 := zgs hg (zs0 HB); have GE169 := zgs hg (zs0 HB); replace HB := zE (zs0 HB) hb; clear hb hbox hg) | ((with_reducible refine gate_dst (N := 3) rfl ?_); refine zbx 3 #[.int .i64 a1_0, .int .i64 a1_1, .int .i64 a1_2, .int .i64 a1_3, .int .i64 a1_4, .int .i64 a1_5] 41 ?_; intro gb170 hg w16 hbox hb; have BK170 := zA hbox; have GW170 := zgs hg (zs1 HB GE169); have GE170 := zgs hg (zs1 HB GE169); have NB169_170 := zne hg BK169; have NB170_169 := znf hg BK169; replace BK169 := zb BK169 hb; replace HB := zE (zs1 HB GE169) hb; clear hb hbox hg; have hnb17 := NB170_169.out; have hnc17 := NB169_170.out; obtain ⟨hcz18_0, hcz18_1, hcz18_2, hcz18_3, hcz18_4, hcz18_5⟩ := zd6 BK170; obtain ⟨hfz18_0, hfz18_1, hfz18_2, hfz18_3, hfz18_4, hfz18_5⟩ := zn6 BK170) | ((with_reducible refine gate_callee (f := 95) rfl ?_); refine zgl Try.func95 #[.agg #[.int .i64 a1_0, .int .i64 a1_1, .int .i64 a1_2, .int .i64 a1_3, .int .i64 a1_4, .int .i64 a1_5]] ?_; (with_reducible refine (spec_l31BoxOk.calls a1_0 a1_1 a1_2 a1_3 a1_4 a1_5 true _ A3.out).mono ?_); rintro e w19 ⟨rfl, hb⟩; refine ⟨_, rfl, ?_⟩; replace BK169 := zb BK169 hb; replace BK170 := zb BK170 hb; replace HB := zE (zs2 HB GE169 GE170) hb; (try clear hb); (try clear hb2); (try clear hk); (try clear hi); obtain ⟨hcz20_0, hcz20_1, hcz20_2, hcz20_3, hcz20_4, hcz20_5⟩ := zd6 BK170; obtain ⟨hfz20_0, hfz20_1, hfz20_2, hfz20_3, hfz20_4, hfz20_5⟩ := zn6 BK170; obtain ⟨hcz21_0, hcz21_1, hcz21_2, hcz21_3, hcz21_4⟩ := zd5 BK169; obtain ⟨hfz21_0, hfz21_1, hfz21_2, hfz21_3, hfz21_4⟩ := zn5 BK169) | (go_at_call 94; (with_reducible refine (spec_l31In.calls a1_0 (wrap64 ((wrap64 (a0_1 - 2)) + 1)) (wrap64 ((wrap64 (a0_3 + 2)) - 1)) false _ A5.out).mono ?_); rintro e w' ⟨rfl, ⟨nd, rfl⟩⟩))
  go_ret
  exact ⟨ze, zs2 HB GE169 GE170⟩
 subst c6
 have H1 : ((spec_l31In.f a1_1 (wrap64 ((wrap64 (a0_2 - 2)) + 1)) (wrap64 ((wrap64 (a0_4 + 2)) - 1))).bind fun t173 => (some t173)) = some r := by rw [if_pos rfl] at H; exact H
 clear H
 have H := H1
 clear H1
 replace H := zbd H; obtain ⟨t173, A7, H⟩ := H
 obtain rfl := Option.some.inj H
 go_enter Try.func91, Try.ntmps91
 go_wp2_with (first | ((with_reducible refine gate_dst (N := 2) rfl ?_); refine zbx 2 #[.string a0_0, .int .i64 a0_1, .int .i64 a0_2, .int .i64 a0_3, .int .i64 a0_4] 55 ?_; intro gb169 hg w8 hbox hb; have BK169 := zA hbox; have GW169 := zgs hg (zs0 HB); have GE169 := zgs hg (zs0 HB); replace HB := zE (zs0 HB) hb; clear hb hbox hg) | ((with_reducible refine gate_dst (N := 3) rfl ?_); refine zbx 3 #[.int .i64 a1_0, .int .i64 a1_1, .int .i64 a1_2, .int .i64 a1_3, .int .i64 a1_4, .int .i64 a1_5] 41 ?_; intro gb170 hg w9 hbox hb; have BK170 := zA hbox; have GW170 := zgs hg (zs1 HB GE169); have GE170 := zgs hg (zs1 HB GE169); have NB169_170 := zne hg BK169; have NB170_169 := znf hg BK169; replace BK169 := zb BK169 hb; replace HB := zE (zs1 HB GE169) hb; clear hb hbox hg; have hnb10 := NB170_169.out; have hnc10 := NB169_170.out; obtain ⟨hcz11_0, hcz11_1, hcz11_2, hcz11_3, hcz11_4, hcz11_5⟩ := zd6 BK170; obtain ⟨hfz11_0, hfz11_1, hfz11_2, hfz11_3, hfz11_4, hfz11_5⟩ := zn6 BK170) | ((with_reducible refine gate_callee (f := 95) rfl ?_); refine zgl Try.func95 #[.agg #[.int .i64 a1_0, .int .i64 a1_1, .int .i64 a1_2, .int .i64 a1_3, .int .i64 a1_4, .int .i64 a1_5]] ?_; (with_reducible refine (spec_l31BoxOk.calls a1_0 a1_1 a1_2 a1_3 a1_4 a1_5 true _ A3.out).mono ?_); rintro e w12 ⟨rfl, hb⟩; refine ⟨_, rfl, ?_⟩; replace BK169 := zb BK169 hb; replace BK170 := zb BK170 hb; replace HB := zE (zs2 HB GE169 GE170) hb; (try clear hb); (try clear hb2); (try clear hk); (try clear hi); obtain ⟨hcz13_0, hcz13_1, hcz13_2, hcz13_3, hcz13_4, hcz13_5⟩ := zd6 BK170; obtain ⟨hfz13_0, hfz13_1, hfz13_2, hfz13_3, hfz13_4, hfz13_5⟩ := zn6 BK170; obtain ⟨hcz14_0, hcz14_1, hcz14_2, hcz14_3, hcz14_4⟩ := zd5 BK169; obtain ⟨hfz14_0, hfz14_1, hfz14_2, hfz14_3, hfz14_4⟩ := zn5 BK169) | (go_at_call 94; (with_reducible refine (spec_l31In.calls a1_0 (wrap64 ((wrap64 (a0_1 - 2)) + 1)) (wrap64 ((wrap64 (a0_3 + 2)) - 1)) true _ A5.out).mono ?_); rintro e w' ⟨rfl, ⟨nd, rfl⟩⟩) | (go_at_call 94; (with_reducible refine (spec_l31In.calls a1_1 (wrap64 ((wrap64 (a0_2 - 2)) + 1)) (wrap64 ((wrap64 (a0_4 + 2)) - 1)) t173 _ A7.out).mono ?_); rintro e w' ⟨rfl, ⟨nd, rfl⟩⟩))
 go_ret
 exact ⟨ze, zs2 HB GE169 GE170⟩
mutual
def spec_HandPartOf.l0 : Nat → List (S41) → List (S41) → Int → ByteArray → Int → Int → Int → Int → Option ((List (S41)))
 | 0, _, _, _, _, _, _, _, _ => none
 | k + 1, x1, x5, x6, x175000, x175001, x175002, x175003, x175004 => if x6 < (x1.length : Int) then ((spec_l31ZoneOk.f k x175000 x175001 x175002 x175003 x175004).bind fun t178 => (spec_HandPartOf.j1 k x1 x5 x6 t178 x175000 x175001 x175002 x175003 x175004)) else (spec_HandPartOf.j1 k x1 x5 x6 false x175000 x175001 x175002 x175003 x175004)
def spec_HandPartOf.j1 : Nat → List (S41) → List (S41) → Int → Bool → ByteArray → Int → Int → Int → Int → Option ((List (S41)))
 | 0, _, _, _, _, _, _, _, _, _ => none
 | k + 1, x1, x5, x6, x15, x175000, x175001, x175002, x175003, x175004 => if x15 = true then (if 0 ≤ x6 then (if x6 < (x1.length : Int) then ((spec_l31Sees.f x175000 x175001 x175002 x175003 x175004 ((rd_T41 x1 x6).f0) ((rd_T41 x1 x6).f1) ((rd_T41 x1 x6).f2) ((rd_T41 x1 x6).f3) ((rd_T41 x1 x6).f4) ((rd_T41 x1 x6).f5)).bind fun t180 => (if t180 = true then (if x5.length < 2932031007402 then (spec_HandPartOf.l0 k x1 (x5 ++ [(⟨(rd_T41 x1 x6).f0, (rd_T41 x1 x6).f1, (rd_T41 x1 x6).f2, (rd_T41 x1 x6).f3, (rd_T41 x1 x6).f4, (rd_T41 x1 x6).f5⟩ : S41)]) (wrap64 (x6 + 1)) x175000 x175001 x175002 x175003 x175004) else (none)) else (spec_HandPartOf.l0 k x1 x5 (wrap64 (x6 + 1)) x175000 x175001 x175002 x175003 x175004))) else (none)) else (none)) else (some x5)
end
def spec_HandPartOf.f (k : Nat) (a0_0 : ByteArray) (a0_1 : Int) (a0_2 : Int) (a0_3 : Int) (a0_4 : Int) (l1 : List (S41)) : Option ((List (S41))) := spec_HandPartOf.l0 k l1 (([] : List (S41))) 0 a0_0 a0_1 a0_2 a0_3 a0_4
set_option maxHeartbeats 8000000 in
set_option maxRecDepth 100000 in
theorem spec_HandPartOf.calls (k : Nat) (a0_0 : ByteArray) (a0_1 : Int) (a0_2 : Int) (a0_3 : Int) (a0_4 : Int) (A1 : Option Addr) (c1 : Nat) (l1 : List (S41)) (r : List (S41)) (w : World) (hr1 : Kd.C k41 w A1 l1.length l1) (hc1 : l1.length ≤ c1) (h : spec_HandPartOf.f k a0_0 a0_1 a0_2 a0_3 a0_4 l1 = some r) :
 Calls Try.prog 30 #[.agg #[.string a0_0, .int .i64 a0_1, .int .i64 a0_2, .int .i64 a0_3, .int .i64 a0_4], .slice A1 l1.length c1] w fun e w' => ∃ v0_ : Value, e = .returned (v0_) ∧ Kd.R k41 41 w' w.heap.size (fun _ => True) v0_ r ∧ Below w.heap.size w w' := by
 have hu55 := Try.underlying55
 have hu41 := Try.underlying41
 have HR1 := zA hr1
 have HC1 := zA hc1
 clear hr1 hc1
 have HB := zA (Below.refl w.heap.size w)
 have H : (spec_HandPartOf.l0 k l1 (([] : List (S41))) 0 a0_0 a0_1 a0_2 a0_3 a0_4) = some r := h
 clear h
 obtain ⟨y175, hy175⟩ : ∃ y_ : List (S41), y_ = (([] : List (S41))) := ⟨_, rfl⟩
 replace H : (spec_HandPartOf.l0 k l1 y175 0 a0_0 a0_1 a0_2 a0_3 a0_4) = some r := by first | (rw [hy175]; with_reducible exact H) | (have H2_ := (Option.bind_some _ _).symm.trans H; rw [hy175]; with_reducible exact H2_) | (have H2_ := (Option.bind_some _ _).symm.trans H; with_reducible exact H2_) | with_reducible exact H | (rw [hy175]; exact H) | exact H
 have Ny175 := zA hy175
 clear hy175
 have H' := zA H
 clear H
 go_enter Try.func30, Try.ntmps30
 go_wp2_with (first | ((with_reducible refine gate_dst (N := 2) rfl ?_); refine zbx 2 #[.string a0_0, .int .i64 a0_1, .int .i64 a0_2, .int .i64 a0_3, .int .i64 a0_4] 55 ?_; intro gb174 hg w3 hbox hb; have BK174 := zA hbox; have GW174 := zgs hg (zs0 HB); have GE174 := zgs hg (zs0 HB); replace HB := zE (zs0 HB) hb; clear hb hbox hg) | ((with_reducible refine gate_dst (N := 7) rfl ?_); refine Kd.R_lit k41 _ 41 ?hg (N := 7) ?hd (xs := ([] : List (S41))) (inner := []) (ok := fun _ => True) (okp := fun _ => True) ?hr ?hp (fun _ hk => hk) trivial (Below.refl _ _) (Nat.le_refl _) (by simp) ?_; (case hd => rfl); (case hg => rfl); (case hr => first | (go_simp; done) | (go_simp; rfl)); (case hp => exact (Reps.none _ _)); intro v176 w4 ho5 hb hg_ hnew_; clear hg_ hnew_; (first | rw [← Ny175.out] at ho5 | (simp only [Int.reduceToNat] at ho5; rw [← Ny175.out] at ho5)); have HO177 := zA (Kd.R_lower ho5 (below_size (zs1 HB GE174))); replace BK174 := zb BK174 hb; replace HB := zE (zs1 HB GE174) hb; clear hb ho5))
 go_loopg [5, 6] k (fun kq v5 v6 w' => ∃ (x5_1 : List (S41)) (x6_1 : Int), v6 = .int .i64 x6_1 ∧ Aside0 (spec_HandPartOf.l0 kq l1 x5_1 x6_1 a0_0 a0_1 a0_2 a0_3 a0_4 = some r) ∧ Aside0 (kq ≤ k) ∧ Aside0 (Kd.R k41 41 w' w.heap.size (fun _ => True) v5 x5_1) ∧ Aside0 (w'.heap[gb174]? = some (.cells #[.string a0_0, .int .i64 a0_1, .int .i64 a0_2, .int .i64 a0_3, .int .i64 a0_4] 55 (0, 0))) ∧ Aside0 (Below w.heap.size w w'))
 case atStart => exact ⟨(y175), (0), zi, H', ⟨Nat.le_refl _⟩, ⟨zr HO177⟩, ⟨zh BK174⟩, ⟨zs1 HB GE174⟩⟩
 case round =>
  clear H'
  try clear c1
  try clear p2
  try clear c3
  obtain ⟨x5_1, x6_1, rfl, HA, HK1, HO_5, BK174, HB⟩ := hrel
  cases gk with
  | zero => exact absurd HA.out (by simp [spec_HandPartOf.l0])
  | succ k1 =>
   have H := HA.out
   clear HA
   simp only [spec_HandPartOf.l0] at H
   have HC6 := zA H
   clear H
   go_upto_region 3 with (fail)
   go_cut [15] (fun v15 wc => ∃ (kq : Nat) (x15_5 : Bool), v15 = .bool x15_5 ∧ Aside0 (spec_HandPartOf.j1 kq l1 x5_1 x6_1 x15_5 a0_0 a0_1 a0_2 a0_3 a0_4 = some r) ∧ Aside0 (kq ≤ k1) ∧ Aside0 (Kd.R k41 41 wc w.heap.size (fun _ => True) u5 x5_1) ∧ Aside0 (wc.heap[gb174]? = some (.cells #[.string a0_0, .int .i64 a0_1, .int .i64 a0_2, .int .i64 a0_3, .int .i64 a0_4] 55 (0, 0))) ∧ Aside0 (Below w.heap.size w wc))
   case first =>
    have H := HC6.out
    clear HC6
    by_cases c7 : x6_1 < (l1.length : Int)
    rotate_left
    ·rw [if_neg c7] at H
     have c7b0 : decide (x6_1 < (l1.length : Int)) = false := decide_eq_false c7
     clear c7
     (first | rw [c7b0] | (simp only [i64_w, i32_w]; rw [c7b0]) | skip)
     have H' := zA H
     clear H
     go_wp2
     go_meet
     case rel => exact ⟨_, (false), zi, H', ⟨by have := HK1.out; first | omega | exact Nat.le_refl _⟩, ⟨zr HO_5⟩, ⟨zh BK174⟩, ⟨zs1 HB GE174⟩⟩
    rw [if_pos c7] at H
    have c7b0 : decide (x6_1 < (l1.length : Int)) = true := decide_eq_true c7
    clear c7
    (first | rw [c7b0] | (simp only [i64_w, i32_w]; rw [c7b0]) | skip)
    replace H := zbd H; obtain ⟨t178, A8, H⟩ := H
    have H' := zA H
    clear H
    obtain ⟨hcz9_0, hcz9_1, hcz9_2, hcz9_3, hcz9_4⟩ := zd5 BK174
    obtain ⟨hfz9_0, hfz9_1, hfz9_2, hfz9_3, hfz9_4⟩ := zn5 BK174
    go_wp2_with (first | (go_at_call 90; (with_reducible refine (spec_l31ZoneOk.calls k1 a0_0 a0_1 a0_2 a0_3 a0_4 t178 _ A8.out).mono ?_); rintro e w10 ⟨rfl, hb⟩; replace HO_5 := zA (Kd.R_below (zr HO_5) hb); replace BK174 := zb BK174 hb; replace HB := zE (zs1 HB GE174) hb; (try clear hb); (try clear hb2); (try clear hk); (try clear hi)))
    go_meet
    case rel => exact ⟨_, (t178), zi, H', ⟨by have := HK1.out; first | omega | exact Nat.le_refl _⟩, ⟨zr HO_5⟩, ⟨zh BK174⟩, ⟨zs1 HB GE174⟩⟩
   case rest =>
    clear HC6
    try clear c1
    try clear p2
    try clear c3
    try clear c7
    try clear c7b0
    try clear hcz9_0 hcz9_1 hcz9_2 hcz9_3 hcz9_4 hfz9_0 hfz9_1 hfz9_2 hfz9_3 hfz9_4
    try clear p2
    obtain ⟨kq, x15_5, rfl, HA, HJ5, HO_5, BK174, HB⟩ := hcut
    cases kq with
    | zero => exact absurd HA.out (by simp [spec_HandPartOf.j1])
    | succ kj5 =>
     have H := HA.out
     clear HA
     simp only [spec_HandPartOf.j1] at H
     by_cases c11 : x15_5 = true
     rotate_left
     ·replace c11 := Bool.eq_false_iff.mpr c11
      subst c11
      have H1 : (some x5_1) = some r := by rw [if_neg (show ¬ (false = true) by decide)] at H; exact H
      clear H
      have H := H1
      clear H1
      obtain rfl := Option.some.inj H
      go_wp2
      go_ret
      exact ⟨_, ze, zr HO_5, zs1 HB GE174⟩
     subst c11
     have H1 : (if 0 ≤ x6_1 then (if x6_1 < (l1.length : Int) then ((spec_l31Sees.f a0_0 a0_1 a0_2 a0_3 a0_4 ((rd_T41 l1 x6_1).f0) ((rd_T41 l1 x6_1).f1) ((rd_T41 l1 x6_1).f2) ((rd_T41 l1 x6_1).f3) ((rd_T41 l1 x6_1).f4) ((rd_T41 l1 x6_1).f5)).bind fun t180 => (if t180 = true then (if x5_1.length < 2932031007402 then (spec_HandPartOf.l0 kj5 l1 (x5_1 ++ [(⟨(rd_T41 l1 x6_1).f0, (rd_T41 l1 x6_1).f1, (rd_T41 l1 x6_1).f2, (rd_T41 l1 x6_1).f3, (rd_T41 l1 x6_1).f4, (rd_T41 l1 x6_1).f5⟩ : S41)]) (wrap64 (x6_1 + 1)) a0_0 a0_1 a0_2 a0_3 a0_4) else (none)) else (spec_HandPartOf.l0 kj5 l1 x5_1 (wrap64 (x6_1 + 1)) a0_0 a0_1 a0_2 a0_3 a0_4))) else (none)) else (none)) = some r := by rw [if_pos rfl] at H; exact H
     clear H
     have H := H1
     clear H1
     by_cases c12 : 0 ≤ x6_1
     rotate_left
     ·rw [if_neg c12] at H
      exact absurd H (by simp)
     rw [if_pos c12] at H
     have c12b0 : decide (0 ≤ x6_1) = true := decide_eq_true c12
     clear c12
     by_cases c13 : x6_1 < (l1.length : Int)
     rotate_left
     ·rw [if_neg c13] at H
      exact absurd H (by simp)
     rw [if_pos c13] at H
     have c13b0 : decide (x6_1 < (l1.length : Int)) = true := decide_eq_true c13
     clear c13
     replace H := zbd H; obtain ⟨t180, A14, H⟩ := H
     by_cases c15 : t180 = true
     rotate_left
     ·replace c15 := Bool.eq_false_iff.mpr c15
      subst c15
      have H1 : (spec_HandPartOf.l0 kj5 l1 x5_1 (wrap64 (x6_1 + 1)) a0_0 a0_1 a0_2 a0_3 a0_4) = some r := by rw [if_neg (show ¬ (false = true) by decide)] at H; exact H
      clear H
      have H := H1
      clear H1
      have H' := zA H
      clear H
      try go_wp2
      replace HO_5 := zA (Kd.R_drew HO_5.out)
      replace BK174 := zA (blk_drew BK174.out)
      replace HB := zA (below_drew1 HB.out)
      have p179 : 0 ≤ (x6_1 : Int) := za
      have q179 : x6_1 < (l1.length : Int) := za
      obtain ⟨ad179, e179, hx179_0, hx179_1, hx179_2, hx179_3, hx179_4, hx179_5⟩ := at_T41 HR1.out x6_1 p179 q179
      have hw179_5 := hx179_5
      have hw179_4 := hx179_4
      have hw179_3 := hx179_3
      have hw179_2 := hx179_2
      have hw179_1 := hx179_1
      have hw179_0 := hx179_0
      cases e179
      replace hx179_0 := zx HB hx179_0
      replace hx179_1 := zx HB hx179_1
      replace hx179_2 := zx HB hx179_2
      replace hx179_3 := zx HB hx179_3
      replace hx179_4 := zx HB hx179_4
      replace hx179_5 := zx HB hx179_5
      replace p179 := eq_true p179
      replace q179 := eq_true q179
      refine start_ (n := 6) (S := fun w' => w'.cell? ⟨gb174, 0, none⟩ = some (.string a0_0) ∧ w'.cell? ⟨gb174, 1, none⟩ = some (.int .i64 a0_1) ∧ w'.cell? ⟨gb174, 2, none⟩ = some (.int .i64 a0_2) ∧ w'.cell? ⟨gb174, 3, none⟩ = some (.int .i64 a0_3) ∧ w'.cell? ⟨gb174, 4, none⟩ = some (.int .i64 a0_4) ∧ w'.cell? (ad179.add ((x6_1).toNat * 6)) = some (.int .i64 ((rd_T41 l1 x6_1).f0)) ∧ w'.cell? ⟨(ad179.add ((x6_1).toNat * 6)).block, (ad179.add ((x6_1).toNat * 6)).off + 1, none⟩ = some (.int .i64 ((rd_T41 l1 x6_1).f1)) ∧ w'.cell? ⟨(ad179.add ((x6_1).toNat * 6)).block, (ad179.add ((x6_1).toNat * 6)).off + 2, none⟩ = some (.int .i64 ((rd_T41 l1 x6_1).f2)) ∧ w'.cell? ⟨(ad179.add ((x6_1).toNat * 6)).block, (ad179.add ((x6_1).toNat * 6)).off + 3, none⟩ = some (.int .i64 ((rd_T41 l1 x6_1).f3)) ∧ w'.cell? ⟨(ad179.add ((x6_1).toNat * 6)).block, (ad179.add ((x6_1).toNat * 6)).off + 4, none⟩ = some (.int .i64 ((rd_T41 l1 x6_1).f4)) ∧ w'.cell? ⟨(ad179.add ((x6_1).toNat * 6)).block, (ad179.add ((x6_1).toNat * 6)).off + 5, none⟩ = some (.int .i64 ((rd_T41 l1 x6_1).f5))) (ds := []) #[F,F,F,F,F,F] (by kernel_rfl) rfl rfl ⟨zc0 BK174, zc1 BK174, zc2 BK174, zc3 BK174, zc4 BK174, (zw HB hw179_0), (zw HB hw179_1), (zw HB hw179_2), (zw HB hw179_3), (zw HB hw179_4), (zw HB hw179_5)⟩ (fun hHeld => ?_)
      generalize wc.drew = w20 at HO_5 BK174 HB hx179_0 hx179_1 hx179_2 hx179_3 hx179_4 hx179_5 hHeld ⊢
      refine zp 1 ?_
      refine zp 2 ?_
      refine zp 3 ?_
      refine take_ (i := 0) (N := some 18) (v := ?_) (a' := ?_) #[T,T,T,T,F,F] rfl rfl (by kernel_rfl) (fun _ _ _ h => h) (Or.inl ⟨by rfl, ?_⟩) hHeld ?_ ?_; rotate_left; exact zt11; rotate_left; exact zput
      refine take_ (i := 4) (N := some 22) (v := ?_) (a' := ?_) #[T,T,T,T,T,F] rfl rfl (by kernel_rfl) (fun _ _ _ h => h) (Or.inl ⟨by rfl, ?_⟩) hHeld ?_ ?_; rotate_left; exact zt11; rotate_left; exact zput
      refine one_ (i := 5) (N := some 23) #[T,T,T,T,T,T] rfl rfl (by kernel_rfl) (by decide) (fun K hK => ?_)
      refine zgo Try.func91 #[.agg #[.string a0_0, .int .i64 a0_1, .int .i64 a0_2, .int .i64 a0_3, .int .i64 a0_4], .agg #[.int .i64 ((rd_T41 l1 x6_1).f0), .int .i64 ((rd_T41 l1 x6_1).f1), .int .i64 ((rd_T41 l1 x6_1).f2), .int .i64 ((rd_T41 l1 x6_1).f3), .int .i64 ((rd_T41 l1 x6_1).f4), .int .i64 ((rd_T41 l1 x6_1).f5)]] ?_
      with_reducible refine (spec_l31Sees.calls a0_0 a0_1 a0_2 a0_3 a0_4 ((rd_T41 l1 x6_1).f0) ((rd_T41 l1 x6_1).f1) ((rd_T41 l1 x6_1).f2) ((rd_T41 l1 x6_1).f3) ((rd_T41 l1 x6_1).f4) ((rd_T41 l1 x6_1).f5) false _ A14.out).mono ?_
      rintro e w21 ⟨rfl, hb⟩
      refine ⟨_, rfl, ?_⟩
      replace HO_5 := zA (Kd.R_below (zr HO_5) hb)
      replace BK174 := zb BK174 hb
      replace HB := zE (zs1 HB GE174) hb
      (try clear hb)
      (try clear hb2)
      (try clear hk)
      (try clear hi)
      refine hK.out _ _ ⟨zc0 BK174, zc1 BK174, zc2 BK174, zc3 BK174, zc4 BK174, (zw HB hw179_0), (zw HB hw179_1), (zw HB hw179_2), (zw HB hw179_3), (zw HB hw179_4), (zw HB hw179_5)⟩ (fun hHeld => ?_)
      clear hK K
      refine zN ?_
      refine done_ (by kernel_rfl) ?_
      try go_wp2
      go_roundg kj5
      case measure => have := HK1.out; have := HJ5.out; omega
      case rel => exact ⟨(x5_1), (wrap64 (x6_1 + 1)), zi, H', ⟨by have := HK1.out; have := HJ5.out; omega⟩, ⟨zr HO_5⟩, ⟨zh BK174⟩, ⟨zs1 HB GE174⟩⟩
     subst c15
     have H1 : (if x5_1.length < 2932031007402 then (spec_HandPartOf.l0 kj5 l1 (x5_1 ++ [(⟨(rd_T41 l1 x6_1).f0, (rd_T41 l1 x6_1).f1, (rd_T41 l1 x6_1).f2, (rd_T41 l1 x6_1).f3, (rd_T41 l1 x6_1).f4, (rd_T41 l1 x6_1).f5⟩ : S41)]) (wrap64 (x6_1 + 1)) a0_0 a0_1 a0_2 a0_3 a0_4) else (none)) = some r := by rw [if_pos rfl] at H; exact H
     clear H
     have H := H1
     clear H1
     by_cases c16 : x5_1.length < 2932031007402
     rotate_left
     ·rw [if_neg c16] at H
      exact absurd H (by simp)
     rw [if_pos c16] at H
     have LMc16 := zA c16
     clear c16
     obtain ⟨y182, hy182⟩ : ∃ y_ : List (S41), y_ = (x5_1 ++ [(⟨(rd_T41 l1 x6_1).f0, (rd_T41 l1 x6_1).f1, (rd_T41 l1 x6_1).f2, (rd_T41 l1 x6_1).f3, (rd_T41 l1 x6_1).f4, (rd_T41 l1 x6_1).f5⟩ : S41)]) := ⟨_, rfl⟩
     replace H : (spec_HandPartOf.l0 kj5 l1 y182 (wrap64 (x6_1 + 1)) a0_0 a0_1 a0_2 a0_3 a0_4) = some r := by first | (rw [hy182]; with_reducible exact H) | (have H2_ := (Option.bind_some _ _).symm.trans H; rw [hy182]; with_reducible exact H2_) | (have H2_ := (Option.bind_some _ _).symm.trans H; with_reducible exact H2_) | with_reducible exact H | (rw [hy182]; exact H) | exact H
     have Ny182 := zA hy182
     clear hy182
     have H' := zA H
     clear H
     try go_wp2
     replace HO_5 := zA (Kd.R_drew HO_5.out)
     replace BK174 := zA (blk_drew BK174.out)
     replace HB := zA (below_drew1 HB.out)
     have p179 : 0 ≤ (x6_1 : Int) := za
     have q179 : x6_1 < (l1.length : Int) := za
     obtain ⟨ad179, e179, hx179_0, hx179_1, hx179_2, hx179_3, hx179_4, hx179_5⟩ := at_T41 HR1.out x6_1 p179 q179
     have hw179_5 := hx179_5
     have hw179_4 := hx179_4
     have hw179_3 := hx179_3
     have hw179_2 := hx179_2
     have hw179_1 := hx179_1
     have hw179_0 := hx179_0
     cases e179
     replace hx179_0 := zx HB hx179_0
     replace hx179_1 := zx HB hx179_1
     replace hx179_2 := zx HB hx179_2
     replace hx179_3 := zx HB hx179_3
     replace hx179_4 := zx HB hx179_4
     replace hx179_5 := zx HB hx179_5
     replace p179 := eq_true p179
     replace q179 := eq_true q179
     refine start_ (n := 6) (S := fun w' => w'.cell? ⟨gb174, 0, none⟩ = some (.string a0_0) ∧ w'.cell? ⟨gb174, 1, none⟩ = some (.int .i64 a0_1) ∧ w'.cell? ⟨gb174, 2, none⟩ = some (.int .i64 a0_2) ∧ w'.cell? ⟨gb174, 3, none⟩ = some (.int .i64 a0_3) ∧ w'.cell? ⟨gb174, 4, none⟩ = some (.int .i64 a0_4) ∧ w'.cell? (ad179.add ((x6_1).toNat * 6)) = some (.int .i64 ((rd_T41 l1 x6_1).f0)) ∧ w'.cell? ⟨(ad179.add ((x6_1).toNat * 6)).block, (ad179.add ((x6_1).toNat * 6)).off + 1, none⟩ = some (.int .i64 ((rd_T41 l1 x6_1).f1)) ∧ w'.cell? ⟨(ad179.add ((x6_1).toNat * 6)).block, (ad179.add ((x6_1).toNat * 6)).off + 2, none⟩ = some (.int .i64 ((rd_T41 l1 x6_1).f2)) ∧ w'.cell? ⟨(ad179.add ((x6_1).toNat * 6)).block, (ad179.add ((x6_1).toNat * 6)).off + 3, none⟩ = some (.int .i64 ((rd_T41 l1 x6_1).f3)) ∧ w'.cell? ⟨(ad179.add ((x6_1).toNat * 6)).block, (ad179.add ((x6_1).toNat * 6)).off + 4, none⟩ = some (.int .i64 ((rd_T41 l1 x6_1).f4)) ∧ w'.cell? ⟨(ad179.add ((x6_1).toNat * 6)).block, (ad179.add ((x6_1).toNat * 6)).off + 5, none⟩ = some (.int .i64 ((rd_T41 l1 x6_1).f5))) (ds := []) #[F,F,F,F,F,F] (by kernel_rfl) rfl rfl ⟨zc0 BK174, zc1 BK174, zc2 BK174, zc3 BK174, zc4 BK174, (zw HB hw179_0), (zw HB hw179_1), (zw HB hw179_2), (zw HB hw179_3), (zw HB hw179_4), (zw HB hw179_5)⟩ (fun hHeld => ?_)
     generalize wc.drew = w17 at HO_5 BK174 HB hx179_0 hx179_1 hx179_2 hx179_3 hx179_4 hx179_5 hHeld ⊢
     refine zp 1 ?_
     refine zp 2 ?_
     refine zp 3 ?_
     refine take_ (i := 0) (N := some 18) (v := ?_) (a' := ?_) #[T,T,T,T,F,F] rfl rfl (by kernel_rfl) (fun _ _ _ h => h) (Or.inl ⟨by rfl, ?_⟩) hHeld ?_ ?_; rotate_left; exact zt11; rotate_left; exact zput
     refine take_ (i := 4) (N := some 22) (v := ?_) (a' := ?_) #[T,T,T,T,T,F] rfl rfl (by kernel_rfl) (fun _ _ _ h => h) (Or.inl ⟨by rfl, ?_⟩) hHeld ?_ ?_; rotate_left; exact zt11; rotate_left; exact zput
     refine one_ (i := 5) (N := some 23) #[T,T,T,T,T,T] rfl rfl (by kernel_rfl) (by decide) (fun K hK => ?_)
     refine zgo Try.func91 #[.agg #[.string a0_0, .int .i64 a0_1, .int .i64 a0_2, .int .i64 a0_3, .int .i64 a0_4], .agg #[.int .i64 ((rd_T41 l1 x6_1).f0), .int .i64 ((rd_T41 l1 x6_1).f1), .int .i64 ((rd_T41 l1 x6_1).f2), .int .i64 ((rd_T41 l1 x6_1).f3), .int .i64 ((rd_T41 l1 x6_1).f4), .int .i64 ((rd_T41 l1 x6_1).f5)]] ?_
     with_reducible refine (spec_l31Sees.calls a0_0 a0_1 a0_2 a0_3 a0_4 ((rd_T41 l1 x6_1).f0) ((rd_T41 l1 x6_1).f1) ((rd_T41 l1 x6_1).f2) ((rd_T41 l1 x6_1).f3) ((rd_T41 l1 x6_1).f4) ((rd_T41 l1 x6_1).f5) true _ A14.out).mono ?_
     rintro e w18 ⟨rfl, hb⟩
     refine ⟨_, rfl, ?_⟩
     replace HO_5 := zA (Kd.R_below (zr HO_5) hb)
     replace BK174 := zb BK174 hb
     replace HB := zE (zs1 HB GE174) hb
     (try clear hb)
     (try clear hb2)
     (try clear hk)
     (try clear hi)
     refine hK.out _ _ ⟨zc0 BK174, zc1 BK174, zc2 BK174, zc3 BK174, zc4 BK174, (zw HB hw179_0), (zw HB hw179_1), (zw HB hw179_2), (zw HB hw179_3), (zw HB hw179_4), (zw HB hw179_5)⟩ (fun hHeld => ?_)
     clear hK K
     refine zN ?_
     refine done_ (by kernel_rfl) ?_
     have p181 : 0 ≤ (x6_1 : Int) := za
     have q181 : x6_1 < (l1.length : Int) := za
     obtain ⟨ad181, e181, hx181_0, hx181_1, hx181_2, hx181_3, hx181_4, hx181_5⟩ := at_T41 HR1.out x6_1 p181 q181
     obtain rfl : ad179 = ad181 := (by injection e181)
     replace hx181_0 := zx HB hx181_0
     replace hx181_1 := zx HB hx181_1
     replace hx181_2 := zx HB hx181_2
     replace hx181_3 := zx HB hx181_3
     replace hx181_4 := zx HB hx181_4
     replace hx181_5 := zx HB hx181_5
     replace p181 := eq_true p181
     replace q181 := eq_true q181
     try go_wp2_with (first | ((with_reducible refine gate_builtin (b := .append) (xs := #[.tmp 24, .tmp 29]) rfl ?_); at_builtin; refine Kd.R_append k41 (w0 := w) w.heap.size rfl (.tmp 24) (.tmp 29) 29 41 (.agg #[(.int .i64 0), (.int .i64 0), (.int .i64 0), (.int .i64 0), (.int .i64 0), (.int .i64 0)]) 48 rfl Try.underlying29 info41 rfl (by decide) (by omega) u5 x5_1 (⟨(rd_T41 l1 x6_1).f0, (rd_T41 l1 x6_1).f1, (rd_T41 l1 x6_1).f2, (rd_T41 l1 x6_1).f3, (rd_T41 l1 x6_1).f4, (rd_T41 l1 x6_1).f5⟩ : S41) [.int .i64 ((rd_T41 l1 x6_1).f0), .int .i64 ((rd_T41 l1 x6_1).f1), .int .i64 ((rd_T41 l1 x6_1).f2), .int .i64 ((rd_T41 l1 x6_1).f3), .int .i64 ((rd_T41 l1 x6_1).f4), .int .i64 ((rd_T41 l1 x6_1).f5)] (fun _ => True) (fun _ => False) rfl rfl ?aP (fun _ hk => hk.elim) ?aF ?aO ?aB ?aS ?aL ?_; (case aP => exact k41_mkM _ _ _ (⟨(rd_T41 l1 x6_1).f0, (rd_T41 l1 x6_1).f1, (rd_T41 l1 x6_1).f2, (rd_T41 l1 x6_1).f3, (rd_T41 l1 x6_1).f4, (rd_T41 l1 x6_1).f5⟩ : S41)); (case aB => exact (zs1 HB GE174)); (case aF => exact (fun _ _ => trivial)); (case aO => exact (zr HO_5)); (case aS => exact (below_size (zs1 HB GE174))); (case aL => have := LMc16.out; omega); intro v183 w19 ho hb hg hat; rw [← Ny182.out] at ho; have HO184 := zA (ho); replace BK174 := zA (blk_grown (g := gb174) (o := .cells #[.string a0_0, .int .i64 a0_1, .int .i64 a0_2, .int .i64 a0_3, .int .i64 a0_4] 55 (0, 0)) (zh BK174) hg (Kd.R_ne HO_5.out BK174.out (by decide))); replace HB := zA (hb); clear HO_5; clear ho hb hg hat))
     go_roundg kj5
     case measure => have := HK1.out; have := HJ5.out; omega
     case rel => exact ⟨(y182), (wrap64 (x6_1 + 1)), zi, H', ⟨by have := HK1.out; have := HJ5.out; omega⟩, ⟨zr HO184⟩, ⟨zh BK174⟩, ⟨zs1 HB GE174⟩⟩
end Go.Proofs.Ytbmplfpnhjhoiaa.QFnExactHandWho
