/- The walk of what the law FnExactHandPartOf reaches: laid by a program of this session (ownprint.py). -/
import Derived.Test.YtbmplfpnhjhoiaaQFnExactHandPartOfx0
import Derived.Test.YtbmplfpnhjhoiaaQFnExactHandPartOfx2
import Derived.Test.YtbmplfpnhjhoiaaQFnExactHandPartOfx3
namespace Go.Proofs.Ytbmplfpnhjhoiaa.QFnExactHandPartOf
open Go.RowKit Go.Proofs.YtbmplfpnhjhoiaaW.PrintWords Go.Proofs.YtbmplfpnhjhoiaaW.PrintLast Go.Proofs.YtbmplfpnhjhoiaaW.PrintMore Go.Proofs.Ytbmplfpnhjhoiaa.Z
attribute [local go_sem] max2_int min2_int max_two min_two max_three min_three max_four min_four zdn   -- for this text's walks alone
set_option linter.unusedVariables false
set_option linter.unusedSimpArgs false
def spec_l31ZoneOk.f (k : Nat) (a0_0 : ByteArray) (a0_1 : Int) (a0_2 : Int) (a0_3 : Int) (a0_4 : Int) : Option (Bool) := (spec_HandZonesOk.f k (([(⟨a0_0, a0_1, a0_2, a0_3, a0_4⟩ : S55)] : List (S55)))).bind fun t137 => (some t137)
set_option maxHeartbeats 8000000 in
set_option maxRecDepth 100000 in
theorem spec_l31ZoneOk.calls (k : Nat) (a0_0 : ByteArray) (a0_1 : Int) (a0_2 : Int) (a0_3 : Int) (a0_4 : Int) (r : Bool) (w : World) (h : spec_l31ZoneOk.f k a0_0 a0_1 a0_2 a0_3 a0_4 = some r) :
 Calls Try.prog 90 #[.agg #[.string a0_0, .int .i64 a0_1, .int .i64 a0_2, .int .i64 a0_3, .int .i64 a0_4]] w fun e w' => e = .returned (.bool r) ∧ Below w.heap.size w w' := by
 have hu55 := Try.underlying55
 have HB := Aside0.mk (Below.refl w.heap.size w)
 have H : ((spec_HandZonesOk.f k (([(⟨a0_0, a0_1, a0_2, a0_3, a0_4⟩ : S55)] : List (S55)))).bind fun t137 => (some t137)) = some r := h
 clear h
 obtain ⟨y134, hy134⟩ : ∃ y_ : List (S55), y_ = (([(⟨a0_0, a0_1, a0_2, a0_3, a0_4⟩ : S55)] : List (S55))) := ⟨_, rfl⟩
 replace H : ((spec_HandZonesOk.f k y134).bind fun t137 => (some t137)) = some r := by first | (rw [hy134]; with_reducible exact H) | (have H2_ := (Option.bind_some _ _).symm.trans H; rw [hy134]; with_reducible exact H2_) | (have H2_ := (Option.bind_some _ _).symm.trans H; with_reducible exact H2_) | with_reducible exact H | (rw [hy134]; exact H) | exact H
 have Ny134 := Aside0.mk hy134
 clear hy134
 replace H := zbd H; obtain ⟨t137, A2, H⟩ := H
 obtain rfl := Option.some.inj H
 go_enter Try.func90, Try.ntmps90
 go_wp2_with (first | ((with_reducible refine gate_dst (N := 1) rfl ?_); refine box_event (by rfl) (N := 1) (by rfl) (cs := #[.string a0_0, .int .i64 a0_1, .int .i64 a0_2, .int .i64 a0_3, .int .i64 a0_4]) (t := 55) zg ?_; intro gb133 hg w3 hbox hb; have BK133 := zA hbox; have GW133 := zgs hg (zs0 HB); have GE133 := zgs hg (zs0 HB); replace HB := zE (zs0 HB) hb; clear hb hbox hg; obtain ⟨hcz4_0, hcz4_1, hcz4_2, hcz4_3, hcz4_4⟩ := zd5 BK133; obtain ⟨hfz4_0, hfz4_1, hfz4_2, hfz4_3, hfz4_4⟩ := zn5 BK133) | ((with_reducible refine gate_dst (N := 4) rfl ?_); refine Kd.R_lit k55 _ 55 ?hg (N := 4) ?hd (xs := ([(⟨a0_0, a0_1, a0_2, a0_3, a0_4⟩ : S55)] : List (S55))) (inner := [.string a0_0, .int .i64 a0_1, .int .i64 a0_2, .int .i64 a0_3, .int .i64 a0_4]) (ok := fun _ => True) (okp := fun _ => True) ?hr ?hp (fun _ hk => hk) trivial (Below.refl _ _) (Nat.le_refl _) (by simp) ?_; (case hd => rfl); (case hg => rfl); (case hr => first | (go_simp; done) | (go_simp; rfl)); (case hp => exact (Reps.c5 (show Kd.M k55 _ _ _ (⟨a0_0, a0_1, a0_2, a0_3, a0_4⟩ : S55) [.string a0_0, .int .i64 a0_1, .int .i64 a0_2, .int .i64 a0_3, .int .i64 a0_4] from (k55_mkM _ _ _ (⟨a0_0, a0_1, a0_2, a0_3, a0_4⟩ : S55) )) (Reps.none _ _))); intro v135 w5 ho6 hb hg_ hnew_; clear hg_ hnew_; (first | rw [← Ny134.out] at ho6 | (simp only [Int.reduceToNat] at ho6; rw [← Ny134.out] at ho6)); have HO136 := Aside0.mk (Kd.R_lower (Kd.R_newB ho6 (g := gb133) (o := .cells #[.string a0_0, .int .i64 a0_1, .int .i64 a0_2, .int .i64 a0_3, .int .i64 a0_4] 55 (0, 0)) (zh BK133)) (below_size (zs1 HB GE133))); replace BK133 := zb BK133 hb; replace HB := zE (zs1 HB GE133) hb; clear hb ho6; obtain ⟨Ao7, co7, eo7⟩ := Kd.R_slice HO136.out; subst eo7) | ((with_reducible refine gate_callee (f := 51) rfl ?_); refine goesL_ (some 5) rfl rfl Try.func51 (by kernel_rfl) rfl #[.slice Ao7 y134.length co7] rfl zl ?_; (with_reducible refine (spec_HandZonesOk.calls k _ _ y134 t137 _ ?side1 ?side2 A2.out).mono ?_); (case side1 => repeat (first | exact (Kd.R_reads' HO136.out).2.2 | (with_reducible refine Kd.C_alloc ?_ _) | (with_reducible refine Kd.C_drewN ?_ _) | (with_reducible refine Kd.C_drew ?_))); (case side2 => exact (Kd.R_reads' HO136.out).2.1); rintro e w8 ⟨rfl, hb⟩; refine ⟨_, rfl, ?_⟩; replace HO136 := Aside0.mk (Kd.R_below (zr HO136) hb); replace BK133 := zb BK133 hb; replace HB := zE (zs1 HB GE133) hb; (try clear hb); (try clear hb2); (try clear hk); (try clear hi)))
 go_ret
 exact ⟨ze, zs1 HB GE133⟩
def spec_l31BoxOk.f (a0_0 : Int) (a0_1 : Int) (a0_2 : Int) (a0_3 : Int) (a0_4 : Int) (a0_5 : Int) : Option (Bool) := (spec_l31In.f a0_0 0 15).bind fun t139 => (if t139 = true then ((spec_l31In.f a0_1 0 15).bind fun t140 => (if t140 = true then ((spec_l31In.f a0_2 0 a0_3).bind fun t141 => (if t141 = true then (if a0_3 ≤ 6 then ((spec_l31In.f a0_4 0 a0_5).bind fun t142 => (if t142 = true then (some (decide (a0_5 ≤ 10000))) else (some false))) else (some false)) else (some false))) else (some false))) else (some false))
set_option maxHeartbeats 8000000 in
set_option maxRecDepth 100000 in
theorem spec_l31BoxOk.calls (a0_0 : Int) (a0_1 : Int) (a0_2 : Int) (a0_3 : Int) (a0_4 : Int) (a0_5 : Int) (r : Bool) (w : World) (h : spec_l31BoxOk.f a0_0 a0_1 a0_2 a0_3 a0_4 a0_5 = some r) :
 Calls Try.prog 95 #[.agg #[.int .i64 a0_0, .int .i64 a0_1, .int .i64 a0_2, .int .i64 a0_3, .int .i64 a0_4, .int .i64 a0_5]] w fun e w' => e = .returned (.bool r) ∧ Below w.heap.size w w' := by
 have hu41 := Try.underlying41
 have HB := Aside0.mk (Below.refl w.heap.size w)
 have H : ((spec_l31In.f a0_0 0 15).bind fun t139 => (if t139 = true then ((spec_l31In.f a0_1 0 15).bind fun t140 => (if t140 = true then ((spec_l31In.f a0_2 0 a0_3).bind fun t141 => (if t141 = true then (if a0_3 ≤ 6 then ((spec_l31In.f a0_4 0 a0_5).bind fun t142 => (if t142 = true then (some (decide (a0_5 ≤ 10000))) else (some false))) else (some false)) else (some false))) else (some false))) else (some false))) = some r := h
 clear h
 replace H := zbd H; obtain ⟨t139, A2, H⟩ := H
 by_cases c3 : t139 = true
 rotate_left
 ·replace c3 := Bool.eq_false_iff.mpr c3
  subst c3
  have H1 : (some false) = some r := by rw [if_neg (show ¬ (false = true) by decide)] at H; exact H
  clear H
  have H := H1
  clear H1
  obtain rfl := Option.some.inj H
  go_enter Try.func95, Try.ntmps95
  go_wp2_with (first | ((with_reducible refine gate_dst (N := 1) rfl ?_); refine box_event (by rfl) (N := 1) (by rfl) (cs := #[.int .i64 a0_0, .int .i64 a0_1, .int .i64 a0_2, .int .i64 a0_3, .int .i64 a0_4, .int .i64 a0_5]) (t := 41) zg ?_; intro gb138 hg w21 hbox hb; have BK138 := zA hbox; have GW138 := zgs hg (zs0 HB); have GE138 := zgs hg (zs0 HB); replace HB := zE (zs0 HB) hb; clear hb hbox hg; obtain ⟨hcz22_0, hcz22_1, hcz22_2, hcz22_3, hcz22_4, hcz22_5⟩ := zd6 BK138; obtain ⟨hfz22_0, hfz22_1, hfz22_2, hfz22_3, hfz22_4, hfz22_5⟩ := zn6 BK138) | ((with_reducible refine gate_callee (f := 94) rfl ?_); refine goesL_ (some 5) rfl rfl Try.func94 (by kernel_rfl) rfl #[.int .i64 a0_0, .int .i64 0, .int .i64 15] rfl zl ?_; (with_reducible refine (spec_l31In.calls a0_0 0 15 false _ A2.out).mono ?_); rintro e w' ⟨rfl, ⟨nd, rfl⟩⟩; refine ⟨_, rfl, ?_⟩))
  go_ret
  exact ⟨ze, zs1 HB GE138⟩
 subst c3
 have H1 : ((spec_l31In.f a0_1 0 15).bind fun t140 => (if t140 = true then ((spec_l31In.f a0_2 0 a0_3).bind fun t141 => (if t141 = true then (if a0_3 ≤ 6 then ((spec_l31In.f a0_4 0 a0_5).bind fun t142 => (if t142 = true then (some (decide (a0_5 ≤ 10000))) else (some false))) else (some false)) else (some false))) else (some false))) = some r := by rw [if_pos rfl] at H; exact H
 clear H
 have H := H1
 clear H1
 replace H := zbd H; obtain ⟨t140, A4, H⟩ := H
 by_cases c5 : t140 = true
 rotate_left
 ·replace c5 := Bool.eq_false_iff.mpr c5
  subst c5
  have H1 : (some false) = some r := by rw [if_neg (show ¬ (false = true) by decide)] at H; exact H
  clear H
  have H := H1
  clear H1
  obtain rfl := Option.some.inj H
  go_enter Try.func95, Try.ntmps95
  go_wp2_with (first | ((with_reducible refine gate_dst (N := 1) rfl ?_); refine box_event (by rfl) (N := 1) (by rfl) (cs := #[.int .i64 a0_0, .int .i64 a0_1, .int .i64 a0_2, .int .i64 a0_3, .int .i64 a0_4, .int .i64 a0_5]) (t := 41) zg ?_; intro gb138 hg w19 hbox hb; have BK138 := zA hbox; have GW138 := zgs hg (zs0 HB); have GE138 := zgs hg (zs0 HB); replace HB := zE (zs0 HB) hb; clear hb hbox hg; obtain ⟨hcz20_0, hcz20_1, hcz20_2, hcz20_3, hcz20_4, hcz20_5⟩ := zd6 BK138; obtain ⟨hfz20_0, hfz20_1, hfz20_2, hfz20_3, hfz20_4, hfz20_5⟩ := zn6 BK138) | ((with_reducible refine gate_callee (f := 94) rfl ?_); refine goesL_ (some 5) rfl rfl Try.func94 (by kernel_rfl) rfl #[.int .i64 a0_0, .int .i64 0, .int .i64 15] rfl zl ?_; (with_reducible refine (spec_l31In.calls a0_0 0 15 true _ A2.out).mono ?_); rintro e w' ⟨rfl, ⟨nd, rfl⟩⟩; refine ⟨_, rfl, ?_⟩) | (go_at_call 94; (with_reducible refine (spec_l31In.calls a0_1 0 15 false _ A4.out).mono ?_); rintro e w' ⟨rfl, ⟨nd, rfl⟩⟩))
  go_ret
  exact ⟨ze, zs1 HB GE138⟩
 subst c5
 have H1 : ((spec_l31In.f a0_2 0 a0_3).bind fun t141 => (if t141 = true then (if a0_3 ≤ 6 then ((spec_l31In.f a0_4 0 a0_5).bind fun t142 => (if t142 = true then (some (decide (a0_5 ≤ 10000))) else (some false))) else (some false)) else (some false))) = some r := by rw [if_pos rfl] at H; exact H
 clear H
 have H := H1
 clear H1
 replace H := zbd H; obtain ⟨t141, A6, H⟩ := H
 by_cases c7 : t141 = true
 rotate_left
 ·replace c7 := Bool.eq_false_iff.mpr c7
  subst c7
  have H1 : (some false) = some r := by rw [if_neg (show ¬ (false = true) by decide)] at H; exact H
  clear H
  have H := H1
  clear H1
  obtain rfl := Option.some.inj H
  go_enter Try.func95, Try.ntmps95
  go_wp2_with (first | ((with_reducible refine gate_dst (N := 1) rfl ?_); refine box_event (by rfl) (N := 1) (by rfl) (cs := #[.int .i64 a0_0, .int .i64 a0_1, .int .i64 a0_2, .int .i64 a0_3, .int .i64 a0_4, .int .i64 a0_5]) (t := 41) zg ?_; intro gb138 hg w17 hbox hb; have BK138 := zA hbox; have GW138 := zgs hg (zs0 HB); have GE138 := zgs hg (zs0 HB); replace HB := zE (zs0 HB) hb; clear hb hbox hg; obtain ⟨hcz18_0, hcz18_1, hcz18_2, hcz18_3, hcz18_4, hcz18_5⟩ := zd6 BK138; obtain ⟨hfz18_0, hfz18_1, hfz18_2, hfz18_3, hfz18_4, hfz18_5⟩ := zn6 BK138) | ((with_reducible refine gate_callee (f := 94) rfl ?_); refine goesL_ (some 5) rfl rfl Try.func94 (by kernel_rfl) rfl #[.int .i64 a0_0, .int .i64 0, .int .i64 15] rfl zl ?_; (with_reducible refine (spec_l31In.calls a0_0 0 15 true _ A2.out).mono ?_); rintro e w' ⟨rfl, ⟨nd, rfl⟩⟩; refine ⟨_, rfl, ?_⟩) | (go_at_call 94; (with_reducible refine (spec_l31In.calls a0_1 0 15 true _ A4.out).mono ?_); rintro e w' ⟨rfl, ⟨nd, rfl⟩⟩) | (go_at_call 94; (with_reducible refine (spec_l31In.calls a0_2 0 a0_3 false _ A6.out).mono ?_); rintro e w' ⟨rfl, ⟨nd, rfl⟩⟩))
  go_ret
  exact ⟨ze, zs1 HB GE138⟩
 subst c7
 have H1 : (if a0_3 ≤ 6 then ((spec_l31In.f a0_4 0 a0_5).bind fun t142 => (if t142 = true then (some (decide (a0_5 ≤ 10000))) else (some false))) else (some false)) = some r := by rw [if_pos rfl] at H; exact H
 clear H
 have H := H1
 clear H1
 by_cases c8 : a0_3 ≤ 6
 rotate_left
 ·rw [if_neg c8] at H
  have c8b0 : decide (a0_3 ≤ 6) = false := decide_eq_false c8
  clear c8
  obtain rfl := Option.some.inj H
  go_enter Try.func95, Try.ntmps95
  go_wp2_with (first | ((with_reducible refine gate_dst (N := 1) rfl ?_); refine box_event (by rfl) (N := 1) (by rfl) (cs := #[.int .i64 a0_0, .int .i64 a0_1, .int .i64 a0_2, .int .i64 a0_3, .int .i64 a0_4, .int .i64 a0_5]) (t := 41) zg ?_; intro gb138 hg w15 hbox hb; have BK138 := zA hbox; have GW138 := zgs hg (zs0 HB); have GE138 := zgs hg (zs0 HB); replace HB := zE (zs0 HB) hb; clear hb hbox hg; obtain ⟨hcz16_0, hcz16_1, hcz16_2, hcz16_3, hcz16_4, hcz16_5⟩ := zd6 BK138; obtain ⟨hfz16_0, hfz16_1, hfz16_2, hfz16_3, hfz16_4, hfz16_5⟩ := zn6 BK138) | ((with_reducible refine gate_callee (f := 94) rfl ?_); refine goesL_ (some 5) rfl rfl Try.func94 (by kernel_rfl) rfl #[.int .i64 a0_0, .int .i64 0, .int .i64 15] rfl zl ?_; (with_reducible refine (spec_l31In.calls a0_0 0 15 true _ A2.out).mono ?_); rintro e w' ⟨rfl, ⟨nd, rfl⟩⟩; refine ⟨_, rfl, ?_⟩) | (go_at_call 94; (with_reducible refine (spec_l31In.calls a0_1 0 15 true _ A4.out).mono ?_); rintro e w' ⟨rfl, ⟨nd, rfl⟩⟩) | (go_at_call 94; (with_reducible refine (spec_l31In.calls a0_2 0 a0_3 true _ A6.out).mono ?_); rintro e w' ⟨rfl, ⟨nd, rfl⟩⟩))
  go_ret
  exact ⟨ze, zs1 HB GE138⟩
 rw [if_pos c8] at H
 have c8b0 : decide (a0_3 ≤ 6) = true := decide_eq_true c8
 clear c8
 replace H := zbd H; obtain ⟨t142, A9, H⟩ := H
 by_cases c10 : t142 = true
 ·subst c10
  have H1 : (some (decide (a0_5 ≤ 10000))) = some r := by rw [if_pos rfl] at H; exact H
  clear H
  have H := H1
  clear H1
  obtain rfl := Option.some.inj H
  go_enter Try.func95, Try.ntmps95
  go_wp2_with (first | ((with_reducible refine gate_dst (N := 1) rfl ?_); refine box_event (by rfl) (N := 1) (by rfl) (cs := #[.int .i64 a0_0, .int .i64 a0_1, .int .i64 a0_2, .int .i64 a0_3, .int .i64 a0_4, .int .i64 a0_5]) (t := 41) zg ?_; intro gb138 hg w11 hbox hb; have BK138 := zA hbox; have GW138 := zgs hg (zs0 HB); have GE138 := zgs hg (zs0 HB); replace HB := zE (zs0 HB) hb; clear hb hbox hg; obtain ⟨hcz12_0, hcz12_1, hcz12_2, hcz12_3, hcz12_4, hcz12_5⟩ := zd6 BK138; obtain ⟨hfz12_0, hfz12_1, hfz12_2, hfz12_3, hfz12_4, hfz12_5⟩ := zn6 BK138) | ((with_reducible refine gate_callee (f := 94) rfl ?_); refine goesL_ (some 5) rfl rfl Try.func94 (by kernel_rfl) rfl #[.int .i64 a0_0, .int .i64 0, .int .i64 15] rfl zl ?_; (with_reducible refine (spec_l31In.calls a0_0 0 15 true _ A2.out).mono ?_); rintro e w' ⟨rfl, ⟨nd, rfl⟩⟩; refine ⟨_, rfl, ?_⟩) | (go_at_call 94; (with_reducible refine (spec_l31In.calls a0_1 0 15 true _ A4.out).mono ?_); rintro e w' ⟨rfl, ⟨nd, rfl⟩⟩) | (go_at_call 94; (with_reducible refine (spec_l31In.calls a0_2 0 a0_3 true _ A6.out).mono ?_); rintro e w' ⟨rfl, ⟨nd, rfl⟩⟩) | (go_at_call 94; (with_reducible refine (spec_l31In.calls a0_4 0 a0_5 true _ A9.out).mono ?_); rintro e w' ⟨rfl, ⟨nd, rfl⟩⟩))
  go_ret
  exact ⟨ze, zs1 HB GE138⟩
 replace c10 := Bool.eq_false_iff.mpr c10
 subst c10
 have H1 : (some false) = some r := by rw [if_neg (show ¬ (false = true) by decide)] at H; exact H
 clear H
 have H := H1
 clear H1
 obtain rfl := Option.some.inj H
 go_enter Try.func95, Try.ntmps95
 go_wp2_with (first | ((with_reducible refine gate_dst (N := 1) rfl ?_); refine box_event (by rfl) (N := 1) (by rfl) (cs := #[.int .i64 a0_0, .int .i64 a0_1, .int .i64 a0_2, .int .i64 a0_3, .int .i64 a0_4, .int .i64 a0_5]) (t := 41) zg ?_; intro gb138 hg w13 hbox hb; have BK138 := zA hbox; have GW138 := zgs hg (zs0 HB); have GE138 := zgs hg (zs0 HB); replace HB := zE (zs0 HB) hb; clear hb hbox hg; obtain ⟨hcz14_0, hcz14_1, hcz14_2, hcz14_3, hcz14_4, hcz14_5⟩ := zd6 BK138; obtain ⟨hfz14_0, hfz14_1, hfz14_2, hfz14_3, hfz14_4, hfz14_5⟩ := zn6 BK138) | ((with_reducible refine gate_callee (f := 94) rfl ?_); refine goesL_ (some 5) rfl rfl Try.func94 (by kernel_rfl) rfl #[.int .i64 a0_0, .int .i64 0, .int .i64 15] rfl zl ?_; (with_reducible refine (spec_l31In.calls a0_0 0 15 true _ A2.out).mono ?_); rintro e w' ⟨rfl, ⟨nd, rfl⟩⟩; refine ⟨_, rfl, ?_⟩) | (go_at_call 94; (with_reducible refine (spec_l31In.calls a0_1 0 15 true _ A4.out).mono ?_); rintro e w' ⟨rfl, ⟨nd, rfl⟩⟩) | (go_at_call 94; (with_reducible refine (spec_l31In.calls a0_2 0 a0_3 true _ A6.out).mono ?_); rintro e w' ⟨rfl, ⟨nd, rfl⟩⟩) | (go_at_call 94; (with_reducible refine (spec_l31In.calls a0_4 0 a0_5 false _ A9.out).mono ?_); rintro e w' ⟨rfl, ⟨nd, rfl⟩⟩))
 go_ret
 exact ⟨ze, zs1 HB GE138⟩
def spec_l31Sees.f (a0_0 : ByteArray) (a0_1 : Int) (a0_2 : Int) (a0_3 : Int) (a0_4 : Int) (a1_0 : Int) (a1_1 : Int) (a1_2 : Int) (a1_3 : Int) (a1_4 : Int) (a1_5 : Int) : Option (Bool) := (spec_l31BoxOk.f a1_0 a1_1 a1_2 a1_3 a1_4 a1_5).bind fun t145 => (if t145 = true then ((spec_l31In.f a1_0 (wrap64 ((wrap64 (a0_1 - 2)) + 1)) (wrap64 ((wrap64 (a0_3 + 2)) - 1))).bind fun t146 => (if t146 = true then ((spec_l31In.f a1_1 (wrap64 ((wrap64 (a0_2 - 2)) + 1)) (wrap64 ((wrap64 (a0_4 + 2)) - 1))).bind fun t147 => (some t147)) else (some false))) else (some false))
set_option maxHeartbeats 8000000 in
set_option maxRecDepth 100000 in
theorem spec_l31Sees.calls (a0_0 : ByteArray) (a0_1 : Int) (a0_2 : Int) (a0_3 : Int) (a0_4 : Int) (a1_0 : Int) (a1_1 : Int) (a1_2 : Int) (a1_3 : Int) (a1_4 : Int) (a1_5 : Int) (r : Bool) (w : World) (h : spec_l31Sees.f a0_0 a0_1 a0_2 a0_3 a0_4 a1_0 a1_1 a1_2 a1_3 a1_4 a1_5 = some r) :
 Calls Try.prog 91 #[.agg #[.string a0_0, .int .i64 a0_1, .int .i64 a0_2, .int .i64 a0_3, .int .i64 a0_4], .agg #[.int .i64 a1_0, .int .i64 a1_1, .int .i64 a1_2, .int .i64 a1_3, .int .i64 a1_4, .int .i64 a1_5]] w fun e w' => e = .returned (.bool r) ∧ Below w.heap.size w w' := by
 have hu55 := Try.underlying55
 have hu41 := Try.underlying41
 have HB := Aside0.mk (Below.refl w.heap.size w)
 have H : ((spec_l31BoxOk.f a1_0 a1_1 a1_2 a1_3 a1_4 a1_5).bind fun t145 => (if t145 = true then ((spec_l31In.f a1_0 (wrap64 ((wrap64 (a0_1 - 2)) + 1)) (wrap64 ((wrap64 (a0_3 + 2)) - 1))).bind fun t146 => (if t146 = true then ((spec_l31In.f a1_1 (wrap64 ((wrap64 (a0_2 - 2)) + 1)) (wrap64 ((wrap64 (a0_4 + 2)) - 1))).bind fun t147 => (some t147)) else (some false))) else (some false))) = some r := h
 clear h
 replace H := zbd H; obtain ⟨t145, A3, H⟩ := H
 by_cases c4 : t145 = true
 rotate_left
 ·replace c4 := Bool.eq_false_iff.mpr c4
  subst c4
  have H1 : (some false) = some r := by rw [if_neg (show ¬ (false = true) by decide)] at H; exact H
  clear H
  have H := H1
  clear H1
  obtain rfl := Option.some.inj H
  go_enter Try.func91, Try.ntmps91
  go_wp2_with (first | ((with_reducible refine gate_dst (N := 2) rfl ?_); refine box_event (by rfl) (N := 2) (by rfl) (cs := #[.string a0_0, .int .i64 a0_1, .int .i64 a0_2, .int .i64 a0_3, .int .i64 a0_4]) (t := 55) zg ?_; intro gb143 hg w22 hbox hb; have BK143 := zA hbox; have GW143 := zgs hg (zs0 HB); have GE143 := zgs hg (zs0 HB); replace HB := zE (zs0 HB) hb; clear hb hbox hg) | ((with_reducible refine gate_dst (N := 3) rfl ?_); refine box_event (by rfl) (N := 3) (by rfl) (cs := #[.int .i64 a1_0, .int .i64 a1_1, .int .i64 a1_2, .int .i64 a1_3, .int .i64 a1_4, .int .i64 a1_5]) (t := 41) zg ?_; intro gb144 hg w23 hbox hb; have BK144 := zA hbox; have GW144 := zgs hg (zs1 HB GE143); have GE144 := zgs hg (zs1 HB GE143); have NB143_144 := zne hg BK143; have NB144_143 := znf hg BK143; replace BK143 := zb BK143 hb; replace HB := zE (zs1 HB GE143) hb; clear hb hbox hg; have hnb24 := NB144_143.out; have hnc24 := NB143_144.out; obtain ⟨hcz25_0, hcz25_1, hcz25_2, hcz25_3, hcz25_4, hcz25_5⟩ := zd6 BK144; obtain ⟨hfz25_0, hfz25_1, hfz25_2, hfz25_3, hfz25_4, hfz25_5⟩ := zn6 BK144) | ((with_reducible refine gate_callee (f := 95) rfl ?_); refine goesL_ (some 6) rfl rfl Try.func95 (by kernel_rfl) rfl #[.agg #[.int .i64 a1_0, .int .i64 a1_1, .int .i64 a1_2, .int .i64 a1_3, .int .i64 a1_4, .int .i64 a1_5]] rfl zl ?_; (with_reducible refine (spec_l31BoxOk.calls a1_0 a1_1 a1_2 a1_3 a1_4 a1_5 false _ A3.out).mono ?_); rintro e w26 ⟨rfl, hb⟩; refine ⟨_, rfl, ?_⟩; replace BK143 := zb BK143 hb; replace BK144 := zb BK144 hb; replace HB := zE (zs2 HB GE143 GE144) hb; (try clear hb); (try clear hb2); (try clear hk); (try clear hi)))
  go_ret
  exact ⟨ze, zs2 HB GE143 GE144⟩
 subst c4
 have H1 : ((spec_l31In.f a1_0 (wrap64 ((wrap64 (a0_1 - 2)) + 1)) (wrap64 ((wrap64 (a0_3 + 2)) - 1))).bind fun t146 => (if t146 = true then ((spec_l31In.f a1_1 (wrap64 ((wrap64 (a0_2 - 2)) + 1)) (wrap64 ((wrap64 (a0_4 + 2)) - 1))).bind fun t147 => (some t147)) else (some false))) = some r := by rw [if_pos rfl] at H; exact H
 clear H
 have H := H1
 clear H1
 replace H := zbd H; obtain ⟨t146, A5, H⟩ := H
 by_cases c6 : t146 = true
 rotate_left
 ·replace c6 := Bool.eq_false_iff.mpr c6
  subst c6
  have H1 : (some false) = some r := by rw [if_neg (show ¬ (false = true) by decide)] at H; exact H
  clear H
  have H := H1
  clear H1
  obtain rfl := Option.some.inj H
  go_enter Try.func91, Try.ntmps91
  go_wp2_with (first | ((with_reducible refine gate_dst (N := 2) rfl ?_); refine box_event (by rfl) (N := 2) (by rfl) (cs := #[.string a0_0, .int .i64 a0_1, .int .i64 a0_2, .int .i64 a0_3, .int .i64 a0_4]) (t := 55) zg ?_; intro gb143 hg w15 hbox hb; have BK143 := zA hbox; have GW143 := zgs hg (zs0 HB); have GE143 := zgs hg (zs0 HB); replace HB := zE (zs0 HB) hb; clear hb hbox hg) | ((with_reducible refine gate_dst (N := 3) rfl ?_); refine box_event (by rfl) (N := 3) (by rfl) (cs := #[.int .i64 a1_0, .int .i64 a1_1, .int .i64 a1_2, .int .i64 a1_3, .int .i64 a1_4, .int .i64 a1_5]) (t := 41) zg ?_; intro gb144 hg w16 hbox hb; have BK144 := zA hbox; have GW144 := zgs hg (zs1 HB GE143); have GE144 := zgs hg (zs1 HB GE143); have NB143_144 := zne hg BK143; have NB144_143 := znf hg BK143; replace BK143 := zb BK143 hb; replace HB := zE (zs1 HB GE143) hb; clear hb hbox hg; have hnb17 := NB144_143.out; have hnc17 := NB143_144.out; obtain ⟨hcz18_0, hcz18_1, hcz18_2, hcz18_3, hcz18_4, hcz18_5⟩ := zd6 BK144; obtain ⟨hfz18_0, hfz18_1, hfz18_2, hfz18_3, hfz18_4, hfz18_5⟩ := zn6 BK144) | ((with_reducible refine gate_callee (f := 95) rfl ?_); refine goesL_ (some 6) rfl rfl Try.func95 (by kernel_rfl) rfl #[.agg #[.int .i64 a1_0, .int .i64 a1_1, .int .i64 a1_2, .int .i64 a1_3, .int .i64 a1_4, .int .i64 a1_5]] rfl zl ?_; (with_reducible refine (spec_l31BoxOk.calls a1_0 a1_1 a1_2 a1_3 a1_4 a1_5 true _ A3.out).mono ?_); rintro e w19 ⟨rfl, hb⟩; refine ⟨_, rfl, ?_⟩; replace BK143 := zb BK143 hb; replace BK144 := zb BK144 hb; replace HB := zE (zs2 HB GE143 GE144) hb; (try clear hb); (try clear hb2); (try clear hk); (try clear hi); obtain ⟨hcz20_0, hcz20_1, hcz20_2, hcz20_3, hcz20_4, hcz20_5⟩ := zd6 BK144; obtain ⟨hfz20_0, hfz20_1, hfz20_2, hfz20_3, hfz20_4, hfz20_5⟩ := zn6 BK144; obtain ⟨hcz21_0, hcz21_1, hcz21_2, hcz21_3, hcz21_4⟩ := zd5 BK143; obtain ⟨hfz21_0, hfz21_1, hfz21_2, hfz21_3, hfz21_4⟩ := zn5 BK143) | (go_at_call 94; (with_reducible refine (spec_l31In.calls a1_0 (wrap64 ((wrap64 (a0_1 - 2)) + 1)) (wrap64 ((wrap64 (a0_3 + 2)) - 1)) false _ A5.out).mono ?_); rintro e w' ⟨rfl, ⟨nd, rfl⟩⟩))
  go_ret
  exact ⟨ze, zs2 HB GE143 GE144⟩
 subst c6
 have H1 : ((spec_l31In.f a1_1 (wrap64 ((wrap64 (a0_2 - 2)) + 1)) (wrap64 ((wrap64 (a0_4 + 2)) - 1))).bind fun t147 => (some t147)) = some r := by rw [if_pos rfl] at H; exact H
 clear H
 have H := H1
 clear H1
 replace H := zbd H; obtain ⟨t147, A7, H⟩ := H
 obtain rfl := Option.some.inj H
 go_enter Try.func91, Try.ntmps91
 go_wp2_with (first | ((with_reducible refine gate_dst (N := 2) rfl ?_); refine box_event (by rfl) (N := 2) (by rfl) (cs := #[.string a0_0, .int .i64 a0_1, .int .i64 a0_2, .int .i64 a0_3, .int .i64 a0_4]) (t := 55) zg ?_; intro gb143 hg w8 hbox hb; have BK143 := zA hbox; have GW143 := zgs hg (zs0 HB); have GE143 := zgs hg (zs0 HB); replace HB := zE (zs0 HB) hb; clear hb hbox hg) | ((with_reducible refine gate_dst (N := 3) rfl ?_); refine box_event (by rfl) (N := 3) (by rfl) (cs := #[.int .i64 a1_0, .int .i64 a1_1, .int .i64 a1_2, .int .i64 a1_3, .int .i64 a1_4, .int .i64 a1_5]) (t := 41) zg ?_; intro gb144 hg w9 hbox hb; have BK144 := zA hbox; have GW144 := zgs hg (zs1 HB GE143); have GE144 := zgs hg (zs1 HB GE143); have NB143_144 := zne hg BK143; have NB144_143 := znf hg BK143; replace BK143 := zb BK143 hb; replace HB := zE (zs1 HB GE143) hb; clear hb hbox hg; have hnb10 := NB144_143.out; have hnc10 := NB143_144.out; obtain ⟨hcz11_0, hcz11_1, hcz11_2, hcz11_3, hcz11_4, hcz11_5⟩ := zd6 BK144; obtain ⟨hfz11_0, hfz11_1, hfz11_2, hfz11_3, hfz11_4, hfz11_5⟩ := zn6 BK144) | ((with_reducible refine gate_callee (f := 95) rfl ?_); refine goesL_ (some 6) rfl rfl Try.func95 (by kernel_rfl) rfl #[.agg #[.int .i64 a1_0, .int .i64 a1_1, .int .i64 a1_2, .int .i64 a1_3, .int .i64 a1_4, .int .i64 a1_5]] rfl zl ?_; (with_reducible refine (spec_l31BoxOk.calls a1_0 a1_1 a1_2 a1_3 a1_4 a1_5 true _ A3.out).mono ?_); rintro e w12 ⟨rfl, hb⟩; refine ⟨_, rfl, ?_⟩; replace BK143 := zb BK143 hb; replace BK144 := zb BK144 hb; replace HB := zE (zs2 HB GE143 GE144) hb; (try clear hb); (try clear hb2); (try clear hk); (try clear hi); obtain ⟨hcz13_0, hcz13_1, hcz13_2, hcz13_3, hcz13_4, hcz13_5⟩ := zd6 BK144; obtain ⟨hfz13_0, hfz13_1, hfz13_2, hfz13_3, hfz13_4, hfz13_5⟩ := zn6 BK144; obtain ⟨hcz14_0, hcz14_1, hcz14_2, hcz14_3, hcz14_4⟩ := zd5 BK143; obtain ⟨hfz14_0, hfz14_1, hfz14_2, hfz14_3, hfz14_4⟩ := zn5 BK143) | (go_at_call 94; (with_reducible refine (spec_l31In.calls a1_0 (wrap64 ((wrap64 (a0_1 - 2)) + 1)) (wrap64 ((wrap64 (a0_3 + 2)) - 1)) true _ A5.out).mono ?_); rintro e w' ⟨rfl, ⟨nd, rfl⟩⟩) | (go_at_call 94; (with_reducible refine (spec_l31In.calls a1_1 (wrap64 ((wrap64 (a0_2 - 2)) + 1)) (wrap64 ((wrap64 (a0_4 + 2)) - 1)) t147 _ A7.out).mono ?_); rintro e w' ⟨rfl, ⟨nd, rfl⟩⟩))
 go_ret
 exact ⟨ze, zs2 HB GE143 GE144⟩
mutual
def spec_HandPartOf.l0 : Nat → List (S41) → List (S41) → Int → ByteArray → Int → Int → Int → Int → Option ((List (S41)))
 | 0, _, _, _, _, _, _, _, _ => none
 | k + 1, x1, x5, x6, x149000, x149001, x149002, x149003, x149004 => if x6 < (x1.length : Int) then ((spec_l31ZoneOk.f k x149000 x149001 x149002 x149003 x149004).bind fun t152 => (spec_HandPartOf.j1 k x1 x5 x6 t152 x149000 x149001 x149002 x149003 x149004)) else (spec_HandPartOf.j1 k x1 x5 x6 false x149000 x149001 x149002 x149003 x149004)
def spec_HandPartOf.j1 : Nat → List (S41) → List (S41) → Int → Bool → ByteArray → Int → Int → Int → Int → Option ((List (S41)))
 | 0, _, _, _, _, _, _, _, _, _ => none
 | k + 1, x1, x5, x6, x15, x149000, x149001, x149002, x149003, x149004 => if x15 = true then (if 0 ≤ x6 then (if x6 < (x1.length : Int) then ((spec_l31Sees.f x149000 x149001 x149002 x149003 x149004 ((rd_T41 x1 x6).f0) ((rd_T41 x1 x6).f1) ((rd_T41 x1 x6).f2) ((rd_T41 x1 x6).f3) ((rd_T41 x1 x6).f4) ((rd_T41 x1 x6).f5)).bind fun t154 => (if t154 = true then (if x5.length < 2932031007402 then (spec_HandPartOf.l0 k x1 (x5 ++ [(⟨(rd_T41 x1 x6).f0, (rd_T41 x1 x6).f1, (rd_T41 x1 x6).f2, (rd_T41 x1 x6).f3, (rd_T41 x1 x6).f4, (rd_T41 x1 x6).f5⟩ : S41)]) (wrap64 (x6 + 1)) x149000 x149001 x149002 x149003 x149004) else (none)) else (spec_HandPartOf.l0 k x1 x5 (wrap64 (x6 + 1)) x149000 x149001 x149002 x149003 x149004))) else (none)) else (none)) else (some x5)
end
def spec_HandPartOf.f (k : Nat) (a0_0 : ByteArray) (a0_1 : Int) (a0_2 : Int) (a0_3 : Int) (a0_4 : Int) (l1 : List (S41)) : Option ((List (S41))) := spec_HandPartOf.l0 k l1 (([] : List (S41))) 0 a0_0 a0_1 a0_2 a0_3 a0_4
set_option maxHeartbeats 8000000 in
set_option maxRecDepth 100000 in
theorem spec_HandPartOf.calls (k : Nat) (a0_0 : ByteArray) (a0_1 : Int) (a0_2 : Int) (a0_3 : Int) (a0_4 : Int) (A1 : Option Addr) (c1 : Nat) (l1 : List (S41)) (r : List (S41)) (w : World) (hr1 : Kd.C k41 w A1 l1.length l1) (hc1 : l1.length ≤ c1) (h : spec_HandPartOf.f k a0_0 a0_1 a0_2 a0_3 a0_4 l1 = some r) :
 Calls Try.prog 30 #[.agg #[.string a0_0, .int .i64 a0_1, .int .i64 a0_2, .int .i64 a0_3, .int .i64 a0_4], .slice A1 l1.length c1] w fun e w' => ∃ v0_ : Value, e = .returned (v0_) ∧ Kd.R k41 41 w' w.heap.size (fun _ => True) v0_ r ∧ Below w.heap.size w w' := by
 have hu55 := Try.underlying55
 have hu41 := Try.underlying41
 have HR1 := Aside0.mk hr1
 have HC1 := Aside0.mk hc1
 clear hr1 hc1
 have HB := Aside0.mk (Below.refl w.heap.size w)
 have H : (spec_HandPartOf.l0 k l1 (([] : List (S41))) 0 a0_0 a0_1 a0_2 a0_3 a0_4) = some r := h
 clear h
 obtain ⟨y149, hy149⟩ : ∃ y_ : List (S41), y_ = (([] : List (S41))) := ⟨_, rfl⟩
 replace H : (spec_HandPartOf.l0 k l1 y149 0 a0_0 a0_1 a0_2 a0_3 a0_4) = some r := by first | (rw [hy149]; with_reducible exact H) | (have H2_ := (Option.bind_some _ _).symm.trans H; rw [hy149]; with_reducible exact H2_) | (have H2_ := (Option.bind_some _ _).symm.trans H; with_reducible exact H2_) | with_reducible exact H | (rw [hy149]; exact H) | exact H
 have Ny149 := Aside0.mk hy149
 clear hy149
 have H' := Aside0.mk H
 clear H
 go_enter Try.func30, Try.ntmps30
 go_wp2_with (first | ((with_reducible refine gate_dst (N := 2) rfl ?_); refine box_event (by rfl) (N := 2) (by rfl) (cs := #[.string a0_0, .int .i64 a0_1, .int .i64 a0_2, .int .i64 a0_3, .int .i64 a0_4]) (t := 55) zg ?_; intro gb148 hg w3 hbox hb; have BK148 := zA hbox; have GW148 := zgs hg (zs0 HB); have GE148 := zgs hg (zs0 HB); replace HB := zE (zs0 HB) hb; clear hb hbox hg) | ((with_reducible refine gate_dst (N := 7) rfl ?_); refine Kd.R_lit k41 _ 41 ?hg (N := 7) ?hd (xs := ([] : List (S41))) (inner := []) (ok := fun _ => True) (okp := fun _ => True) ?hr ?hp (fun _ hk => hk) trivial (Below.refl _ _) (Nat.le_refl _) (by simp) ?_; (case hd => rfl); (case hg => rfl); (case hr => first | (go_simp; done) | (go_simp; rfl)); (case hp => exact (Reps.none _ _)); intro v150 w4 ho5 hb hg_ hnew_; clear hg_ hnew_; (first | rw [← Ny149.out] at ho5 | (simp only [Int.reduceToNat] at ho5; rw [← Ny149.out] at ho5)); have HO151 := Aside0.mk (Kd.R_lower ho5 (below_size (zs1 HB GE148))); replace BK148 := zb BK148 hb; replace HB := zE (zs1 HB GE148) hb; clear hb ho5))
 go_loopg [5, 6] k (fun kq v5 v6 w' => ∃ (x5_1 : List (S41)) (x6_1 : Int), v6 = .int .i64 x6_1 ∧ Aside0 (spec_HandPartOf.l0 kq l1 x5_1 x6_1 a0_0 a0_1 a0_2 a0_3 a0_4 = some r) ∧ Aside0 (kq ≤ k) ∧ Aside0 (Kd.R k41 41 w' w.heap.size (fun _ => True) v5 x5_1) ∧ Aside0 (w'.heap[gb148]? = some (.cells #[.string a0_0, .int .i64 a0_1, .int .i64 a0_2, .int .i64 a0_3, .int .i64 a0_4] 55 (0, 0))) ∧ Aside0 (Below w.heap.size w w'))
 case atStart => exact ⟨(y149), (0), zi, H', ⟨Nat.le_refl _⟩, ⟨zr HO151⟩, ⟨zh BK148⟩, ⟨zs1 HB GE148⟩⟩
 case round =>
  clear H'
  try clear c1
  try clear p2
  try clear c3
  obtain ⟨x5_1, x6_1, rfl, HA, HK1, HO_5, BK148, HB⟩ := hrel
  cases gk with
  | zero => exact absurd HA.out (by simp [spec_HandPartOf.l0])
  | succ k1 =>
   have H := HA.out
   clear HA
   simp only [spec_HandPartOf.l0] at H
   have HC6 := Aside0.mk H
   clear H
   go_upto_region 3 with (fail)
   go_cut [15] (fun v15 wc => ∃ (kq : Nat) (x15_5 : Bool), v15 = .bool x15_5 ∧ Aside0 (spec_HandPartOf.j1 kq l1 x5_1 x6_1 x15_5 a0_0 a0_1 a0_2 a0_3 a0_4 = some r) ∧ Aside0 (kq ≤ k1) ∧ Aside0 (Kd.R k41 41 wc w.heap.size (fun _ => True) u5 x5_1) ∧ Aside0 (wc.heap[gb148]? = some (.cells #[.string a0_0, .int .i64 a0_1, .int .i64 a0_2, .int .i64 a0_3, .int .i64 a0_4] 55 (0, 0))) ∧ Aside0 (Below w.heap.size w wc))
   case first =>
    have H := HC6.out
    clear HC6
    by_cases c7 : x6_1 < (l1.length : Int)
    rotate_left
    ·rw [if_neg c7] at H
     have c7b0 : decide (x6_1 < (l1.length : Int)) = false := decide_eq_false c7
     clear c7
     (first | rw [c7b0] | (simp only [i64_w, i32_w]; rw [c7b0]) | skip)
     have H' := Aside0.mk H
     clear H
     go_wp2
     go_meet
     case rel => exact ⟨_, (false), zi, H', ⟨by have := HK1.out; first | omega | exact Nat.le_refl _⟩, ⟨zr HO_5⟩, ⟨zh BK148⟩, ⟨zs1 HB GE148⟩⟩
    rw [if_pos c7] at H
    have c7b0 : decide (x6_1 < (l1.length : Int)) = true := decide_eq_true c7
    clear c7
    (first | rw [c7b0] | (simp only [i64_w, i32_w]; rw [c7b0]) | skip)
    replace H := zbd H; obtain ⟨t152, A8, H⟩ := H
    have H' := Aside0.mk H
    clear H
    obtain ⟨hcz9_0, hcz9_1, hcz9_2, hcz9_3, hcz9_4⟩ := zd5 BK148
    obtain ⟨hfz9_0, hfz9_1, hfz9_2, hfz9_3, hfz9_4⟩ := zn5 BK148
    go_wp2_with (first | (go_at_call 90; (with_reducible refine (spec_l31ZoneOk.calls k1 a0_0 a0_1 a0_2 a0_3 a0_4 t152 _ A8.out).mono ?_); rintro e w10 ⟨rfl, hb⟩; replace HO_5 := Aside0.mk (Kd.R_below (zr HO_5) hb); replace BK148 := zb BK148 hb; replace HB := zE (zs1 HB GE148) hb; (try clear hb); (try clear hb2); (try clear hk); (try clear hi)))
    go_meet
    case rel => exact ⟨_, (t152), zi, H', ⟨by have := HK1.out; first | omega | exact Nat.le_refl _⟩, ⟨zr HO_5⟩, ⟨zh BK148⟩, ⟨zs1 HB GE148⟩⟩
   case rest =>
    clear HC6
    try clear c1
    try clear p2
    try clear c3
    try clear c7
    try clear c7b0
    try clear hcz9_0 hcz9_1 hcz9_2 hcz9_3 hcz9_4 hfz9_0 hfz9_1 hfz9_2 hfz9_3 hfz9_4
    try clear p2
    obtain ⟨kq, x15_5, rfl, HA, HJ5, HO_5, BK148, HB⟩ := hcut
    cases kq with
    | zero => exact absurd HA.out (by simp [spec_HandPartOf.j1])
    | succ kj5 =>
     have H := HA.out
     clear HA
     simp only [spec_HandPartOf.j1] at H
     by_cases c11 : x15_5 = true
     rotate_left
     ·replace c11 := Bool.eq_false_iff.mpr c11
      subst c11
      have H1 : (some x5_1) = some r := by rw [if_neg (show ¬ (false = true) by decide)] at H; exact H
      clear H
      have H := H1
      clear H1
      obtain rfl := Option.some.inj H
      go_wp2
      go_ret
      exact ⟨_, ze, zr HO_5, zs1 HB GE148⟩
     subst c11
     have H1 : (if 0 ≤ x6_1 then (if x6_1 < (l1.length : Int) then ((spec_l31Sees.f a0_0 a0_1 a0_2 a0_3 a0_4 ((rd_T41 l1 x6_1).f0) ((rd_T41 l1 x6_1).f1) ((rd_T41 l1 x6_1).f2) ((rd_T41 l1 x6_1).f3) ((rd_T41 l1 x6_1).f4) ((rd_T41 l1 x6_1).f5)).bind fun t154 => (if t154 = true then (if x5_1.length < 2932031007402 then (spec_HandPartOf.l0 kj5 l1 (x5_1 ++ [(⟨(rd_T41 l1 x6_1).f0, (rd_T41 l1 x6_1).f1, (rd_T41 l1 x6_1).f2, (rd_T41 l1 x6_1).f3, (rd_T41 l1 x6_1).f4, (rd_T41 l1 x6_1).f5⟩ : S41)]) (wrap64 (x6_1 + 1)) a0_0 a0_1 a0_2 a0_3 a0_4) else (none)) else (spec_HandPartOf.l0 kj5 l1 x5_1 (wrap64 (x6_1 + 1)) a0_0 a0_1 a0_2 a0_3 a0_4))) else (none)) else (none)) = some r := by rw [if_pos rfl] at H; exact H
     clear H
     have H := H1
     clear H1
     by_cases c12 : 0 ≤ x6_1
     rotate_left
     ·rw [if_neg c12] at H
      exact absurd H (by simp)
     rw [if_pos c12] at H
     have c12b0 : decide (0 ≤ x6_1) = true := decide_eq_true c12
     clear c12
     by_cases c13 : x6_1 < (l1.length : Int)
     rotate_left
     ·rw [if_neg c13] at H
      exact absurd H (by simp)
     rw [if_pos c13] at H
     have c13b0 : decide (x6_1 < (l1.length : Int)) = true := decide_eq_true c13
     clear c13
     replace H := zbd H; obtain ⟨t154, A14, H⟩ := H
     by_cases c15 : t154 = true
     rotate_left
     ·replace c15 := Bool.eq_false_iff.mpr c15
      subst c15
      have H1 : (spec_HandPartOf.l0 kj5 l1 x5_1 (wrap64 (x6_1 + 1)) a0_0 a0_1 a0_2 a0_3 a0_4) = some r := by rw [if_neg (show ¬ (false = true) by decide)] at H; exact H
      clear H
      have H := H1
      clear H1
      have H' := Aside0.mk H
      clear H
      try go_wp2
      replace HO_5 := Aside0.mk (Kd.R_drew HO_5.out)
      replace BK148 := Aside0.mk (blk_drew BK148.out)
      replace HB := Aside0.mk (below_drew1 HB.out)
      have p153 : 0 ≤ (x6_1 : Int) := za
      have q153 : x6_1 < (l1.length : Int) := za
      obtain ⟨ad153, e153, hx153_0, hx153_1, hx153_2, hx153_3, hx153_4, hx153_5⟩ := at_T41 HR1.out x6_1 p153 q153
      have hw153_5 := hx153_5
      have hw153_4 := hx153_4
      have hw153_3 := hx153_3
      have hw153_2 := hx153_2
      have hw153_1 := hx153_1
      have hw153_0 := hx153_0
      cases e153
      replace hx153_0 := zx HB hx153_0
      replace hx153_1 := zx HB hx153_1
      replace hx153_2 := zx HB hx153_2
      replace hx153_3 := zx HB hx153_3
      replace hx153_4 := zx HB hx153_4
      replace hx153_5 := zx HB hx153_5
      replace p153 := eq_true p153
      replace q153 := eq_true q153
      refine start_ (n := 6) (S := fun w' => w'.cell? ⟨gb148, 0, none⟩ = some (.string a0_0) ∧ w'.cell? ⟨gb148, 1, none⟩ = some (.int .i64 a0_1) ∧ w'.cell? ⟨gb148, 2, none⟩ = some (.int .i64 a0_2) ∧ w'.cell? ⟨gb148, 3, none⟩ = some (.int .i64 a0_3) ∧ w'.cell? ⟨gb148, 4, none⟩ = some (.int .i64 a0_4) ∧ w'.cell? (ad153.add ((x6_1).toNat * 6)) = some (.int .i64 ((rd_T41 l1 x6_1).f0)) ∧ w'.cell? ⟨(ad153.add ((x6_1).toNat * 6)).block, (ad153.add ((x6_1).toNat * 6)).off + 1, none⟩ = some (.int .i64 ((rd_T41 l1 x6_1).f1)) ∧ w'.cell? ⟨(ad153.add ((x6_1).toNat * 6)).block, (ad153.add ((x6_1).toNat * 6)).off + 2, none⟩ = some (.int .i64 ((rd_T41 l1 x6_1).f2)) ∧ w'.cell? ⟨(ad153.add ((x6_1).toNat * 6)).block, (ad153.add ((x6_1).toNat * 6)).off + 3, none⟩ = some (.int .i64 ((rd_T41 l1 x6_1).f3)) ∧ w'.cell? ⟨(ad153.add ((x6_1).toNat * 6)).block, (ad153.add ((x6_1).toNat * 6)).off + 4, none⟩ = some (.int .i64 ((rd_T41 l1 x6_1).f4)) ∧ w'.cell? ⟨(ad153.add ((x6_1).toNat * 6)).block, (ad153.add ((x6_1).toNat * 6)).off + 5, none⟩ = some (.int .i64 ((rd_T41 l1 x6_1).f5))) (ds := []) #[false, false, false, false, false, false] (by kernel_rfl) rfl rfl ⟨(blk_cell BK148.out 0).trans rfl, (blk_cell BK148.out 1).trans rfl, (blk_cell BK148.out 2).trans rfl, (blk_cell BK148.out 3).trans rfl, (blk_cell BK148.out 4).trans rfl, (zw HB hw153_0), (zw HB hw153_1), (zw HB hw153_2), (zw HB hw153_3), (zw HB hw153_4), (zw HB hw153_5)⟩ (fun hHeld => ?_)
      generalize wc.drew = w20 at HO_5 BK148 HB hx153_0 hx153_1 hx153_2 hx153_3 hx153_4 hx153_5 hHeld ⊢
      refine zp 1 ?_
      refine zp 2 ?_
      refine zp 3 ?_
      refine take_ (i := 0) (N := some 18) (v := ?_) (a' := ?_) #[true, true, true, true, false, false] rfl rfl (by kernel_rfl) (fun _ _ _ h => h) (Or.inl ⟨by rfl, ?_⟩) hHeld ?_ ?_; rotate_left; exact zt11; rotate_left; exact zput
      refine take_ (i := 4) (N := some 22) (v := ?_) (a' := ?_) #[true, true, true, true, true, false] rfl rfl (by kernel_rfl) (fun _ _ _ h => h) (Or.inl ⟨by rfl, ?_⟩) hHeld ?_ ?_; rotate_left; exact zt11; rotate_left; exact zput
      refine one_ (i := 5) (N := some 23) #[true, true, true, true, true, true] rfl rfl (by kernel_rfl) (by decide) (fun K hK => ?_)
      refine goes_ Try.func91 (by kernel_rfl) rfl #[.agg #[.string a0_0, .int .i64 a0_1, .int .i64 a0_2, .int .i64 a0_3, .int .i64 a0_4], .agg #[.int .i64 ((rd_T41 l1 x6_1).f0), .int .i64 ((rd_T41 l1 x6_1).f1), .int .i64 ((rd_T41 l1 x6_1).f2), .int .i64 ((rd_T41 l1 x6_1).f3), .int .i64 ((rd_T41 l1 x6_1).f4), .int .i64 ((rd_T41 l1 x6_1).f5)]] (by rfl) rfl rfl zl ?_
      with_reducible refine (spec_l31Sees.calls a0_0 a0_1 a0_2 a0_3 a0_4 ((rd_T41 l1 x6_1).f0) ((rd_T41 l1 x6_1).f1) ((rd_T41 l1 x6_1).f2) ((rd_T41 l1 x6_1).f3) ((rd_T41 l1 x6_1).f4) ((rd_T41 l1 x6_1).f5) false _ A14.out).mono ?_
      rintro e w21 ⟨rfl, hb⟩
      refine ⟨_, rfl, ?_⟩
      replace HO_5 := Aside0.mk (Kd.R_below (zr HO_5) hb)
      replace BK148 := zb BK148 hb
      replace HB := zE (zs1 HB GE148) hb
      (try clear hb)
      (try clear hb2)
      (try clear hk)
      (try clear hi)
      refine hK.out _ _ ⟨(blk_cell BK148.out 0).trans rfl, (blk_cell BK148.out 1).trans rfl, (blk_cell BK148.out 2).trans rfl, (blk_cell BK148.out 3).trans rfl, (blk_cell BK148.out 4).trans rfl, (zw HB hw153_0), (zw HB hw153_1), (zw HB hw153_2), (zw HB hw153_3), (zw HB hw153_4), (zw HB hw153_5)⟩ (fun hHeld => ?_)
      clear hK K
      refine zN ?_
      refine done_ (by kernel_rfl) ?_
      try go_wp2
      go_roundg kj5
      case measure => have := HK1.out; have := HJ5.out; omega
      case rel => exact ⟨(x5_1), (wrap64 (x6_1 + 1)), zi, H', ⟨by have := HK1.out; have := HJ5.out; omega⟩, ⟨zr HO_5⟩, ⟨zh BK148⟩, ⟨zs1 HB GE148⟩⟩
     subst c15
     have H1 : (if x5_1.length < 2932031007402 then (spec_HandPartOf.l0 kj5 l1 (x5_1 ++ [(⟨(rd_T41 l1 x6_1).f0, (rd_T41 l1 x6_1).f1, (rd_T41 l1 x6_1).f2, (rd_T41 l1 x6_1).f3, (rd_T41 l1 x6_1).f4, (rd_T41 l1 x6_1).f5⟩ : S41)]) (wrap64 (x6_1 + 1)) a0_0 a0_1 a0_2 a0_3 a0_4) else (none)) = some r := by rw [if_pos rfl] at H; exact H
     clear H
     have H := H1
     clear H1
     by_cases c16 : x5_1.length < 2932031007402
     rotate_left
     ·rw [if_neg c16] at H
      exact absurd H (by simp)
     rw [if_pos c16] at H
     have LMc16 := Aside0.mk c16
     clear c16
     obtain ⟨y156, hy156⟩ : ∃ y_ : List (S41), y_ = (x5_1 ++ [(⟨(rd_T41 l1 x6_1).f0, (rd_T41 l1 x6_1).f1, (rd_T41 l1 x6_1).f2, (rd_T41 l1 x6_1).f3, (rd_T41 l1 x6_1).f4, (rd_T41 l1 x6_1).f5⟩ : S41)]) := ⟨_, rfl⟩
     replace H : (spec_HandPartOf.l0 kj5 l1 y156 (wrap64 (x6_1 + 1)) a0_0 a0_1 a0_2 a0_3 a0_4) = some r := by first | (rw [hy156]; with_reducible exact H) | (have H2_ := (Option.bind_some _ _).symm.trans H; rw [hy156]; with_reducible exact H2_) | (have H2_ := (Option.bind_some _ _).symm.trans H; with_reducible exact H2_) | with_reducible exact H | (rw [hy156]; exact H) | exact H
     have Ny156 := Aside0.mk hy156
     clear hy156
     have H' := Aside0.mk H
     clear H
     try go_wp2
     replace HO_5 := Aside0.mk (Kd.R_drew HO_5.out)
     replace BK148 := Aside0.mk (blk_drew BK148.out)
     replace HB := Aside0.mk (below_drew1 HB.out)
     have p153 : 0 ≤ (x6_1 : Int) := za
     have q153 : x6_1 < (l1.length : Int) := za
     obtain ⟨ad153, e153, hx153_0, hx153_1, hx153_2, hx153_3, hx153_4, hx153_5⟩ := at_T41 HR1.out x6_1 p153 q153
     have hw153_5 := hx153_5
     have hw153_4 := hx153_4
     have hw153_3 := hx153_3
     have hw153_2 := hx153_2
     have hw153_1 := hx153_1
     have hw153_0 := hx153_0
     cases e153
     replace hx153_0 := zx HB hx153_0
     replace hx153_1 := zx HB hx153_1
     replace hx153_2 := zx HB hx153_2
     replace hx153_3 := zx HB hx153_3
     replace hx153_4 := zx HB hx153_4
     replace hx153_5 := zx HB hx153_5
     replace p153 := eq_true p153
     replace q153 := eq_true q153
     refine start_ (n := 6) (S := fun w' => w'.cell? ⟨gb148, 0, none⟩ = some (.string a0_0) ∧ w'.cell? ⟨gb148, 1, none⟩ = some (.int .i64 a0_1) ∧ w'.cell? ⟨gb148, 2, none⟩ = some (.int .i64 a0_2) ∧ w'.cell? ⟨gb148, 3, none⟩ = some (.int .i64 a0_3) ∧ w'.cell? ⟨gb148, 4, none⟩ = some (.int .i64 a0_4) ∧ w'.cell? (ad153.add ((x6_1).toNat * 6)) = some (.int .i64 ((rd_T41 l1 x6_1).f0)) ∧ w'.cell? ⟨(ad153.add ((x6_1).toNat * 6)).block, (ad153.add ((x6_1).toNat * 6)).off + 1, none⟩ = some (.int .i64 ((rd_T41 l1 x6_1).f1)) ∧ w'.cell? ⟨(ad153.add ((x6_1).toNat * 6)).block, (ad153.add ((x6_1).toNat * 6)).off + 2, none⟩ = some (.int .i64 ((rd_T41 l1 x6_1).f2)) ∧ w'.cell? ⟨(ad153.add ((x6_1).toNat * 6)).block, (ad153.add ((x6_1).toNat * 6)).off + 3, none⟩ = some (.int .i64 ((rd_T41 l1 x6_1).f3)) ∧ w'.cell? ⟨(ad153.add ((x6_1).toNat * 6)).block, (ad153.add ((x6_1).toNat * 6)).off + 4, none⟩ = some (.int .i64 ((rd_T41 l1 x6_1).f4)) ∧ w'.cell? ⟨(ad153.add ((x6_1).toNat * 6)).block, (ad153.add ((x6_1).toNat * 6)).off + 5, none⟩ = some (.int .i64 ((rd_T41 l1 x6_1).f5))) (ds := []) #[false, false, false, false, false, false] (by kernel_rfl) rfl rfl ⟨(blk_cell BK148.out 0).trans rfl, (blk_cell BK148.out 1).trans rfl, (blk_cell BK148.out 2).trans rfl, (blk_cell BK148.out 3).trans rfl, (blk_cell BK148.out 4).trans rfl, (zw HB hw153_0), (zw HB hw153_1), (zw HB hw153_2), (zw HB hw153_3), (zw HB hw153_4), (zw HB hw153_5)⟩ (fun hHeld => ?_)
     generalize wc.drew = w17 at HO_5 BK148 HB hx153_0 hx153_1 hx153_2 hx153_3 hx153_4 hx153_5 hHeld ⊢
     refine zp 1 ?_
     refine zp 2 ?_
     refine zp 3 ?_
     refine take_ (i := 0) (N := some 18) (v := ?_) (a' := ?_) #[true, true, true, true, false, false] rfl rfl (by kernel_rfl) (fun _ _ _ h => h) (Or.inl ⟨by rfl, ?_⟩) hHeld ?_ ?_; rotate_left; exact zt11; rotate_left; exact zput
     refine take_ (i := 4) (N := some 22) (v := ?_) (a' := ?_) #[true, true, true, true, true, false] rfl rfl (by kernel_rfl) (fun _ _ _ h => h) (Or.inl ⟨by rfl, ?_⟩) hHeld ?_ ?_; rotate_left; exact zt11; rotate_left; exact zput
     refine one_ (i := 5) (N := some 23) #[true, true, true, true, true, true] rfl rfl (by kernel_rfl) (by decide) (fun K hK => ?_)
     refine goes_ Try.func91 (by kernel_rfl) rfl #[.agg #[.string a0_0, .int .i64 a0_1, .int .i64 a0_2, .int .i64 a0_3, .int .i64 a0_4], .agg #[.int .i64 ((rd_T41 l1 x6_1).f0), .int .i64 ((rd_T41 l1 x6_1).f1), .int .i64 ((rd_T41 l1 x6_1).f2), .int .i64 ((rd_T41 l1 x6_1).f3), .int .i64 ((rd_T41 l1 x6_1).f4), .int .i64 ((rd_T41 l1 x6_1).f5)]] (by rfl) rfl rfl zl ?_
     with_reducible refine (spec_l31Sees.calls a0_0 a0_1 a0_2 a0_3 a0_4 ((rd_T41 l1 x6_1).f0) ((rd_T41 l1 x6_1).f1) ((rd_T41 l1 x6_1).f2) ((rd_T41 l1 x6_1).f3) ((rd_T41 l1 x6_1).f4) ((rd_T41 l1 x6_1).f5) true _ A14.out).mono ?_
     rintro e w18 ⟨rfl, hb⟩
     refine ⟨_, rfl, ?_⟩
     replace HO_5 := Aside0.mk (Kd.R_below (zr HO_5) hb)
     replace BK148 := zb BK148 hb
     replace HB := zE (zs1 HB GE148) hb
     (try clear hb)
     (try clear hb2)
     (try clear hk)
     (try clear hi)
     refine hK.out _ _ ⟨(blk_cell BK148.out 0).trans rfl, (blk_cell BK148.out 1).trans rfl, (blk_cell BK148.out 2).trans rfl, (blk_cell BK148.out 3).trans rfl, (blk_cell BK148.out 4).trans rfl, (zw HB hw153_0), (zw HB hw153_1), (zw HB hw153_2), (zw HB hw153_3), (zw HB hw153_4), (zw HB hw153_5)⟩ (fun hHeld => ?_)
     clear hK K
     refine zN ?_
     refine done_ (by kernel_rfl) ?_
     have p155 : 0 ≤ (x6_1 : Int) := za
     have q155 : x6_1 < (l1.length : Int) := za
     obtain ⟨ad155, e155, hx155_0, hx155_1, hx155_2, hx155_3, hx155_4, hx155_5⟩ := at_T41 HR1.out x6_1 p155 q155
     obtain rfl : ad153 = ad155 := (by injection e155)
     replace hx155_0 := zx HB hx155_0
     replace hx155_1 := zx HB hx155_1
     replace hx155_2 := zx HB hx155_2
     replace hx155_3 := zx HB hx155_3
     replace hx155_4 := zx HB hx155_4
     replace hx155_5 := zx HB hx155_5
     replace p155 := eq_true p155
     replace q155 := eq_true q155
     try go_wp2_with (first | ((with_reducible refine gate_builtin (b := .append) (xs := #[.tmp 24, .tmp 29]) rfl ?_); at_builtin; refine Kd.R_append k41 (w0 := w) w.heap.size rfl (.tmp 24) (.tmp 29) 29 41 (.agg #[(.int .i64 0), (.int .i64 0), (.int .i64 0), (.int .i64 0), (.int .i64 0), (.int .i64 0)]) 48 rfl Try.underlying29 info41 rfl (by decide) (by omega) u5 x5_1 (⟨(rd_T41 l1 x6_1).f0, (rd_T41 l1 x6_1).f1, (rd_T41 l1 x6_1).f2, (rd_T41 l1 x6_1).f3, (rd_T41 l1 x6_1).f4, (rd_T41 l1 x6_1).f5⟩ : S41) [.int .i64 ((rd_T41 l1 x6_1).f0), .int .i64 ((rd_T41 l1 x6_1).f1), .int .i64 ((rd_T41 l1 x6_1).f2), .int .i64 ((rd_T41 l1 x6_1).f3), .int .i64 ((rd_T41 l1 x6_1).f4), .int .i64 ((rd_T41 l1 x6_1).f5)] (fun _ => True) (fun _ => False) rfl rfl ?aP (fun _ hk => hk.elim) ?aF ?aO ?aB ?aS ?aL ?_; (case aP => exact k41_mkM _ _ _ (⟨(rd_T41 l1 x6_1).f0, (rd_T41 l1 x6_1).f1, (rd_T41 l1 x6_1).f2, (rd_T41 l1 x6_1).f3, (rd_T41 l1 x6_1).f4, (rd_T41 l1 x6_1).f5⟩ : S41)); (case aB => exact (zs1 HB GE148)); (case aF => exact (fun _ _ => trivial)); (case aO => exact (zr HO_5)); (case aS => exact (below_size (zs1 HB GE148))); (case aL => have := LMc16.out; omega); intro v157 w19 ho hb hg hat; rw [← Ny156.out] at ho; have HO158 := Aside0.mk (ho); replace BK148 := Aside0.mk (blk_grown (g := gb148) (o := .cells #[.string a0_0, .int .i64 a0_1, .int .i64 a0_2, .int .i64 a0_3, .int .i64 a0_4] 55 (0, 0)) (zh BK148) hg (Kd.R_ne HO_5.out BK148.out (by decide))); replace HB := Aside0.mk (hb); clear HO_5; clear ho hb hg hat))
     go_roundg kj5
     case measure => have := HK1.out; have := HJ5.out; omega
     case rel => exact ⟨(y156), (wrap64 (x6_1 + 1)), zi, H', ⟨by have := HK1.out; have := HJ5.out; omega⟩, ⟨zr HO158⟩, ⟨zh BK148⟩, ⟨zs1 HB GE148⟩⟩
def laws_toHandZone.f (a0_0 : ByteArray) (a0_1 : Int) (a0_2 : Int) (a0_3 : Int) (a0_4 : Int) : Option (ByteArray × Int × Int × Int × Int) := some (a0_0, a0_1, a0_2, a0_3, a0_4)
set_option maxHeartbeats 8000000 in
set_option maxRecDepth 100000 in
theorem laws_toHandZone.calls (a0_0 : ByteArray) (a0_1 : Int) (a0_2 : Int) (a0_3 : Int) (a0_4 : Int) (r1 : ByteArray) (r2 : Int) (r3 : Int) (r4 : Int) (r5 : Int) (w : World) (h : laws_toHandZone.f a0_0 a0_1 a0_2 a0_3 a0_4 = some (r1, r2, r3, r4, r5)) :
 Calls Try.prog 31 #[.agg #[.string a0_0, .int .i64 a0_1, .int .i64 a0_2, .int .i64 a0_3, .int .i64 a0_4]] w fun e w' => e = .returned (.agg #[.string r1, .int .i64 r2, .int .i64 r3, .int .i64 r4, .int .i64 r5]) ∧ Below w.heap.size w w' := by
 have hu52 := Try.underlying52
 have hu55 := Try.underlying55
 have HB := Aside0.mk (Below.refl w.heap.size w)
 have H : (some (a0_0, a0_1, a0_2, a0_3, a0_4)) = some (r1, r2, r3, r4, r5) := h
 clear h
 simp only [Option.some.injEq, Prod.mk.injEq] at H
 obtain ⟨rfl, rfl, rfl, rfl, rfl⟩ := H
 go_enter Try.func31, Try.ntmps31
 go_wp2_with (first | ((with_reducible refine gate_dst (N := 1) rfl ?_); refine box_event (by rfl) (N := 1) (by rfl) (cs := #[.string a0_0, .int .i64 a0_1, .int .i64 a0_2, .int .i64 a0_3, .int .i64 a0_4]) (t := 52) zg ?_; intro gb159 hg w2 hbox hb; have BK159 := zA hbox; have GW159 := zgs hg (zs0 HB); have GE159 := zgs hg (zs0 HB); replace HB := zE (zs0 HB) hb; clear hb hbox hg) | ((with_reducible refine gate_dst (N := 2) rfl ?_); refine box_event (by rfl) (N := 2) (by rfl) (cs := #[.string (⟨#[]⟩ : ByteArray), .int .i64 0, .int .i64 0, .int .i64 0, .int .i64 0]) (t := 55) zg ?_; intro gb160 hg w3 hbox hb; have BK160 := zA hbox; have GW160 := zgs hg (zs1 HB GE159); have GE160 := zgs hg (zs1 HB GE159); have NB159_160 := zne hg BK159; have NB160_159 := znf hg BK159; replace BK159 := zb BK159 hb; replace HB := zE (zs1 HB GE159) hb; clear hb hbox hg) | ((with_reducible refine gate_dst (N := 3) rfl ?_); refine box_event (by rfl) (N := 3) (by rfl) (cs := #[.string (⟨#[]⟩ : ByteArray), .int .i64 0, .int .i64 0, .int .i64 0, .int .i64 0]) (t := 55) zg ?_; intro gb161 hg w4 hbox hb; have BK161 := zA hbox; have GW161 := zgs hg (zs2 HB GE159 GE160); have GE161 := zgs hg (zs2 HB GE159 GE160); have NB159_161 := zne hg BK159; have NB161_159 := znf hg BK159; have NB160_161 := zne hg BK160; have NB161_160 := znf hg BK160; replace BK159 := zb BK159 hb; replace BK160 := zb BK160 hb; replace HB := zE (zs2 HB GE159 GE160) hb; clear hb hbox hg; have hnb5 := NB159_160.out; have hnc5 := NB160_159.out; have hnb6 := NB159_161.out; have hnc6 := NB161_159.out; obtain ⟨hcz7_0, hcz7_1, hcz7_2, hcz7_3, hcz7_4⟩ := zd5 BK159; obtain ⟨hfz7_0, hfz7_1, hfz7_2, hfz7_3, hfz7_4⟩ := zn5 BK159; have hnb8 := NB161_160.out; have hnc8 := NB160_161.out; obtain ⟨hcz9_0, hcz9_1, hcz9_2, hcz9_3, hcz9_4⟩ := zd5 BK161; obtain ⟨hfz9_0, hfz9_1, hfz9_2, hfz9_3, hfz9_4⟩ := zn5 BK161; obtain ⟨hcz10_0, hcz10_1, hcz10_2, hcz10_3, hcz10_4⟩ := zd5 BK160; obtain ⟨hfz10_0, hfz10_1, hfz10_2, hfz10_3, hfz10_4⟩ := zn5 BK160))
 refine bodyPost_ret (results_cell_row rfl _ _ gb160 55 #[.string a0_0, .int .i64 a0_1, .int .i64 a0_2, .int .i64 a0_3, .int .i64 a0_4] (0, 0) _ rfl (by (with_reducible repeat (first | refine blk_drewN ?_ _ | refine blk_drew ?_ | refine blk_alloc ?_ _)); refine blk_put (cs := #[.string a0_0, .int .i64 a0_1, .int .i64 a0_2, .int .i64 a0_3, .int .i64 0]) ?_ 4 _ rfl; (with_reducible repeat (first | refine blk_drewN ?_ _ | refine blk_drew ?_ | refine blk_alloc ?_ _)); refine blk_put (cs := #[.string a0_0, .int .i64 a0_1, .int .i64 a0_2, .int .i64 0, .int .i64 0]) ?_ 3 _ rfl; (with_reducible repeat (first | refine blk_drewN ?_ _ | refine blk_drew ?_ | refine blk_alloc ?_ _)); refine blk_put (cs := #[.string a0_0, .int .i64 a0_1, .int .i64 0, .int .i64 0, .int .i64 0]) ?_ 2 _ rfl; (with_reducible repeat (first | refine blk_drewN ?_ _ | refine blk_drew ?_ | refine blk_alloc ?_ _)); refine blk_put (cs := #[.string a0_0, .int .i64 0, .int .i64 0, .int .i64 0, .int .i64 0]) ?_ 1 _ rfl; (with_reducible repeat (first | refine blk_drewN ?_ _ | refine blk_drew ?_ | refine blk_alloc ?_ _)); refine blk_put (cs := #[.string (⟨#[]⟩ : ByteArray), .int .i64 0, .int .i64 0, .int .i64 0, .int .i64 0]) ?_ 0 _ rfl; (with_reducible repeat (first | refine blk_drewN ?_ _ | refine blk_drew ?_ | refine blk_alloc ?_ _)); refine blk_far ?_ NB160_161.out _; (with_reducible repeat (first | refine blk_drewN ?_ _ | refine blk_drew ?_ | refine blk_alloc ?_ _)); refine blk_far ?_ NB160_161.out _; (with_reducible repeat (first | refine blk_drewN ?_ _ | refine blk_drew ?_ | refine blk_alloc ?_ _)); refine blk_far ?_ NB160_161.out _; (with_reducible repeat (first | refine blk_drewN ?_ _ | refine blk_drew ?_ | refine blk_alloc ?_ _)); refine blk_far ?_ NB160_161.out _; (with_reducible repeat (first | refine blk_drewN ?_ _ | refine blk_drew ?_ | refine blk_alloc ?_ _)); refine blk_far ?_ NB160_161.out _; (with_reducible repeat (first | refine blk_drewN ?_ _ | refine blk_drew ?_ | refine blk_alloc ?_ _)); exact BK160.out) Try.underlying55 rfl (by kernel_rfl)) rfl ?_
 exact ⟨ze, zs3 HB GE159 GE160 GE161⟩
def impl_within.f (a0 : Int) (a1 : Int) (a2 : Int) : Option (Bool) := if a0 ≥ a1 then (some (decide (a0 ≤ a2))) else (some false)
set_option maxHeartbeats 8000000 in
set_option maxRecDepth 100000 in
theorem impl_within.calls (a0 : Int) (a1 : Int) (a2 : Int) (r : Bool) (w : World) (h : impl_within.f a0 a1 a2 = some r) :
 Calls Try.prog 93 #[.int .i64 a0, .int .i64 a1, .int .i64 a2] w fun e w' => e = .returned (.bool r) ∧ Drawn0 w w' := by
 have H : (if a0 ≥ a1 then (some (decide (a0 ≤ a2))) else (some false)) = some r := h
 clear h
 by_cases c4 : a0 ≥ a1
 ·rw [if_pos c4] at H
  have c4b0 : decide (a1 ≤ a0) = true := decide_eq_true c4
  clear c4
  obtain rfl := Option.some.inj H
  go_enter Try.func93, Try.ntmps93
  go_wp2
  go_ret
  exact ⟨by first | rfl | (simp; done) | (simp [*]; done), by repeat (first | exact Drawn0.refl _ | apply Drawn0.step)⟩
 rw [if_neg c4] at H
 have c4b0 : decide (a1 ≤ a0) = false := decide_eq_false c4
 clear c4
 obtain rfl := Option.some.inj H
 go_enter Try.func93, Try.ntmps93
 go_wp2
 go_ret
 exact ⟨by first | rfl | (simp; done) | (simp [*]; done), by repeat (first | exact Drawn0.refl _ | apply Drawn0.step)⟩
end Go.Proofs.Ytbmplfpnhjhoiaa.QFnExactHandPartOf
