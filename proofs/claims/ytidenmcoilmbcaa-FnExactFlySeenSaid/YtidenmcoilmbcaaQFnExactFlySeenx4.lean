/- The walk of what the law FnExactFlySeen reaches: laid by a program of this session (ownprint.py). -/
import Derived.Test.YtidenmcoilmbcaaQFnExactFlySeenx0
import Derived.Test.YtidenmcoilmbcaaQFnExactFlySeenx3
namespace Go.Proofs.Ytidenmcoilmbcaa.QFnExactFlySeen
open Go.RowKit Go.Proofs.YtidenmcoilmbcaaW.PrintWords Go.Proofs.YtidenmcoilmbcaaW.PrintLast Go.Proofs.YtidenmcoilmbcaaW.PrintMore Go.Proofs.Ytidenmcoilmbcaa.Z
attribute [local go_sem] max2_int min2_int max_two min_two max_three min_three max_four min_four zdn   -- for this text's walks alone
set_option linter.unusedVariables false
set_option linter.unusedSimpArgs false
def spec_l22Next.f (a0_0 : Int) (a0_1 : Int) (a0_2 : Int) (a0_3 : Int) (a0_4 : Int) (a0_5 : Int) (a0_6 : Bool) (a1_0 : Int) (a1_1 : Int) (a1_2 : Int) (a1_3 : Int) (a1_4 : Int) (a1_5 : Int) (a1_6 : Bool) : Option (Bool) := (spec_l21In.f (wrap64 (a0_0 - a1_0)) (-1) 1).bind fun t168 => (if t168 = true then ((spec_l21In.f (wrap64 (a0_1 - a1_1)) (-1) 1).bind fun t169 => (if t169 = true then (if a0_0 = a1_0 then (if a0_1 = a1_1 then (some false) else (if a0_2 ≤ a1_3 then (some (decide (a1_2 ≤ a0_3))) else (some false))) else (if a0_2 ≤ a1_3 then (some (decide (a1_2 ≤ a0_3))) else (some false))) else (some false))) else (some false))
set_option maxHeartbeats 8000000 in
set_option maxRecDepth 100000 in
theorem spec_l22Next.calls (a0_0 : Int) (a0_1 : Int) (a0_2 : Int) (a0_3 : Int) (a0_4 : Int) (a0_5 : Int) (a0_6 : Bool) (a1_0 : Int) (a1_1 : Int) (a1_2 : Int) (a1_3 : Int) (a1_4 : Int) (a1_5 : Int) (a1_6 : Bool) (r : Bool) (w : World) (h : spec_l22Next.f a0_0 a0_1 a0_2 a0_3 a0_4 a0_5 a0_6 a1_0 a1_1 a1_2 a1_3 a1_4 a1_5 a1_6 = some r) :
 Calls Try.prog 76 #[.agg #[.int .i64 a0_0, .int .i64 a0_1, .int .i64 a0_2, .int .i64 a0_3, .int .i64 a0_4, .int .i64 a0_5, .bool a0_6], .agg #[.int .i64 a1_0, .int .i64 a1_1, .int .i64 a1_2, .int .i64 a1_3, .int .i64 a1_4, .int .i64 a1_5, .bool a1_6]] w fun e w' => e = .returned (.bool r) ∧ Below w.heap.size w w' := by
 have hu88 := Try.underlying88
 have HB := zA (Below.refl w.heap.size w)
 have H : ((spec_l21In.f (wrap64 (a0_0 - a1_0)) (-1) 1).bind fun t168 => (if t168 = true then ((spec_l21In.f (wrap64 (a0_1 - a1_1)) (-1) 1).bind fun t169 => (if t169 = true then (if a0_0 = a1_0 then (if a0_1 = a1_1 then (some false) else (if a0_2 ≤ a1_3 then (some (decide (a1_2 ≤ a0_3))) else (some false))) else (if a0_2 ≤ a1_3 then (some (decide (a1_2 ≤ a0_3))) else (some false))) else (some false))) else (some false))) = some r := h
 clear h
 replace H := zbd H; obtain ⟨t168, A3, H⟩ := H
 by_cases c4 : t168 = true
 rotate_left
 ·replace c4 := Bool.eq_false_iff.mpr c4
  subst c4
  have H1 : (some false) = some r := by rw [if_neg (show ¬ (false = true) by decide)] at H; exact H
  clear H
  have H := H1
  clear H1
  obtain rfl := Option.some.inj H
  go_enter Try.func76, Try.ntmps76
  go_wp2_with (first | ((with_reducible refine gate_dst (N := 2) rfl ?_); refine zbx 2 #[.int .i64 a0_0, .int .i64 a0_1, .int .i64 a0_2, .int .i64 a0_3, .int .i64 a0_4, .int .i64 a0_5, .bool a0_6] 88 ?_; intro gb166 hg w41 hbox hb; have BK166 := zA hbox; have GW166 := zgs hg (zs0 HB); have GE166 := zgs hg (zs0 HB); replace HB := zE (zs0 HB) hb; clear hb hbox hg) | ((with_reducible refine gate_dst (N := 3) rfl ?_); refine zbx 3 #[.int .i64 a1_0, .int .i64 a1_1, .int .i64 a1_2, .int .i64 a1_3, .int .i64 a1_4, .int .i64 a1_5, .bool a1_6] 88 ?_; intro gb167 hg w42 hbox hb; have BK167 := zA hbox; have GW167 := zgs hg (zs1 HB GE166); have GE167 := zgs hg (zs1 HB GE166); have NB166_167 := zne hg BK166; have NB167_166 := znf hg BK166; replace BK166 := zb BK166 hb; replace HB := zE (zs1 HB GE166) hb; clear hb hbox hg; have hnb43 := NB166_167.out; have hnc43 := NB167_166.out; obtain ⟨hcz44_0, hcz44_1, hcz44_2, hcz44_3, hcz44_4, hcz44_5, hcz44_6⟩ := zd7 BK166; obtain ⟨hfz44_0, hfz44_1, hfz44_2, hfz44_3, hfz44_4, hfz44_5, hfz44_6⟩ := zn7 BK166; obtain ⟨hcz45_0, hcz45_1, hcz45_2, hcz45_3, hcz45_4, hcz45_5, hcz45_6⟩ := zd7 BK167; obtain ⟨hfz45_0, hfz45_1, hfz45_2, hfz45_3, hfz45_4, hfz45_5, hfz45_6⟩ := zn7 BK167) | ((with_reducible refine gate_callee (f := 70) rfl ?_); refine zgl Try.func70 #[.int .i64 (wrap64 (a0_0 - a1_0)), .int .i64 (-1), .int .i64 1] ?_; (with_reducible refine (spec_l21In.calls (wrap64 (a0_0 - a1_0)) (-1) 1 false _ A3.out).mono ?_); rintro e w' ⟨rfl, ⟨nd, rfl⟩⟩; refine ⟨_, rfl, ?_⟩))
  go_ret
  exact ⟨ze, zs2 HB GE166 GE167⟩
 subst c4
 have H1 : ((spec_l21In.f (wrap64 (a0_1 - a1_1)) (-1) 1).bind fun t169 => (if t169 = true then (if a0_0 = a1_0 then (if a0_1 = a1_1 then (some false) else (if a0_2 ≤ a1_3 then (some (decide (a1_2 ≤ a0_3))) else (some false))) else (if a0_2 ≤ a1_3 then (some (decide (a1_2 ≤ a0_3))) else (some false))) else (some false))) = some r := by rw [if_pos rfl] at H; exact H
 clear H
 have H := H1
 clear H1
 replace H := zbd H; obtain ⟨t169, A5, H⟩ := H
 by_cases c6 : t169 = true
 rotate_left
 ·replace c6 := Bool.eq_false_iff.mpr c6
  subst c6
  have H1 : (some false) = some r := by rw [if_neg (show ¬ (false = true) by decide)] at H; exact H
  clear H
  have H := H1
  clear H1
  obtain rfl := Option.some.inj H
  go_enter Try.func76, Try.ntmps76
  go_wp2_with (first | ((with_reducible refine gate_dst (N := 2) rfl ?_); refine zbx 2 #[.int .i64 a0_0, .int .i64 a0_1, .int .i64 a0_2, .int .i64 a0_3, .int .i64 a0_4, .int .i64 a0_5, .bool a0_6] 88 ?_; intro gb166 hg w36 hbox hb; have BK166 := zA hbox; have GW166 := zgs hg (zs0 HB); have GE166 := zgs hg (zs0 HB); replace HB := zE (zs0 HB) hb; clear hb hbox hg) | ((with_reducible refine gate_dst (N := 3) rfl ?_); refine zbx 3 #[.int .i64 a1_0, .int .i64 a1_1, .int .i64 a1_2, .int .i64 a1_3, .int .i64 a1_4, .int .i64 a1_5, .bool a1_6] 88 ?_; intro gb167 hg w37 hbox hb; have BK167 := zA hbox; have GW167 := zgs hg (zs1 HB GE166); have GE167 := zgs hg (zs1 HB GE166); have NB166_167 := zne hg BK166; have NB167_166 := znf hg BK166; replace BK166 := zb BK166 hb; replace HB := zE (zs1 HB GE166) hb; clear hb hbox hg; have hnb38 := NB166_167.out; have hnc38 := NB167_166.out; obtain ⟨hcz39_0, hcz39_1, hcz39_2, hcz39_3, hcz39_4, hcz39_5, hcz39_6⟩ := zd7 BK166; obtain ⟨hfz39_0, hfz39_1, hfz39_2, hfz39_3, hfz39_4, hfz39_5, hfz39_6⟩ := zn7 BK166; obtain ⟨hcz40_0, hcz40_1, hcz40_2, hcz40_3, hcz40_4, hcz40_5, hcz40_6⟩ := zd7 BK167; obtain ⟨hfz40_0, hfz40_1, hfz40_2, hfz40_3, hfz40_4, hfz40_5, hfz40_6⟩ := zn7 BK167) | ((with_reducible refine gate_callee (f := 70) rfl ?_); refine zgl Try.func70 #[.int .i64 (wrap64 (a0_0 - a1_0)), .int .i64 (-1), .int .i64 1] ?_; (with_reducible refine (spec_l21In.calls (wrap64 (a0_0 - a1_0)) (-1) 1 true _ A3.out).mono ?_); rintro e w' ⟨rfl, ⟨nd, rfl⟩⟩; refine ⟨_, rfl, ?_⟩) | (go_at_call 70; (with_reducible refine (spec_l21In.calls (wrap64 (a0_1 - a1_1)) (-1) 1 false _ A5.out).mono ?_); rintro e w' ⟨rfl, ⟨nd, rfl⟩⟩))
  go_ret
  exact ⟨ze, zs2 HB GE166 GE167⟩
 subst c6
 have H1 : (if a0_0 = a1_0 then (if a0_1 = a1_1 then (some false) else (if a0_2 ≤ a1_3 then (some (decide (a1_2 ≤ a0_3))) else (some false))) else (if a0_2 ≤ a1_3 then (some (decide (a1_2 ≤ a0_3))) else (some false))) = some r := by rw [if_pos rfl] at H; exact H
 clear H
 have H := H1
 clear H1
 by_cases c7 : a0_0 = a1_0
 rotate_left
 ·rw [if_neg c7] at H
  have c7b0 : (a0_0 == a1_0) = false := beq_eq_false_iff_ne.mpr c7
  have c7b1 : (a0_0 != a1_0) = true := bne_iff_ne.mpr c7
  by_cases c25 : a0_2 ≤ a1_3
  ·rw [if_pos c25] at H
   have c25b0 : decide (a0_2 ≤ a1_3) = true := decide_eq_true c25
   clear c25
   obtain rfl := Option.some.inj H
   go_enter Try.func76, Try.ntmps76
   go_wp2_with (first | ((with_reducible refine gate_dst (N := 2) rfl ?_); refine zbx 2 #[.int .i64 a0_0, .int .i64 a0_1, .int .i64 a0_2, .int .i64 a0_3, .int .i64 a0_4, .int .i64 a0_5, .bool a0_6] 88 ?_; intro gb166 hg w26 hbox hb; have BK166 := zA hbox; have GW166 := zgs hg (zs0 HB); have GE166 := zgs hg (zs0 HB); replace HB := zE (zs0 HB) hb; clear hb hbox hg) | ((with_reducible refine gate_dst (N := 3) rfl ?_); refine zbx 3 #[.int .i64 a1_0, .int .i64 a1_1, .int .i64 a1_2, .int .i64 a1_3, .int .i64 a1_4, .int .i64 a1_5, .bool a1_6] 88 ?_; intro gb167 hg w27 hbox hb; have BK167 := zA hbox; have GW167 := zgs hg (zs1 HB GE166); have GE167 := zgs hg (zs1 HB GE166); have NB166_167 := zne hg BK166; have NB167_166 := znf hg BK166; replace BK166 := zb BK166 hb; replace HB := zE (zs1 HB GE166) hb; clear hb hbox hg; have hnb28 := NB166_167.out; have hnc28 := NB167_166.out; obtain ⟨hcz29_0, hcz29_1, hcz29_2, hcz29_3, hcz29_4, hcz29_5, hcz29_6⟩ := zd7 BK166; obtain ⟨hfz29_0, hfz29_1, hfz29_2, hfz29_3, hfz29_4, hfz29_5, hfz29_6⟩ := zn7 BK166; obtain ⟨hcz30_0, hcz30_1, hcz30_2, hcz30_3, hcz30_4, hcz30_5, hcz30_6⟩ := zd7 BK167; obtain ⟨hfz30_0, hfz30_1, hfz30_2, hfz30_3, hfz30_4, hfz30_5, hfz30_6⟩ := zn7 BK167) | ((with_reducible refine gate_callee (f := 70) rfl ?_); refine zgl Try.func70 #[.int .i64 (wrap64 (a0_0 - a1_0)), .int .i64 (-1), .int .i64 1] ?_; (with_reducible refine (spec_l21In.calls (wrap64 (a0_0 - a1_0)) (-1) 1 true _ A3.out).mono ?_); rintro e w' ⟨rfl, ⟨nd, rfl⟩⟩; refine ⟨_, rfl, ?_⟩) | (go_at_call 70; (with_reducible refine (spec_l21In.calls (wrap64 (a0_1 - a1_1)) (-1) 1 true _ A5.out).mono ?_); rintro e w' ⟨rfl, ⟨nd, rfl⟩⟩))
   go_ret
   exact ⟨ze, zs2 HB GE166 GE167⟩
  rw [if_neg c25] at H
  have c25b0 : decide (a0_2 ≤ a1_3) = false := decide_eq_false c25
  clear c25
  obtain rfl := Option.some.inj H
  go_enter Try.func76, Try.ntmps76
  go_wp2_with (first | ((with_reducible refine gate_dst (N := 2) rfl ?_); refine zbx 2 #[.int .i64 a0_0, .int .i64 a0_1, .int .i64 a0_2, .int .i64 a0_3, .int .i64 a0_4, .int .i64 a0_5, .bool a0_6] 88 ?_; intro gb166 hg w31 hbox hb; have BK166 := zA hbox; have GW166 := zgs hg (zs0 HB); have GE166 := zgs hg (zs0 HB); replace HB := zE (zs0 HB) hb; clear hb hbox hg) | ((with_reducible refine gate_dst (N := 3) rfl ?_); refine zbx 3 #[.int .i64 a1_0, .int .i64 a1_1, .int .i64 a1_2, .int .i64 a1_3, .int .i64 a1_4, .int .i64 a1_5, .bool a1_6] 88 ?_; intro gb167 hg w32 hbox hb; have BK167 := zA hbox; have GW167 := zgs hg (zs1 HB GE166); have GE167 := zgs hg (zs1 HB GE166); have NB166_167 := zne hg BK166; have NB167_166 := znf hg BK166; replace BK166 := zb BK166 hb; replace HB := zE (zs1 HB GE166) hb; clear hb hbox hg; have hnb33 := NB166_167.out; have hnc33 := NB167_166.out; obtain ⟨hcz34_0, hcz34_1, hcz34_2, hcz34_3, hcz34_4, hcz34_5, hcz34_6⟩ := zd7 BK166; obtain ⟨hfz34_0, hfz34_1, hfz34_2, hfz34_3, hfz34_4, hfz34_5, hfz34_6⟩ := zn7 BK166; obtain ⟨hcz35_0, hcz35_1, hcz35_2, hcz35_3, hcz35_4, hcz35_5, hcz35_6⟩ := zd7 BK167; obtain ⟨hfz35_0, hfz35_1, hfz35_2, hfz35_3, hfz35_4, hfz35_5, hfz35_6⟩ := zn7 BK167) | ((with_reducible refine gate_callee (f := 70) rfl ?_); refine zgl Try.func70 #[.int .i64 (wrap64 (a0_0 - a1_0)), .int .i64 (-1), .int .i64 1] ?_; (with_reducible refine (spec_l21In.calls (wrap64 (a0_0 - a1_0)) (-1) 1 true _ A3.out).mono ?_); rintro e w' ⟨rfl, ⟨nd, rfl⟩⟩; refine ⟨_, rfl, ?_⟩) | (go_at_call 70; (with_reducible refine (spec_l21In.calls (wrap64 (a0_1 - a1_1)) (-1) 1 true _ A5.out).mono ?_); rintro e w' ⟨rfl, ⟨nd, rfl⟩⟩))
  go_ret
  exact ⟨ze, zs2 HB GE166 GE167⟩
 rw [if_pos c7] at H
 have c7b0 : (a0_0 == a1_0) = true := beq_iff_eq.mpr c7
 have c7b1 : (a0_0 != a1_0) = false := bne_eq_false_iff_eq.mpr c7
 clear c7
 by_cases c8 : a0_1 = a1_1
 ·rw [if_pos c8] at H
  have c8b0 : (a0_1 == a1_1) = true := beq_iff_eq.mpr c8
  have c8b1 : (a0_1 != a1_1) = false := bne_eq_false_iff_eq.mpr c8
  clear c8
  obtain rfl := Option.some.inj H
  go_enter Try.func76, Try.ntmps76
  go_wp2_with (first | ((with_reducible refine gate_dst (N := 2) rfl ?_); refine zbx 2 #[.int .i64 a0_0, .int .i64 a0_1, .int .i64 a0_2, .int .i64 a0_3, .int .i64 a0_4, .int .i64 a0_5, .bool a0_6] 88 ?_; intro gb166 hg w9 hbox hb; have BK166 := zA hbox; have GW166 := zgs hg (zs0 HB); have GE166 := zgs hg (zs0 HB); replace HB := zE (zs0 HB) hb; clear hb hbox hg) | ((with_reducible refine gate_dst (N := 3) rfl ?_); refine zbx 3 #[.int .i64 a1_0, .int .i64 a1_1, .int .i64 a1_2, .int .i64 a1_3, .int .i64 a1_4, .int .i64 a1_5, .bool a1_6] 88 ?_; intro gb167 hg w10 hbox hb; have BK167 := zA hbox; have GW167 := zgs hg (zs1 HB GE166); have GE167 := zgs hg (zs1 HB GE166); have NB166_167 := zne hg BK166; have NB167_166 := znf hg BK166; replace BK166 := zb BK166 hb; replace HB := zE (zs1 HB GE166) hb; clear hb hbox hg; have hnb11 := NB166_167.out; have hnc11 := NB167_166.out; obtain ⟨hcz12_0, hcz12_1, hcz12_2, hcz12_3, hcz12_4, hcz12_5, hcz12_6⟩ := zd7 BK166; obtain ⟨hfz12_0, hfz12_1, hfz12_2, hfz12_3, hfz12_4, hfz12_5, hfz12_6⟩ := zn7 BK166; obtain ⟨hcz13_0, hcz13_1, hcz13_2, hcz13_3, hcz13_4, hcz13_5, hcz13_6⟩ := zd7 BK167; obtain ⟨hfz13_0, hfz13_1, hfz13_2, hfz13_3, hfz13_4, hfz13_5, hfz13_6⟩ := zn7 BK167) | ((with_reducible refine gate_callee (f := 70) rfl ?_); refine zgl Try.func70 #[.int .i64 (wrap64 (a0_0 - a1_0)), .int .i64 (-1), .int .i64 1] ?_; (with_reducible refine (spec_l21In.calls (wrap64 (a0_0 - a1_0)) (-1) 1 true _ A3.out).mono ?_); rintro e w' ⟨rfl, ⟨nd, rfl⟩⟩; refine ⟨_, rfl, ?_⟩) | (go_at_call 70; (with_reducible refine (spec_l21In.calls (wrap64 (a0_1 - a1_1)) (-1) 1 true _ A5.out).mono ?_); rintro e w' ⟨rfl, ⟨nd, rfl⟩⟩))
  go_ret
  exact ⟨ze, zs2 HB GE166 GE167⟩
 rw [if_neg c8] at H
 have c8b0 : (a0_1 == a1_1) = false := beq_eq_false_iff_ne.mpr c8
 have c8b1 : (a0_1 != a1_1) = true := bne_iff_ne.mpr c8
 by_cases c14 : a0_2 ≤ a1_3
 ·rw [if_pos c14] at H
  have c14b0 : decide (a0_2 ≤ a1_3) = true := decide_eq_true c14
  clear c14
  obtain rfl := Option.some.inj H
  go_enter Try.func76, Try.ntmps76
  go_wp2_with (first | ((with_reducible refine gate_dst (N := 2) rfl ?_); refine zbx 2 #[.int .i64 a0_0, .int .i64 a0_1, .int .i64 a0_2, .int .i64 a0_3, .int .i64 a0_4, .int .i64 a0_5, .bool a0_6] 88 ?_; intro gb166 hg w15 hbox hb; have BK166 := zA hbox; have GW166 := zgs hg (zs0 HB); have GE166 := zgs hg (zs0 HB); replace HB := zE (zs0 HB) hb; clear hb hbox hg) | ((with_reducible refine gate_dst (N := 3) rfl ?_); refine zbx 3 #[.int .i64 a1_0, .int .i64 a1_1, .int .i64 a1_2, .int .i64 a1_3, .int .i64 a1_4, .int .i64 a1_5, .bool a1_6] 88 ?_; intro gb167 hg w16 hbox hb; have BK167 := zA hbox; have GW167 := zgs hg (zs1 HB GE166); have GE167 := zgs hg (zs1 HB GE166); have NB166_167 := zne hg BK166; have NB167_166 := znf hg BK166; replace BK166 := zb BK166 hb; replace HB := zE (zs1 HB GE166) hb; clear hb hbox hg; have hnb17 := NB166_167.out; have hnc17 := NB167_166.out; obtain ⟨hcz18_0, hcz18_1, hcz18_2, hcz18_3, hcz18_4, hcz18_5, hcz18_6⟩ := zd7 BK166; obtain ⟨hfz18_0, hfz18_1, hfz18_2, hfz18_3, hfz18_4, hfz18_5, hfz18_6⟩ := zn7 BK166; obtain ⟨hcz19_0, hcz19_1, hcz19_2, hcz19_3, hcz19_4, hcz19_5, hcz19_6⟩ := zd7 BK167; obtain ⟨hfz19_0, hfz19_1, hfz19_2, hfz19_3, hfz19_4, hfz19_5, hfz19_6⟩ := zn7 BK167) | ((with_reducible refine gate_callee (f := 70) rfl ?_); refine zgl Try.func70 #[.int .i64 (wrap64 (a0_0 - a1_0)), .int .i64 (-1), .int .i64 1] ?_; (with_reducible refine (spec_l21In.calls (wrap64 (a0_0 - a1_0)) (-1) 1 true _ A3.out).mono ?_); rintro e w' ⟨rfl, ⟨nd, rfl⟩⟩; refine ⟨_, rfl, ?_⟩) | (go_at_call 70; (with_reducible refine (spec_l21In.calls (wrap64 (a0_1 - a1_1)) (-1) 1 true _ A5.out).mono ?_); rintro e w' ⟨rfl, ⟨nd, rfl⟩⟩))
  go_ret
  exact ⟨ze, zs2 HB GE166 GE167⟩
 rw [if_neg c14] at H
 have c14b0 : decide (a0_2 ≤ a1_3) = false := decide_eq_false c14
 clear c14
 obtain rfl := Option.some.inj H
 go_enter Try.func76, Try.ntmps76
 go_wp2_with (first | ((with_reducible refine gate_dst (N := 2) rfl ?_); refine zbx 2 #[.int .i64 a0_0, .int .i64 a0_1, .int .i64 a0_2, .int .i64 a0_3, .int .i64 a0_4, .int .i64 a0_5, .bool a0_6] 88 ?_; intro gb166 hg w20 hbox hb; have BK166 := zA hbox; have GW166 := zgs hg (zs0 HB); have GE166 := zgs hg (zs0 HB); replace HB := zE (zs0 HB) hb; clear hb hbox hg) | ((with_reducible refine gate_dst (N := 3) rfl ?_); refine zbx 3 #[.int .i64 a1_0, .int .i64 a1_1, .int .i64 a1_2, .int .i64 a1_3, .int .i64 a1_4, .int .i64 a1_5, .bool a1_6] 88 ?_; intro gb167 hg w21 hbox hb; have BK167 := zA hbox; have GW167 := zgs hg (zs1 HB GE166); have GE167 := zgs hg (zs1 HB GE166); have NB166_167 := zne hg BK166; have NB167_166 := znf hg BK166; replace BK166 := zb BK166 hb; replace HB := zE (zs1 HB GE166) hb; clear hb hbox hg; have hnb22 := NB166_167.out; have hnc22 := NB167_166.out; obtain ⟨hcz23_0, hcz23_1, hcz23_2, hcz23_3, hcz23_4, hcz23_5, hcz23_6⟩ := zd7 BK166; obtain ⟨hfz23_0, hfz23_1, hfz23_2, hfz23_3, hfz23_4, hfz23_5, hfz23_6⟩ := zn7 BK166; obtain ⟨hcz24_0, hcz24_1, hcz24_2, hcz24_3, hcz24_4, hcz24_5, hcz24_6⟩ := zd7 BK167; obtain ⟨hfz24_0, hfz24_1, hfz24_2, hfz24_3, hfz24_4, hfz24_5, hfz24_6⟩ := zn7 BK167) | ((with_reducible refine gate_callee (f := 70) rfl ?_); refine zgl Try.func70 #[.int .i64 (wrap64 (a0_0 - a1_0)), .int .i64 (-1), .int .i64 1] ?_; (with_reducible refine (spec_l21In.calls (wrap64 (a0_0 - a1_0)) (-1) 1 true _ A3.out).mono ?_); rintro e w' ⟨rfl, ⟨nd, rfl⟩⟩; refine ⟨_, rfl, ?_⟩) | (go_at_call 70; (with_reducible refine (spec_l21In.calls (wrap64 (a0_1 - a1_1)) (-1) 1 true _ A5.out).mono ?_); rintro e w' ⟨rfl, ⟨nd, rfl⟩⟩))
 go_ret
 exact ⟨ze, zs2 HB GE166 GE167⟩
end Go.Proofs.Ytidenmcoilmbcaa.QFnExactFlySeen
