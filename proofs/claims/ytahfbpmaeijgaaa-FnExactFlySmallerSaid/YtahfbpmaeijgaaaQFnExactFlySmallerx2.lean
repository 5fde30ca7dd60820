/- The walk of what the law FnExactFlySmaller reaches: laid by a program of this session (ownprint.py). -/
import Derived.Test.YtahfbpmaeijgaaaQFnExactFlySmallerx0
namespace Go.Proofs.Ytahfbpmaeijgaaa.QFnExactFlySmaller
open Go.RowKit Go.Proofs.YtahfbpmaeijgaaaW.PrintWords Go.Proofs.YtahfbpmaeijgaaaW.PrintLast Go.Proofs.YtahfbpmaeijgaaaW.PrintMore Go.Proofs.Ytahfbpmaeijgaaa.Z
attribute [local go_sem] max2_int min2_int max_two min_two max_three min_three max_four min_four zdn   -- for this text's walks alone
set_option linter.unusedVariables false
set_option linter.unusedSimpArgs false
def spec_l25None.f (a0_0 : Int) (a0_1 : Int) (a0_2 : Int) (a0_3 : Int) (a0_4 : Int) (a0_5 : Int) : Option (Bool) := if a0_2 > a0_3 then (some true) else (some (decide (a0_4 > a0_5)))
set_option maxHeartbeats 8000000 in
set_option maxRecDepth 100000 in
theorem spec_l25None.calls (a0_0 : Int) (a0_1 : Int) (a0_2 : Int) (a0_3 : Int) (a0_4 : Int) (a0_5 : Int) (r : Bool) (w : World) (h : spec_l25None.f a0_0 a0_1 a0_2 a0_3 a0_4 a0_5 = some r) :
 Calls Try.prog 70 #[.agg #[.int .i64 a0_0, .int .i64 a0_1, .int .i64 a0_2, .int .i64 a0_3, .int .i64 a0_4, .int .i64 a0_5]] w fun e w' => e = .returned (.bool r) ∧ Below w.heap.size w w' := by
 have hu97 := Try.underlying97
 have HB := zA (Below.refl w.heap.size w)
 have H : (if a0_2 > a0_3 then (some true) else (some (decide (a0_4 > a0_5)))) = some r := h
 clear h
 by_cases c2 : a0_2 > a0_3
 ·rw [if_pos c2] at H
  have c2b0 : decide (a0_3 < a0_2) = true := decide_eq_true c2
  clear c2
  obtain rfl := Option.some.inj H
  go_enter Try.func70, Try.ntmps70
  go_wp2_with (first | ((with_reducible refine gate_dst (N := 1) rfl ?_); refine box_event (by rfl) (N := 1) (by rfl) (cs := #[.int .i64 a0_0, .int .i64 a0_1, .int .i64 a0_2, .int .i64 a0_3, .int .i64 a0_4, .int .i64 a0_5]) (t := 97) zg ?_; intro gb120 hg w3 hbox hb; have BK120 := zA hbox; have GW120 := zgs hg (zs0 HB); have GE120 := zgs hg (zs0 HB); replace HB := zE (zs0 HB) hb; clear hb hbox hg; obtain ⟨hcz4_0, hcz4_1, hcz4_2, hcz4_3, hcz4_4, hcz4_5⟩ := zd6 BK120; obtain ⟨hfz4_0, hfz4_1, hfz4_2, hfz4_3, hfz4_4, hfz4_5⟩ := zn6 BK120))
  go_ret
  exact ⟨ze, zs1 HB GE120⟩
 rw [if_neg c2] at H
 have c2b0 : decide (a0_3 < a0_2) = false := decide_eq_false c2
 clear c2
 obtain rfl := Option.some.inj H
 go_enter Try.func70, Try.ntmps70
 go_wp2_with (first | ((with_reducible refine gate_dst (N := 1) rfl ?_); refine box_event (by rfl) (N := 1) (by rfl) (cs := #[.int .i64 a0_0, .int .i64 a0_1, .int .i64 a0_2, .int .i64 a0_3, .int .i64 a0_4, .int .i64 a0_5]) (t := 97) zg ?_; intro gb120 hg w5 hbox hb; have BK120 := zA hbox; have GW120 := zgs hg (zs0 HB); have GE120 := zgs hg (zs0 HB); replace HB := zE (zs0 HB) hb; clear hb hbox hg; obtain ⟨hcz6_0, hcz6_1, hcz6_2, hcz6_3, hcz6_4, hcz6_5⟩ := zd6 BK120; obtain ⟨hfz6_0, hfz6_1, hfz6_2, hfz6_3, hfz6_4, hfz6_5⟩ := zn6 BK120))
 go_ret
 exact ⟨ze, zs1 HB GE120⟩
def spec_l25Cover.f (a0_0 : Int) (a0_1 : Int) (a0_2 : Int) (a0_3 : Int) (a0_4 : Int) (a0_5 : Int) (a1_0 : Int) (a1_1 : Int) (a1_2 : Int) (a1_3 : Int) (a1_4 : Int) (a1_5 : Int) : Option (Bool) := if a1_0 = a0_0 then (if a1_1 = a0_1 then (if a0_2 ≤ a1_2 then (if a1_3 ≤ a0_3 then (if a0_4 ≤ a1_4 then (some (decide (a1_5 ≤ a0_5))) else (some false)) else (some false)) else (some false)) else (some false)) else (some false)
set_option maxHeartbeats 8000000 in
set_option maxRecDepth 100000 in
theorem spec_l25Cover.calls (a0_0 : Int) (a0_1 : Int) (a0_2 : Int) (a0_3 : Int) (a0_4 : Int) (a0_5 : Int) (a1_0 : Int) (a1_1 : Int) (a1_2 : Int) (a1_3 : Int) (a1_4 : Int) (a1_5 : Int) (r : Bool) (w : World) (h : spec_l25Cover.f a0_0 a0_1 a0_2 a0_3 a0_4 a0_5 a1_0 a1_1 a1_2 a1_3 a1_4 a1_5 = some r) :
 Calls Try.prog 71 #[.agg #[.int .i64 a0_0, .int .i64 a0_1, .int .i64 a0_2, .int .i64 a0_3, .int .i64 a0_4, .int .i64 a0_5], .agg #[.int .i64 a1_0, .int .i64 a1_1, .int .i64 a1_2, .int .i64 a1_3, .int .i64 a1_4, .int .i64 a1_5]] w fun e w' => e = .returned (.bool r) ∧ Below w.heap.size w w' := by
 have hu97 := Try.underlying97
 have HB := zA (Below.refl w.heap.size w)
 have H : (if a1_0 = a0_0 then (if a1_1 = a0_1 then (if a0_2 ≤ a1_2 then (if a1_3 ≤ a0_3 then (if a0_4 ≤ a1_4 then (some (decide (a1_5 ≤ a0_5))) else (some false)) else (some false)) else (some false)) else (some false)) else (some false)) = some r := h
 clear h
 by_cases c3 : a1_0 = a0_0
 rotate_left
 ·rw [if_neg c3] at H
  have c3b0 : (a1_0 == a0_0) = false := beq_eq_false_iff_ne.mpr c3
  have c3b1 : (a1_0 != a0_0) = true := bne_iff_ne.mpr c3
  obtain rfl := Option.some.inj H
  go_enter Try.func71, Try.ntmps71
  go_wp2_with (first | ((with_reducible refine gate_dst (N := 2) rfl ?_); refine box_event (by rfl) (N := 2) (by rfl) (cs := #[.int .i64 a0_0, .int .i64 a0_1, .int .i64 a0_2, .int .i64 a0_3, .int .i64 a0_4, .int .i64 a0_5]) (t := 97) zg ?_; intro gb121 hg w33 hbox hb; have BK121 := zA hbox; have GW121 := zgs hg (zs0 HB); have GE121 := zgs hg (zs0 HB); replace HB := zE (zs0 HB) hb; clear hb hbox hg) | ((with_reducible refine gate_dst (N := 3) rfl ?_); refine box_event (by rfl) (N := 3) (by rfl) (cs := #[.int .i64 a1_0, .int .i64 a1_1, .int .i64 a1_2, .int .i64 a1_3, .int .i64 a1_4, .int .i64 a1_5]) (t := 97) zg ?_; intro gb122 hg w34 hbox hb; have BK122 := zA hbox; have GW122 := zgs hg (zs1 HB GE121); have GE122 := zgs hg (zs1 HB GE121); have NB121_122 := zne hg BK121; have NB122_121 := znf hg BK121; replace BK121 := zb BK121 hb; replace HB := zE (zs1 HB GE121) hb; clear hb hbox hg; have hnb35 := NB122_121.out; have hnc35 := NB121_122.out; obtain ⟨hcz36_0, hcz36_1, hcz36_2, hcz36_3, hcz36_4, hcz36_5⟩ := zd6 BK122; obtain ⟨hfz36_0, hfz36_1, hfz36_2, hfz36_3, hfz36_4, hfz36_5⟩ := zn6 BK122; obtain ⟨hcz37_0, hcz37_1, hcz37_2, hcz37_3, hcz37_4, hcz37_5⟩ := zd6 BK121; obtain ⟨hfz37_0, hfz37_1, hfz37_2, hfz37_3, hfz37_4, hfz37_5⟩ := zn6 BK121))
  go_ret
  exact ⟨ze, zs2 HB GE121 GE122⟩
 rw [if_pos c3] at H
 have c3b0 : (a1_0 == a0_0) = true := beq_iff_eq.mpr c3
 have c3b1 : (a1_0 != a0_0) = false := bne_eq_false_iff_eq.mpr c3
 clear c3
 by_cases c4 : a1_1 = a0_1
 rotate_left
 ·rw [if_neg c4] at H
  have c4b0 : (a1_1 == a0_1) = false := beq_eq_false_iff_ne.mpr c4
  have c4b1 : (a1_1 != a0_1) = true := bne_iff_ne.mpr c4
  obtain rfl := Option.some.inj H
  go_enter Try.func71, Try.ntmps71
  go_wp2_with (first | ((with_reducible refine gate_dst (N := 2) rfl ?_); refine box_event (by rfl) (N := 2) (by rfl) (cs := #[.int .i64 a0_0, .int .i64 a0_1, .int .i64 a0_2, .int .i64 a0_3, .int .i64 a0_4, .int .i64 a0_5]) (t := 97) zg ?_; intro gb121 hg w28 hbox hb; have BK121 := zA hbox; have GW121 := zgs hg (zs0 HB); have GE121 := zgs hg (zs0 HB); replace HB := zE (zs0 HB) hb; clear hb hbox hg) | ((with_reducible refine gate_dst (N := 3) rfl ?_); refine box_event (by rfl) (N := 3) (by rfl) (cs := #[.int .i64 a1_0, .int .i64 a1_1, .int .i64 a1_2, .int .i64 a1_3, .int .i64 a1_4, .int .i64 a1_5]) (t := 97) zg ?_; intro gb122 hg w29 hbox hb; have BK122 := zA hbox; have GW122 := zgs hg (zs1 HB GE121); have GE122 := zgs hg (zs1 HB GE121); have NB121_122 := zne hg BK121; have NB122_121 := znf hg BK121; replace BK121 := zb BK121 hb; replace HB := zE (zs1 HB GE121) hb; clear hb hbox hg; have hnb30 := NB122_121.out; have hnc30 := NB121_122.out; obtain ⟨hcz31_0, hcz31_1, hcz31_2, hcz31_3, hcz31_4, hcz31_5⟩ := zd6 BK122; obtain ⟨hfz31_0, hfz31_1, hfz31_2, hfz31_3, hfz31_4, hfz31_5⟩ := zn6 BK122; obtain ⟨hcz32_0, hcz32_1, hcz32_2, hcz32_3, hcz32_4, hcz32_5⟩ := zd6 BK121; obtain ⟨hfz32_0, hfz32_1, hfz32_2, hfz32_3, hfz32_4, hfz32_5⟩ := zn6 BK121))
  go_ret
  exact ⟨ze, zs2 HB GE121 GE122⟩
 rw [if_pos c4] at H
 have c4b0 : (a1_1 == a0_1) = true := beq_iff_eq.mpr c4
 have c4b1 : (a1_1 != a0_1) = false := bne_eq_false_iff_eq.mpr c4
 clear c4
 by_cases c5 : a0_2 ≤ a1_2
 rotate_left
 ·rw [if_neg c5] at H
  have c5b0 : decide (a0_2 ≤ a1_2) = false := decide_eq_false c5
  clear c5
  obtain rfl := Option.some.inj H
  go_enter Try.func71, Try.ntmps71
  go_wp2_with (first | ((with_reducible refine gate_dst (N := 2) rfl ?_); refine box_event (by rfl) (N := 2) (by rfl) (cs := #[.int .i64 a0_0, .int .i64 a0_1, .int .i64 a0_2, .int .i64 a0_3, .int .i64 a0_4, .int .i64 a0_5]) (t := 97) zg ?_; intro gb121 hg w23 hbox hb; have BK121 := zA hbox; have GW121 := zgs hg (zs0 HB); have GE121 := zgs hg (zs0 HB); replace HB := zE (zs0 HB) hb; clear hb hbox hg) | ((with_reducible refine gate_dst (N := 3) rfl ?_); refine box_event (by rfl) (N := 3) (by rfl) (cs := #[.int .i64 a1_0, .int .i64 a1_1, .int .i64 a1_2, .int .i64 a1_3, .int .i64 a1_4, .int .i64 a1_5]) (t := 97) zg ?_; intro gb122 hg w24 hbox hb; have BK122 := zA hbox; have GW122 := zgs hg (zs1 HB GE121); have GE122 := zgs hg (zs1 HB GE121); have NB121_122 := zne hg BK121; have NB122_121 := znf hg BK121; replace BK121 := zb BK121 hb; replace HB := zE (zs1 HB GE121) hb; clear hb hbox hg; have hnb25 := NB122_121.out; have hnc25 := NB121_122.out; obtain ⟨hcz26_0, hcz26_1, hcz26_2, hcz26_3, hcz26_4, hcz26_5⟩ := zd6 BK122; obtain ⟨hfz26_0, hfz26_1, hfz26_2, hfz26_3, hfz26_4, hfz26_5⟩ := zn6 BK122; obtain ⟨hcz27_0, hcz27_1, hcz27_2, hcz27_3, hcz27_4, hcz27_5⟩ := zd6 BK121; obtain ⟨hfz27_0, hfz27_1, hfz27_2, hfz27_3, hfz27_4, hfz27_5⟩ := zn6 BK121))
  go_ret
  exact ⟨ze, zs2 HB GE121 GE122⟩
 rw [if_pos c5] at H
 have c5b0 : decide (a0_2 ≤ a1_2) = true := decide_eq_true c5
 clear c5
 by_cases c6 : a1_3 ≤ a0_3
 rotate_left
 ·rw [if_neg c6] at H
  have c6b0 : decide (a1_3 ≤ a0_3) = false := decide_eq_false c6
  clear c6
  obtain rfl := Option.some.inj H
  go_enter Try.func71, Try.ntmps71
  go_wp2_with (first | ((with_reducible refine gate_dst (N := 2) rfl ?_); refine box_event (by rfl) (N := 2) (by rfl) (cs := #[.int .i64 a0_0, .int .i64 a0_1, .int .i64 a0_2, .int .i64 a0_3, .int .i64 a0_4, .int .i64 a0_5]) (t := 97) zg ?_; intro gb121 hg w18 hbox hb; have BK121 := zA hbox; have GW121 := zgs hg (zs0 HB); have GE121 := zgs hg (zs0 HB); replace HB := zE (zs0 HB) hb; clear hb hbox hg) | ((with_reducible refine gate_dst (N := 3) rfl ?_); refine box_event (by rfl) (N := 3) (by rfl) (cs := #[.int .i64 a1_0, .int .i64 a1_1, .int .i64 a1_2, .int .i64 a1_3, .int .i64 a1_4, .int .i64 a1_5]) (t := 97) zg ?_; intro gb122 hg w19 hbox hb; have BK122 := zA hbox; have GW122 := zgs hg (zs1 HB GE121); have GE122 := zgs hg (zs1 HB GE121); have NB121_122 := zne hg BK121; have NB122_121 := znf hg BK121; replace BK121 := zb BK121 hb; replace HB := zE (zs1 HB GE121) hb; clear hb hbox hg; have hnb20 := NB122_121.out; have hnc20 := NB121_122.out; obtain ⟨hcz21_0, hcz21_1, hcz21_2, hcz21_3, hcz21_4, hcz21_5⟩ := zd6 BK122; obtain ⟨hfz21_0, hfz21_1, hfz21_2, hfz21_3, hfz21_4, hfz21_5⟩ := zn6 BK122; obtain ⟨hcz22_0, hcz22_1, hcz22_2, hcz22_3, hcz22_4, hcz22_5⟩ := zd6 BK121; obtain ⟨hfz22_0, hfz22_1, hfz22_2, hfz22_3, hfz22_4, hfz22_5⟩ := zn6 BK121))
  go_ret
  exact ⟨ze, zs2 HB GE121 GE122⟩
 rw [if_pos c6] at H
 have c6b0 : decide (a1_3 ≤ a0_3) = true := decide_eq_true c6
 clear c6
 by_cases c7 : a0_4 ≤ a1_4
 ·rw [if_pos c7] at H
  have c7b0 : decide (a0_4 ≤ a1_4) = true := decide_eq_true c7
  clear c7
  obtain rfl := Option.some.inj H
  go_enter Try.func71, Try.ntmps71
  go_wp2_with (first | ((with_reducible refine gate_dst (N := 2) rfl ?_); refine box_event (by rfl) (N := 2) (by rfl) (cs := #[.int .i64 a0_0, .int .i64 a0_1, .int .i64 a0_2, .int .i64 a0_3, .int .i64 a0_4, .int .i64 a0_5]) (t := 97) zg ?_; intro gb121 hg w8 hbox hb; have BK121 := zA hbox; have GW121 := zgs hg (zs0 HB); have GE121 := zgs hg (zs0 HB); replace HB := zE (zs0 HB) hb; clear hb hbox hg) | ((with_reducible refine gate_dst (N := 3) rfl ?_); refine box_event (by rfl) (N := 3) (by rfl) (cs := #[.int .i64 a1_0, .int .i64 a1_1, .int .i64 a1_2, .int .i64 a1_3, .int .i64 a1_4, .int .i64 a1_5]) (t := 97) zg ?_; intro gb122 hg w9 hbox hb; have BK122 := zA hbox; have GW122 := zgs hg (zs1 HB GE121); have GE122 := zgs hg (zs1 HB GE121); have NB121_122 := zne hg BK121; have NB122_121 := znf hg BK121; replace BK121 := zb BK121 hb; replace HB := zE (zs1 HB GE121) hb; clear hb hbox hg; have hnb10 := NB122_121.out; have hnc10 := NB121_122.out; obtain ⟨hcz11_0, hcz11_1, hcz11_2, hcz11_3, hcz11_4, hcz11_5⟩ := zd6 BK122; obtain ⟨hfz11_0, hfz11_1, hfz11_2, hfz11_3, hfz11_4, hfz11_5⟩ := zn6 BK122; obtain ⟨hcz12_0, hcz12_1, hcz12_2, hcz12_3, hcz12_4, hcz12_5⟩ := zd6 BK121; obtain ⟨hfz12_0, hfz12_1, hfz12_2, hfz12_3, hfz12_4, hfz12_5⟩ := zn6 BK121))
  go_ret
  exact ⟨ze, zs2 HB GE121 GE122⟩
 rw [if_neg c7] at H
 have c7b0 : decide (a0_4 ≤ a1_4) = false := decide_eq_false c7
 clear c7
 obtain rfl := Option.some.inj H
 go_enter Try.func71, Try.ntmps71
 go_wp2_with (first | ((with_reducible refine gate_dst (N := 2) rfl ?_); refine box_event (by rfl) (N := 2) (by rfl) (cs := #[.int .i64 a0_0, .int .i64 a0_1, .int .i64 a0_2, .int .i64 a0_3, .int .i64 a0_4, .int .i64 a0_5]) (t := 97) zg ?_; intro gb121 hg w13 hbox hb; have BK121 := zA hbox; have GW121 := zgs hg (zs0 HB); have GE121 := zgs hg (zs0 HB); replace HB := zE (zs0 HB) hb; clear hb hbox hg) | ((with_reducible refine gate_dst (N := 3) rfl ?_); refine box_event (by rfl) (N := 3) (by rfl) (cs := #[.int .i64 a1_0, .int .i64 a1_1, .int .i64 a1_2, .int .i64 a1_3, .int .i64 a1_4, .int .i64 a1_5]) (t := 97) zg ?_; intro gb122 hg w14 hbox hb; have BK122 := zA hbox; have GW122 := zgs hg (zs1 HB GE121); have GE122 := zgs hg (zs1 HB GE121); have NB121_122 := zne hg BK121; have NB122_121 := znf hg BK121; replace BK121 := zb BK121 hb; replace HB := zE (zs1 HB GE121) hb; clear hb hbox hg; have hnb15 := NB122_121.out; have hnc15 := NB121_122.out; obtain ⟨hcz16_0, hcz16_1, hcz16_2, hcz16_3, hcz16_4, hcz16_5⟩ := zd6 BK122; obtain ⟨hfz16_0, hfz16_1, hfz16_2, hfz16_3, hfz16_4, hfz16_5⟩ := zn6 BK122; obtain ⟨hcz17_0, hcz17_1, hcz17_2, hcz17_3, hcz17_4, hcz17_5⟩ := zd6 BK121; obtain ⟨hfz17_0, hfz17_1, hfz17_2, hfz17_3, hfz17_4, hfz17_5⟩ := zn6 BK121))
 go_ret
 exact ⟨ze, zs2 HB GE121 GE122⟩
mutual
def spec_FlySmaller.l0 : Nat → List (S97) → List (S97) → Int → Option (Bool)
 | 0, _, _, _ => none
 | k + 1, x0, x1, x5 => if x5 < (x0.length : Int) then (if 0 ≤ x5 then ((spec_l25None.f ((rd_T97 x0 x5).f0) ((rd_T97 x0 x5).f1) ((rd_T97 x0 x5).f2) ((rd_T97 x0 x5).f3) ((rd_T97 x0 x5).f4) ((rd_T97 x0 x5).f5)).bind fun t124 => (spec_FlySmaller.l1 k x0 x1 x5 t124 0)) else (none)) else (some true)
def spec_FlySmaller.l1 : Nat → List (S97) → List (S97) → Int → Bool → Int → Option (Bool)
 | 0, _, _, _, _, _ => none
 | k + 1, x0, x1, x5, x6, x7 => if x7 < (x1.length : Int) then (if x6 = true then (spec_FlySmaller.l1 k x0 x1 x5 true (wrap64 (x7 + 1))) else (if 0 ≤ x7 then (if 0 ≤ x5 then (if x5 < (x0.length : Int) then ((spec_l25Cover.f ((rd_T97 x1 x7).f0) ((rd_T97 x1 x7).f1) ((rd_T97 x1 x7).f2) ((rd_T97 x1 x7).f3) ((rd_T97 x1 x7).f4) ((rd_T97 x1 x7).f5) ((rd_T97 x0 x5).f0) ((rd_T97 x0 x5).f1) ((rd_T97 x0 x5).f2) ((rd_T97 x0 x5).f3) ((rd_T97 x0 x5).f4) ((rd_T97 x0 x5).f5)).bind fun t127 => (spec_FlySmaller.l1 k x0 x1 x5 t127 (wrap64 (x7 + 1)))) else (none)) else (none)) else (none))) else (if x6 = true then (spec_FlySmaller.l0 k x0 x1 (wrap64 (x5 + 1))) else (some false))
end
def spec_FlySmaller.f (k : Nat) (l0 : List (S97)) (l1 : List (S97)) : Option (Bool) := spec_FlySmaller.l0 k l0 l1 0
def spec_FlySmaller.T8 : Bool × List (List Nat × List Nat) := (true, [([], []), ([0], [0]), ([1], [1]), ([1], [1]), ([2, 3, 1], [1, 2, 3]), ([4, 1], [1, 4]), ([1], [1]), ([1], [1]), ([6, 7, 1], [1, 6, 7]), ([8, 1], [1, 8]), ([5, 9, 1, 1], [1, 5, 9]), ([1, 10], [1, 10]), ([11, 10, 0, 1, 2, 3, 4, 5, 6, 7, 8, 9, 10, 11], [0, 11])])
def spec_FlySmaller.B8 : List Nat := [0, 1, 3, 3, 15, 31, 3, 3, 195, 451, 1023, 2047, 4095]
theorem spec_FlySmaller.tab8 : rtab .any (opsOf Try.f34 8) = spec_FlySmaller.T8 := by kernel_rfl
theorem spec_FlySmaller.bits8 : waitsOk spec_FlySmaller.T8.2 spec_FlySmaller.B8 = true := by kernel_rfl
set_option maxHeartbeats 8000000 in
set_option maxRecDepth 100000 in
theorem spec_FlySmaller.calls (k : Nat) (A0 : Option Addr) (c0 : Nat) (l0 : List (S97)) (A1 : Option Addr) (c1 : Nat) (l1 : List (S97)) (r : Bool) (w : World) (hr0 : Kd.C k97 w A0 l0.length l0) (hc0 : l0.length ≤ c0) (hr1 : Kd.C k97 w A1 l1.length l1) (hc1 : l1.length ≤ c1) (h : spec_FlySmaller.f k l0 l1 = some r) :
 Calls Try.prog 34 #[.slice A0 l0.length c0, .slice A1 l1.length c1] w fun e w' => e = .returned (.bool r) ∧ Below w.heap.size w w' := by
 have hu97 := Try.underlying97
 have HR0 := zA hr0
 have HC0 := zA hc0
 clear hr0 hc0
 have HR1 := zA hr1
 have HC1 := zA hc1
 clear hr1 hc1
 have HB := zA (Below.refl w.heap.size w)
 have H : (spec_FlySmaller.l0 k l0 l1 0) = some r := h
 clear h
 have H' := zA H
 clear H
 go_enter Try.func34, Try.ntmps34
 go_wp2
 go_loopg [5] k (fun kq v5 w' => ∃ (x5_1 : Int), v5 = .int .i64 x5_1 ∧ Aside0 (spec_FlySmaller.l0 kq l0 l1 x5_1 = some r) ∧ Aside0 (kq ≤ k) ∧ Aside0 (Below w.heap.size w w'))
 case atStart => exact ⟨(0), zi, H', ⟨Nat.le_refl _⟩, ⟨zs0 HB⟩⟩
 case round =>
  clear H'
  try clear c1
  try clear p2
  obtain ⟨x5_1, rfl, HA, HK1, HB⟩ := hrel
  cases gk with
  | zero => exact absurd HA.out (by simp [spec_FlySmaller.l0])
  | succ k1 =>
   have H := HA.out
   clear HA
   simp only [spec_FlySmaller.l0] at H
   by_cases c3 : x5_1 < (l0.length : Int)
   rotate_left
   ·rw [if_neg c3] at H
    have c3b0 : decide (x5_1 < (l0.length : Int)) = false := decide_eq_false c3
    clear c3
    obtain rfl := Option.some.inj H
    go_wp2
    go_ret
    exact ⟨ze, zs0 HB⟩
   rw [if_pos c3] at H
   have c3b0 : decide (x5_1 < (l0.length : Int)) = true := decide_eq_true c3
   clear c3
   by_cases c4 : 0 ≤ x5_1
   rotate_left
   ·rw [if_neg c4] at H
    exact absurd H (by simp)
   rw [if_pos c4] at H
   have c4b0 : decide (0 ≤ x5_1) = true := decide_eq_true c4
   clear c4
   replace H := zbd H; obtain ⟨t124, A5, H⟩ := H
   have H' := zA H
   clear H
   have p123 : 0 ≤ (x5_1 : Int) := za
   have q123 : x5_1 < (l0.length : Int) := za
   obtain ⟨ad123, e123, hx123_0, hx123_1, hx123_2, hx123_3, hx123_4, hx123_5⟩ := at_T97 HR0.out x5_1 p123 q123
   cases e123
   replace hx123_0 := zx HB hx123_0
   replace hx123_1 := zx HB hx123_1
   replace hx123_2 := zx HB hx123_2
   replace hx123_3 := zx HB hx123_3
   replace hx123_4 := zx HB hx123_4
   replace hx123_5 := zx HB hx123_5
   replace p123 := eq_true p123
   replace q123 := eq_true q123
   go_wp2_with (first | ((with_reducible refine gate_callee (f := 70) rfl ?_); refine goesL_ (some 18) rfl rfl Try.func70 (by kernel_rfl) rfl #[.agg #[.int .i64 ((rd_T97 l0 x5_1).f0), .int .i64 ((rd_T97 l0 x5_1).f1), .int .i64 ((rd_T97 l0 x5_1).f2), .int .i64 ((rd_T97 l0 x5_1).f3), .int .i64 ((rd_T97 l0 x5_1).f4), .int .i64 ((rd_T97 l0 x5_1).f5)]] rfl zl ?_; (with_reducible refine (spec_l25None.calls ((rd_T97 l0 x5_1).f0) ((rd_T97 l0 x5_1).f1) ((rd_T97 l0 x5_1).f2) ((rd_T97 l0 x5_1).f3) ((rd_T97 l0 x5_1).f4) ((rd_T97 l0 x5_1).f5) t124 _ A5.out).mono ?_); rintro e w6 ⟨rfl, hb⟩; refine ⟨_, rfl, ?_⟩; replace HB := zE (zs0 HB) hb; (try clear hb); (try clear hb2); (try clear hk); (try clear hi)))
   go_loopg [6, 7] k1 (fun kq v6 v7 w' => ∃ (x6_2 : Bool) (x7_2 : Int), v6 = .bool x6_2 ∧ v7 = .int .i64 x7_2 ∧ Aside0 (spec_FlySmaller.l1 kq l0 l1 x5_1 x6_2 x7_2 = some r) ∧ Aside0 (kq ≤ k1) ∧ Aside0 (Below w.heap.size w w'))
   case atStart => exact ⟨(t124), (0), zi, zi, H', ⟨Nat.le_refl _⟩, ⟨zs0 HB⟩⟩
   case round =>
    clear H'
    try clear c1
    try clear p1
    try clear q1
    try clear hx1
    try clear p2
    try clear c3
    try clear c3b0
    try clear c4
    try clear c4b0
    try clear hx123_0
    try clear hx123_1
    try clear hx123_2
    try clear hx123_3
    try clear hx123_4
    try clear hx123_5
    try clear p123
    try clear p2
    try clear q123
    obtain ⟨x6_2, x7_2, rfl, rfl, HA, HK2, HB⟩ := hrel
    cases gk with
    | zero => exact absurd HA.out (by simp [spec_FlySmaller.l1])
    | succ k2 =>
     have H := HA.out
     clear HA
     simp only [spec_FlySmaller.l1] at H
     by_cases c7 : x7_2 < (l1.length : Int)
     rotate_left
     ·rw [if_neg c7] at H
      have c7b0 : decide (x7_2 < (l1.length : Int)) = false := decide_eq_false c7
      clear c7
      by_cases c16 : x6_2 = true
      rotate_left
      ·replace c16 := Bool.eq_false_iff.mpr c16
       subst c16
       have H1 : (some false) = some r := by rw [if_neg (show ¬ (false = true) by decide)] at H; exact H
       clear H
       have H := H1
       clear H1
       obtain rfl := Option.some.inj H
       go_wp2
       go_ret
       exact ⟨ze, zs0 HB⟩
      subst c16
      have H1 : (spec_FlySmaller.l0 k2 l0 l1 (wrap64 (x5_1 + 1))) = some r := by rw [if_pos rfl] at H; exact H
      clear H
      have H := H1
      clear H1
      have H' := zA H
      clear H
      go_wp2
      go_roundg k2
      case measure => have := HK1.out; have := HK2.out; omega
      case rel => exact ⟨(wrap64 (x5_1 + 1)), zi, H', ⟨by have := HK1.out; have := HK2.out; omega⟩, ⟨zs0 HB⟩⟩
     rw [if_pos c7] at H
     have c7b0 : decide (x7_2 < (l1.length : Int)) = true := decide_eq_true c7
     clear c7
     by_cases c8 : x6_2 = true
     ·subst c8
      have H1 : (spec_FlySmaller.l1 k2 l0 l1 x5_1 true (wrap64 (x7_2 + 1))) = some r := by rw [if_pos rfl] at H; exact H
      clear H
      have H := H1
      clear H1
      have H' := zA H
      clear H
      try go_wp2
      replace HB := zA (below_drew1 HB.out)
      refine start_ (n := 13) (S := fun w' => True) (ds := []) #[F,F,F,F,F,F,F,F,F,F,F,F,F] (by kernel_rfl) rfl rfl trivial (fun hHeld => ?_); refine with_tabW spec_FlySmaller.tab8 spec_FlySmaller.bits8 (fun HT_ HW_ => ?_)
      generalize wr.drew = w9 at HB hHeld ⊢
      refine zq HT_ 0 ?_
      refine zq HT_ 1 ?_
      refine zu HT_ 2 ?_
      refine zu HT_ 3 ?_
      refine zu HT_ 4 ?_
      refine zu HT_ 5 ?_
      refine zu HT_ 6 ?_
      refine zu HT_ 7 ?_
      refine zu HT_ 8 ?_
      refine zu HT_ 9 ?_
      refine zu HT_ 10 ?_
      refine zq HT_ 11 ?_
      refine zq HT_ 12 ?_
      refine done_ (done_of HT_.out (by kernel_rfl)) ?_
      try go_wp2
      go_roundg k2
      case measure => have := HK1.out; have := HK2.out; omega
      case rel => exact ⟨(true), (wrap64 (x7_2 + 1)), zi, zi, H', ⟨by have := HK1.out; have := HK2.out; omega⟩, ⟨zs0 HB⟩⟩
     replace c8 := Bool.eq_false_iff.mpr c8
     subst c8
     have H1 : (if 0 ≤ x7_2 then (if 0 ≤ x5_1 then (if x5_1 < (l0.length : Int) then ((spec_l25Cover.f ((rd_T97 l1 x7_2).f0) ((rd_T97 l1 x7_2).f1) ((rd_T97 l1 x7_2).f2) ((rd_T97 l1 x7_2).f3) ((rd_T97 l1 x7_2).f4) ((rd_T97 l1 x7_2).f5) ((rd_T97 l0 x5_1).f0) ((rd_T97 l0 x5_1).f1) ((rd_T97 l0 x5_1).f2) ((rd_T97 l0 x5_1).f3) ((rd_T97 l0 x5_1).f4) ((rd_T97 l0 x5_1).f5)).bind fun t127 => (spec_FlySmaller.l1 k2 l0 l1 x5_1 t127 (wrap64 (x7_2 + 1)))) else (none)) else (none)) else (none)) = some r := by rw [if_neg (show ¬ (false = true) by decide)] at H; exact H
     clear H
     have H := H1
     clear H1
     by_cases c10 : 0 ≤ x7_2
     rotate_left
     ·rw [if_neg c10] at H
      exact absurd H (by simp)
     rw [if_pos c10] at H
     have c10b0 : decide (0 ≤ x7_2) = true := decide_eq_true c10
     clear c10
     by_cases c11 : 0 ≤ x5_1
     rotate_left
     ·rw [if_neg c11] at H
      exact absurd H (by simp)
     rw [if_pos c11] at H
     have c11b0 : decide (0 ≤ x5_1) = true := decide_eq_true c11
     clear c11
     by_cases c12 : x5_1 < (l0.length : Int)
     rotate_left
     ·rw [if_neg c12] at H
      exact absurd H (by simp)
     rw [if_pos c12] at H
     have c12b0 : decide (x5_1 < (l0.length : Int)) = true := decide_eq_true c12
     clear c12
     replace H := zbd H; obtain ⟨t127, A13, H⟩ := H
     have H' := zA H
     clear H
     try go_wp2
     replace HB := zA (below_drew1 HB.out)
     have p125 : 0 ≤ (x7_2 : Int) := za
     have q125 : x7_2 < (l1.length : Int) := za
     obtain ⟨ad125, e125, hx125_0, hx125_1, hx125_2, hx125_3, hx125_4, hx125_5⟩ := at_T97 HR1.out x7_2 p125 q125
     have hw125_5 := hx125_5
     have hw125_4 := hx125_4
     have hw125_3 := hx125_3
     have hw125_2 := hx125_2
     have hw125_1 := hx125_1
     have hw125_0 := hx125_0
     cases e125
     replace hx125_0 := zx HB hx125_0
     replace hx125_1 := zx HB hx125_1
     replace hx125_2 := zx HB hx125_2
     replace hx125_3 := zx HB hx125_3
     replace hx125_4 := zx HB hx125_4
     replace hx125_5 := zx HB hx125_5
     replace p125 := eq_true p125
     replace q125 := eq_true q125
     have p126 : 0 ≤ (x5_1 : Int) := za
     have q126 : x5_1 < (l0.length : Int) := za
     obtain ⟨ad126, e126, hx126_0, hx126_1, hx126_2, hx126_3, hx126_4, hx126_5⟩ := at_T97 HR0.out x5_1 p126 q126
     have hw126_5 := hx126_5
     have hw126_4 := hx126_4
     have hw126_3 := hx126_3
     have hw126_2 := hx126_2
     have hw126_1 := hx126_1
     have hw126_0 := hx126_0
     obtain rfl : ad123 = ad126 := (by injection e126)
     replace hx126_0 := zx HB hx126_0
     replace hx126_1 := zx HB hx126_1
     replace hx126_2 := zx HB hx126_2
     replace hx126_3 := zx HB hx126_3
     replace hx126_4 := zx HB hx126_4
     replace hx126_5 := zx HB hx126_5
     replace p126 := eq_true p126
     replace q126 := eq_true q126
     refine start_ (n := 13) (S := fun w' => w'.cell? (ad125.add ((x7_2).toNat * 6)) = some (.int .i64 ((rd_T97 l1 x7_2).f0)) ∧ w'.cell? ⟨(ad125.add ((x7_2).toNat * 6)).block, (ad125.add ((x7_2).toNat * 6)).off + 1, none⟩ = some (.int .i64 ((rd_T97 l1 x7_2).f1)) ∧ w'.cell? ⟨(ad125.add ((x7_2).toNat * 6)).block, (ad125.add ((x7_2).toNat * 6)).off + 2, none⟩ = some (.int .i64 ((rd_T97 l1 x7_2).f2)) ∧ w'.cell? ⟨(ad125.add ((x7_2).toNat * 6)).block, (ad125.add ((x7_2).toNat * 6)).off + 3, none⟩ = some (.int .i64 ((rd_T97 l1 x7_2).f3)) ∧ w'.cell? ⟨(ad125.add ((x7_2).toNat * 6)).block, (ad125.add ((x7_2).toNat * 6)).off + 4, none⟩ = some (.int .i64 ((rd_T97 l1 x7_2).f4)) ∧ w'.cell? ⟨(ad125.add ((x7_2).toNat * 6)).block, (ad125.add ((x7_2).toNat * 6)).off + 5, none⟩ = some (.int .i64 ((rd_T97 l1 x7_2).f5)) ∧ w'.cell? (ad123.add ((x5_1).toNat * 6)) = some (.int .i64 ((rd_T97 l0 x5_1).f0)) ∧ w'.cell? ⟨(ad123.add ((x5_1).toNat * 6)).block, (ad123.add ((x5_1).toNat * 6)).off + 1, none⟩ = some (.int .i64 ((rd_T97 l0 x5_1).f1)) ∧ w'.cell? ⟨(ad123.add ((x5_1).toNat * 6)).block, (ad123.add ((x5_1).toNat * 6)).off + 2, none⟩ = some (.int .i64 ((rd_T97 l0 x5_1).f2)) ∧ w'.cell? ⟨(ad123.add ((x5_1).toNat * 6)).block, (ad123.add ((x5_1).toNat * 6)).off + 3, none⟩ = some (.int .i64 ((rd_T97 l0 x5_1).f3)) ∧ w'.cell? ⟨(ad123.add ((x5_1).toNat * 6)).block, (ad123.add ((x5_1).toNat * 6)).off + 4, none⟩ = some (.int .i64 ((rd_T97 l0 x5_1).f4)) ∧ w'.cell? ⟨(ad123.add ((x5_1).toNat * 6)).block, (ad123.add ((x5_1).toNat * 6)).off + 5, none⟩ = some (.int .i64 ((rd_T97 l0 x5_1).f5))) (ds := []) #[F,F,F,F,F,F,F,F,F,F,F,F,F] (by kernel_rfl) rfl rfl ⟨(zw HB hw125_0), (zw HB hw125_1), (zw HB hw125_2), (zw HB hw125_3), (zw HB hw125_4), (zw HB hw125_5), (zw HB hw126_0), (zw HB hw126_1), (zw HB hw126_2), (zw HB hw126_3), (zw HB hw126_4), (zw HB hw126_5)⟩ (fun hHeld => ?_); refine with_tabW spec_FlySmaller.tab8 spec_FlySmaller.bits8 (fun HT_ HW_ => ?_)
     generalize wr.drew = w14 at HB hx125_0 hx125_1 hx125_2 hx125_3 hx125_4 hx125_5 hx126_0 hx126_1 hx126_2 hx126_3 hx126_4 hx126_5 hHeld ⊢
     refine zq HT_ 0 ?_
     refine zq HT_ 1 ?_
     refine zq HT_ 2 ?_
     refine zq HT_ 3 ?_
     refine zq HT_ 4 ?_
     refine zq HT_ 6 ?_
     refine zq HT_ 7 ?_
     refine zq HT_ 8 ?_
     refine zk12 HT_ HW_ hHeld 5 ?_
     refine zk12 HT_ HW_ hHeld 9 ?_
     refine zo HT_ 10 (fun K hK => ?_)
     refine goes_ Try.func71 (by kernel_rfl) rfl #[.agg #[.int .i64 ((rd_T97 l1 x7_2).f0), .int .i64 ((rd_T97 l1 x7_2).f1), .int .i64 ((rd_T97 l1 x7_2).f2), .int .i64 ((rd_T97 l1 x7_2).f3), .int .i64 ((rd_T97 l1 x7_2).f4), .int .i64 ((rd_T97 l1 x7_2).f5)], .agg #[.int .i64 ((rd_T97 l0 x5_1).f0), .int .i64 ((rd_T97 l0 x5_1).f1), .int .i64 ((rd_T97 l0 x5_1).f2), .int .i64 ((rd_T97 l0 x5_1).f3), .int .i64 ((rd_T97 l0 x5_1).f4), .int .i64 ((rd_T97 l0 x5_1).f5)]] (by rfl) rfl rfl zl ?_
     with_reducible refine (spec_l25Cover.calls ((rd_T97 l1 x7_2).f0) ((rd_T97 l1 x7_2).f1) ((rd_T97 l1 x7_2).f2) ((rd_T97 l1 x7_2).f3) ((rd_T97 l1 x7_2).f4) ((rd_T97 l1 x7_2).f5) ((rd_T97 l0 x5_1).f0) ((rd_T97 l0 x5_1).f1) ((rd_T97 l0 x5_1).f2) ((rd_T97 l0 x5_1).f3) ((rd_T97 l0 x5_1).f4) ((rd_T97 l0 x5_1).f5) t127 _ A13.out).mono ?_
     rintro e w15 ⟨rfl, hb⟩
     refine ⟨_, rfl, ?_⟩
     replace HB := zE (zs0 HB) hb
     (try clear hb)
     (try clear hb2)
     (try clear hk)
     (try clear hi)
     refine hK.out _ _ ⟨(zw HB hw125_0), (zw HB hw125_1), (zw HB hw125_2), (zw HB hw125_3), (zw HB hw125_4), (zw HB hw125_5), (zw HB hw126_0), (zw HB hw126_1), (zw HB hw126_2), (zw HB hw126_3), (zw HB hw126_4), (zw HB hw126_5)⟩ (fun hHeld => ?_)
     clear hK K
     refine zN ?_
     refine zq HT_ 11 ?_
     refine zq HT_ 12 ?_
     refine done_ (done_of HT_.out (by kernel_rfl)) ?_
     try go_wp2
     go_roundg k2
     case measure => have := HK1.out; have := HK2.out; omega
     case rel => exact ⟨(t127), (wrap64 (x7_2 + 1)), zi, zi, H', ⟨by have := HK1.out; have := HK2.out; omega⟩, ⟨zs0 HB⟩⟩
end Go.Proofs.Ytahfbpmaeijgaaa.QFnExactFlySmaller
