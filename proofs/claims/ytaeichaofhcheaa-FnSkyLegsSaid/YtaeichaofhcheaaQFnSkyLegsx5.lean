/- The walk of what the law FnSkyLegs reaches: laid by a program of this session (ownprint.py). -/
import Derived.Test.YtaeichaofhcheaaQFnSkyLegsx0
import Derived.Test.YtaeichaofhcheaaQFnSkyLegsx1
namespace Go.Proofs.Ytaeichaofhcheaa.QFnSkyLegs
open Go.RowKit Go.Proofs.YtaeichaofhcheaaW.PrintWords Go.Proofs.YtaeichaofhcheaaW.PrintLast Go.Proofs.YtaeichaofhcheaaW.PrintMore Go.Proofs.Ytaeichaofhcheaa.Z
attribute [local go_sem] max2_int min2_int max_two min_two max_three min_three max_four min_four zdn   -- for this text's walks alone
set_option linter.unusedVariables false
set_option linter.unusedSimpArgs false
attribute [local go_sem high] eqA24
def laws_wmCells.l0 : Nat → List (S24) → List (S24) → Int → Option (Bool)
 | 0, _, _, _ => none
 | k + 1, x0, x1, x5 => if x5 < (x0.length : Int) then (if 0 ≤ x5 then (if x5 < (x1.length : Int) then (if (!(((rd_T24 x0 x5).f0) == ((rd_T24 x1 x5).f0)) || (!(((rd_T24 x0 x5).f1) == ((rd_T24 x1 x5).f1)))) = true then (some false) else (laws_wmCells.l0 k x0 x1 (wrap64 (x5 + 1)))) else (none)) else (none)) else (some true)
def laws_wmCells.f (k : Nat) (l0 : List (S24)) (l1 : List (S24)) : Option (Bool) := if (l0.length : Int) = (l1.length : Int) then (laws_wmCells.l0 k l0 l1 0) else (some false)
set_option maxHeartbeats 8000000 in
set_option maxRecDepth 100000 in
theorem laws_wmCells.calls (k : Nat) (A0 : Option Addr) (c0 : Nat) (l0 : List (S24)) (A1 : Option Addr) (c1 : Nat) (l1 : List (S24)) (r : Bool) (w : World) (hr0 : Kd.C k24 w A0 l0.length l0) (hc0 : l0.length ≤ c0) (hr1 : Kd.C k24 w A1 l1.length l1) (hc1 : l1.length ≤ c1) (h : laws_wmCells.f k l0 l1 = some r) :
 Calls Try.prog 6 #[.slice A0 l0.length c0, .slice A1 l1.length c1] w fun e w' => e = .returned (.bool r) ∧ Drawn0 w w' := by
 have hu24 := Try.underlying24
 have HR0 := zA hr0
 have HC0 := zA hc0
 clear hr0 hc0
 have HR1 := zA hr1
 have HC1 := zA hc1
 clear hr1 hc1
 have H : (if (l0.length : Int) = (l1.length : Int) then (laws_wmCells.l0 k l0 l1 0) else (some false)) = some r := h
 clear h
 by_cases c3 : (l0.length : Int) = (l1.length : Int)
 rotate_left
 ·rw [if_neg c3] at H
  have c3b0 : ((l0.length : Int) == (l1.length : Int)) = false := beq_eq_false_iff_ne.mpr c3
  have c3b1 : ((l0.length : Int) != (l1.length : Int)) = true := bne_iff_ne.mpr c3
  have c3b2 : (l0.length == l1.length) = false := by first | simpa using c3 | (simp at c3 ⊢; omega)
  obtain rfl := Option.some.inj H
  go_enter Try.func6, Try.ntmps6
  go_wp2
  repeat (go_quiet (fail); try go_wp2)
  go_ret
  exact ⟨by first | rfl | (simp; done) | (simp [*]; done), by repeat (first | exact Drawn0.refl _ | apply Drawn0.step)⟩
 rw [if_pos c3] at H
 have c3b0 : ((l0.length : Int) == (l1.length : Int)) = true := beq_iff_eq.mpr c3
 have c3b1 : ((l0.length : Int) != (l1.length : Int)) = false := bne_eq_false_iff_eq.mpr c3
 have c3b2 : (l0.length == l1.length) = true := by first | simpa using c3 | (simp at c3 ⊢; omega)
 clear c3
 have H' := zA H
 clear H
 go_enter Try.func6, Try.ntmps6
 go_wp2
 repeat (go_quiet (fail); try go_wp2)
 go_loopg [5] k (fun kq v5 w' => ∃ (x5_1 : Int), v5 = .int .i64 x5_1 ∧ Aside0 (laws_wmCells.l0 kq l0 l1 x5_1 = some r) ∧ Aside0 (kq ≤ k) ∧ Drawn0 w w')
 case atStart => exact ⟨(0), zi, H', ⟨Nat.le_refl _⟩, by repeat (first | exact Drawn0.refl _ | apply Drawn0.step)⟩
 case round =>
  clear H'
  try clear c1
  try clear p2
  try clear c3
  try clear c3b0
  try clear c3b1
  try clear c3b2
  obtain ⟨x5_1, rfl, HA, HK1, ⟨m1, rfl⟩⟩ := hrel
  cases gk with
  | zero => exact absurd HA.out (by simp [laws_wmCells.l0])
  | succ k1 =>
   have H := HA.out
   clear HA
   simp only [laws_wmCells.l0] at H
   by_cases c4 : x5_1 < (l0.length : Int)
   rotate_left
   ·rw [if_neg c4] at H
    have c4b0 : decide (x5_1 < (l0.length : Int)) = false := decide_eq_false c4
    clear c4
    obtain rfl := Option.some.inj H
    go_wp2
    repeat (go_quiet (fail); try go_wp2)
    go_ret
    exact ⟨by first | rfl | (simp; done) | (simp [*]; done), by repeat (first | exact Drawn0.refl _ | apply Drawn0.step)⟩
   rw [if_pos c4] at H
   have c4b0 : decide (x5_1 < (l0.length : Int)) = true := decide_eq_true c4
   clear c4
   by_cases c5 : 0 ≤ x5_1
   rotate_left
   ·rw [if_neg c5] at H
    exact absurd H (by simp)
   rw [if_pos c5] at H
   have c5b0 : decide (0 ≤ x5_1) = true := decide_eq_true c5
   clear c5
   by_cases c6 : x5_1 < (l1.length : Int)
   rotate_left
   ·rw [if_neg c6] at H
    exact absurd H (by simp)
   rw [if_pos c6] at H
   have c6b0 : decide (x5_1 < (l1.length : Int)) = true := decide_eq_true c6
   clear c6
   by_cases c7 : (!(((rd_T24 l0 x5_1).f0) == ((rd_T24 l1 x5_1).f0)) || (!(((rd_T24 l0 x5_1).f1) == ((rd_T24 l1 x5_1).f1)))) = true
   ·rw [if_pos c7] at H
    have c7b0 : (!(((rd_T24 l0 x5_1).f0) == ((rd_T24 l1 x5_1).f0)) || (!(((rd_T24 l0 x5_1).f1) == ((rd_T24 l1 x5_1).f1)))) = true := c7
    clear c7
    obtain rfl := Option.some.inj H
    have p161 : 0 ≤ (x5_1 : Int) := za
    have q161 : x5_1 < (l0.length : Int) := za
    obtain ⟨ad161, e161, hx161_0, hx161_1⟩ := at_T24 HR0.out x5_1 p161 q161
    cases e161
    replace p161 := eq_true p161
    replace q161 := eq_true q161
    have p162 : 0 ≤ (x5_1 : Int) := za
    have q162 : x5_1 < (l1.length : Int) := za
    obtain ⟨ad162, e162, hx162_0, hx162_1⟩ := at_T24 HR1.out x5_1 p162 q162
    cases e162
    replace p162 := eq_true p162
    replace q162 := eq_true q162
    go_wp2
    repeat (go_quiet (fail); try go_wp2)
    go_ret
    exact ⟨by first | rfl | (simp; done) | (simp [*]; done), by repeat (first | exact Drawn0.refl _ | apply Drawn0.step)⟩
   rw [if_neg c7] at H
   have c7b0 : (!(((rd_T24 l0 x5_1).f0) == ((rd_T24 l1 x5_1).f0)) || (!(((rd_T24 l0 x5_1).f1) == ((rd_T24 l1 x5_1).f1)))) = false := by simpa using c7
   clear c7
   have H' := zA H
   clear H
   have p161 : 0 ≤ (x5_1 : Int) := za
   have q161 : x5_1 < (l0.length : Int) := za
   obtain ⟨ad161, e161, hx161_0, hx161_1⟩ := at_T24 HR0.out x5_1 p161 q161
   cases e161
   replace p161 := eq_true p161
   replace q161 := eq_true q161
   have p162 : 0 ≤ (x5_1 : Int) := za
   have q162 : x5_1 < (l1.length : Int) := za
   obtain ⟨ad162, e162, hx162_0, hx162_1⟩ := at_T24 HR1.out x5_1 p162 q162
   cases e162
   replace p162 := eq_true p162
   replace q162 := eq_true q162
   go_wp2
   repeat (go_quiet (fail); try go_wp2)
   go_roundg k1
   case measure => have := HK1.out; omega
   case rel => exact ⟨(wrap64 (x5_1 + 1)), zi, H', ⟨by have := HK1.out; omega⟩, by repeat (first | exact Drawn0.refl _ | apply Drawn0.step)⟩
def spec_l1In.f (a0 : Int) (a1 : Int) (a2 : Int) : Option (Bool) := if a0 ≥ a1 then (some (decide (a0 ≤ a2))) else (some false)
set_option maxHeartbeats 8000000 in
set_option maxRecDepth 100000 in
theorem spec_l1In.calls (a0 : Int) (a1 : Int) (a2 : Int) (r : Bool) (w : World) (h : spec_l1In.f a0 a1 a2 = some r) :
 Calls Try.prog 20 #[.int .i64 a0, .int .i64 a1, .int .i64 a2] w fun e w' => e = .returned (.bool r) ∧ Drawn0 w w' := by
 have H : (if a0 ≥ a1 then (some (decide (a0 ≤ a2))) else (some false)) = some r := h
 clear h
 by_cases c4 : a0 ≥ a1
 ·rw [if_pos c4] at H
  have c4b0 : decide (a1 ≤ a0) = true := decide_eq_true c4
  clear c4
  obtain rfl := Option.some.inj H
  go_enter Try.func20, Try.ntmps20
  go_wp2
  go_ret
  exact ⟨by first | rfl | (simp; done) | (simp [*]; done), by repeat (first | exact Drawn0.refl _ | apply Drawn0.step)⟩
 rw [if_neg c4] at H
 have c4b0 : decide (a1 ≤ a0) = false := decide_eq_false c4
 clear c4
 obtain rfl := Option.some.inj H
 go_enter Try.func20, Try.ntmps20
 go_wp2
 go_ret
 exact ⟨by first | rfl | (simp; done) | (simp [*]; done), by repeat (first | exact Drawn0.refl _ | apply Drawn0.step)⟩
def spec_l6Inside.f (a0_0 : Int) (a0_1 : Int) : Option (Bool) := (spec_l1In.f a0_0 0 15).bind fun t164 => (if t164 = true then ((spec_l1In.f a0_1 0 15).bind fun t165 => (some t165)) else (some false))
set_option maxHeartbeats 8000000 in
set_option maxRecDepth 100000 in
theorem spec_l6Inside.calls (a0_0 : Int) (a0_1 : Int) (r : Bool) (w : World) (h : spec_l6Inside.f a0_0 a0_1 = some r) :
 Calls Try.prog 14 #[.agg #[.int .i64 a0_0, .int .i64 a0_1]] w fun e w' => e = .returned (.bool r) ∧ Below w.heap.size w w' := by
 have hu24 := Try.underlying24
 have HB := zA (Below.refl w.heap.size w)
 have H : ((spec_l1In.f a0_0 0 15).bind fun t164 => (if t164 = true then ((spec_l1In.f a0_1 0 15).bind fun t165 => (some t165)) else (some false))) = some r := h
 clear h
 replace H := zbd H; obtain ⟨t164, A2, H⟩ := H
 by_cases c3 : t164 = true
 rotate_left
 ·replace c3 := Bool.eq_false_iff.mpr c3
  subst c3
  have H1 : (some false) = some r := by rw [if_neg (show ¬ (false = true) by decide)] at H; exact H
  clear H
  have H := H1
  clear H1
  obtain rfl := Option.some.inj H
  go_enter Try.func14, Try.ntmps14
  go_wp2_with (first | ((with_reducible refine gate_dst (N := 1) rfl ?_); refine zbx 1 #[.int .i64 a0_0, .int .i64 a0_1] 24 ?_; intro gb163 hg w7 hbox hb; have BK163 := zA hbox; have GW163 := zgs hg (zs0 HB); have GE163 := zgs hg (zs0 HB); replace HB := zE (zs0 HB) hb; clear hb hbox hg; obtain ⟨hcz8_0, hcz8_1⟩ := zd2 BK163; obtain ⟨hfz8_0, hfz8_1⟩ := zn2 BK163) | ((with_reducible refine gate_callee (f := 20) rfl ?_); refine zgl (N := some 5) Try.func20 #[.int .i64 a0_0, .int .i64 0, .int .i64 15] ?_; (with_reducible refine (spec_l1In.calls a0_0 0 15 false _ A2.out).mono ?_); rintro e w' ⟨rfl, ⟨nd, rfl⟩⟩; refine ⟨_, rfl, ?_⟩))
  go_ret
  exact ⟨ze, zs1 HB GE163⟩
 subst c3
 have H1 : ((spec_l1In.f a0_1 0 15).bind fun t165 => (some t165)) = some r := by rw [if_pos rfl] at H; exact H
 clear H
 have H := H1
 clear H1
 replace H := zbd H; obtain ⟨t165, A4, H⟩ := H
 obtain rfl := Option.some.inj H
 go_enter Try.func14, Try.ntmps14
 go_wp2_with (first | ((with_reducible refine gate_dst (N := 1) rfl ?_); refine zbx 1 #[.int .i64 a0_0, .int .i64 a0_1] 24 ?_; intro gb163 hg w5 hbox hb; have BK163 := zA hbox; have GW163 := zgs hg (zs0 HB); have GE163 := zgs hg (zs0 HB); replace HB := zE (zs0 HB) hb; clear hb hbox hg; obtain ⟨hcz6_0, hcz6_1⟩ := zd2 BK163; obtain ⟨hfz6_0, hfz6_1⟩ := zn2 BK163) | ((with_reducible refine gate_callee (f := 20) rfl ?_); refine zgl (N := some 5) Try.func20 #[.int .i64 a0_0, .int .i64 0, .int .i64 15] ?_; (with_reducible refine (spec_l1In.calls a0_0 0 15 true _ A2.out).mono ?_); rintro e w' ⟨rfl, ⟨nd, rfl⟩⟩; refine ⟨_, rfl, ?_⟩) | (go_at_call 20; (with_reducible refine (spec_l1In.calls a0_1 0 15 t165 _ A4.out).mono ?_); rintro e w' ⟨rfl, ⟨nd, rfl⟩⟩))
 go_ret
 exact ⟨ze, zs1 HB GE163⟩
def spec_l6Abs.f (a0 : Int) : Option (Int) := if a0 < 0 then (some (wrap64 (-a0))) else (some a0)
set_option maxHeartbeats 8000000 in
set_option maxRecDepth 100000 in
theorem spec_l6Abs.calls (a0 : Int) (r : Int) (w : World) (h : spec_l6Abs.f a0 = some r) :
 Calls Try.prog 21 #[.int .i64 a0] w fun e w' => e = .returned (.int .i64 r) ∧ Drawn0 w w' := by
 have H : (if a0 < 0 then (some (wrap64 (-a0))) else (some a0)) = some r := h
 clear h
 by_cases c2 : a0 < 0
 ·rw [if_pos c2] at H
  have c2b0 : decide (a0 < 0) = true := decide_eq_true c2
  clear c2
  obtain rfl := Option.some.inj H
  go_enter Try.func21, Try.ntmps21
  go_wp2
  go_ret
  exact ⟨by first | rfl | (simp; done) | (simp [*]; done), by repeat (first | exact Drawn0.refl _ | apply Drawn0.step)⟩
 rw [if_neg c2] at H
 have c2b0 : decide (a0 < 0) = false := decide_eq_false c2
 clear c2
 obtain rfl := Option.some.inj H
 go_enter Try.func21, Try.ntmps21
 go_wp2
 go_ret
 exact ⟨by first | rfl | (simp; done) | (simp [*]; done), by repeat (first | exact Drawn0.refl _ | apply Drawn0.step)⟩
def spec_l6Steps.f (a0_0 : Int) (a0_1 : Int) (a1_0 : Int) (a1_1 : Int) : Option (Int) := (spec_l6Abs.f (wrap64 (a0_0 - a1_0))).bind fun t168 => ((spec_l6Abs.f (wrap64 (a0_1 - a1_1))).bind fun t169 => (if t168 > t169 then (some t168) else (some t169)))
set_option maxHeartbeats 8000000 in
set_option maxRecDepth 100000 in
theorem spec_l6Steps.calls (a0_0 : Int) (a0_1 : Int) (a1_0 : Int) (a1_1 : Int) (r : Int) (w : World) (h : spec_l6Steps.f a0_0 a0_1 a1_0 a1_1 = some r) :
 Calls Try.prog 15 #[.agg #[.int .i64 a0_0, .int .i64 a0_1], .agg #[.int .i64 a1_0, .int .i64 a1_1]] w fun e w' => e = .returned (.int .i64 r) ∧ Below w.heap.size w w' := by
 have hu24 := Try.underlying24
 have HB := zA (Below.refl w.heap.size w)
 have H : ((spec_l6Abs.f (wrap64 (a0_0 - a1_0))).bind fun t168 => ((spec_l6Abs.f (wrap64 (a0_1 - a1_1))).bind fun t169 => (if t168 > t169 then (some t168) else (some t169)))) = some r := h
 clear h
 replace H := zbd H; obtain ⟨t168, A3, H⟩ := H
 replace H := Option.bind_eq_some_iff.mp H
 obtain ⟨t169, A40, H⟩ := H
 replace H : (if t168 > t169 then (some t168) else (some t169)) = some r := H
 have A4 := zA A40
 clear A40
 by_cases c5 : t168 > t169
 ·rw [if_pos c5] at H
  have c5b0 : decide (t169 < t168) = true := decide_eq_true c5
  clear c5
  obtain rfl := Option.some.inj H
  go_enter Try.func15, Try.ntmps15
  go_wp2_with (first | ((with_reducible refine gate_dst (N := 2) rfl ?_); refine zbx 2 #[.int .i64 a0_0, .int .i64 a0_1] 24 ?_; intro gb166 hg w6 hbox hb; have BK166 := zA hbox; have GW166 := zgs hg (zs0 HB); have GE166 := zgs hg (zs0 HB); replace HB := zE (zs0 HB) hb; clear hb hbox hg) | ((with_reducible refine gate_dst (N := 3) rfl ?_); refine zbx 3 #[.int .i64 a1_0, .int .i64 a1_1] 24 ?_; intro gb167 hg w7 hbox hb; have BK167 := zA hbox; have GW167 := zgs hg (zs1 HB GE166); have GE167 := zgs hg (zs1 HB GE166); have NB166_167 := zne hg BK166; have NB167_166 := znf hg BK166; replace BK166 := zb BK166 hb; replace HB := zE (zs1 HB GE166) hb; clear hb hbox hg; have hnb8 := NB166_167.out; have hnc8 := NB167_166.out; obtain ⟨hcz9_0, hcz9_1⟩ := zd2 BK166; obtain ⟨hfz9_0, hfz9_1⟩ := zn2 BK166; obtain ⟨hcz10_0, hcz10_1⟩ := zd2 BK167; obtain ⟨hfz10_0, hfz10_1⟩ := zn2 BK167) | ((with_reducible refine gate_callee (f := 21) rfl ?_); refine zgl (N := some 12) Try.func21 #[.int .i64 (wrap64 (a0_0 - a1_0))] ?_; (with_reducible refine (spec_l6Abs.calls (wrap64 (a0_0 - a1_0)) t168 _ A3.out).mono ?_); rintro e w' ⟨rfl, ⟨nd, rfl⟩⟩; refine ⟨_, rfl, ?_⟩) | ((with_reducible refine gate_callee (f := 21) rfl ?_); refine zgl (N := some 18) Try.func21 #[.int .i64 (wrap64 (a0_1 - a1_1))] ?_; (with_reducible refine (spec_l6Abs.calls (wrap64 (a0_1 - a1_1)) t169 _ A4.out).mono ?_); rintro e w' ⟨rfl, ⟨nd, rfl⟩⟩; refine ⟨_, rfl, ?_⟩))
  go_ret
  exact ⟨ze, zs2 HB GE166 GE167⟩
 rw [if_neg c5] at H
 have c5b0 : decide (t169 < t168) = false := decide_eq_false c5
 clear c5
 obtain rfl := Option.some.inj H
 go_enter Try.func15, Try.ntmps15
 go_wp2_with (first | ((with_reducible refine gate_dst (N := 2) rfl ?_); refine zbx 2 #[.int .i64 a0_0, .int .i64 a0_1] 24 ?_; intro gb166 hg w11 hbox hb; have BK166 := zA hbox; have GW166 := zgs hg (zs0 HB); have GE166 := zgs hg (zs0 HB); replace HB := zE (zs0 HB) hb; clear hb hbox hg) | ((with_reducible refine gate_dst (N := 3) rfl ?_); refine zbx 3 #[.int .i64 a1_0, .int .i64 a1_1] 24 ?_; intro gb167 hg w12 hbox hb; have BK167 := zA hbox; have GW167 := zgs hg (zs1 HB GE166); have GE167 := zgs hg (zs1 HB GE166); have NB166_167 := zne hg BK166; have NB167_166 := znf hg BK166; replace BK166 := zb BK166 hb; replace HB := zE (zs1 HB GE166) hb; clear hb hbox hg; have hnb13 := NB166_167.out; have hnc13 := NB167_166.out; obtain ⟨hcz14_0, hcz14_1⟩ := zd2 BK166; obtain ⟨hfz14_0, hfz14_1⟩ := zn2 BK166; obtain ⟨hcz15_0, hcz15_1⟩ := zd2 BK167; obtain ⟨hfz15_0, hfz15_1⟩ := zn2 BK167) | ((with_reducible refine gate_callee (f := 21) rfl ?_); refine zgl (N := some 12) Try.func21 #[.int .i64 (wrap64 (a0_0 - a1_0))] ?_; (with_reducible refine (spec_l6Abs.calls (wrap64 (a0_0 - a1_0)) t168 _ A3.out).mono ?_); rintro e w' ⟨rfl, ⟨nd, rfl⟩⟩; refine ⟨_, rfl, ?_⟩) | ((with_reducible refine gate_callee (f := 21) rfl ?_); refine zgl (N := some 18) Try.func21 #[.int .i64 (wrap64 (a0_1 - a1_1))] ?_; (with_reducible refine (spec_l6Abs.calls (wrap64 (a0_1 - a1_1)) t169 _ A4.out).mono ?_); rintro e w' ⟨rfl, ⟨nd, rfl⟩⟩; refine ⟨_, rfl, ?_⟩))
 go_ret
 exact ⟨ze, zs2 HB GE166 GE167⟩
def spec_l6Part.f (a0 : Int) (a1 : Int) (a2 : Int) : Option (Int) := if (wrap64 (2 * a2)) = 0 then (none) else (if (wrap64 ((wrap64 ((wrap64 (2 * a1)) * a0)) + a2)) < 0 then (if (wrap64 ((wrap64 ((wrap64 (Int.tdiv (wrap64 ((wrap64 ((wrap64 (2 * a1)) * a0)) + a2)) (wrap64 (2 * a2)))) * 2)) * a2)) = (wrap64 ((wrap64 ((wrap64 (2 * a1)) * a0)) + a2)) then (some (wrap64 (Int.tdiv (wrap64 ((wrap64 ((wrap64 (2 * a1)) * a0)) + a2)) (wrap64 (2 * a2))))) else (some (wrap64 ((wrap64 (Int.tdiv (wrap64 ((wrap64 ((wrap64 (2 * a1)) * a0)) + a2)) (wrap64 (2 * a2)))) - 1)))) else (some (wrap64 (Int.tdiv (wrap64 ((wrap64 ((wrap64 (2 * a1)) * a0)) + a2)) (wrap64 (2 * a2))))))
set_option maxHeartbeats 8000000 in
set_option maxRecDepth 100000 in
theorem spec_l6Part.calls (a0 : Int) (a1 : Int) (a2 : Int) (r : Int) (w : World) (h : spec_l6Part.f a0 a1 a2 = some r) :
 Calls Try.prog 16 #[.int .i64 a0, .int .i64 a1, .int .i64 a2] w fun e w' => e = .returned (.int .i64 r) ∧ Drawn0 w w' := by
 have H : (if (wrap64 (2 * a2)) = 0 then (none) else (if (wrap64 ((wrap64 ((wrap64 (2 * a1)) * a0)) + a2)) < 0 then (if (wrap64 ((wrap64 ((wrap64 (Int.tdiv (wrap64 ((wrap64 ((wrap64 (2 * a1)) * a0)) + a2)) (wrap64 (2 * a2)))) * 2)) * a2)) = (wrap64 ((wrap64 ((wrap64 (2 * a1)) * a0)) + a2)) then (some (wrap64 (Int.tdiv (wrap64 ((wrap64 ((wrap64 (2 * a1)) * a0)) + a2)) (wrap64 (2 * a2))))) else (some (wrap64 ((wrap64 (Int.tdiv (wrap64 ((wrap64 ((wrap64 (2 * a1)) * a0)) + a2)) (wrap64 (2 * a2)))) - 1)))) else (some (wrap64 (Int.tdiv (wrap64 ((wrap64 ((wrap64 (2 * a1)) * a0)) + a2)) (wrap64 (2 * a2))))))) = some r := h
 clear h
 by_cases c4 : (wrap64 (2 * a2)) = 0
 ·rw [if_pos c4] at H
  exact absurd H (by simp)
 rw [if_neg c4] at H
 have c4b0 : ((wrap64 (2 * a2)) == 0) = false := beq_eq_false_iff_ne.mpr c4
 have c4b1 : ((wrap64 (2 * a2)) != 0) = true := bne_iff_ne.mpr c4
 by_cases c5 : (wrap64 ((wrap64 ((wrap64 (2 * a1)) * a0)) + a2)) < 0
 rotate_left
 ·rw [if_neg c5] at H
  have c5b0 : decide ((wrap64 ((wrap64 ((wrap64 (2 * a1)) * a0)) + a2)) < 0) = false := decide_eq_false c5
  clear c5
  obtain rfl := Option.some.inj H
  go_enter Try.func16, Try.ntmps16
  go_wp2
  go_ret
  exact ⟨by first | rfl | (simp; done) | (simp [*]; done), by repeat (first | exact Drawn0.refl _ | apply Drawn0.step)⟩
 rw [if_pos c5] at H
 have c5b0 : decide ((wrap64 ((wrap64 ((wrap64 (2 * a1)) * a0)) + a2)) < 0) = true := decide_eq_true c5
 clear c5
 by_cases c6 : (wrap64 ((wrap64 ((wrap64 (Int.tdiv (wrap64 ((wrap64 ((wrap64 (2 * a1)) * a0)) + a2)) (wrap64 (2 * a2)))) * 2)) * a2)) = (wrap64 ((wrap64 ((wrap64 (2 * a1)) * a0)) + a2))
 rotate_left
 ·rw [if_neg c6] at H
  have c6b0 : ((wrap64 ((wrap64 ((wrap64 (Int.tdiv (wrap64 ((wrap64 ((wrap64 (2 * a1)) * a0)) + a2)) (wrap64 (2 * a2)))) * 2)) * a2)) == (wrap64 ((wrap64 ((wrap64 (2 * a1)) * a0)) + a2))) = false := beq_eq_false_iff_ne.mpr c6
  have c6b1 : ((wrap64 ((wrap64 ((wrap64 (Int.tdiv (wrap64 ((wrap64 ((wrap64 (2 * a1)) * a0)) + a2)) (wrap64 (2 * a2)))) * 2)) * a2)) != (wrap64 ((wrap64 ((wrap64 (2 * a1)) * a0)) + a2))) = true := bne_iff_ne.mpr c6
  obtain rfl := Option.some.inj H
  go_enter Try.func16, Try.ntmps16
  go_wp2
  go_ret
  exact ⟨by first | rfl | (simp; done) | (simp [*]; done), by repeat (first | exact Drawn0.refl _ | apply Drawn0.step)⟩
 rw [if_pos c6] at H
 have c6b0 : ((wrap64 ((wrap64 ((wrap64 (Int.tdiv (wrap64 ((wrap64 ((wrap64 (2 * a1)) * a0)) + a2)) (wrap64 (2 * a2)))) * 2)) * a2)) == (wrap64 ((wrap64 ((wrap64 (2 * a1)) * a0)) + a2))) = true := beq_iff_eq.mpr c6
 have c6b1 : ((wrap64 ((wrap64 ((wrap64 (Int.tdiv (wrap64 ((wrap64 ((wrap64 (2 * a1)) * a0)) + a2)) (wrap64 (2 * a2)))) * 2)) * a2)) != (wrap64 ((wrap64 ((wrap64 (2 * a1)) * a0)) + a2))) = false := bne_eq_false_iff_eq.mpr c6
 clear c6
 obtain rfl := Option.some.inj H
 go_enter Try.func16, Try.ntmps16
 go_wp2
 go_ret
 exact ⟨by first | rfl | (simp; done) | (simp [*]; done), by repeat (first | exact Drawn0.refl _ | apply Drawn0.step)⟩
end Go.Proofs.Ytaeichaofhcheaa.QFnSkyLegs
