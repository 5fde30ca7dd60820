/- The walk of what the law FnExactHandWordOk reaches: laid by a program of this session (ownprint.py). -/
import Derived.Test.YtbgcpbdnmpnjhaaQFnExactHandWordOkx0
import Derived.Test.YtbgcpbdnmpnjhaaQFnExactHandWordOkx1
import Derived.Test.YtbgcpbdnmpnjhaaQFnExactHandWordOkx2
import Derived.Test.YtbgcpbdnmpnjhaaQFnExactHandWordOkx3
namespace Go.Proofs.Ytbgcpbdnmpnjhaa.QFnExactHandWordOk
open Go.RowKit Go.Proofs.YtbgcpbdnmpnjhaaW.PrintWords Go.Proofs.YtbgcpbdnmpnjhaaW.PrintLast Go.Proofs.YtbgcpbdnmpnjhaaW.PrintMore Go.Proofs.Ytbgcpbdnmpnjhaa.Z
attribute [local go_sem] max2_int min2_int max_two min_two max_three min_three max_four min_four zdn   -- for this text's walks alone
set_option linter.unusedVariables false
set_option linter.unusedSimpArgs false
mutual
def spec_HandTubeOk.j0 : Nat → List (S48) → List (S56) → Bool → Option (Bool)
 | 0, _, _, _ => none
 | k + 1, x0, x1, x16 => if x16 = true then (some false) else (spec_HandTubeOk.l0 k x0 x1 0)
def spec_HandTubeOk.l0 : Nat → List (S48) → List (S56) → Int → Option (Bool)
 | 0, _, _, _ => none
 | k + 1, x0, x1, x5 => if x5 < (x1.length : Int) then (spec_HandTubeOk.l1 k x0 x1 x5 false 0) else (some true)
def spec_HandTubeOk.l1 : Nat → List (S48) → List (S56) → Int → Bool → Int → Option (Bool)
 | 0, _, _, _, _, _ => none
 | k + 1, x0, x1, x5, x6, x7 => if x7 < (x0.length : Int) then (if x6 = true then (spec_HandTubeOk.l1 k x0 x1 x5 true (wrap64 (x7 + 1))) else (if 0 ≤ x7 then (if 0 ≤ x5 then (if x5 < (x1.length : Int) then ((spec_l31Over.f ((rd_T48 x0 x7).f0) ((rd_T48 x0 x7).f1) ((rd_T48 x0 x7).f2) ((rd_T48 x0 x7).f3) ((rd_T48 x0 x7).f4) ((rd_T56 x1 x5).f0) ((rd_T56 x1 x5).f1) ((rd_T56 x1 x5).f2) ((rd_T56 x1 x5).f3) ((rd_T56 x1 x5).f4) ((rd_T56 x1 x5).f5)).bind fun t138 => (spec_HandTubeOk.l1 k x0 x1 x5 t138 (wrap64 (x7 + 1)))) else (none)) else (none)) else (none))) else (if x6 = true then (if 0 ≤ x5 then (if x5 < (x1.length : Int) then ((spec_l31BoxOk.f ((rd_T56 x1 x5).f0) ((rd_T56 x1 x5).f1) ((rd_T56 x1 x5).f2) ((rd_T56 x1 x5).f3) ((rd_T56 x1 x5).f4) ((rd_T56 x1 x5).f5)).bind fun t140 => (if t140 = true then (spec_HandTubeOk.l0 k x0 x1 (wrap64 (x5 + 1))) else (some false))) else (none)) else (none)) else (some false))
end
def spec_HandTubeOk.f (k : Nat) (l0 : List (S48)) (l1 : List (S56)) : Option (Bool) := (spec_HandZonesOk.f k l0).bind fun t134 => (if t134 = true then ((spec_l31In.f (l1.length : Int) 1 20).bind fun t135 => (spec_HandTubeOk.j0 k l0 l1 (!t135))) else (spec_HandTubeOk.j0 k l0 l1 true))
def spec_HandTubeOk.T10 : Bool × List (List Nat × List Nat) := (true, [([], []), ([0], [0]), ([1], [1]), ([1], [1]), ([2, 3, 1], [1, 2, 3]), ([4, 1], [1, 4]), ([1], [1]), ([1], [1]), ([6, 7, 1], [1, 6, 7]), ([8, 1], [1, 8]), ([5, 9, 1, 1], [1, 5, 9]), ([1, 10], [1, 10]), ([11, 10, 0, 1, 2, 3, 4, 5, 6, 7, 8, 9, 10, 11], [0, 11])])
def spec_HandTubeOk.B10 : List Nat := [0, 1, 3, 3, 15, 31, 3, 3, 195, 451, 1023, 2047, 4095]
theorem spec_HandTubeOk.tab10 : rtab .any (opsOf Try.f20 10) = spec_HandTubeOk.T10 := by kernel_rfl
theorem spec_HandTubeOk.bits10 : waitsOk spec_HandTubeOk.T10.2 spec_HandTubeOk.B10 = true := by kernel_rfl
set_option maxHeartbeats 8000000 in
set_option maxRecDepth 100000 in
theorem spec_HandTubeOk.calls (k : Nat) (A0 : Option Addr) (c0 : Nat) (l0 : List (S48)) (A1 : Option Addr) (c1 : Nat) (l1 : List (S56)) (r : Bool) (w : World) (hr0 : Kd.C k48 w A0 l0.length l0) (hc0 : l0.length ≤ c0) (hr1 : Kd.C k56 w A1 l1.length l1) (hc1 : l1.length ≤ c1) (h : spec_HandTubeOk.f k l0 l1 = some r) :
 Calls Try.prog 20 #[.slice A0 l0.length c0, .slice A1 l1.length c1] w fun e w' => e = .returned (.bool r) ∧ Below w.heap.size w w' := by
 have hu48 := Try.underlying48
 have hu56 := Try.underlying56
 have HR0 := Aside0.mk hr0
 have HC0 := Aside0.mk hc0
 clear hr0 hc0
 have HR1 := Aside0.mk hr1
 have HC1 := Aside0.mk hc1
 clear hr1 hc1
 have HB := Aside0.mk (Below.refl w.heap.size w)
 have H : ((spec_HandZonesOk.f k l0).bind fun t134 => (if t134 = true then ((spec_l31In.f (l1.length : Int) 1 20).bind fun t135 => (spec_HandTubeOk.j0 k l0 l1 (!t135))) else (spec_HandTubeOk.j0 k l0 l1 true))) = some r := h
 clear h
 have HC3 := Aside0.mk H
 clear H
 go_enter Try.func20, Try.ntmps20
 go_upto_region 1 with (fail)
 go_cut [16] (fun v16 wc => ∃ (kq : Nat) (x16_2 : Bool), v16 = .bool x16_2 ∧ Aside0 (spec_HandTubeOk.j0 kq l0 l1 x16_2 = some r) ∧ Aside0 (kq ≤ k) ∧ Aside0 (Below w.heap.size w wc))
 case first =>
  have H := HC3.out
  clear HC3
  replace H := zbd H; obtain ⟨t134, A4, H⟩ := H
  by_cases c5 : t134 = true
  rotate_left
  ·replace c5 := Bool.eq_false_iff.mpr c5
   subst c5
   have H1 : (spec_HandTubeOk.j0 k l0 l1 true) = some r := by rw [if_neg (show ¬ (false = true) by decide)] at H; exact H
   clear H
   have H := H1
   clear H1
   have H' := Aside0.mk H
   clear H
   go_wp2_with (first | ((with_reducible refine gate_callee (f := 14) rfl ?_); refine zgl (N := some 9) Try.func14 #[.slice A0 l0.length c0] ?_; (with_reducible refine (spec_HandZonesOk.calls k _ _ l0 false _ ?side1 ?side2 A4.out).mono ?_); (case side1 => exact zC HR0 HB); (case side2 => exact HC0.out); rintro e w8 ⟨rfl, hb⟩; refine ⟨_, rfl, ?_⟩; replace HB := zE (zs0 HB) hb; (try clear hb); (try clear hb2); (try clear hk); (try clear hi)))
   go_meet
   case rel => exact ⟨_, (true), zi, H', ⟨by first | omega | exact Nat.le_refl _⟩, ⟨zs0 HB⟩⟩
  subst c5
  have H1 : ((spec_l31In.f (l1.length : Int) 1 20).bind fun t135 => (spec_HandTubeOk.j0 k l0 l1 (!t135))) = some r := by rw [if_pos rfl] at H; exact H
  clear H
  have H := H1
  clear H1
  replace H := zbd H; obtain ⟨t135, A6, H⟩ := H
  have H' := Aside0.mk H
  clear H
  go_wp2_with (first | ((with_reducible refine gate_callee (f := 14) rfl ?_); refine zgl (N := some 9) Try.func14 #[.slice A0 l0.length c0] ?_; (with_reducible refine (spec_HandZonesOk.calls k _ _ l0 true _ ?side1 ?side2 A4.out).mono ?_); (case side1 => exact zC HR0 HB); (case side2 => exact HC0.out); rintro e w7 ⟨rfl, hb⟩; refine ⟨_, rfl, ?_⟩; replace HB := zE (zs0 HB) hb; (try clear hb); (try clear hb2); (try clear hk); (try clear hi)) | (go_at_call 15; (with_reducible refine (spec_l31In.calls (l1.length : Int) 1 20 t135 _ A6.out).mono ?_); rintro e w' ⟨rfl, ⟨nd, rfl⟩⟩))
  go_meet
  case rel => exact ⟨_, (!t135), zi, H', ⟨by first | omega | exact Nat.le_refl _⟩, ⟨zs0 HB⟩⟩
 case rest =>
  clear HC3
  try clear c1
  try clear c2
  try clear p2
  try clear c5
  obtain ⟨kq, x16_2, rfl, HA, HJ2, HB⟩ := hcut
  cases kq with
  | zero => exact absurd HA.out (by simp [spec_HandTubeOk.j0])
  | succ kj2 =>
   have H := HA.out
   clear HA
   simp only [spec_HandTubeOk.j0] at H
   by_cases c9 : x16_2 = true
   ·subst c9
    have H1 : (some false) = some r := by rw [if_pos rfl] at H; exact H
    clear H
    have H := H1
    clear H1
    obtain rfl := Option.some.inj H
    go_wp2
    go_ret
    exact ⟨ze, zs0 HB⟩
   replace c9 := Bool.eq_false_iff.mpr c9
   subst c9
   have H1 : (spec_HandTubeOk.l0 kj2 l0 l1 0) = some r := by rw [if_neg (show ¬ (false = true) by decide)] at H; exact H
   clear H
   have H := H1
   clear H1
   have H' := Aside0.mk H
   clear H
   go_wp2
   go_loopg [5] kj2 (fun kq v5 w' => ∃ (x5_2 : Int), v5 = .int .i64 x5_2 ∧ Aside0 (spec_HandTubeOk.l0 kq l0 l1 x5_2 = some r) ∧ Aside0 (kq ≤ kj2) ∧ Aside0 (Below w.heap.size w w'))
   case atStart => exact ⟨(0), zi, H', ⟨Nat.le_refl _⟩, ⟨zs0 HB⟩⟩
   case round =>
    clear H'
    try clear c1
    try clear c2
    try clear p2
    try clear c5
    try clear c9
    try clear p2
    obtain ⟨x5_2, rfl, HA, HK2, HB⟩ := hrel
    cases gk with
    | zero => exact absurd HA.out (by simp [spec_HandTubeOk.l0])
    | succ k2 =>
     have H := HA.out
     clear HA
     simp only [spec_HandTubeOk.l0] at H
     by_cases c10 : x5_2 < (l1.length : Int)
     rotate_left
     ·rw [if_neg c10] at H
      have c10b0 : decide (x5_2 < (l1.length : Int)) = false := decide_eq_false c10
      clear c10
      obtain rfl := Option.some.inj H
      go_wp2
      go_ret
      exact ⟨ze, zs0 HB⟩
     rw [if_pos c10] at H
     have c10b0 : decide (x5_2 < (l1.length : Int)) = true := decide_eq_true c10
     clear c10
     have H' := Aside0.mk H
     clear H
     go_wp2
     go_loopg [6, 7] k2 (fun kq v6 v7 w' => ∃ (x6_3 : Bool) (x7_3 : Int), v6 = .bool x6_3 ∧ v7 = .int .i64 x7_3 ∧ Aside0 (spec_HandTubeOk.l1 kq l0 l1 x5_2 x6_3 x7_3 = some r) ∧ Aside0 (kq ≤ k2) ∧ Aside0 (Below w.heap.size w w'))
     case atStart => exact ⟨(false), (0), zi, zi, H', ⟨Nat.le_refl _⟩, ⟨zs0 HB⟩⟩
     case round =>
      clear H'
      try clear c1
      try clear c2
      try clear p2
      try clear c5
      try clear c9
      try clear c10
      try clear c10b0
      try clear p2
      obtain ⟨x6_3, x7_3, rfl, rfl, HA, HK3, HB⟩ := hrel
      cases gk with
      | zero => exact absurd HA.out (by simp [spec_HandTubeOk.l1])
      | succ k3 =>
       have H := HA.out
       clear HA
       simp only [spec_HandTubeOk.l1] at H
       by_cases c11 : x7_3 < (l0.length : Int)
       rotate_left
       ·rw [if_neg c11] at H
        have c11b0 : decide (x7_3 < (l0.length : Int)) = false := decide_eq_false c11
        clear c11
        by_cases c20 : x6_3 = true
        rotate_left
        ·replace c20 := Bool.eq_false_iff.mpr c20
         subst c20
         have H1 : (some false) = some r := by rw [if_neg (show ¬ (false = true) by decide)] at H; exact H
         clear H
         have H := H1
         clear H1
         obtain rfl := Option.some.inj H
         go_wp2
         go_ret
         exact ⟨ze, zs0 HB⟩
        subst c20
        have H1 : (if 0 ≤ x5_2 then (if x5_2 < (l1.length : Int) then ((spec_l31BoxOk.f ((rd_T56 l1 x5_2).f0) ((rd_T56 l1 x5_2).f1) ((rd_T56 l1 x5_2).f2) ((rd_T56 l1 x5_2).f3) ((rd_T56 l1 x5_2).f4) ((rd_T56 l1 x5_2).f5)).bind fun t140 => (if t140 = true then (spec_HandTubeOk.l0 k3 l0 l1 (wrap64 (x5_2 + 1))) else (some false))) else (none)) else (none)) = some r := by rw [if_pos rfl] at H; exact H
        clear H
        have H := H1
        clear H1
        by_cases c21 : 0 ≤ x5_2
        rotate_left
        ·rw [if_neg c21] at H
         exact absurd H (by simp)
        rw [if_pos c21] at H
        have c21b0 : decide (0 ≤ x5_2) = true := decide_eq_true c21
        clear c21
        by_cases c22 : x5_2 < (l1.length : Int)
        rotate_left
        ·rw [if_neg c22] at H
         exact absurd H (by simp)
        rw [if_pos c22] at H
        have c22b0 : decide (x5_2 < (l1.length : Int)) = true := decide_eq_true c22
        clear c22
        replace H := zbd H; obtain ⟨t140, A23, H⟩ := H
        by_cases c24 : t140 = true
        rotate_left
        ·replace c24 := Bool.eq_false_iff.mpr c24
         subst c24
         have H1 : (some false) = some r := by rw [if_neg (show ¬ (false = true) by decide)] at H; exact H
         clear H
         have H := H1
         clear H1
         obtain rfl := Option.some.inj H
         have p139 : 0 ≤ (x5_2 : Int) := za
         have q139 : x5_2 < (l1.length : Int) := za
         obtain ⟨ad139, e139, hx139_0, hx139_1, hx139_2, hx139_3, hx139_4, hx139_5⟩ := at_T56 HR1.out x5_2 p139 q139
         cases e139
         replace hx139_0 := zx HB hx139_0
         replace hx139_1 := zx HB hx139_1
         replace hx139_2 := zx HB hx139_2
         replace hx139_3 := zx HB hx139_3
         replace hx139_4 := zx HB hx139_4
         replace hx139_5 := zx HB hx139_5
         replace p139 := eq_true p139
         replace q139 := eq_true q139
         go_wp2_with (first | (go_at_call 29; (with_reducible refine (spec_l31BoxOk.calls ((rd_T56 l1 x5_2).f0) ((rd_T56 l1 x5_2).f1) ((rd_T56 l1 x5_2).f2) ((rd_T56 l1 x5_2).f3) ((rd_T56 l1 x5_2).f4) ((rd_T56 l1 x5_2).f5) false _ A23.out).mono ?_); rintro e w26 ⟨rfl, hb⟩; replace HB := zE (zs0 HB) hb; (try clear hb); (try clear hb2); (try clear hk); (try clear hi)))
         go_ret
         exact ⟨ze, zs0 HB⟩
        subst c24
        have H1 : (spec_HandTubeOk.l0 k3 l0 l1 (wrap64 (x5_2 + 1))) = some r := by rw [if_pos rfl] at H; exact H
        clear H
        have H := H1
        clear H1
        have H' := Aside0.mk H
        clear H
        have p139 : 0 ≤ (x5_2 : Int) := za
        have q139 : x5_2 < (l1.length : Int) := za
        obtain ⟨ad139, e139, hx139_0, hx139_1, hx139_2, hx139_3, hx139_4, hx139_5⟩ := at_T56 HR1.out x5_2 p139 q139
        cases e139
        replace hx139_0 := zx HB hx139_0
        replace hx139_1 := zx HB hx139_1
        replace hx139_2 := zx HB hx139_2
        replace hx139_3 := zx HB hx139_3
        replace hx139_4 := zx HB hx139_4
        replace hx139_5 := zx HB hx139_5
        replace p139 := eq_true p139
        replace q139 := eq_true q139
        go_wp2_with (first | (go_at_call 29; (with_reducible refine (spec_l31BoxOk.calls ((rd_T56 l1 x5_2).f0) ((rd_T56 l1 x5_2).f1) ((rd_T56 l1 x5_2).f2) ((rd_T56 l1 x5_2).f3) ((rd_T56 l1 x5_2).f4) ((rd_T56 l1 x5_2).f5) true _ A23.out).mono ?_); rintro e w25 ⟨rfl, hb⟩; replace HB := zE (zs0 HB) hb; (try clear hb); (try clear hb2); (try clear hk); (try clear hi)))
        go_roundg k3
        case measure => have := HJ2.out; have := HK2.out; have := HK3.out; omega
        case rel => exact ⟨(wrap64 (x5_2 + 1)), zi, H', ⟨by have := HJ2.out; have := HK2.out; have := HK3.out; omega⟩, ⟨zs0 HB⟩⟩
       rw [if_pos c11] at H
       have c11b0 : decide (x7_3 < (l0.length : Int)) = true := decide_eq_true c11
       clear c11
       by_cases c12 : x6_3 = true
       ·subst c12
        have H1 : (spec_HandTubeOk.l1 k3 l0 l1 x5_2 true (wrap64 (x7_3 + 1))) = some r := by rw [if_pos rfl] at H; exact H
        clear H
        have H := H1
        clear H1
        have H' := Aside0.mk H
        clear H
        try go_wp2
        replace HB := Aside0.mk (below_drew1 HB.out)
        refine start_ (n := 13) (S := fun w' => True) (ds := []) #[false, false, false, false, false, false, false, false, false, false, false, false, false] (by kernel_rfl) rfl rfl trivial (fun hHeld => ?_); refine with_tabW spec_HandTubeOk.tab10 spec_HandTubeOk.bits10 (fun HT_ HW_ => ?_)
        generalize wr.drew = w13 at HB hHeld ⊢
        refine zq HT_ 0 ?_
        refine zq HT_ 1 ?_
        refine zu HT_ 2 ?_
        refine zu HT_ 3 ?_
        refine zu HT_ 4 ?_
        refine zu HT_ 5 ?_
        refine zu HT_ 6 ?_
        refine zu HT_ 7 ?_
        refine zu HT_ 8 ?_
        refine zu HT_ 9 ?_
        refine zu HT_ 10 ?_
        refine zq HT_ 11 ?_
        refine zq HT_ 12 ?_
        refine done_ (done_of HT_.out (by kernel_rfl)) ?_
        try go_wp2
        go_roundg k3
        case measure => have := HJ2.out; have := HK2.out; have := HK3.out; omega
        case rel => exact ⟨(true), (wrap64 (x7_3 + 1)), zi, zi, H', ⟨by have := HJ2.out; have := HK2.out; have := HK3.out; omega⟩, ⟨zs0 HB⟩⟩
       replace c12 := Bool.eq_false_iff.mpr c12
       subst c12
       have H1 : (if 0 ≤ x7_3 then (if 0 ≤ x5_2 then (if x5_2 < (l1.length : Int) then ((spec_l31Over.f ((rd_T48 l0 x7_3).f0) ((rd_T48 l0 x7_3).f1) ((rd_T48 l0 x7_3).f2) ((rd_T48 l0 x7_3).f3) ((rd_T48 l0 x7_3).f4) ((rd_T56 l1 x5_2).f0) ((rd_T56 l1 x5_2).f1) ((rd_T56 l1 x5_2).f2) ((rd_T56 l1 x5_2).f3) ((rd_T56 l1 x5_2).f4) ((rd_T56 l1 x5_2).f5)).bind fun t138 => (spec_HandTubeOk.l1 k3 l0 l1 x5_2 t138 (wrap64 (x7_3 + 1)))) else (none)) else (none)) else (none)) = some r := by rw [if_neg (show ¬ (false = true) by decide)] at H; exact H
       clear H
       have H := H1
       clear H1
       by_cases c14 : 0 ≤ x7_3
       rotate_left
       ·rw [if_neg c14] at H
        exact absurd H (by simp)
       rw [if_pos c14] at H
       have c14b0 : decide (0 ≤ x7_3) = true := decide_eq_true c14
       clear c14
       by_cases c15 : 0 ≤ x5_2
       rotate_left
       ·rw [if_neg c15] at H
        exact absurd H (by simp)
       rw [if_pos c15] at H
       have c15b0 : decide (0 ≤ x5_2) = true := decide_eq_true c15
       clear c15
       by_cases c16 : x5_2 < (l1.length : Int)
       rotate_left
       ·rw [if_neg c16] at H
        exact absurd H (by simp)
       rw [if_pos c16] at H
       have c16b0 : decide (x5_2 < (l1.length : Int)) = true := decide_eq_true c16
       clear c16
       replace H := zbd H; obtain ⟨t138, A17, H⟩ := H
       have H' := Aside0.mk H
       clear H
       try go_wp2
       replace HB := Aside0.mk (below_drew1 HB.out)
       have p136 : 0 ≤ (x7_3 : Int) := za
       have q136 : x7_3 < (l0.length : Int) := za
       obtain ⟨ad136, e136, hx136_0, hx136_1, hx136_2, hx136_3, hx136_4⟩ := at_T48 HR0.out x7_3 p136 q136
       have hw136_4 := hx136_4
       have hw136_3 := hx136_3
       have hw136_2 := hx136_2
       have hw136_1 := hx136_1
       have hw136_0 := hx136_0
       cases e136
       replace hx136_0 := zx HB hx136_0
       replace hx136_1 := zx HB hx136_1
       replace hx136_2 := zx HB hx136_2
       replace hx136_3 := zx HB hx136_3
       replace hx136_4 := zx HB hx136_4
       replace p136 := eq_true p136
       replace q136 := eq_true q136
       have p137 : 0 ≤ (x5_2 : Int) := za
       have q137 : x5_2 < (l1.length : Int) := za
       obtain ⟨ad137, e137, hx137_0, hx137_1, hx137_2, hx137_3, hx137_4, hx137_5⟩ := at_T56 HR1.out x5_2 p137 q137
       have hw137_5 := hx137_5
       have hw137_4 := hx137_4
       have hw137_3 := hx137_3
       have hw137_2 := hx137_2
       have hw137_1 := hx137_1
       have hw137_0 := hx137_0
       cases e137
       replace hx137_0 := zx HB hx137_0
       replace hx137_1 := zx HB hx137_1
       replace hx137_2 := zx HB hx137_2
       replace hx137_3 := zx HB hx137_3
       replace hx137_4 := zx HB hx137_4
       replace hx137_5 := zx HB hx137_5
       replace p137 := eq_true p137
       replace q137 := eq_true q137
       refine start_ (n := 13) (S := fun w' => w'.cell? (ad136.add ((x7_3).toNat * 5)) = some (.string ((rd_T48 l0 x7_3).f0)) ∧ w'.cell? ⟨(ad136.add ((x7_3).toNat * 5)).block, (ad136.add ((x7_3).toNat * 5)).off + 1, none⟩ = some (.int .i64 ((rd_T48 l0 x7_3).f1)) ∧ w'.cell? ⟨(ad136.add ((x7_3).toNat * 5)).block, (ad136.add ((x7_3).toNat * 5)).off + 2, none⟩ = some (.int .i64 ((rd_T48 l0 x7_3).f2)) ∧ w'.cell? ⟨(ad136.add ((x7_3).toNat * 5)).block, (ad136.add ((x7_3).toNat * 5)).off + 3, none⟩ = some (.int .i64 ((rd_T48 l0 x7_3).f3)) ∧ w'.cell? ⟨(ad136.add ((x7_3).toNat * 5)).block, (ad136.add ((x7_3).toNat * 5)).off + 4, none⟩ = some (.int .i64 ((rd_T48 l0 x7_3).f4)) ∧ w'.cell? (ad137.add ((x5_2).toNat * 6)) = some (.int .i64 ((rd_T56 l1 x5_2).f0)) ∧ w'.cell? ⟨(ad137.add ((x5_2).toNat * 6)).block, (ad137.add ((x5_2).toNat * 6)).off + 1, none⟩ = some (.int .i64 ((rd_T56 l1 x5_2).f1)) ∧ w'.cell? ⟨(ad137.add ((x5_2).toNat * 6)).block, (ad137.add ((x5_2).toNat * 6)).off + 2, none⟩ = some (.int .i64 ((rd_T56 l1 x5_2).f2)) ∧ w'.cell? ⟨(ad137.add ((x5_2).toNat * 6)).block, (ad137.add ((x5_2).toNat * 6)).off + 3, none⟩ = some (.int .i64 ((rd_T56 l1 x5_2).f3)) ∧ w'.cell? ⟨(ad137.add ((x5_2).toNat * 6)).block, (ad137.add ((x5_2).toNat * 6)).off + 4, none⟩ = some (.int .i64 ((rd_T56 l1 x5_2).f4)) ∧ w'.cell? ⟨(ad137.add ((x5_2).toNat * 6)).block, (ad137.add ((x5_2).toNat * 6)).off + 5, none⟩ = some (.int .i64 ((rd_T56 l1 x5_2).f5))) (ds := []) #[false, false, false, false, false, false, false, false, false, false, false, false, false] (by kernel_rfl) rfl rfl ⟨(zw HB hw136_0), (zw HB hw136_1), (zw HB hw136_2), (zw HB hw136_3), (zw HB hw136_4), (zw HB hw137_0), (zw HB hw137_1), (zw HB hw137_2), (zw HB hw137_3), (zw HB hw137_4), (zw HB hw137_5)⟩ (fun hHeld => ?_); refine with_tabW spec_HandTubeOk.tab10 spec_HandTubeOk.bits10 (fun HT_ HW_ => ?_)
       generalize wr.drew = w18 at HB hx136_0 hx136_1 hx136_2 hx136_3 hx136_4 hx137_0 hx137_1 hx137_2 hx137_3 hx137_4 hx137_5 hHeld ⊢
       refine zq HT_ 0 ?_
       refine zq HT_ 1 ?_
       refine zq HT_ 2 ?_
       refine zq HT_ 3 ?_
       refine zq HT_ 4 ?_
       refine zq HT_ 6 ?_
       refine zq HT_ 7 ?_
       refine zq HT_ 8 ?_
       refine zk11 HT_ HW_ hHeld 5 ?_
       refine zk11 HT_ HW_ hHeld 9 ?_
       refine zo HT_ 10 (fun K hK => ?_)
       refine zgo Try.func28 #[.agg #[.string ((rd_T48 l0 x7_3).f0), .int .i64 ((rd_T48 l0 x7_3).f1), .int .i64 ((rd_T48 l0 x7_3).f2), .int .i64 ((rd_T48 l0 x7_3).f3), .int .i64 ((rd_T48 l0 x7_3).f4)], .agg #[.int .i64 ((rd_T56 l1 x5_2).f0), .int .i64 ((rd_T56 l1 x5_2).f1), .int .i64 ((rd_T56 l1 x5_2).f2), .int .i64 ((rd_T56 l1 x5_2).f3), .int .i64 ((rd_T56 l1 x5_2).f4), .int .i64 ((rd_T56 l1 x5_2).f5)]] ?_
       with_reducible refine (spec_l31Over.calls ((rd_T48 l0 x7_3).f0) ((rd_T48 l0 x7_3).f1) ((rd_T48 l0 x7_3).f2) ((rd_T48 l0 x7_3).f3) ((rd_T48 l0 x7_3).f4) ((rd_T56 l1 x5_2).f0) ((rd_T56 l1 x5_2).f1) ((rd_T56 l1 x5_2).f2) ((rd_T56 l1 x5_2).f3) ((rd_T56 l1 x5_2).f4) ((rd_T56 l1 x5_2).f5) t138 _ A17.out).mono ?_
       rintro e w19 ⟨rfl, hb⟩
       refine ⟨_, rfl, ?_⟩
       replace HB := zE (zs0 HB) hb
       (try clear hb)
       (try clear hb2)
       (try clear hk)
       (try clear hi)
       refine hK.out _ _ ⟨(zw HB hw136_0), (zw HB hw136_1), (zw HB hw136_2), (zw HB hw136_3), (zw HB hw136_4), (zw HB hw137_0), (zw HB hw137_1), (zw HB hw137_2), (zw HB hw137_3), (zw HB hw137_4), (zw HB hw137_5)⟩ (fun hHeld => ?_)
       clear hK K
       refine zN ?_
       refine zq HT_ 11 ?_
       refine zq HT_ 12 ?_
       refine done_ (done_of HT_.out (by kernel_rfl)) ?_
       try go_wp2
       go_roundg k3
       case measure => have := HJ2.out; have := HK2.out; have := HK3.out; omega
       case rel => exact ⟨(t138), (wrap64 (x7_3 + 1)), zi, zi, H', ⟨by have := HJ2.out; have := HK2.out; have := HK3.out; omega⟩, ⟨zs0 HB⟩⟩
end Go.Proofs.Ytbgcpbdnmpnjhaa.QFnExactHandWordOk
