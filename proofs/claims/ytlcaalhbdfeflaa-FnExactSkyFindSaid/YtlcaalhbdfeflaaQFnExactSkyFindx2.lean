/- The walk of what the law FnExactSkyFind reaches: laid by a program of this session (ownprint.py). -/
import Derived.Test.YtlcaalhbdfeflaaQFnExactSkyFindx0
import Derived.Test.YtlcaalhbdfeflaaQFnExactSkyFindx1
namespace Go.Proofs.Ytlcaalhbdfeflaa.QFnExactSkyFind
open Go.RowKit Go.Proofs.YtlcaalhbdfeflaaW.PrintWords Go.Proofs.YtlcaalhbdfeflaaW.PrintLast Go.Proofs.YtlcaalhbdfeflaaW.PrintMore Go.Proofs.Ytlcaalhbdfeflaa.Z
attribute [local go_sem] max2_int min2_int max_two min_two max_three min_three max_four min_four zdn   -- for this text's walks alone
set_option linter.unusedVariables false
set_option linter.unusedSimpArgs false
mutual
def spec_SkyFind.l0 : Nat → Int → List (S44) → List (S60) → Int → Int → Int → Option (ByteArray × Bool)
 | 0, _, _, _, _, _, _ => none
 | k + 1, x6, x115000, x115001, x116000, x116001, x116002 => if x6 < (x115000.length : Int) then (if 0 ≤ x6 then (if ((rd_T44 x115000 x6).f0) = x116002 then (spec_SkyFind.j1 k x6 (((rd_T44 x115000 x6).f1) != x116001) x115000 x115001 x116000 x116001 x116002) else (spec_SkyFind.j1 k x6 true x115000 x115001 x116000 x116001 x116002)) else (none)) else (some ((⟨#[]⟩ : ByteArray), false))
def spec_SkyFind.j1 : Nat → Int → Bool → List (S44) → List (S60) → Int → Int → Int → Option (ByteArray × Bool)
 | 0, _, _, _, _, _, _, _ => none
 | k + 1, x6, x34, x115000, x115001, x116000, x116001, x116002 => if x34 = true then (spec_SkyFind.l0 k (wrap64 (x6 + 1)) x115000 x115001 x116000 x116001 x116002) else (spec_SkyFind.l1 k x6 0 x115000 x115001 x116000 x116001 x116002)
def spec_SkyFind.l1 : Nat → Int → Int → List (S44) → List (S60) → Int → Int → Int → Option (ByteArray × Bool)
 | 0, _, _, _, _, _, _, _ => none
 | k + 1, x6, x7, x115000, x115001, x116000, x116001, x116002 => if 0 ≤ x6 then (if x6 < (x115000.length : Int) then (if x7 < (((rd_T44 x115000 x6).f2).length : Int) then (if 0 ≤ x7 then ((spec_l1In.f x116000 ((rd_T47 ((rd_T44 x115000 x6).f2) x7).f0) ((rd_T47 ((rd_T44 x115000 x6).f2) x7).f1)).bind fun t123 => (if t123 = true then (some ((rd_T47 ((rd_T44 x115000 x6).f2) x7).f2, true)) else (spec_SkyFind.l1 k x6 (wrap64 (x7 + 1)) x115000 x115001 x116000 x116001 x116002))) else (none)) else (spec_SkyFind.l0 k (wrap64 (x6 + 1)) x115000 x115001 x116000 x116001 x116002)) else (none)) else (none)
end
def spec_SkyFind.f (k : Nat) (l0_0 : List (S44)) (l0_1 : List (S60)) (a1_0 : Int) (a1_1 : Int) (a1_2 : Int) : Option (ByteArray × Bool) := spec_SkyFind.l0 k 0 l0_0 l0_1 a1_0 a1_1 a1_2
set_option maxHeartbeats 8000000 in
set_option maxRecDepth 100000 in
theorem spec_SkyFind.calls (k : Nat) (A0_0 : Option Addr) (c0_0 : Nat) (l0_0 : List (S44)) (A0_1 : Option Addr) (c0_1 : Nat) (l0_1 : List (S60)) (a1_0 : Int) (a1_1 : Int) (a1_2 : Int) (r1 : ByteArray) (r2 : Bool) (w : World) (hr0_0 : Kd.C k44 w A0_0 l0_0.length l0_0) (hc0_0 : l0_0.length ≤ c0_0) (hr0_1 : Kd.C k60 w A0_1 l0_1.length l0_1) (hc0_1 : l0_1.length ≤ c0_1) (h : spec_SkyFind.f k l0_0 l0_1 a1_0 a1_1 a1_2 = some (r1, r2)) :
 Calls Try.prog 5 #[.agg #[.slice A0_0 l0_0.length c0_0, .slice A0_1 l0_1.length c0_1], .agg #[.int .i64 a1_0, .int .i64 a1_1, .int .i64 a1_2]] w fun e w' => e = .returned (.tuple #[.string r1, .bool r2]) ∧ Below w.heap.size w w' := by
 have hu34 := Try.underlying34
 have hu36 := Try.underlying36
 have HR0_0 := zA hr0_0
 have HC0_0 := zA hc0_0
 clear hr0_0 hc0_0
 have HR0_1 := zA hr0_1
 have HC0_1 := zA hc0_1
 clear hr0_1 hc0_1
 have HB := zA (Below.refl w.heap.size w)
 have H : (spec_SkyFind.l0 k 0 l0_0 l0_1 a1_0 a1_1 a1_2) = some (r1, r2) := h
 clear h
 have H' := zA H
 clear H
 go_enter Try.func5, Try.ntmps5
 go_wp2_with (first | ((with_reducible refine gate_dst (N := 2) rfl ?_); refine zbx 2 #[.slice A0_0 l0_0.length c0_0, .slice A0_1 l0_1.length c0_1] 34 ?_; intro gb114 hg w3 hbox hb; have BK114 := zA hbox; have GW114 := zgs hg (zs0 HB); have GE114 := zgs hg (zs0 HB); replace HB := zE (zs0 HB) hb; clear hb hbox hg) | ((with_reducible refine gate_dst (N := 3) rfl ?_); refine zbx 3 #[.int .i64 a1_0, .int .i64 a1_1, .int .i64 a1_2] 36 ?_; intro gb115 hg w4 hbox hb; have BK115 := zA hbox; have GW115 := zgs hg (zs1 HB GE114); have GE115 := zgs hg (zs1 HB GE114); have NB114_115 := zne hg BK114; have NB115_114 := znf hg BK114; replace BK114 := zb BK114 hb; replace HB := zE (zs1 HB GE114) hb; clear hb hbox hg))
 repeat (go_quiet (first | ((with_reducible refine gate_dst (N := 2) rfl ?_); refine zbx 2 #[.slice A0_0 l0_0.length c0_0, .slice A0_1 l0_1.length c0_1] 34 ?_; intro gb114 hg w3 hbox hb; have BK114 := zA hbox; have GW114 := zgs hg (zs0 HB); have GE114 := zgs hg (zs0 HB); replace HB := zE (zs0 HB) hb; clear hb hbox hg) | ((with_reducible refine gate_dst (N := 3) rfl ?_); refine zbx 3 #[.int .i64 a1_0, .int .i64 a1_1, .int .i64 a1_2] 36 ?_; intro gb115 hg w4 hbox hb; have BK115 := zA hbox; have GW115 := zgs hg (zs1 HB GE114); have GE115 := zgs hg (zs1 HB GE114); have NB114_115 := zne hg BK114; have NB115_114 := znf hg BK114; replace BK114 := zb BK114 hb; replace HB := zE (zs1 HB GE114) hb; clear hb hbox hg)); try go_wp2_with (first | ((with_reducible refine gate_dst (N := 2) rfl ?_); refine zbx 2 #[.slice A0_0 l0_0.length c0_0, .slice A0_1 l0_1.length c0_1] 34 ?_; intro gb114 hg w3 hbox hb; have BK114 := zA hbox; have GW114 := zgs hg (zs0 HB); have GE114 := zgs hg (zs0 HB); replace HB := zE (zs0 HB) hb; clear hb hbox hg) | ((with_reducible refine gate_dst (N := 3) rfl ?_); refine zbx 3 #[.int .i64 a1_0, .int .i64 a1_1, .int .i64 a1_2] 36 ?_; intro gb115 hg w4 hbox hb; have BK115 := zA hbox; have GW115 := zgs hg (zs1 HB GE114); have GE115 := zgs hg (zs1 HB GE114); have NB114_115 := zne hg BK114; have NB115_114 := znf hg BK114; replace BK114 := zb BK114 hb; replace HB := zE (zs1 HB GE114) hb; clear hb hbox hg)))
 go_loopg [6] k (fun kq v6 w' => ∃ (x6_1 : Int), v6 = .int .i64 x6_1 ∧ Aside0 (spec_SkyFind.l0 kq x6_1 l0_0 l0_1 a1_0 a1_1 a1_2 = some (r1, r2)) ∧ Aside0 (kq ≤ k) ∧ Aside0 (w'.heap[gb114]? = some (.cells #[(.slice A0_0 l0_0.length c0_0), (.slice A0_1 l0_1.length c0_1)] 34 (0, 0))) ∧ Aside0 (w'.heap[gb115]? = some (.cells #[.int .i64 a1_0, .int .i64 a1_1, .int .i64 a1_2] 36 (0, 0))) ∧ Aside0 (Below w.heap.size w w'))
 case atStart => exact ⟨(0), zi, H', ⟨Nat.le_refl _⟩, ⟨zh BK114⟩, ⟨zh BK115⟩, ⟨zs2 HB GE114 GE115⟩⟩
 case round =>
  clear H'
  try clear p2
  obtain ⟨x6_1, rfl, HA, HK1, BK114, BK115, HB⟩ := hrel
  cases gk with
  | zero => exact absurd HA.out (by simp [spec_SkyFind.l0])
  | succ k1 =>
   have H := HA.out
   clear HA
   simp only [spec_SkyFind.l0] at H
   by_cases c5 : x6_1 < (l0_0.length : Int)
   rotate_left
   ·rw [if_neg c5] at H
    have c5b0 : decide (x6_1 < (l0_0.length : Int)) = false := decide_eq_false c5
    clear c5
    simp only [Option.some.injEq, Prod.mk.injEq] at H
    obtain ⟨rfl, rfl⟩ := H
    have hnb32 := NB114_115.out
    have hnc32 := NB115_114.out
    obtain ⟨hcz33_0, hcz33_1⟩ := zd2 BK114
    obtain ⟨hfz33_0, hfz33_1⟩ := zn2 BK114
    go_wp2
    repeat (go_quiet (fail); try go_wp2)
    go_ret2
    exact ⟨ze, zs2 HB GE114 GE115⟩
   rw [if_pos c5] at H
   have c5b0 : decide (x6_1 < (l0_0.length : Int)) = true := decide_eq_true c5
   clear c5
   have HC6 := zA H
   clear H
   have hnb7 := NB114_115.out
   have hnc7 := NB115_114.out
   obtain ⟨hcz8_0, hcz8_1⟩ := zd2 BK114
   obtain ⟨hfz8_0, hfz8_1⟩ := zn2 BK114
   go_upto_region 4 with (fail)
   repeat (go_quiet (fail); go_upto_region 4 with (fail))
   go_cut [34] (fun v34 wc => ∃ (kq : Nat) (x34_5 : Bool), v34 = .bool x34_5 ∧ Aside0 (spec_SkyFind.j1 kq x6_1 x34_5 l0_0 l0_1 a1_0 a1_1 a1_2 = some (r1, r2)) ∧ Aside0 (kq ≤ k1) ∧ Aside0 (wc.heap[gb114]? = some (.cells #[(.slice A0_0 l0_0.length c0_0), (.slice A0_1 l0_1.length c0_1)] 34 (0, 0))) ∧ Aside0 (wc.heap[gb115]? = some (.cells #[.int .i64 a1_0, .int .i64 a1_1, .int .i64 a1_2] 36 (0, 0))) ∧ Aside0 (Below w.heap.size w wc))
   case first =>
    have H := HC6.out
    clear HC6
    by_cases c9 : 0 ≤ x6_1
    rotate_left
    ·rw [if_neg c9] at H
     exact absurd H (by simp)
    rw [if_pos c9] at H
    have c9b0 : decide (0 ≤ x6_1) = true := decide_eq_true c9
    clear c9
    (first | rw [c9b0] | (simp only [i64_w, i32_w]; rw [c9b0]) | skip)
    by_cases c10 : ((rd_T44 l0_0 x6_1).f0) = a1_2
    rotate_left
    ·rw [if_neg c10] at H
     have c10b0 : (((rd_T44 l0_0 x6_1).f0) == a1_2) = false := beq_eq_false_iff_ne.mpr c10
     have c10b1 : (((rd_T44 l0_0 x6_1).f0) != a1_2) = true := bne_iff_ne.mpr c10
     have H' := zA H
     clear H
     have hnb14 := NB114_115.out
     have hnc14 := NB115_114.out
     obtain ⟨hcz15_0, hcz15_1⟩ := zd2 BK114
     obtain ⟨hfz15_0, hfz15_1⟩ := zn2 BK114
     have p116 : 0 ≤ (x6_1 : Int) := za
     have q116 : x6_1 < (l0_0.length : Int) := za
     obtain ⟨ad116, A116_2, c116_2, e116, hx116_0, hx116_1, hx116_2, hl116_2, hi116_2⟩ := at_T44 HR0_0.out x6_1 p116 q116
     cases e116
     replace hx116_0 := zx HB hx116_0
     replace hx116_1 := zx HB hx116_1
     replace hx116_2 := zx HB hx116_2
     have HR116_2 := zA hi116_2
     have HC116_2 := zA hl116_2
     clear hi116_2 hl116_2
     replace p116 := eq_true p116
     replace q116 := eq_true q116
     obtain ⟨hcz16_0, hcz16_1, hcz16_2⟩ := zd3 BK115
     obtain ⟨hfz16_0, hfz16_1, hfz16_2⟩ := zn3 BK115
     go_wp2
     repeat (go_quiet (fail); try go_wp2)
     go_meet
     case rel => exact ⟨_, (true), zi, H', ⟨by have := HK1.out; first | omega | exact Nat.le_refl _⟩, ⟨zh BK114⟩, ⟨zh BK115⟩, ⟨zs2 HB GE114 GE115⟩⟩
    rw [if_pos c10] at H
    have c10b0 : (((rd_T44 l0_0 x6_1).f0) == a1_2) = true := beq_iff_eq.mpr c10
    have c10b1 : (((rd_T44 l0_0 x6_1).f0) != a1_2) = false := bne_eq_false_iff_eq.mpr c10
    clear c10
    have H' := zA H
    clear H
    have hnb11 := NB114_115.out
    have hnc11 := NB115_114.out
    obtain ⟨hcz12_0, hcz12_1⟩ := zd2 BK114
    obtain ⟨hfz12_0, hfz12_1⟩ := zn2 BK114
    have p116 : 0 ≤ (x6_1 : Int) := za
    have q116 : x6_1 < (l0_0.length : Int) := za
    obtain ⟨ad116, A116_2, c116_2, e116, hx116_0, hx116_1, hx116_2, hl116_2, hi116_2⟩ := at_T44 HR0_0.out x6_1 p116 q116
    cases e116
    replace hx116_0 := zx HB hx116_0
    replace hx116_1 := zx HB hx116_1
    replace hx116_2 := zx HB hx116_2
    have HR116_2 := zA hi116_2
    have HC116_2 := zA hl116_2
    clear hi116_2 hl116_2
    replace p116 := eq_true p116
    replace q116 := eq_true q116
    obtain ⟨hcz13_0, hcz13_1, hcz13_2⟩ := zd3 BK115
    obtain ⟨hfz13_0, hfz13_1, hfz13_2⟩ := zn3 BK115
    have p117 : 0 ≤ (x6_1 : Int) := za
    have q117 : x6_1 < (l0_0.length : Int) := za
    obtain ⟨ad117, A117_2, c117_2, e117, hx117_0, hx117_1, hx117_2, hl117_2, hi117_2⟩ := at_T44 HR0_0.out x6_1 p117 q117
    obtain rfl : ad116 = ad117 := (by injection e117)
    replace hx117_0 := zx HB hx117_0
    replace hx117_1 := zx HB hx117_1
    replace hx117_2 := zx HB hx117_2
    have HR117_2 := zA hi117_2
    have HC117_2 := zA hl117_2
    clear hi117_2 hl117_2
    replace p117 := eq_true p117
    replace q117 := eq_true q117
    have ea_ := Option.some.inj (hx116_2.symm.trans hx117_2)
    injection ea_ with ea_ en_ ec_
    subst ea_
    subst ec_
    clear en_
    go_wp2
    repeat (go_quiet (fail); try go_wp2)
    go_meet
    case rel => exact ⟨_, ((((rd_T44 l0_0 x6_1).f1) != a1_1)), zi, H', ⟨by have := HK1.out; first | omega | exact Nat.le_refl _⟩, ⟨zh BK114⟩, ⟨zh BK115⟩, ⟨zs2 HB GE114 GE115⟩⟩
   case rest =>
    clear HC6
    try clear c1
    try clear p1
    try clear q1
    try clear hx1
    try clear p2
    try clear c5
    try clear c5b0
    try clear c7
    try clear c9
    try clear c9b0
    try clear c10
    try clear c10b0
    try clear c10b1
    try clear c11
    try clear p11
    try clear q11
    try clear hx11
    try clear c14
    try clear hcz12_0 hcz12_1
    try clear hcz13_0 hcz13_1 hcz13_2
    try clear hcz15_0 hcz15_1
    try clear hcz16_0 hcz16_1 hcz16_2
    try clear hcz8_0 hcz8_1
    try clear hfz12_0 hfz12_1
    try clear hfz13_0 hfz13_1 hfz13_2
    try clear hfz15_0 hfz15_1
    try clear hfz16_0 hfz16_1 hfz16_2
    try clear hfz8_0 hfz8_1
    try clear hx116_0
    try clear hx116_1
    try clear hx116_2
    try clear hx117_0
    try clear hx117_1
    try clear hx117_2
    try clear p116
    try clear p117
    try clear p2
    try clear q116
    try clear q117
    obtain ⟨kq, x34_5, rfl, HA, HJ5, BK114, BK115, HB⟩ := hcut
    cases kq with
    | zero => exact absurd HA.out (by simp [spec_SkyFind.j1])
    | succ kj5 =>
     have H := HA.out
     clear HA
     simp only [spec_SkyFind.j1] at H
     by_cases c17 : x34_5 = true
     ·subst c17
      have H1 : (spec_SkyFind.l0 kj5 (wrap64 (x6_1 + 1)) l0_0 l0_1 a1_0 a1_1 a1_2) = some (r1, r2) := by rw [if_pos rfl] at H; exact H
      clear H
      have H := H1
      clear H1
      have H' := zA H
      clear H
      go_wp2
      repeat (go_quiet (fail); try go_wp2)
      go_roundg kj5
      case measure => have := HK1.out; have := HJ5.out; omega
      case rel => exact ⟨(wrap64 (x6_1 + 1)), zi, H', ⟨by have := HK1.out; have := HJ5.out; omega⟩, ⟨zh BK114⟩, ⟨zh BK115⟩, ⟨zs2 HB GE114 GE115⟩⟩
     replace c17 := Bool.eq_false_iff.mpr c17
     subst c17
     have H1 : (spec_SkyFind.l1 kj5 x6_1 0 l0_0 l0_1 a1_0 a1_1 a1_2) = some (r1, r2) := by rw [if_neg (show ¬ (false = true) by decide)] at H; exact H
     clear H
     have H := H1
     clear H1
     have H' := zA H
     clear H
     go_wp2
     repeat (go_quiet (fail); try go_wp2)
     go_loopg [7] kj5 (fun kq v7 w' => ∃ (x7_3 : Int), v7 = .int .i64 x7_3 ∧ Aside0 (spec_SkyFind.l1 kq x6_1 x7_3 l0_0 l0_1 a1_0 a1_1 a1_2 = some (r1, r2)) ∧ Aside0 (kq ≤ kj5) ∧ Aside0 (w'.heap[gb114]? = some (.cells #[(.slice A0_0 l0_0.length c0_0), (.slice A0_1 l0_1.length c0_1)] 34 (0, 0))) ∧ Aside0 (w'.heap[gb115]? = some (.cells #[.int .i64 a1_0, .int .i64 a1_1, .int .i64 a1_2] 36 (0, 0))) ∧ Aside0 (Below w.heap.size w w'))
     case atStart => exact ⟨(0), zi, H', ⟨Nat.le_refl _⟩, ⟨zh BK114⟩, ⟨zh BK115⟩, ⟨zs2 HB GE114 GE115⟩⟩
     case round =>
      clear H'
      try clear c1
      try clear p1
      try clear q1
      try clear hx1
      try clear p2
      try clear c5
      try clear c5b0
      try clear p6
      try clear c7
      try clear c9
      try clear c9b0
      try clear c10
      try clear c10b0
      try clear c10b1
      try clear c11
      try clear p11
      try clear q11
      try clear hx11
      try clear c14
      try clear c17
      try clear hcz12_0 hcz12_1
      try clear hcz13_0 hcz13_1 hcz13_2
      try clear hcz15_0 hcz15_1
      try clear hcz16_0 hcz16_1 hcz16_2
      try clear hcz8_0 hcz8_1
      try clear hfz12_0 hfz12_1
      try clear hfz13_0 hfz13_1 hfz13_2
      try clear hfz15_0 hfz15_1
      try clear hfz16_0 hfz16_1 hfz16_2
      try clear hfz8_0 hfz8_1
      try clear hx116_0
      try clear hx116_1
      try clear hx116_2
      try clear hx117_0
      try clear hx117_1
      try clear hx117_2
      try clear p1
      try clear p11
      try clear p116
      try clear p117
      try clear p2
      try clear q1
      try clear q11
      try clear q116
      try clear q117
      obtain ⟨x7_3, rfl, HA, HK3, BK114, BK115, HB⟩ := hrel
      cases gk with
      | zero => exact absurd HA.out (by simp [spec_SkyFind.l1])
      | succ k3 =>
       have H := HA.out
       clear HA
       simp only [spec_SkyFind.l1] at H
       by_cases c18 : 0 ≤ x6_1
       rotate_left
       ·rw [if_neg c18] at H
        exact absurd H (by simp)
       rw [if_pos c18] at H
       have c18b0 : decide (0 ≤ x6_1) = true := decide_eq_true c18
       clear c18
       by_cases c19 : x6_1 < (l0_0.length : Int)
       rotate_left
       ·rw [if_neg c19] at H
        exact absurd H (by simp)
       rw [if_pos c19] at H
       have c19b0 : decide (x6_1 < (l0_0.length : Int)) = true := decide_eq_true c19
       clear c19
       by_cases c20 : x7_3 < (((rd_T44 l0_0 x6_1).f2).length : Int)
       rotate_left
       ·rw [if_neg c20] at H
        have c20b0 : decide (x7_3 < (((rd_T44 l0_0 x6_1).f2).length : Int)) = false := decide_eq_false c20
        clear c20
        have H' := zA H
        clear H
        have hnb30 := NB114_115.out
        have hnc30 := NB115_114.out
        obtain ⟨hcz31_0, hcz31_1⟩ := zd2 BK114
        obtain ⟨hfz31_0, hfz31_1⟩ := zn2 BK114
        have p118 : 0 ≤ (x6_1 : Int) := za
        have q118 : x6_1 < (l0_0.length : Int) := za
        obtain ⟨ad118, A118_2, c118_2, e118, hx118_0, hx118_1, hx118_2, hl118_2, hi118_2⟩ := at_T44 HR0_0.out x6_1 p118 q118
        cases e118
        replace hx118_0 := zx HB hx118_0
        replace hx118_1 := zx HB hx118_1
        replace hx118_2 := zx HB hx118_2
        have HR118_2 := zA hi118_2
        have HC118_2 := zA hl118_2
        clear hi118_2 hl118_2
        replace p118 := eq_true p118
        replace q118 := eq_true q118
        go_wp2
        repeat (go_quiet (fail); try go_wp2)
        go_roundg k3
        case measure => have := HK1.out; have := HJ5.out; have := HK3.out; omega
        case rel => exact ⟨(wrap64 (x6_1 + 1)), zi, H', ⟨by have := HK1.out; have := HJ5.out; have := HK3.out; omega⟩, ⟨zh BK114⟩, ⟨zh BK115⟩, ⟨zs2 HB GE114 GE115⟩⟩
       rw [if_pos c20] at H
       have c20b0 : decide (x7_3 < (((rd_T44 l0_0 x6_1).f2).length : Int)) = true := decide_eq_true c20
       clear c20
       by_cases c21 : 0 ≤ x7_3
       rotate_left
       ·rw [if_neg c21] at H
        exact absurd H (by simp)
       rw [if_pos c21] at H
       have c21b0 : decide (0 ≤ x7_3) = true := decide_eq_true c21
       clear c21
       replace H := zbd H; obtain ⟨t123, A22, H⟩ := H
       by_cases c23 : t123 = true
       rotate_left
       ·replace c23 := Bool.eq_false_iff.mpr c23
        subst c23
        have H1 : (spec_SkyFind.l1 k3 x6_1 (wrap64 (x7_3 + 1)) l0_0 l0_1 a1_0 a1_1 a1_2) = some (r1, r2) := by rw [if_neg (show ¬ (false = true) by decide)] at H; exact H
        clear H
        have H := H1
        clear H1
        have H' := zA H
        clear H
        have hnb27 := NB114_115.out
        have hnc27 := NB115_114.out
        obtain ⟨hcz28_0, hcz28_1⟩ := zd2 BK114
        obtain ⟨hfz28_0, hfz28_1⟩ := zn2 BK114
        have p118 : 0 ≤ (x6_1 : Int) := za
        have q118 : x6_1 < (l0_0.length : Int) := za
        obtain ⟨ad118, A118_2, c118_2, e118, hx118_0, hx118_1, hx118_2, hl118_2, hi118_2⟩ := at_T44 HR0_0.out x6_1 p118 q118
        cases e118
        replace hx118_0 := zx HB hx118_0
        replace hx118_1 := zx HB hx118_1
        replace hx118_2 := zx HB hx118_2
        have HR118_2 := zA hi118_2
        have HC118_2 := zA hl118_2
        clear hi118_2 hl118_2
        replace p118 := eq_true p118
        replace q118 := eq_true q118
        obtain ⟨hcz29_0, hcz29_1, hcz29_2⟩ := zd3 BK115
        obtain ⟨hfz29_0, hfz29_1, hfz29_2⟩ := zn3 BK115
        have p119 : 0 ≤ (x6_1 : Int) := za
        have q119 : x6_1 < (l0_0.length : Int) := za
        obtain ⟨ad119, A119_2, c119_2, e119, hx119_0, hx119_1, hx119_2, hl119_2, hi119_2⟩ := at_T44 HR0_0.out x6_1 p119 q119
        obtain rfl : ad118 = ad119 := (by injection e119)
        replace hx119_0 := zx HB hx119_0
        replace hx119_1 := zx HB hx119_1
        replace hx119_2 := zx HB hx119_2
        have HR119_2 := zA hi119_2
        have HC119_2 := zA hl119_2
        clear hi119_2 hl119_2
        replace p119 := eq_true p119
        replace q119 := eq_true q119
        have ea_ := Option.some.inj (hx118_2.symm.trans hx119_2)
        injection ea_ with ea_ en_ ec_
        subst ea_
        subst ec_
        clear en_
        have p120 : 0 ≤ (x7_3 : Int) := za
        have q120 : x7_3 < (((rd_T44 l0_0 x6_1).f2).length : Int) := za
        obtain ⟨ad120, e120, hx120_0, hx120_1, hx120_2⟩ := at_T47 HR119_2.out x7_3 p120 q120
        cases e120
        replace hx120_0 := zx HB hx120_0
        replace hx120_1 := zx HB hx120_1
        replace hx120_2 := zx HB hx120_2
        replace p120 := eq_true p120
        replace q120 := eq_true q120
        have p121 : 0 ≤ (x6_1 : Int) := za
        have q121 : x6_1 < (l0_0.length : Int) := za
        obtain ⟨ad121, A121_2, c121_2, e121, hx121_0, hx121_1, hx121_2, hl121_2, hi121_2⟩ := at_T44 HR0_0.out x6_1 p121 q121
        obtain rfl : ad118 = ad121 := (by injection e121)
        replace hx121_0 := zx HB hx121_0
        replace hx121_1 := zx HB hx121_1
        replace hx121_2 := zx HB hx121_2
        have HR121_2 := zA hi121_2
        have HC121_2 := zA hl121_2
        clear hi121_2 hl121_2
        replace p121 := eq_true p121
        replace q121 := eq_true q121
        have ea_ := Option.some.inj (hx118_2.symm.trans hx121_2)
        injection ea_ with ea_ en_ ec_
        subst ea_
        subst ec_
        clear en_
        have p122 : 0 ≤ (x7_3 : Int) := za
        have q122 : x7_3 < (((rd_T44 l0_0 x6_1).f2).length : Int) := za
        obtain ⟨ad122, e122, hx122_0, hx122_1, hx122_2⟩ := at_T47 HR121_2.out x7_3 p122 q122
        cases e122
        replace hx122_0 := zx HB hx122_0
        replace hx122_1 := zx HB hx122_1
        replace hx122_2 := zx HB hx122_2
        replace p122 := eq_true p122
        replace q122 := eq_true q122
        go_wp2_with (first | (go_at_call 12; (with_reducible refine (spec_l1In.calls a1_0 ((rd_T47 ((rd_T44 l0_0 x6_1).f2) x7_3).f0) ((rd_T47 ((rd_T44 l0_0 x6_1).f2) x7_3).f1) false _ A22.out).mono ?_); rintro e w' ⟨rfl, ⟨nd, rfl⟩⟩; (try first | exact ⟨rfl, _, World.drewN_drewN _ _ _⟩ | exact ⟨rfl, _, Eq.trans (World.drewN_drewN _ _ _) (congrArg (World.drewN _) (Nat.add_assoc _ _ _))⟩)))
        repeat (go_quiet (first | (go_at_call 12; (with_reducible refine (spec_l1In.calls a1_0 ((rd_T47 ((rd_T44 l0_0 x6_1).f2) x7_3).f0) ((rd_T47 ((rd_T44 l0_0 x6_1).f2) x7_3).f1) false _ A22.out).mono ?_); rintro e w' ⟨rfl, ⟨nd, rfl⟩⟩; (try first | exact ⟨rfl, _, World.drewN_drewN _ _ _⟩ | exact ⟨rfl, _, Eq.trans (World.drewN_drewN _ _ _) (congrArg (World.drewN _) (Nat.add_assoc _ _ _))⟩))); try go_wp2_with (first | (go_at_call 12; (with_reducible refine (spec_l1In.calls a1_0 ((rd_T47 ((rd_T44 l0_0 x6_1).f2) x7_3).f0) ((rd_T47 ((rd_T44 l0_0 x6_1).f2) x7_3).f1) false _ A22.out).mono ?_); rintro e w' ⟨rfl, ⟨nd, rfl⟩⟩; (try first | exact ⟨rfl, _, World.drewN_drewN _ _ _⟩ | exact ⟨rfl, _, Eq.trans (World.drewN_drewN _ _ _) (congrArg (World.drewN _) (Nat.add_assoc _ _ _))⟩))))
        go_roundg k3
        case measure => have := HK1.out; have := HJ5.out; have := HK3.out; omega
        case rel => exact ⟨(wrap64 (x7_3 + 1)), zi, H', ⟨by have := HK1.out; have := HJ5.out; have := HK3.out; omega⟩, ⟨zh BK114⟩, ⟨zh BK115⟩, ⟨zs2 HB GE114 GE115⟩⟩
       subst c23
       have H1 : (some ((rd_T47 ((rd_T44 l0_0 x6_1).f2) x7_3).f2, true)) = some (r1, r2) := by rw [if_pos rfl] at H; exact H
       clear H
       have H := H1
       clear H1
       simp only [Option.some.injEq, Prod.mk.injEq] at H
       obtain ⟨rfl, rfl⟩ := H
       have hnb24 := NB114_115.out
       have hnc24 := NB115_114.out
       obtain ⟨hcz25_0, hcz25_1⟩ := zd2 BK114
       obtain ⟨hfz25_0, hfz25_1⟩ := zn2 BK114
       have p118 : 0 ≤ (x6_1 : Int) := za
       have q118 : x6_1 < (l0_0.length : Int) := za
       obtain ⟨ad118, A118_2, c118_2, e118, hx118_0, hx118_1, hx118_2, hl118_2, hi118_2⟩ := at_T44 HR0_0.out x6_1 p118 q118
       cases e118
       replace hx118_0 := zx HB hx118_0
       replace hx118_1 := zx HB hx118_1
       replace hx118_2 := zx HB hx118_2
       have HR118_2 := zA hi118_2
       have HC118_2 := zA hl118_2
       clear hi118_2 hl118_2
       replace p118 := eq_true p118
       replace q118 := eq_true q118
       obtain ⟨hcz26_0, hcz26_1, hcz26_2⟩ := zd3 BK115
       obtain ⟨hfz26_0, hfz26_1, hfz26_2⟩ := zn3 BK115
       have p119 : 0 ≤ (x6_1 : Int) := za
       have q119 : x6_1 < (l0_0.length : Int) := za
       obtain ⟨ad119, A119_2, c119_2, e119, hx119_0, hx119_1, hx119_2, hl119_2, hi119_2⟩ := at_T44 HR0_0.out x6_1 p119 q119
       obtain rfl : ad118 = ad119 := (by injection e119)
       replace hx119_0 := zx HB hx119_0
       replace hx119_1 := zx HB hx119_1
       replace hx119_2 := zx HB hx119_2
       have HR119_2 := zA hi119_2
       have HC119_2 := zA hl119_2
       clear hi119_2 hl119_2
       replace p119 := eq_true p119
       replace q119 := eq_true q119
       have ea_ := Option.some.inj (hx118_2.symm.trans hx119_2)
       injection ea_ with ea_ en_ ec_
       subst ea_
       subst ec_
       clear en_
       have p120 : 0 ≤ (x7_3 : Int) := za
       have q120 : x7_3 < (((rd_T44 l0_0 x6_1).f2).length : Int) := za
       obtain ⟨ad120, e120, hx120_0, hx120_1, hx120_2⟩ := at_T47 HR119_2.out x7_3 p120 q120
       cases e120
       replace hx120_0 := zx HB hx120_0
       replace hx120_1 := zx HB hx120_1
       replace hx120_2 := zx HB hx120_2
       replace p120 := eq_true p120
       replace q120 := eq_true q120
       have p121 : 0 ≤ (x6_1 : Int) := za
       have q121 : x6_1 < (l0_0.length : Int) := za
       obtain ⟨ad121, A121_2, c121_2, e121, hx121_0, hx121_1, hx121_2, hl121_2, hi121_2⟩ := at_T44 HR0_0.out x6_1 p121 q121
       obtain rfl : ad118 = ad121 := (by injection e121)
       replace hx121_0 := zx HB hx121_0
       replace hx121_1 := zx HB hx121_1
       replace hx121_2 := zx HB hx121_2
       have HR121_2 := zA hi121_2
       have HC121_2 := zA hl121_2
       clear hi121_2 hl121_2
       replace p121 := eq_true p121
       replace q121 := eq_true q121
       have ea_ := Option.some.inj (hx118_2.symm.trans hx121_2)
       injection ea_ with ea_ en_ ec_
       subst ea_
       subst ec_
       clear en_
       have p122 : 0 ≤ (x7_3 : Int) := za
       have q122 : x7_3 < (((rd_T44 l0_0 x6_1).f2).length : Int) := za
       obtain ⟨ad122, e122, hx122_0, hx122_1, hx122_2⟩ := at_T47 HR121_2.out x7_3 p122 q122
       cases e122
       replace hx122_0 := zx HB hx122_0
       replace hx122_1 := zx HB hx122_1
       replace hx122_2 := zx HB hx122_2
       replace p122 := eq_true p122
       replace q122 := eq_true q122
       go_wp2_with (first | (go_at_call 12; (with_reducible refine (spec_l1In.calls a1_0 ((rd_T47 ((rd_T44 l0_0 x6_1).f2) x7_3).f0) ((rd_T47 ((rd_T44 l0_0 x6_1).f2) x7_3).f1) true _ A22.out).mono ?_); rintro e w' ⟨rfl, ⟨nd, rfl⟩⟩; (try first | exact ⟨rfl, _, World.drewN_drewN _ _ _⟩ | exact ⟨rfl, _, Eq.trans (World.drewN_drewN _ _ _) (congrArg (World.drewN _) (Nat.add_assoc _ _ _))⟩); have p124 : 0 ≤ (x6_1 : Int) := za; have q124 : x6_1 < (l0_0.length : Int) := za; obtain ⟨ad124, A124_2, c124_2, e124, hx124_0, hx124_1, hx124_2, hl124_2, hi124_2⟩ := at_T44 HR0_0.out x6_1 p124 q124; obtain rfl : ad118 = ad124 := (by injection e124); replace hx124_0 := zx HB hx124_0; replace hx124_1 := zx HB hx124_1; replace hx124_2 := zx HB hx124_2; have HR124_2 := zA hi124_2; have HC124_2 := zA hl124_2; clear hi124_2 hl124_2; replace p124 := eq_true p124; replace q124 := eq_true q124; have ea_ := Option.some.inj (hx118_2.symm.trans hx124_2); injection ea_ with ea_ en_ ec_; subst ea_; subst ec_; clear en_; have p125 : 0 ≤ (x7_3 : Int) := za; have q125 : x7_3 < (((rd_T44 l0_0 x6_1).f2).length : Int) := za; obtain ⟨ad125, e125, hx125_0, hx125_1, hx125_2⟩ := at_T47 HR124_2.out x7_3 p125 q125; cases e125; replace hx125_0 := zx HB hx125_0; replace hx125_1 := zx HB hx125_1; replace hx125_2 := zx HB hx125_2; replace p125 := eq_true p125; replace q125 := eq_true q125))
       repeat (go_quiet (first | (go_at_call 12; (with_reducible refine (spec_l1In.calls a1_0 ((rd_T47 ((rd_T44 l0_0 x6_1).f2) x7_3).f0) ((rd_T47 ((rd_T44 l0_0 x6_1).f2) x7_3).f1) true _ A22.out).mono ?_); rintro e w' ⟨rfl, ⟨nd, rfl⟩⟩; (try first | exact ⟨rfl, _, World.drewN_drewN _ _ _⟩ | exact ⟨rfl, _, Eq.trans (World.drewN_drewN _ _ _) (congrArg (World.drewN _) (Nat.add_assoc _ _ _))⟩); have p124 : 0 ≤ (x6_1 : Int) := za; have q124 : x6_1 < (l0_0.length : Int) := za; obtain ⟨ad124, A124_2, c124_2, e124, hx124_0, hx124_1, hx124_2, hl124_2, hi124_2⟩ := at_T44 HR0_0.out x6_1 p124 q124; obtain rfl : ad118 = ad124 := (by injection e124); replace hx124_0 := zx HB hx124_0; replace hx124_1 := zx HB hx124_1; replace hx124_2 := zx HB hx124_2; have HR124_2 := zA hi124_2; have HC124_2 := zA hl124_2; clear hi124_2 hl124_2; replace p124 := eq_true p124; replace q124 := eq_true q124; have ea_ := Option.some.inj (hx118_2.symm.trans hx124_2); injection ea_ with ea_ en_ ec_; subst ea_; subst ec_; clear en_; have p125 : 0 ≤ (x7_3 : Int) := za; have q125 : x7_3 < (((rd_T44 l0_0 x6_1).f2).length : Int) := za; obtain ⟨ad125, e125, hx125_0, hx125_1, hx125_2⟩ := at_T47 HR124_2.out x7_3 p125 q125; cases e125; replace hx125_0 := zx HB hx125_0; replace hx125_1 := zx HB hx125_1; replace hx125_2 := zx HB hx125_2; replace p125 := eq_true p125; replace q125 := eq_true q125)); try go_wp2_with (first | (go_at_call 12; (with_reducible refine (spec_l1In.calls a1_0 ((rd_T47 ((rd_T44 l0_0 x6_1).f2) x7_3).f0) ((rd_T47 ((rd_T44 l0_0 x6_1).f2) x7_3).f1) true _ A22.out).mono ?_); rintro e w' ⟨rfl, ⟨nd, rfl⟩⟩; (try first | exact ⟨rfl, _, World.drewN_drewN _ _ _⟩ | exact ⟨rfl, _, Eq.trans (World.drewN_drewN _ _ _) (congrArg (World.drewN _) (Nat.add_assoc _ _ _))⟩); have p124 : 0 ≤ (x6_1 : Int) := za; have q124 : x6_1 < (l0_0.length : Int) := za; obtain ⟨ad124, A124_2, c124_2, e124, hx124_0, hx124_1, hx124_2, hl124_2, hi124_2⟩ := at_T44 HR0_0.out x6_1 p124 q124; obtain rfl : ad118 = ad124 := (by injection e124); replace hx124_0 := zx HB hx124_0; replace hx124_1 := zx HB hx124_1; replace hx124_2 := zx HB hx124_2; have HR124_2 := zA hi124_2; have HC124_2 := zA hl124_2; clear hi124_2 hl124_2; replace p124 := eq_true p124; replace q124 := eq_true q124; have ea_ := Option.some.inj (hx118_2.symm.trans hx124_2); injection ea_ with ea_ en_ ec_; subst ea_; subst ec_; clear en_; have p125 : 0 ≤ (x7_3 : Int) := za; have q125 : x7_3 < (((rd_T44 l0_0 x6_1).f2).length : Int) := za; obtain ⟨ad125, e125, hx125_0, hx125_1, hx125_2⟩ := at_T47 HR124_2.out x7_3 p125 q125; cases e125; replace hx125_0 := zx HB hx125_0; replace hx125_1 := zx HB hx125_1; replace hx125_2 := zx HB hx125_2; replace p125 := eq_true p125; replace q125 := eq_true q125)))
       go_ret2
       exact ⟨ze, zs2 HB GE114 GE115⟩
def laws_toSkyRun.f (a0_0 : Int) (a0_1 : Int) (a0_2 : ByteArray) : Option (Int × Int × ByteArray) := some (a0_0, a0_1, a0_2)
set_option maxHeartbeats 8000000 in
set_option maxRecDepth 100000 in
theorem laws_toSkyRun.calls (a0_0 : Int) (a0_1 : Int) (a0_2 : ByteArray) (r1 : Int) (r2 : Int) (r3 : ByteArray) (w : World) (h : laws_toSkyRun.f a0_0 a0_1 a0_2 = some (r1, r2, r3)) :
 Calls Try.prog 27 #[.agg #[.int .i64 a0_0, .int .i64 a0_1, .string a0_2]] w fun e w' => e = .returned (.agg #[.int .i64 r1, .int .i64 r2, .string r3]) ∧ Below w.heap.size w w' := by
 have hu68 := Try.underlying68
 have hu47 := Try.underlying47
 have HB := zA (Below.refl w.heap.size w)
 have H : (some (a0_0, a0_1, a0_2)) = some (r1, r2, r3) := h
 clear h
 simp only [Option.some.injEq, Prod.mk.injEq] at H
 obtain ⟨rfl, rfl, rfl⟩ := H
 go_enter Try.func27, Try.ntmps27
 go_wp2_with (first | ((with_reducible refine gate_dst (N := 1) rfl ?_); refine zbx 1 #[.int .i64 a0_0, .int .i64 a0_1, .string a0_2] 68 ?_; intro gb126 hg w2 hbox hb; have BK126 := zA hbox; have GW126 := zgs hg (zs0 HB); have GE126 := zgs hg (zs0 HB); replace HB := zE (zs0 HB) hb; clear hb hbox hg) | ((with_reducible refine gate_dst (N := 2) rfl ?_); refine zbx 2 #[.int .i64 0, .int .i64 0, .string (⟨#[]⟩ : ByteArray)] 47 ?_; intro gb127 hg w3 hbox hb; have BK127 := zA hbox; have GW127 := zgs hg (zs1 HB GE126); have GE127 := zgs hg (zs1 HB GE126); have NB126_127 := zne hg BK126; have NB127_126 := znf hg BK126; replace BK126 := zb BK126 hb; replace HB := zE (zs1 HB GE126) hb; clear hb hbox hg) | ((with_reducible refine gate_dst (N := 3) rfl ?_); refine zbx 3 #[.int .i64 0, .int .i64 0, .string (⟨#[]⟩ : ByteArray)] 47 ?_; intro gb128 hg w4 hbox hb; have BK128 := zA hbox; have GW128 := zgs hg (zs2 HB GE126 GE127); have GE128 := zgs hg (zs2 HB GE126 GE127); have NB126_128 := zne hg BK126; have NB128_126 := znf hg BK126; have NB127_128 := zne hg BK127; have NB128_127 := znf hg BK127; replace BK126 := zb BK126 hb; replace BK127 := zb BK127 hb; replace HB := zE (zs2 HB GE126 GE127) hb; clear hb hbox hg; have hnb5 := NB126_127.out; have hnc5 := NB127_126.out; have hnb6 := NB126_128.out; have hnc6 := NB128_126.out; obtain ⟨hcz7_0, hcz7_1, hcz7_2⟩ := zd3 BK126; obtain ⟨hfz7_0, hfz7_1, hfz7_2⟩ := zn3 BK126; have hnb8 := NB128_127.out; have hnc8 := NB127_128.out; obtain ⟨hcz9_0, hcz9_1, hcz9_2⟩ := zd3 BK128; obtain ⟨hfz9_0, hfz9_1, hfz9_2⟩ := zn3 BK128; obtain ⟨hcz10_0, hcz10_1, hcz10_2⟩ := zd3 BK127; obtain ⟨hfz10_0, hfz10_1, hfz10_2⟩ := zn3 BK127))
 refine bodyPost_ret (results_cell_row rfl _ _ gb127 47 #[.int .i64 a0_0, .int .i64 a0_1, .string a0_2] (0, 0) _ rfl ?hz Try.underlying47 rfl (by kernel_rfl)) rfl ?_; (case hz => exact zpf BK127 NB127_128)
 exact ⟨ze, zs3 HB GE126 GE127 GE128⟩
end Go.Proofs.Ytlcaalhbdfeflaa.QFnExactSkyFind
