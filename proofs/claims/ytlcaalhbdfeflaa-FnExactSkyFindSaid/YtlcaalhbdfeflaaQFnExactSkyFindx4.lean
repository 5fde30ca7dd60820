/- The walk of what the law FnExactSkyFind reaches: laid by a program of this session (ownprint.py). -/
import Derived.Test.YtlcaalhbdfeflaaQFnExactSkyFindx0
namespace Go.Proofs.Ytlcaalhbdfeflaa.QFnExactSkyFind
open Go.RowKit Go.Proofs.YtlcaalhbdfeflaaW.PrintWords Go.Proofs.YtlcaalhbdfeflaaW.PrintLast Go.Proofs.YtlcaalhbdfeflaaW.PrintMore Go.Proofs.Ytlcaalhbdfeflaa.Z
attribute [local go_sem] max2_int min2_int max_two min_two max_three min_three max_four min_four zdn   -- for this text's walks alone
set_option linter.unusedVariables false
set_option linter.unusedSimpArgs false
mutual
def impl_SkyFind.l0 : Nat → List (S44) → Int → Int → Int → Int → Int → Option (ByteArray × Bool)
 | 0, _, _, _, _, _, _ => none
 | k + 1, x11, x12, x13, x179000, x179001, x179002 => if x13 < x12 then (if 0 ≤ x13 then (if x13 < (x11.length : Int) then (if ((rd_T44 x11 x13).f0) = x179002 then (impl_SkyFind.j1 k x11 x12 x13 (((rd_T44 x11 x13).f1) != x179001) x179000 x179001 x179002 ((rd_T44 x11 x13).f0) ((rd_T44 x11 x13).f1) ((rd_T44 x11 x13).f2)) else (impl_SkyFind.j1 k x11 x12 x13 true x179000 x179001 x179002 ((rd_T44 x11 x13).f0) ((rd_T44 x11 x13).f1) ((rd_T44 x11 x13).f2))) else (none)) else (none)) else (some ((⟨#[]⟩ : ByteArray), false))
def impl_SkyFind.j1 : Nat → List (S44) → Int → Int → Bool → Int → Int → Int → Int → Int → List (S47) → Option (ByteArray × Bool)
 | 0, _, _, _, _, _, _, _, _, _, _ => none
 | k + 1, x11, x12, x13, x28, x179000, x179001, x179002, x181000, x181001, x181002 => if x28 = true then (impl_SkyFind.l0 k x11 x12 (wrap64 (x13 + 1)) x179000 x179001 x179002) else (impl_SkyFind.l1 k x11 x12 x13 x181002 (x181002.length : Int) 0 x179000 x179001 x179002)
def impl_SkyFind.l1 : Nat → List (S44) → Int → Int → List (S47) → Int → Int → Int → Int → Int → Option (ByteArray × Bool)
 | 0, _, _, _, _, _, _, _, _, _ => none
 | k + 1, x11, x12, x13, x30, x31, x32, x179000, x179001, x179002 => if x32 < x31 then (if 0 ≤ x32 then (if x32 < (x30.length : Int) then (if ((rd_T47 x30 x32).f0) ≤ x179000 then (if x179000 ≤ ((rd_T47 x30 x32).f1) then (some ((rd_T47 x30 x32).f2, true)) else (impl_SkyFind.l1 k x11 x12 x13 x30 x31 (wrap64 (x32 + 1)) x179000 x179001 x179002)) else (impl_SkyFind.l1 k x11 x12 x13 x30 x31 (wrap64 (x32 + 1)) x179000 x179001 x179002)) else (none)) else (none)) else (impl_SkyFind.l0 k x11 x12 (wrap64 (x13 + 1)) x179000 x179001 x179002)
end
def impl_SkyFind.f (k : Nat) (l0_0 : List (S44)) (l0_1 : List (S60)) (a1_0 : Int) (a1_1 : Int) (a1_2 : Int) : Option (ByteArray × Bool) := impl_SkyFind.l0 k l0_0 (l0_0.length : Int) 0 a1_0 a1_1 a1_2
set_option maxHeartbeats 8000000 in
set_option maxRecDepth 100000 in
theorem impl_SkyFind.calls (k : Nat) (A0_0 : Option Addr) (c0_0 : Nat) (l0_0 : List (S44)) (A0_1 : Option Addr) (c0_1 : Nat) (l0_1 : List (S60)) (a1_0 : Int) (a1_1 : Int) (a1_2 : Int) (r1 : ByteArray) (r2 : Bool) (w : World) (hr0_0 : Kd.C k44 w A0_0 l0_0.length l0_0) (hc0_0 : l0_0.length ≤ c0_0) (hr0_1 : Kd.C k60 w A0_1 l0_1.length l0_1) (hc0_1 : l0_1.length ≤ c0_1) (h : impl_SkyFind.f k l0_0 l0_1 a1_0 a1_1 a1_2 = some (r1, r2)) :
 Calls Try.prog 8 #[.agg #[.slice A0_0 l0_0.length c0_0, .slice A0_1 l0_1.length c0_1], .agg #[.int .i64 a1_0, .int .i64 a1_1, .int .i64 a1_2]] w fun e w' => e = .returned (.tuple #[.string r1, .bool r2]) ∧ Below w.heap.size w w' := by
 have hu34 := Try.underlying34
 have hu36 := Try.underlying36
 have hu44 := Try.underlying44
 have hu47 := Try.underlying47
 have HR0_0 := zA hr0_0
 have HC0_0 := zA hc0_0
 clear hr0_0 hc0_0
 have HR0_1 := zA hr0_1
 have HC0_1 := zA hc0_1
 clear hr0_1 hc0_1
 have HB := zA (Below.refl w.heap.size w)
 have H : (impl_SkyFind.l0 k l0_0 (l0_0.length : Int) 0 a1_0 a1_1 a1_2) = some (r1, r2) := h
 clear h
 have H' := zA H
 clear H
 go_enter Try.func8, Try.ntmps8
 go_wp2_with (first | ((with_reducible refine gate_dst (N := 2) rfl ?_); refine zbx 2 #[.slice A0_0 l0_0.length c0_0, .slice A0_1 l0_1.length c0_1] 34 ?_; intro gb177 hg w3 hbox hb; have BK177 := zA hbox; have GW177 := zgs hg (zs0 HB); have GE177 := zgs hg (zs0 HB); replace HB := zE (zs0 HB) hb; clear hb hbox hg) | ((with_reducible refine gate_dst (N := 3) rfl ?_); refine zbx 3 #[.int .i64 a1_0, .int .i64 a1_1, .int .i64 a1_2] 36 ?_; intro gb178 hg w4 hbox hb; have BK178 := zA hbox; have GW178 := zgs hg (zs1 HB GE177); have GE178 := zgs hg (zs1 HB GE177); have NB177_178 := zne hg BK177; have NB178_177 := znf hg BK177; replace BK177 := zb BK177 hb; replace HB := zE (zs1 HB GE177) hb; clear hb hbox hg; have hnb5 := NB177_178.out; have hnc5 := NB178_177.out; obtain ⟨hcz6_0, hcz6_1⟩ := zd2 BK177; obtain ⟨hfz6_0, hfz6_1⟩ := zn2 BK177))
 go_loopg [13] k (fun kq v13 w' => ∃ (x13_1 : Int), v13 = .int .i64 x13_1 ∧ Aside0 (impl_SkyFind.l0 kq l0_0 (l0_0.length : Int) x13_1 a1_0 a1_1 a1_2 = some (r1, r2)) ∧ Aside0 (kq ≤ k) ∧ Aside0 (w'.heap[gb177]? = some (.cells #[(.slice A0_0 l0_0.length c0_0), (.slice A0_1 l0_1.length c0_1)] 34 (0, 0))) ∧ Aside0 (w'.heap[gb178]? = some (.cells #[.int .i64 a1_0, .int .i64 a1_1, .int .i64 a1_2] 36 (0, 0))) ∧ Aside0 (Below w.heap.size w w'))
 case atStart => exact ⟨(0), zi, H', ⟨Nat.le_refl _⟩, ⟨zh BK177⟩, ⟨zh BK178⟩, ⟨zs2 HB GE177 GE178⟩⟩
 case round =>
  clear H'
  try clear p2
  try clear c5
  try clear hcz6_0 hcz6_1 hfz6_0 hfz6_1
  obtain ⟨x13_1, rfl, HA, HK1, BK177, BK178, HB⟩ := hrel
  cases gk with
  | zero => exact absurd HA.out (by simp [impl_SkyFind.l0])
  | succ k1 =>
   have H := HA.out
   clear HA
   simp only [impl_SkyFind.l0] at H
   by_cases c7 : x13_1 < (l0_0.length : Int)
   rotate_left
   ·rw [if_neg c7] at H
    have c7b0 : decide (x13_1 < (l0_0.length : Int)) = false := decide_eq_false c7
    clear c7
    simp only [Option.some.injEq, Prod.mk.injEq] at H
    obtain ⟨rfl, rfl⟩ := H
    go_wp2
    go_ret2
    exact ⟨ze, zs2 HB GE177 GE178⟩
   rw [if_pos c7] at H
   have c7b0 : decide (x13_1 < (l0_0.length : Int)) = true := decide_eq_true c7
   clear c7
   by_cases c8 : 0 ≤ x13_1
   rotate_left
   ·rw [if_neg c8] at H
    exact absurd H (by simp)
   rw [if_pos c8] at H
   have c8b0 : decide (0 ≤ x13_1) = true := decide_eq_true c8
   clear c8
   by_cases c9 : x13_1 < (l0_0.length : Int)
   rotate_left
   ·rw [if_neg c9] at H
    exact absurd H (by simp)
   rw [if_pos c9] at H
   have c9b0 : decide (x13_1 < (l0_0.length : Int)) = true := decide_eq_true c9
   clear c9
   have HC10 := zA H
   clear H
   have p179 : 0 ≤ (x13_1 : Int) := za
   have q179 : x13_1 < (l0_0.length : Int) := za
   obtain ⟨ad179, A179_2, c179_2, e179, hx179_0, hx179_1, hx179_2, hl179_2, hi179_2⟩ := at_T44 HR0_0.out x13_1 p179 q179
   cases e179
   replace hx179_0 := zx HB hx179_0
   replace hx179_1 := zx HB hx179_1
   replace hx179_2 := zx HB hx179_2
   have HR179_2 := zA hi179_2
   have HC179_2 := zA hl179_2
   clear hi179_2 hl179_2
   replace p179 := eq_true p179
   replace q179 := eq_true q179
   go_upto_region 4 with (first | ((with_reducible refine gate_dst (N := 7) rfl ?_); refine zbx 7 #[.int .i64 0, .int .i64 0, .slice none 0 0] 44 ?_; intro gb180 hg w11 hbox hb; have BK180 := zA hbox; have GW180 := zgs hg (zs2 HB GE177 GE178); have GE180 := zgs hg (zs2 HB GE177 GE178); have NB177_180 := zne hg BK177; have NB180_177 := znf hg BK177; have NB178_180 := zne hg BK178; have NB180_178 := znf hg BK178; replace BK177 := zb BK177 hb; replace BK178 := zb BK178 hb; replace HB := zE (zs2 HB GE177 GE178) hb; clear hb hbox hg; have hnb12 := NB180_177.out; have hnc12 := NB177_180.out; have hnb13 := NB180_178.out; have hnc13 := NB178_180.out; obtain ⟨hcz14_0, hcz14_1, hcz14_2⟩ := zd3 BK180; obtain ⟨hfz14_0, hfz14_1, hfz14_2⟩ := zn3 BK180))
   (try simp only [Act.put, List.setIfInBounds_toArray, List.set_cons_zero, List.set_cons_succ])
   go_cut [28] (fun v28 wc => ∃ (kq : Nat) (x28_9 : Bool), v28 = .bool x28_9 ∧ Aside0 (impl_SkyFind.j1 kq l0_0 (l0_0.length : Int) x13_1 x28_9 a1_0 a1_1 a1_2 ((rd_T44 l0_0 x13_1).f0) ((rd_T44 l0_0 x13_1).f1) ((rd_T44 l0_0 x13_1).f2) = some (r1, r2)) ∧ Aside0 (kq ≤ k1) ∧ Aside0 (wc.heap[gb177]? = some (.cells #[(.slice (some ad179) l0_0.length c0_0), (.slice A0_1 l0_1.length c0_1)] 34 (0, 0))) ∧ Aside0 (wc.heap[gb178]? = some (.cells #[.int .i64 a1_0, .int .i64 a1_1, .int .i64 a1_2] 36 (0, 0))) ∧ Aside0 (wc.heap[gb180]? = some (.cells #[.int .i64 ((rd_T44 l0_0 x13_1).f0), .int .i64 ((rd_T44 l0_0 x13_1).f1), (.slice A179_2 ((rd_T44 l0_0 x13_1).f2).length c179_2)] 44 (0, 0))) ∧ Aside0 (Below w.heap.size w wc))
   case first =>
    have H := HC10.out
    clear HC10
    by_cases c15 : ((rd_T44 l0_0 x13_1).f0) = a1_2
    rotate_left
    ·rw [if_neg c15] at H
     have c15b0 : (((rd_T44 l0_0 x13_1).f0) == a1_2) = false := beq_eq_false_iff_ne.mpr c15
     have c15b1 : (((rd_T44 l0_0 x13_1).f0) != a1_2) = true := bne_iff_ne.mpr c15
     (first | rw [c15b0] | (simp only [i64_w, i32_w]; rw [c15b0]) | skip)
     have H' := zA H
     clear H
     have hnb21 := NB180_177.out
     have hnc21 := NB177_180.out
     have hnb22 := NB180_178.out
     have hnc22 := NB178_180.out
     obtain ⟨hcz23_0, hcz23_1, hcz23_2⟩ := zd3 BK180
     obtain ⟨hfz23_0, hfz23_1, hfz23_2⟩ := zn3 BK180
     have hnb24 := NB178_177.out
     have hnc24 := NB177_178.out
     obtain ⟨hcz25_0, hcz25_1, hcz25_2⟩ := zd3 BK178
     obtain ⟨hfz25_0, hfz25_1, hfz25_2⟩ := zn3 BK178
     go_wp2
     go_meet
     case rel => exact ⟨_, (true), zi, H', ⟨by have := HK1.out; first | omega | exact Nat.le_refl _⟩, ⟨zpf BK177 NB177_180⟩, ⟨zpf BK178 NB178_180⟩, ⟨zpb BK180⟩, ⟨zs3 HB GE177 GE178 GE180⟩⟩
    rw [if_pos c15] at H
    have c15b0 : (((rd_T44 l0_0 x13_1).f0) == a1_2) = true := beq_iff_eq.mpr c15
    have c15b1 : (((rd_T44 l0_0 x13_1).f0) != a1_2) = false := bne_eq_false_iff_eq.mpr c15
    clear c15
    (first | rw [c15b0] | (simp only [i64_w, i32_w]; rw [c15b0]) | skip)
    have H' := zA H
    clear H
    have hnb16 := NB180_177.out
    have hnc16 := NB177_180.out
    have hnb17 := NB180_178.out
    have hnc17 := NB178_180.out
    obtain ⟨hcz18_0, hcz18_1, hcz18_2⟩ := zd3 BK180
    obtain ⟨hfz18_0, hfz18_1, hfz18_2⟩ := zn3 BK180
    have hnb19 := NB178_177.out
    have hnc19 := NB177_178.out
    obtain ⟨hcz20_0, hcz20_1, hcz20_2⟩ := zd3 BK178
    obtain ⟨hfz20_0, hfz20_1, hfz20_2⟩ := zn3 BK178
    go_wp2
    go_meet
    case rel => exact ⟨_, ((((rd_T44 l0_0 x13_1).f1) != a1_1)), zi, H', ⟨by have := HK1.out; first | omega | exact Nat.le_refl _⟩, ⟨zpf BK177 NB177_180⟩, ⟨zpf BK178 NB178_180⟩, ⟨zpb BK180⟩, ⟨zs3 HB GE177 GE178 GE180⟩⟩
   case rest =>
    clear HC10
    try clear c1
    try clear p1
    try clear q1
    try clear hx1
    try clear c2
    try clear p2
    try clear c5
    try clear c7
    try clear c7b0
    try clear c8
    try clear c8b0
    try clear c9
    try clear c9b0
    try clear c12
    try clear c13
    try clear c15
    try clear c15b0
    try clear c15b1
    try clear c16
    try clear c17
    try clear p17
    try clear q17
    try clear hx17
    try clear c19
    try clear c21
    try clear c22
    try clear c24
    try clear hcz14_0 hcz14_1 hcz14_2
    try clear hcz18_0 hcz18_1 hcz18_2
    try clear hcz20_0 hcz20_1 hcz20_2
    try clear hcz23_0 hcz23_1 hcz23_2
    try clear hcz25_0 hcz25_1 hcz25_2
    try clear hcz6_0 hcz6_1
    try clear hfz14_0 hfz14_1 hfz14_2
    try clear hfz18_0 hfz18_1 hfz18_2
    try clear hfz20_0 hfz20_1 hfz20_2
    try clear hfz23_0 hfz23_1 hfz23_2
    try clear hfz25_0 hfz25_1 hfz25_2
    try clear hfz6_0 hfz6_1
    try clear hx179_0
    try clear hx179_1
    try clear hx179_2
    try clear p179
    try clear p2
    try clear q179
    obtain ⟨kq, x28_9, rfl, HA, HJ9, BK177, BK178, BK180, HB⟩ := hcut
    cases kq with
    | zero => exact absurd HA.out (by simp [impl_SkyFind.j1])
    | succ kj9 =>
     have H := HA.out
     clear HA
     simp only [impl_SkyFind.j1] at H
     by_cases c26 : x28_9 = true
     ·subst c26
      have H1 : (impl_SkyFind.l0 kj9 l0_0 (l0_0.length : Int) (wrap64 (x13_1 + 1)) a1_0 a1_1 a1_2) = some (r1, r2) := by rw [if_pos rfl] at H; exact H
      clear H
      have H := H1
      clear H1
      have H' := zA H
      clear H
      go_wp2
      go_roundg kj9
      case measure => have := HK1.out; have := HJ9.out; omega
      case rel => exact ⟨(wrap64 (x13_1 + 1)), zi, H', ⟨by have := HK1.out; have := HJ9.out; omega⟩, ⟨zh BK177⟩, ⟨zh BK178⟩, ⟨zs3 HB GE177 GE178 GE180⟩⟩
     replace c26 := Bool.eq_false_iff.mpr c26
     subst c26
     have H1 : (impl_SkyFind.l1 kj9 l0_0 (l0_0.length : Int) x13_1 ((rd_T44 l0_0 x13_1).f2) (((rd_T44 l0_0 x13_1).f2).length : Int) 0 a1_0 a1_1 a1_2) = some (r1, r2) := by rw [if_neg (show ¬ (false = true) by decide)] at H; exact H
     clear H
     have H := H1
     clear H1
     have H' := zA H
     clear H
     have hnb27 := NB180_177.out
     have hnc27 := NB177_180.out
     have hnb28 := NB180_178.out
     have hnc28 := NB178_180.out
     obtain ⟨hcz29_0, hcz29_1, hcz29_2⟩ := zd3 BK180
     obtain ⟨hfz29_0, hfz29_1, hfz29_2⟩ := zn3 BK180
     go_wp2
     go_loopg [32] kj9 (fun kq v32 w' => ∃ (x32_3 : Int), v32 = .int .i64 x32_3 ∧ Aside0 (impl_SkyFind.l1 kq l0_0 (l0_0.length : Int) x13_1 ((rd_T44 l0_0 x13_1).f2) (((rd_T44 l0_0 x13_1).f2).length : Int) x32_3 a1_0 a1_1 a1_2 = some (r1, r2)) ∧ Aside0 (kq ≤ kj9) ∧ Aside0 (w'.heap[gb177]? = some (.cells #[(.slice (some ad179) l0_0.length c0_0), (.slice A0_1 l0_1.length c0_1)] 34 (0, 0))) ∧ Aside0 (w'.heap[gb178]? = some (.cells #[.int .i64 a1_0, .int .i64 a1_1, .int .i64 a1_2] 36 (0, 0))) ∧ Aside0 (w'.heap[gb180]? = some (.cells #[.int .i64 ((rd_T44 l0_0 x13_1).f0), .int .i64 ((rd_T44 l0_0 x13_1).f1), (.slice A179_2 ((rd_T44 l0_0 x13_1).f2).length c179_2)] 44 (0, 0))) ∧ Aside0 (Below w.heap.size w w'))
     case atStart => exact ⟨(0), zi, H', ⟨Nat.le_refl _⟩, ⟨zh BK177⟩, ⟨zh BK178⟩, ⟨zh BK180⟩, ⟨zs3 HB GE177 GE178 GE180⟩⟩
     case round =>
      clear H'
      try clear c1
      try clear p1
      try clear q1
      try clear hx1
      try clear c2
      try clear p2
      try clear c5
      try clear p6
      try clear c7
      try clear c7b0
      try clear c8
      try clear c8b0
      try clear c9
      try clear c9b0
      try clear c12
      try clear c13
      try clear c15
      try clear c15b0
      try clear c15b1
      try clear c16
      try clear c17
      try clear p17
      try clear q17
      try clear hx17
      try clear c19
      try clear c21
      try clear c22
      try clear c24
      try clear c26
      try clear c27
      try clear c28
      try clear hcz14_0 hcz14_1 hcz14_2
      try clear hcz18_0 hcz18_1 hcz18_2
      try clear hcz20_0 hcz20_1 hcz20_2
      try clear hcz23_0 hcz23_1 hcz23_2
      try clear hcz25_0 hcz25_1 hcz25_2
      try clear hcz29_0 hcz29_1 hcz29_2
      try clear hcz6_0 hcz6_1
      try clear hfz14_0 hfz14_1 hfz14_2
      try clear hfz18_0 hfz18_1 hfz18_2
      try clear hfz20_0 hfz20_1 hfz20_2
      try clear hfz23_0 hfz23_1 hfz23_2
      try clear hfz25_0 hfz25_1 hfz25_2
      try clear hfz29_0 hfz29_1 hfz29_2
      try clear hfz6_0 hfz6_1
      try clear hx179_0
      try clear hx179_1
      try clear hx179_2
      try clear p1
      try clear p17
      try clear p179
      try clear p2
      try clear q1
      try clear q17
      try clear q179
      obtain ⟨x32_3, rfl, HA, HK3, BK177, BK178, BK180, HB⟩ := hrel
      cases gk with
      | zero => exact absurd HA.out (by simp [impl_SkyFind.l1])
      | succ k3 =>
       have H := HA.out
       clear HA
       simp only [impl_SkyFind.l1] at H
       by_cases c30 : x32_3 < (((rd_T44 l0_0 x13_1).f2).length : Int)
       rotate_left
       ·rw [if_neg c30] at H
        have c30b0 : decide (x32_3 < (((rd_T44 l0_0 x13_1).f2).length : Int)) = false := decide_eq_false c30
        clear c30
        have H' := zA H
        clear H
        go_wp2
        go_roundg k3
        case measure => have := HK1.out; have := HJ9.out; have := HK3.out; omega
        case rel => exact ⟨(wrap64 (x13_1 + 1)), zi, H', ⟨by have := HK1.out; have := HJ9.out; have := HK3.out; omega⟩, ⟨zh BK177⟩, ⟨zh BK178⟩, ⟨zs3 HB GE177 GE178 GE180⟩⟩
       rw [if_pos c30] at H
       have c30b0 : decide (x32_3 < (((rd_T44 l0_0 x13_1).f2).length : Int)) = true := decide_eq_true c30
       clear c30
       by_cases c31 : 0 ≤ x32_3
       rotate_left
       ·rw [if_neg c31] at H
        exact absurd H (by simp)
       rw [if_pos c31] at H
       have c31b0 : decide (0 ≤ x32_3) = true := decide_eq_true c31
       clear c31
       by_cases c32 : x32_3 < (((rd_T44 l0_0 x13_1).f2).length : Int)
       rotate_left
       ·rw [if_neg c32] at H
        exact absurd H (by simp)
       rw [if_pos c32] at H
       have c32b0 : decide (x32_3 < (((rd_T44 l0_0 x13_1).f2).length : Int)) = true := decide_eq_true c32
       clear c32
       by_cases c33 : ((rd_T47 ((rd_T44 l0_0 x13_1).f2) x32_3).f0) ≤ a1_0
       rotate_left
       ·rw [if_neg c33] at H
        have c33b0 : decide (((rd_T47 ((rd_T44 l0_0 x13_1).f2) x32_3).f0) ≤ a1_0) = false := decide_eq_false c33
        clear c33
        have H' := zA H
        clear H
        have p181 : 0 ≤ (x32_3 : Int) := za
        have q181 : x32_3 < (((rd_T44 l0_0 x13_1).f2).length : Int) := za
        obtain ⟨ad181, e181, hx181_0, hx181_1, hx181_2⟩ := at_T47 HR179_2.out x32_3 p181 q181
        cases e181
        replace hx181_0 := zx HB hx181_0
        replace hx181_1 := zx HB hx181_1
        replace hx181_2 := zx HB hx181_2
        replace p181 := eq_true p181
        replace q181 := eq_true q181
        go_wp2_with (first | ((with_reducible refine gate_dst (N := 9) rfl ?_); refine zbx 9 #[.int .i64 0, .int .i64 0, .string (⟨#[]⟩ : ByteArray)] 47 ?_; intro gb182 hg w51 hbox hb; have BK182 := zA hbox; have GW182 := zgs hg (zs3 HB GE177 GE178 GE180); have GE182 := zgs hg (zs3 HB GE177 GE178 GE180); have NB177_182 := zne hg BK177; have NB182_177 := znf hg BK177; have NB178_182 := zne hg BK178; have NB182_178 := znf hg BK178; have NB180_182 := zne hg BK180; have NB182_180 := znf hg BK180; replace BK177 := zb BK177 hb; replace BK178 := zb BK178 hb; replace BK180 := zb BK180 hb; replace HB := zE (zs3 HB GE177 GE178 GE180) hb; clear hb hbox hg; have hnb52 := NB182_177.out; have hnc52 := NB177_182.out; have hnb53 := NB182_178.out; have hnc53 := NB178_182.out; have hnb54 := NB182_180.out; have hnc54 := NB180_182.out; obtain ⟨hcz55_0, hcz55_1, hcz55_2⟩ := zd3 BK182; obtain ⟨hfz55_0, hfz55_1, hfz55_2⟩ := zn3 BK182; have hnb56 := NB178_177.out; have hnc56 := NB177_178.out; have hnb57 := NB178_180.out; have hnc57 := NB180_178.out; obtain ⟨hcz58_0, hcz58_1, hcz58_2⟩ := zd3 BK178; obtain ⟨hfz58_0, hfz58_1, hfz58_2⟩ := zn3 BK178))
        go_roundg k3
        case measure => have := HK1.out; have := HJ9.out; have := HK3.out; omega
        case rel => exact ⟨(wrap64 (x32_3 + 1)), zi, H', ⟨by have := HK1.out; have := HJ9.out; have := HK3.out; omega⟩, ⟨zpf BK177 NB177_182⟩, ⟨zpf BK178 NB178_182⟩, ⟨zpf BK180 NB180_182⟩, ⟨by repeat (first | (with_reducible first | exact HB.out | apply below_alloc | apply pw_below_drewN | apply below_drew1 | refine below_set ?_ GE177.out | refine below_set ?_ GE178.out | refine below_set ?_ GE180.out | refine below_set ?_ GE182.out) | exact HB.out)⟩⟩
       rw [if_pos c33] at H
       have c33b0 : decide (((rd_T47 ((rd_T44 l0_0 x13_1).f2) x32_3).f0) ≤ a1_0) = true := decide_eq_true c33
       clear c33
       by_cases c34 : a1_0 ≤ ((rd_T47 ((rd_T44 l0_0 x13_1).f2) x32_3).f1)
       ·rw [if_pos c34] at H
        have c34b0 : decide (a1_0 ≤ ((rd_T47 ((rd_T44 l0_0 x13_1).f2) x32_3).f1)) = true := decide_eq_true c34
        clear c34
        simp only [Option.some.injEq, Prod.mk.injEq] at H
        obtain ⟨rfl, rfl⟩ := H
        have p181 : 0 ≤ (x32_3 : Int) := za
        have q181 : x32_3 < (((rd_T44 l0_0 x13_1).f2).length : Int) := za
        obtain ⟨ad181, e181, hx181_0, hx181_1, hx181_2⟩ := at_T47 HR179_2.out x32_3 p181 q181
        cases e181
        replace hx181_0 := zx HB hx181_0
        replace hx181_1 := zx HB hx181_1
        replace hx181_2 := zx HB hx181_2
        replace p181 := eq_true p181
        replace q181 := eq_true q181
        go_wp2_with (first | ((with_reducible refine gate_dst (N := 9) rfl ?_); refine zbx 9 #[.int .i64 0, .int .i64 0, .string (⟨#[]⟩ : ByteArray)] 47 ?_; intro gb182 hg w35 hbox hb; have BK182 := zA hbox; have GW182 := zgs hg (zs3 HB GE177 GE178 GE180); have GE182 := zgs hg (zs3 HB GE177 GE178 GE180); have NB177_182 := zne hg BK177; have NB182_177 := znf hg BK177; have NB178_182 := zne hg BK178; have NB182_178 := znf hg BK178; have NB180_182 := zne hg BK180; have NB182_180 := znf hg BK180; replace BK177 := zb BK177 hb; replace BK178 := zb BK178 hb; replace BK180 := zb BK180 hb; replace HB := zE (zs3 HB GE177 GE178 GE180) hb; clear hb hbox hg; have hnb36 := NB182_177.out; have hnc36 := NB177_182.out; have hnb37 := NB182_178.out; have hnc37 := NB178_182.out; have hnb38 := NB182_180.out; have hnc38 := NB180_182.out; obtain ⟨hcz39_0, hcz39_1, hcz39_2⟩ := zd3 BK182; obtain ⟨hfz39_0, hfz39_1, hfz39_2⟩ := zn3 BK182; have hnb40 := NB178_177.out; have hnc40 := NB177_178.out; have hnb41 := NB178_180.out; have hnc41 := NB180_178.out; obtain ⟨hcz42_0, hcz42_1, hcz42_2⟩ := zd3 BK178; obtain ⟨hfz42_0, hfz42_1, hfz42_2⟩ := zn3 BK178))
        go_ret2
        exact ⟨ze, by repeat (first | (with_reducible first | exact HB.out | apply below_alloc | apply pw_below_drewN | apply below_drew1 | refine below_set ?_ GE177.out | refine below_set ?_ GE178.out | refine below_set ?_ GE180.out | refine below_set ?_ GE182.out) | exact HB.out)⟩
       rw [if_neg c34] at H
       have c34b0 : decide (a1_0 ≤ ((rd_T47 ((rd_T44 l0_0 x13_1).f2) x32_3).f1)) = false := decide_eq_false c34
       clear c34
       have H' := zA H
       clear H
       have p181 : 0 ≤ (x32_3 : Int) := za
       have q181 : x32_3 < (((rd_T44 l0_0 x13_1).f2).length : Int) := za
       obtain ⟨ad181, e181, hx181_0, hx181_1, hx181_2⟩ := at_T47 HR179_2.out x32_3 p181 q181
       cases e181
       replace hx181_0 := zx HB hx181_0
       replace hx181_1 := zx HB hx181_1
       replace hx181_2 := zx HB hx181_2
       replace p181 := eq_true p181
       replace q181 := eq_true q181
       go_wp2_with (first | ((with_reducible refine gate_dst (N := 9) rfl ?_); refine zbx 9 #[.int .i64 0, .int .i64 0, .string (⟨#[]⟩ : ByteArray)] 47 ?_; intro gb182 hg w43 hbox hb; have BK182 := zA hbox; have GW182 := zgs hg (zs3 HB GE177 GE178 GE180); have GE182 := zgs hg (zs3 HB GE177 GE178 GE180); have NB177_182 := zne hg BK177; have NB182_177 := znf hg BK177; have NB178_182 := zne hg BK178; have NB182_178 := znf hg BK178; have NB180_182 := zne hg BK180; have NB182_180 := znf hg BK180; replace BK177 := zb BK177 hb; replace BK178 := zb BK178 hb; replace BK180 := zb BK180 hb; replace HB := zE (zs3 HB GE177 GE178 GE180) hb; clear hb hbox hg; have hnb44 := NB182_177.out; have hnc44 := NB177_182.out; have hnb45 := NB182_178.out; have hnc45 := NB178_182.out; have hnb46 := NB182_180.out; have hnc46 := NB180_182.out; obtain ⟨hcz47_0, hcz47_1, hcz47_2⟩ := zd3 BK182; obtain ⟨hfz47_0, hfz47_1, hfz47_2⟩ := zn3 BK182; have hnb48 := NB178_177.out; have hnc48 := NB177_178.out; have hnb49 := NB178_180.out; have hnc49 := NB180_178.out; obtain ⟨hcz50_0, hcz50_1, hcz50_2⟩ := zd3 BK178; obtain ⟨hfz50_0, hfz50_1, hfz50_2⟩ := zn3 BK178))
       go_roundg k3
       case measure => have := HK1.out; have := HJ9.out; have := HK3.out; omega
       case rel => exact ⟨(wrap64 (x32_3 + 1)), zi, H', ⟨by have := HK1.out; have := HJ9.out; have := HK3.out; omega⟩, ⟨zpf BK177 NB177_182⟩, ⟨zpf BK178 NB178_182⟩, ⟨zpf BK180 NB180_182⟩, ⟨by repeat (first | (with_reducible first | exact HB.out | apply below_alloc | apply pw_below_drewN | apply below_drew1 | refine below_set ?_ GE177.out | refine below_set ?_ GE178.out | refine below_set ?_ GE180.out | refine below_set ?_ GE182.out) | exact HB.out)⟩⟩
def laws_eqSkyRun.f (a0_0 : Int) (a0_1 : Int) (a0_2 : ByteArray) (a1_0 : Int) (a1_1 : Int) (a1_2 : ByteArray) : Option (Bool) := if a0_0 = a1_0 then (if a0_1 = a1_1 then (if a0_2.toList = a1_2.toList then (some true) else (some false)) else (some false)) else (some false)
set_option maxHeartbeats 8000000 in
set_option maxRecDepth 100000 in
theorem laws_eqSkyRun.calls (a0_0 : Int) (a0_1 : Int) (a0_2 : ByteArray) (a1_0 : Int) (a1_1 : Int) (a1_2 : ByteArray) (r : Bool) (w : World) (h : laws_eqSkyRun.f a0_0 a0_1 a0_2 a1_0 a1_1 a1_2 = some r) :
 Calls Try.prog 28 #[.agg #[.int .i64 a0_0, .int .i64 a0_1, .string a0_2], .agg #[.int .i64 a1_0, .int .i64 a1_1, .string a1_2]] w fun e w' => e = .returned (.bool r) ∧ Below w.heap.size w w' := by
 have hu47 := Try.underlying47
 have HB := zA (Below.refl w.heap.size w)
 have H : (if a0_0 = a1_0 then (if a0_1 = a1_1 then (if a0_2.toList = a1_2.toList then (some true) else (some false)) else (some false)) else (some false)) = some r := h
 clear h
 by_cases c3 : a0_0 = a1_0
 rotate_left
 ·rw [if_neg c3] at H
  have c3b0 : (a0_0 == a1_0) = false := beq_eq_false_iff_ne.mpr c3
  have c3b1 : (a0_0 != a1_0) = true := bne_iff_ne.mpr c3
  obtain rfl := Option.some.inj H
  go_enter Try.func28, Try.ntmps28
  go_wp2_with (first | ((with_reducible refine gate_dst (N := 2) rfl ?_); refine zbx 2 #[.int .i64 a0_0, .int .i64 a0_1, .string a0_2] 47 ?_; intro gb183 hg w21 hbox hb; have BK183 := zA hbox; have GW183 := zgs hg (zs0 HB); have GE183 := zgs hg (zs0 HB); replace HB := zE (zs0 HB) hb; clear hb hbox hg) | ((with_reducible refine gate_dst (N := 3) rfl ?_); refine zbx 3 #[.int .i64 a1_0, .int .i64 a1_1, .string a1_2] 47 ?_; intro gb184 hg w22 hbox hb; have BK184 := zA hbox; have GW184 := zgs hg (zs1 HB GE183); have GE184 := zgs hg (zs1 HB GE183); have NB183_184 := zne hg BK183; have NB184_183 := znf hg BK183; replace BK183 := zb BK183 hb; replace HB := zE (zs1 HB GE183) hb; clear hb hbox hg; have hnb23 := NB183_184.out; have hnc23 := NB184_183.out; obtain ⟨hcz24_0, hcz24_1, hcz24_2⟩ := zd3 BK183; obtain ⟨hfz24_0, hfz24_1, hfz24_2⟩ := zn3 BK183; obtain ⟨hcz25_0, hcz25_1, hcz25_2⟩ := zd3 BK184; obtain ⟨hfz25_0, hfz25_1, hfz25_2⟩ := zn3 BK184))
  go_ret
  exact ⟨ze, zs2 HB GE183 GE184⟩
 rw [if_pos c3] at H
 have c3b0 : (a0_0 == a1_0) = true := beq_iff_eq.mpr c3
 have c3b1 : (a0_0 != a1_0) = false := bne_eq_false_iff_eq.mpr c3
 clear c3
 by_cases c4 : a0_1 = a1_1
 rotate_left
 ·rw [if_neg c4] at H
  have c4b0 : (a0_1 == a1_1) = false := beq_eq_false_iff_ne.mpr c4
  have c4b1 : (a0_1 != a1_1) = true := bne_iff_ne.mpr c4
  obtain rfl := Option.some.inj H
  go_enter Try.func28, Try.ntmps28
  go_wp2_with (first | ((with_reducible refine gate_dst (N := 2) rfl ?_); refine zbx 2 #[.int .i64 a0_0, .int .i64 a0_1, .string a0_2] 47 ?_; intro gb183 hg w16 hbox hb; have BK183 := zA hbox; have GW183 := zgs hg (zs0 HB); have GE183 := zgs hg (zs0 HB); replace HB := zE (zs0 HB) hb; clear hb hbox hg) | ((with_reducible refine gate_dst (N := 3) rfl ?_); refine zbx 3 #[.int .i64 a1_0, .int .i64 a1_1, .string a1_2] 47 ?_; intro gb184 hg w17 hbox hb; have BK184 := zA hbox; have GW184 := zgs hg (zs1 HB GE183); have GE184 := zgs hg (zs1 HB GE183); have NB183_184 := zne hg BK183; have NB184_183 := znf hg BK183; replace BK183 := zb BK183 hb; replace HB := zE (zs1 HB GE183) hb; clear hb hbox hg; have hnb18 := NB183_184.out; have hnc18 := NB184_183.out; obtain ⟨hcz19_0, hcz19_1, hcz19_2⟩ := zd3 BK183; obtain ⟨hfz19_0, hfz19_1, hfz19_2⟩ := zn3 BK183; obtain ⟨hcz20_0, hcz20_1, hcz20_2⟩ := zd3 BK184; obtain ⟨hfz20_0, hfz20_1, hfz20_2⟩ := zn3 BK184))
  go_ret
  exact ⟨ze, zs2 HB GE183 GE184⟩
 rw [if_pos c4] at H
 have c4b0 : (a0_1 == a1_1) = true := beq_iff_eq.mpr c4
 have c4b1 : (a0_1 != a1_1) = false := bne_eq_false_iff_eq.mpr c4
 clear c4
 by_cases c5 : a0_2.toList = a1_2.toList
 rotate_left
 ·rw [if_neg c5] at H
  have c5b0 : (a0_2.toList == a1_2.toList) = false := beq_eq_false_iff_ne.mpr c5
  have c5b1 : (a0_2.toList != a1_2.toList) = true := bne_iff_ne.mpr c5
  obtain rfl := Option.some.inj H
  go_enter Try.func28, Try.ntmps28
  go_wp2_with (first | ((with_reducible refine gate_dst (N := 2) rfl ?_); refine zbx 2 #[.int .i64 a0_0, .int .i64 a0_1, .string a0_2] 47 ?_; intro gb183 hg w11 hbox hb; have BK183 := zA hbox; have GW183 := zgs hg (zs0 HB); have GE183 := zgs hg (zs0 HB); replace HB := zE (zs0 HB) hb; clear hb hbox hg) | ((with_reducible refine gate_dst (N := 3) rfl ?_); refine zbx 3 #[.int .i64 a1_0, .int .i64 a1_1, .string a1_2] 47 ?_; intro gb184 hg w12 hbox hb; have BK184 := zA hbox; have GW184 := zgs hg (zs1 HB GE183); have GE184 := zgs hg (zs1 HB GE183); have NB183_184 := zne hg BK183; have NB184_183 := znf hg BK183; replace BK183 := zb BK183 hb; replace HB := zE (zs1 HB GE183) hb; clear hb hbox hg; have hnb13 := NB183_184.out; have hnc13 := NB184_183.out; obtain ⟨hcz14_0, hcz14_1, hcz14_2⟩ := zd3 BK183; obtain ⟨hfz14_0, hfz14_1, hfz14_2⟩ := zn3 BK183; obtain ⟨hcz15_0, hcz15_1, hcz15_2⟩ := zd3 BK184; obtain ⟨hfz15_0, hfz15_1, hfz15_2⟩ := zn3 BK184))
  go_ret
  exact ⟨ze, zs2 HB GE183 GE184⟩
 rw [if_pos c5] at H
 have c5b0 : (a0_2.toList == a1_2.toList) = true := beq_iff_eq.mpr c5
 have c5b1 : (a0_2.toList != a1_2.toList) = false := bne_eq_false_iff_eq.mpr c5
 clear c5
 obtain rfl := Option.some.inj H
 go_enter Try.func28, Try.ntmps28
 go_wp2_with (first | ((with_reducible refine gate_dst (N := 2) rfl ?_); refine zbx 2 #[.int .i64 a0_0, .int .i64 a0_1, .string a0_2] 47 ?_; intro gb183 hg w6 hbox hb; have BK183 := zA hbox; have GW183 := zgs hg (zs0 HB); have GE183 := zgs hg (zs0 HB); replace HB := zE (zs0 HB) hb; clear hb hbox hg) | ((with_reducible refine gate_dst (N := 3) rfl ?_); refine zbx 3 #[.int .i64 a1_0, .int .i64 a1_1, .string a1_2] 47 ?_; intro gb184 hg w7 hbox hb; have BK184 := zA hbox; have GW184 := zgs hg (zs1 HB GE183); have GE184 := zgs hg (zs1 HB GE183); have NB183_184 := zne hg BK183; have NB184_183 := znf hg BK183; replace BK183 := zb BK183 hb; replace HB := zE (zs1 HB GE183) hb; clear hb hbox hg; have hnb8 := NB183_184.out; have hnc8 := NB184_183.out; obtain ⟨hcz9_0, hcz9_1, hcz9_2⟩ := zd3 BK183; obtain ⟨hfz9_0, hfz9_1, hfz9_2⟩ := zn3 BK183; obtain ⟨hcz10_0, hcz10_1, hcz10_2⟩ := zd3 BK184; obtain ⟨hfz10_0, hfz10_1, hfz10_2⟩ := zn3 BK184))
 go_ret
 exact ⟨ze, zs2 HB GE183 GE184⟩
end Go.Proofs.Ytlcaalhbdfeflaa.QFnExactSkyFind
