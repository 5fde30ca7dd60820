/- The walk of what the law FnExactHandWordOk reaches: laid by a program of this session (ownprint.py). -/
import Derived.Test.YtbgcpbdnmpnjhaaQFnExactHandWordOkx0
import Derived.Test.YtbgcpbdnmpnjhaaQFnExactHandWordOkx1
namespace Go.Proofs.Ytbgcpbdnmpnjhaa.QFnExactHandWordOk
open Go.RowKit Go.Proofs.YtbgcpbdnmpnjhaaW.PrintWords Go.Proofs.YtbgcpbdnmpnjhaaW.PrintLast Go.Proofs.YtbgcpbdnmpnjhaaW.PrintMore Go.Proofs.Ytbgcpbdnmpnjhaa.Z
attribute [local go_sem] max2_int min2_int max_two min_two max_three min_three max_four min_four zdn   -- for this text's walks alone
set_option linter.unusedVariables false
set_option linter.unusedSimpArgs false
mutual
def spec_HandZonesOk.l0 : Nat → List (S48) → Int → Option (Bool)
 | 0, _, _ => none
 | k + 1, x0, x3 => if x3 < (x0.length : Int) then (if 0 ≤ x3 then ((spec_l31NameOk.f k ((rd_T48 x0 x3).f0)).bind fun t110 => (if t110 = true then (if x3 > 0 then (if 0 ≤ (wrap64 (x3 - 1)) then (if (wrap64 (x3 - 1)) < (x0.length : Int) then (if ((Op.bytesLess (((rd_T48 x0 (wrap64 (x3 - 1))).f0).toList) (((rd_T48 x0 x3).f0).toList)) = true) then ((spec_l31In.f ((rd_T48 x0 x3).f1) 0 ((rd_T48 x0 x3).f3)).bind fun t112 => (if t112 = true then (if ((rd_T48 x0 x3).f3) ≥ 16 then (spec_HandZonesOk.j1 k x0 x3 true ((rd_T48 x0 x3).f0) ((rd_T48 x0 x3).f1) ((rd_T48 x0 x3).f2) ((rd_T48 x0 x3).f3) ((rd_T48 x0 x3).f4)) else ((spec_l31In.f ((rd_T48 x0 x3).f2) 0 ((rd_T48 x0 x3).f4)).bind fun t113 => (if t113 = true then (spec_HandZonesOk.j1 k x0 x3 (decide (((rd_T48 x0 x3).f4) ≥ 16)) ((rd_T48 x0 x3).f0) ((rd_T48 x0 x3).f1) ((rd_T48 x0 x3).f2) ((rd_T48 x0 x3).f3) ((rd_T48 x0 x3).f4)) else (spec_HandZonesOk.j1 k x0 x3 true ((rd_T48 x0 x3).f0) ((rd_T48 x0 x3).f1) ((rd_T48 x0 x3).f2) ((rd_T48 x0 x3).f3) ((rd_T48 x0 x3).f4))))) else (spec_HandZonesOk.j1 k x0 x3 true ((rd_T48 x0 x3).f0) ((rd_T48 x0 x3).f1) ((rd_T48 x0 x3).f2) ((rd_T48 x0 x3).f3) ((rd_T48 x0 x3).f4)))) else (spec_HandZonesOk.j1 k x0 x3 true ((rd_T48 x0 x3).f0) ((rd_T48 x0 x3).f1) ((rd_T48 x0 x3).f2) ((rd_T48 x0 x3).f3) ((rd_T48 x0 x3).f4))) else (none)) else (none)) else ((spec_l31In.f ((rd_T48 x0 x3).f1) 0 ((rd_T48 x0 x3).f3)).bind fun t114 => (if t114 = true then (if ((rd_T48 x0 x3).f3) ≥ 16 then (spec_HandZonesOk.j1 k x0 x3 true ((rd_T48 x0 x3).f0) ((rd_T48 x0 x3).f1) ((rd_T48 x0 x3).f2) ((rd_T48 x0 x3).f3) ((rd_T48 x0 x3).f4)) else ((spec_l31In.f ((rd_T48 x0 x3).f2) 0 ((rd_T48 x0 x3).f4)).bind fun t115 => (if t115 = true then (spec_HandZonesOk.j1 k x0 x3 (decide (((rd_T48 x0 x3).f4) ≥ 16)) ((rd_T48 x0 x3).f0) ((rd_T48 x0 x3).f1) ((rd_T48 x0 x3).f2) ((rd_T48 x0 x3).f3) ((rd_T48 x0 x3).f4)) else (spec_HandZonesOk.j1 k x0 x3 true ((rd_T48 x0 x3).f0) ((rd_T48 x0 x3).f1) ((rd_T48 x0 x3).f2) ((rd_T48 x0 x3).f3) ((rd_T48 x0 x3).f4))))) else (spec_HandZonesOk.j1 k x0 x3 true ((rd_T48 x0 x3).f0) ((rd_T48 x0 x3).f1) ((rd_T48 x0 x3).f2) ((rd_T48 x0 x3).f3) ((rd_T48 x0 x3).f4))))) else (spec_HandZonesOk.j1 k x0 x3 true ((rd_T48 x0 x3).f0) ((rd_T48 x0 x3).f1) ((rd_T48 x0 x3).f2) ((rd_T48 x0 x3).f3) ((rd_T48 x0 x3).f4)))) else (none)) else (some true)
def spec_HandZonesOk.j1 : Nat → List (S48) → Int → Bool → ByteArray → Int → Int → Int → Int → Option (Bool)
 | 0, _, _, _, _, _, _, _, _ => none
 | k + 1, x0, x3, x65, x110000, x110001, x110002, x110003, x110004 => if x65 = true then (some false) else (spec_HandZonesOk.l1 k x0 x3 0 x110000 x110001 x110002 x110003 x110004)
def spec_HandZonesOk.l1 : Nat → List (S48) → Int → Int → ByteArray → Int → Int → Int → Int → Option (Bool)
 | 0, _, _, _, _, _, _, _, _ => none
 | k + 1, x0, x3, x5, x110000, x110001, x110002, x110003, x110004 => if x5 < x3 then (if 0 ≤ x5 then (if x5 < (x0.length : Int) then (if ((rd_T48 x0 x5).f1) ≤ x110003 then (if x110001 ≤ ((rd_T48 x0 x5).f3) then (if ((rd_T48 x0 x5).f2) ≤ x110004 then (if x110002 ≤ ((rd_T48 x0 x5).f4) then (some false) else (spec_HandZonesOk.l1 k x0 x3 (wrap64 (x5 + 1)) x110000 x110001 x110002 x110003 x110004)) else (spec_HandZonesOk.l1 k x0 x3 (wrap64 (x5 + 1)) x110000 x110001 x110002 x110003 x110004)) else (spec_HandZonesOk.l1 k x0 x3 (wrap64 (x5 + 1)) x110000 x110001 x110002 x110003 x110004)) else (spec_HandZonesOk.l1 k x0 x3 (wrap64 (x5 + 1)) x110000 x110001 x110002 x110003 x110004)) else (none)) else (none)) else (spec_HandZonesOk.l0 k x0 (wrap64 (x3 + 1)))
end
def spec_HandZonesOk.f (k : Nat) (l0 : List (S48)) : Option (Bool) := (spec_l31In.f (l0.length : Int) 1 4).bind fun t107 => (if t107 = true then (spec_HandZonesOk.l0 k l0 0) else (some false))
def spec_HandZonesOk.T7 : Bool × List (List Nat × List Nat) := (true, [([], []), ([0], [0]), ([1], [1]), ([2], [2]), ([3, 2], [3]), ([4], [4]), ([5, 4], [4, 5]), ([6, 4, 4], [4, 6]), ([7], [7]), ([7], [7]), ([9, 7], [7, 9]), ([8, 10, 7], [7, 8, 10]), ([11, 7], [7, 11]), ([12, 7], [7, 12]), ([7], [7]), ([14, 7], [7, 14]), ([13, 15, 7], [7, 13, 15]), ([7, 16, 4], [4, 7, 16]), ([4, 17], [4, 17]), ([18, 7], [18]), ([19], [19]), ([20, 19], [19, 20]), ([19], [19]), ([22, 19], [19, 22]), ([21, 23, 19, 19], [19, 21, 23]), ([24, 19], [19, 24]), ([19, 25], [19, 25]), ([26, 24], [26]), ([27], [27]), ([28, 27], [27, 28]), ([29, 27], [27, 29]), ([27, 30], [27, 30]), ([31, 27], [31]), ([32], [32]), ([33, 32], [32, 33]), ([32], [32]), ([35, 32], [32, 35]), ([34, 36, 32, 32], [32, 34, 36]), ([37, 32], [32, 37]), ([32, 38], [32, 38]), ([39, 37], [39]), ([40], [40]), ([41, 40], [40, 41]), ([42, 40], [40, 42]), ([40, 43], [40, 43])])
def spec_HandZonesOk.B7 : List Nat := [0, 1, 3, 7, 15, 31, 63, 127, 255, 255, 767, 2047, 4095, 8191, 255, 16639, 65535, 131071, 262143, 524287, 1048575, 2097151, 1048575, 5242879, 16777215, 33554431, 67108863, 134217727, 268435455, 536870911, 1073741823, 2147483647, 4294967295, 8589934591, 17179869183, 8589934591, 42949672959, 137438953471, 274877906943, 549755813887, 1099511627775, 2199023255551, 4398046511103, 8796093022207, 17592186044415]
theorem spec_HandZonesOk.tab7 : rtab .any (opsOf Try.f14 7) = spec_HandZonesOk.T7 := by kernel_rfl
theorem spec_HandZonesOk.bits7 : waitsOk spec_HandZonesOk.T7.2 spec_HandZonesOk.B7 = true := by kernel_rfl
set_option maxHeartbeats 8000000 in
set_option maxRecDepth 100000 in
theorem spec_HandZonesOk.calls (k : Nat) (A0 : Option Addr) (c0 : Nat) (l0 : List (S48)) (r : Bool) (w : World) (hr0 : Kd.C k48 w A0 l0.length l0) (hc0 : l0.length ≤ c0) (h : spec_HandZonesOk.f k l0 = some r) :
 Calls Try.prog 14 #[.slice A0 l0.length c0] w fun e w' => e = .returned (.bool r) ∧ Below w.heap.size w w' := by
 have hu48 := Try.underlying48
 have HR0 := Aside0.mk hr0
 have HC0 := Aside0.mk hc0
 clear hr0 hc0
 have HB := Aside0.mk (Below.refl w.heap.size w)
 have H : ((spec_l31In.f (l0.length : Int) 1 4).bind fun t107 => (if t107 = true then (spec_HandZonesOk.l0 k l0 0) else (some false))) = some r := h
 clear h
 replace H := zbd H; obtain ⟨t107, A2, H⟩ := H
 by_cases c3 : t107 = true
 rotate_left
 ·replace c3 := Bool.eq_false_iff.mpr c3
  subst c3
  have H1 : (some false) = some r := by rw [if_neg (show ¬ (false = true) by decide)] at H; exact H
  clear H
  have H := H1
  clear H1
  obtain rfl := Option.some.inj H
  go_enter Try.func14, Try.ntmps14
  go_wp2_with (first | ((with_reducible refine gate_callee (f := 15) rfl ?_); refine zgl (N := some 9) Try.func15 #[.int .i64 (l0.length : Int), .int .i64 1, .int .i64 4] ?_; (with_reducible refine (spec_l31In.calls (l0.length : Int) 1 4 false _ A2.out).mono ?_); rintro e w' ⟨rfl, ⟨nd, rfl⟩⟩; refine ⟨_, rfl, ?_⟩))
  go_ret
  exact ⟨ze, zs0 HB⟩
 subst c3
 have H1 : (spec_HandZonesOk.l0 k l0 0) = some r := by rw [if_pos rfl] at H; exact H
 clear H
 have H := H1
 clear H1
 have H' := Aside0.mk H
 clear H
 go_enter Try.func14, Try.ntmps14
 go_wp2_with (first | ((with_reducible refine gate_callee (f := 15) rfl ?_); refine zgl (N := some 9) Try.func15 #[.int .i64 (l0.length : Int), .int .i64 1, .int .i64 4] ?_; (with_reducible refine (spec_l31In.calls (l0.length : Int) 1 4 true _ A2.out).mono ?_); rintro e w' ⟨rfl, ⟨nd, rfl⟩⟩; refine ⟨_, rfl, ?_⟩))
 go_loopg [3] k (fun kq v3 w' => ∃ (x3_1 : Int), v3 = .int .i64 x3_1 ∧ Aside0 (spec_HandZonesOk.l0 kq l0 x3_1 = some r) ∧ Aside0 (kq ≤ k) ∧ Aside0 (Below w.heap.size w w'))
 case atStart => exact ⟨(0), zi, H', ⟨Nat.le_refl _⟩, ⟨zs0 HB⟩⟩
 case round =>
  clear H'
  try clear c1
  try clear p2
  try clear c3
  obtain ⟨x3_1, rfl, HA, HK1, HB⟩ := hrel
  cases gk with
  | zero => exact absurd HA.out (by simp [spec_HandZonesOk.l0])
  | succ k1 =>
   have H := HA.out
   clear HA
   simp only [spec_HandZonesOk.l0] at H
   by_cases c4 : x3_1 < (l0.length : Int)
   rotate_left
   ·rw [if_neg c4] at H
    have c4b0 : decide (x3_1 < (l0.length : Int)) = false := decide_eq_false c4
    clear c4
    obtain rfl := Option.some.inj H
    go_wp2
    go_ret
    exact ⟨ze, zs0 HB⟩
   rw [if_pos c4] at H
   have c4b0 : decide (x3_1 < (l0.length : Int)) = true := decide_eq_true c4
   clear c4
   by_cases c5 : 0 ≤ x3_1
   rotate_left
   ·rw [if_neg c5] at H
    exact absurd H (by simp)
   rw [if_pos c5] at H
   have c5b0 : decide (0 ≤ x3_1) = true := decide_eq_true c5
   clear c5
   have HC6 := Aside0.mk H
   clear H
   have p108 : 0 ≤ (x3_1 : Int) := za
   have q108 : x3_1 < (l0.length : Int) := za
   obtain ⟨ad108, e108, hx108_0, hx108_1, hx108_2, hx108_3, hx108_4⟩ := at_T48 HR0.out x3_1 p108 q108
   cases e108
   replace hx108_0 := zx HB hx108_0
   replace hx108_1 := zx HB hx108_1
   replace hx108_2 := zx HB hx108_2
   replace hx108_3 := zx HB hx108_3
   replace hx108_4 := zx HB hx108_4
   replace p108 := eq_true p108
   replace q108 := eq_true q108
   go_upto_region 7 with (first | ((with_reducible refine gate_dst (N := 4) rfl ?_); refine zbx 4 #[.string (⟨#[]⟩ : ByteArray), .int .i64 0, .int .i64 0, .int .i64 0, .int .i64 0] 48 ?_; intro gb109 hg w7 hbox hb; have BK109 := zA hbox; have GW109 := zgs hg (zs0 HB); have GE109 := zgs hg (zs0 HB); replace HB := zE (zs0 HB) hb; clear hb hbox hg; obtain ⟨hcz8_0, hcz8_1, hcz8_2, hcz8_3, hcz8_4⟩ := zd5 BK109; obtain ⟨hfz8_0, hfz8_1, hfz8_2, hfz8_3, hfz8_4⟩ := zn5 BK109))
   (try simp only [Act.put, List.setIfInBounds_toArray, List.set_cons_zero, List.set_cons_succ])
   go_cut [65] (fun v65 wc => ∃ (kq : Nat) (x65_5 : Bool), v65 = .bool x65_5 ∧ Aside0 (spec_HandZonesOk.j1 kq l0 x3_1 x65_5 ((rd_T48 l0 x3_1).f0) ((rd_T48 l0 x3_1).f1) ((rd_T48 l0 x3_1).f2) ((rd_T48 l0 x3_1).f3) ((rd_T48 l0 x3_1).f4) = some r) ∧ Aside0 (kq ≤ k1) ∧ Aside0 (wc.heap[gb109]? = some (.cells #[.string ((rd_T48 l0 x3_1).f0), .int .i64 ((rd_T48 l0 x3_1).f1), .int .i64 ((rd_T48 l0 x3_1).f2), .int .i64 ((rd_T48 l0 x3_1).f3), .int .i64 ((rd_T48 l0 x3_1).f4)] 48 (0, 0))) ∧ Aside0 (Below w.heap.size w wc))
   case first =>
    have H := HC6.out
    clear HC6
    replace H := zbd H; obtain ⟨t110, A9, H⟩ := H
    by_cases c10 : t110 = true
    rotate_left
    ·replace c10 := Bool.eq_false_iff.mpr c10
     subst c10
     have H1 : (spec_HandZonesOk.j1 k1 l0 x3_1 true ((rd_T48 l0 x3_1).f0) ((rd_T48 l0 x3_1).f1) ((rd_T48 l0 x3_1).f2) ((rd_T48 l0 x3_1).f3) ((rd_T48 l0 x3_1).f4)) = some r := by rw [if_neg (show ¬ (false = true) by decide)] at H; exact H
     clear H
     have H := H1
     clear H1
     have H' := Aside0.mk H
     clear H
     try go_wp2
     obtain ⟨w44, e_⟩ : ∃ x, x = (((((w7.setCell ⟨gb109, 0, none⟩ (.string ((rd_T48 l0 x3_1).f0))).setCell ⟨gb109, 1, none⟩ (.int .i64 ((rd_T48 l0 x3_1).f1))).setCell ⟨gb109, 2, none⟩ (.int .i64 ((rd_T48 l0 x3_1).f2))).setCell ⟨gb109, 3, none⟩ (.int .i64 ((rd_T48 l0 x3_1).f3))).setCell ⟨gb109, 4, none⟩ (.int .i64 ((rd_T48 l0 x3_1).f4))) := ⟨_, rfl⟩
     have n0_ : Aside0 (w44.heap[gb109]? = some (.cells #[.string ((rd_T48 l0 x3_1).f0), .int .i64 ((rd_T48 l0 x3_1).f1), .int .i64 ((rd_T48 l0 x3_1).f2), .int .i64 ((rd_T48 l0 x3_1).f3), .int .i64 ((rd_T48 l0 x3_1).f4)] 48 (0, 0))) := by rw [e_]; exact ⟨zpb BK109⟩
     have n1_ : Aside0 (Below w.heap.size w w44) := by rw [e_]; exact ⟨zs1 HB GE109⟩
     (try clear BK109)
     (try clear HB)
     rw [← e_]; clear e_
     have BK109 := n0_
     have HB := n1_
     clear n0_ n1_
     replace BK109 := Aside0.mk (blk_drew BK109.out)
     replace HB := Aside0.mk (below_drew1 HB.out)
     refine start_ (n := 45) (S := fun w' => w'.cell? ⟨gb109, 0, none⟩ = some (.string ((rd_T48 l0 x3_1).f0)) ∧ w'.cell? ⟨gb109, 1, none⟩ = some (.int .i64 ((rd_T48 l0 x3_1).f1)) ∧ w'.cell? ⟨gb109, 2, none⟩ = some (.int .i64 ((rd_T48 l0 x3_1).f2)) ∧ w'.cell? ⟨gb109, 3, none⟩ = some (.int .i64 ((rd_T48 l0 x3_1).f3)) ∧ w'.cell? ⟨gb109, 4, none⟩ = some (.int .i64 ((rd_T48 l0 x3_1).f4))) (ds := []) #[false, false, false, false, false, false, false, false, false, false, false, false, false, false, false, false, false, false, false, false, false, false, false, false, false, false, false, false, false, false, false, false, false, false, false, false, false, false, false, false, false, false, false, false, false] (by kernel_rfl) rfl rfl ⟨zc0 BK109, zc1 BK109, zc2 BK109, zc3 BK109, zc4 BK109⟩ (fun hHeld => ?_); refine with_tabW spec_HandZonesOk.tab7 spec_HandZonesOk.bits7 (fun HT_ HW_ => ?_)
     generalize w44.drew = w45 at BK109 HB hHeld ⊢
     refine zq HT_ 0 ?_
     refine zk5 HT_ HW_ hHeld 1 ?_
     refine zo HT_ 2 (fun K hK => ?_)
     refine zgo Try.func17 #[.string ((rd_T48 l0 x3_1).f0)] ?_
     with_reducible refine (spec_l31NameOk.calls k1 ((rd_T48 l0 x3_1).f0) false _ A9.out).mono ?_
     rintro e w' ⟨rfl, ⟨nd, rfl⟩⟩
     refine ⟨_, rfl, ?_⟩
     refine hK.out _ _ ⟨zc0 BK109, zc1 BK109, zc2 BK109, zc3 BK109, zc4 BK109⟩ (fun hHeld => ?_)
     clear hK K
     refine zN ?_
     refine zq HT_ 3 ?_
     refine zq HT_ 4 ?_
     refine zu HT_ 5 ?_
     refine zu HT_ 6 ?_
     refine zu HT_ 7 ?_
     refine zu HT_ 8 ?_
     refine zu HT_ 9 ?_
     refine zu HT_ 10 ?_
     refine zu HT_ 11 ?_
     refine zu HT_ 12 ?_
     refine zu HT_ 13 ?_
     refine zu HT_ 14 ?_
     refine zu HT_ 15 ?_
     refine zu HT_ 16 ?_
     refine zu HT_ 17 ?_
     refine zq HT_ 18 ?_
     refine zq HT_ 19 ?_
     refine zu HT_ 20 ?_
     refine zu HT_ 21 ?_
     refine zu HT_ 22 ?_
     refine zu HT_ 23 ?_
     refine zu HT_ 24 ?_
     refine zu HT_ 25 ?_
     refine zq HT_ 26 ?_
     refine zq HT_ 27 ?_
     refine zu HT_ 28 ?_
     refine zu HT_ 29 ?_
     refine zu HT_ 30 ?_
     refine zq HT_ 31 ?_
     refine zq HT_ 32 ?_
     refine zu HT_ 33 ?_
     refine zu HT_ 34 ?_
     refine zu HT_ 35 ?_
     refine zu HT_ 36 ?_
     refine zu HT_ 37 ?_
     refine zu HT_ 38 ?_
     refine zq HT_ 39 ?_
     refine zq HT_ 40 ?_
     refine zu HT_ 41 ?_
     refine zu HT_ 42 ?_
     refine zu HT_ 43 ?_
     refine zq HT_ 44 ?_
     refine done_ (done_of HT_.out (by kernel_rfl)) ?_
     try go_wp2
     go_meet
     case rel => exact ⟨_, (true), zi, H', ⟨by have := HK1.out; first | omega | exact Nat.le_refl _⟩, ⟨zh BK109⟩, ⟨zs1 HB GE109⟩⟩
    subst c10
    have H1 : (if x3_1 > 0 then (if 0 ≤ (wrap64 (x3_1 - 1)) then (if (wrap64 (x3_1 - 1)) < (l0.length : Int) then (if ((Op.bytesLess (((rd_T48 l0 (wrap64 (x3_1 - 1))).f0).toList) (((rd_T48 l0 x3_1).f0).toList)) = true) then ((spec_l31In.f ((rd_T48 l0 x3_1).f1) 0 ((rd_T48 l0 x3_1).f3)).bind fun t112 => (if t112 = true then (if ((rd_T48 l0 x3_1).f3) ≥ 16 then (spec_HandZonesOk.j1 k1 l0 x3_1 true ((rd_T48 l0 x3_1).f0) ((rd_T48 l0 x3_1).f1) ((rd_T48 l0 x3_1).f2) ((rd_T48 l0 x3_1).f3) ((rd_T48 l0 x3_1).f4)) else ((spec_l31In.f ((rd_T48 l0 x3_1).f2) 0 ((rd_T48 l0 x3_1).f4)).bind fun t113 => (if t113 = true then (spec_HandZonesOk.j1 k1 l0 x3_1 (decide (((rd_T48 l0 x3_1).f4) ≥ 16)) ((rd_T48 l0 x3_1).f0) ((rd_T48 l0 x3_1).f1) ((rd_T48 l0 x3_1).f2) ((rd_T48 l0 x3_1).f3) ((rd_T48 l0 x3_1).f4)) else (spec_HandZonesOk.j1 k1 l0 x3_1 true ((rd_T48 l0 x3_1).f0) ((rd_T48 l0 x3_1).f1) ((rd_T48 l0 x3_1).f2) ((rd_T48 l0 x3_1).f3) ((rd_T48 l0 x3_1).f4))))) else (spec_HandZonesOk.j1 k1 l0 x3_1 true ((rd_T48 l0 x3_1).f0) ((rd_T48 l0 x3_1).f1) ((rd_T48 l0 x3_1).f2) ((rd_T48 l0 x3_1).f3) ((rd_T48 l0 x3_1).f4)))) else (spec_HandZonesOk.j1 k1 l0 x3_1 true ((rd_T48 l0 x3_1).f0) ((rd_T48 l0 x3_1).f1) ((rd_T48 l0 x3_1).f2) ((rd_T48 l0 x3_1).f3) ((rd_T48 l0 x3_1).f4))) else (none)) else (none)) else ((spec_l31In.f ((rd_T48 l0 x3_1).f1) 0 ((rd_T48 l0 x3_1).f3)).bind fun t114 => (if t114 = true then (if ((rd_T48 l0 x3_1).f3) ≥ 16 then (spec_HandZonesOk.j1 k1 l0 x3_1 true ((rd_T48 l0 x3_1).f0) ((rd_T48 l0 x3_1).f1) ((rd_T48 l0 x3_1).f2) ((rd_T48 l0 x3_1).f3) ((rd_T48 l0 x3_1).f4)) else ((spec_l31In.f ((rd_T48 l0 x3_1).f2) 0 ((rd_T48 l0 x3_1).f4)).bind fun t115 => (if t115 = true then (spec_HandZonesOk.j1 k1 l0 x3_1 (decide (((rd_T48 l0 x3_1).f4) ≥ 16)) ((rd_T48 l0 x3_1).f0) ((rd_T48 l0 x3_1).f1) ((rd_T48 l0 x3_1).f2) ((rd_T48 l0 x3_1).f3) ((rd_T48 l0 x3_1).f4)) else (spec_HandZonesOk.j1 k1 l0 x3_1 true ((rd_T48 l0 x3_1).f0) ((rd_T48 l0 x3_1).f1) ((rd_T48 l0 x3_1).f2) ((rd_T48 l0 x3_1).f3) ((rd_T48 l0 x3_1).f4))))) else (spec_HandZonesOk.j1 k1 l0 x3_1 true ((rd_T48 l0 x3_1).f0) ((rd_T48 l0 x3_1).f1) ((rd_T48 l0 x3_1).f2) ((rd_T48 l0 x3_1).f3) ((rd_T48 l0 x3_1).f4))))) = some r := by rw [if_pos rfl] at H; exact H
    clear H
    have H := H1
    clear H1
    by_cases c11 : x3_1 > 0
    rotate_left
    ·rw [if_neg c11] at H
     have c11b0 : decide (0 < x3_1) = false := decide_eq_false c11
     clear c11
     (first | rw [c11b0] | (simp only [i64_w, i32_w]; rw [c11b0]) | skip)
     replace H := zbd H; obtain ⟨t114, A31, H⟩ := H
     by_cases c32 : t114 = true
     rotate_left
     ·replace c32 := Bool.eq_false_iff.mpr c32
      subst c32
      have H1 : (spec_HandZonesOk.j1 k1 l0 x3_1 true ((rd_T48 l0 x3_1).f0) ((rd_T48 l0 x3_1).f1) ((rd_T48 l0 x3_1).f2) ((rd_T48 l0 x3_1).f3) ((rd_T48 l0 x3_1).f4)) = some r := by rw [if_neg (show ¬ (false = true) by decide)] at H; exact H
      clear H
      have H := H1
      clear H1
      have H' := Aside0.mk H
      clear H
      try go_wp2
      obtain ⟨w42, e_⟩ : ∃ x, x = (((((w7.setCell ⟨gb109, 0, none⟩ (.string ((rd_T48 l0 x3_1).f0))).setCell ⟨gb109, 1, none⟩ (.int .i64 ((rd_T48 l0 x3_1).f1))).setCell ⟨gb109, 2, none⟩ (.int .i64 ((rd_T48 l0 x3_1).f2))).setCell ⟨gb109, 3, none⟩ (.int .i64 ((rd_T48 l0 x3_1).f3))).setCell ⟨gb109, 4, none⟩ (.int .i64 ((rd_T48 l0 x3_1).f4))) := ⟨_, rfl⟩
      have n0_ : Aside0 (w42.heap[gb109]? = some (.cells #[.string ((rd_T48 l0 x3_1).f0), .int .i64 ((rd_T48 l0 x3_1).f1), .int .i64 ((rd_T48 l0 x3_1).f2), .int .i64 ((rd_T48 l0 x3_1).f3), .int .i64 ((rd_T48 l0 x3_1).f4)] 48 (0, 0))) := by rw [e_]; exact ⟨zpb BK109⟩
      have n1_ : Aside0 (Below w.heap.size w w42) := by rw [e_]; exact ⟨zs1 HB GE109⟩
      (try clear BK109)
      (try clear HB)
      rw [← e_]; clear e_
      have BK109 := n0_
      have HB := n1_
      clear n0_ n1_
      replace BK109 := Aside0.mk (blk_drew BK109.out)
      replace HB := Aside0.mk (below_drew1 HB.out)
      refine start_ (n := 45) (S := fun w' => w'.cell? ⟨gb109, 0, none⟩ = some (.string ((rd_T48 l0 x3_1).f0)) ∧ w'.cell? ⟨gb109, 1, none⟩ = some (.int .i64 ((rd_T48 l0 x3_1).f1)) ∧ w'.cell? ⟨gb109, 2, none⟩ = some (.int .i64 ((rd_T48 l0 x3_1).f2)) ∧ w'.cell? ⟨gb109, 3, none⟩ = some (.int .i64 ((rd_T48 l0 x3_1).f3)) ∧ w'.cell? ⟨gb109, 4, none⟩ = some (.int .i64 ((rd_T48 l0 x3_1).f4))) (ds := []) #[false, false, false, false, false, false, false, false, false, false, false, false, false, false, false, false, false, false, false, false, false, false, false, false, false, false, false, false, false, false, false, false, false, false, false, false, false, false, false, false, false, false, false, false, false] (by kernel_rfl) rfl rfl ⟨zc0 BK109, zc1 BK109, zc2 BK109, zc3 BK109, zc4 BK109⟩ (fun hHeld => ?_); refine with_tabW spec_HandZonesOk.tab7 spec_HandZonesOk.bits7 (fun HT_ HW_ => ?_)
      generalize w42.drew = w43 at BK109 HB hHeld ⊢
      refine zq HT_ 0 ?_
      refine zk5 HT_ HW_ hHeld 1 ?_
      refine zo HT_ 2 (fun K hK => ?_)
      refine zgo Try.func17 #[.string ((rd_T48 l0 x3_1).f0)] ?_
      with_reducible refine (spec_l31NameOk.calls k1 ((rd_T48 l0 x3_1).f0) true _ A9.out).mono ?_
      rintro e w' ⟨rfl, ⟨nd, rfl⟩⟩
      refine ⟨_, rfl, ?_⟩
      refine hK.out _ _ ⟨zc0 BK109, zc1 BK109, zc2 BK109, zc3 BK109, zc4 BK109⟩ (fun hHeld => ?_)
      clear hK K
      refine zN ?_
      refine zq HT_ 3 ?_
      refine zq HT_ 4 ?_
      refine zq HT_ 5 ?_
      refine zq HT_ 6 ?_
      refine zq HT_ 7 ?_
      refine zu HT_ 8 ?_
      refine zu HT_ 9 ?_
      refine zu HT_ 10 ?_
      refine zu HT_ 11 ?_
      refine zu HT_ 12 ?_
      refine zu HT_ 13 ?_
      refine zu HT_ 14 ?_
      refine zu HT_ 15 ?_
      refine zu HT_ 16 ?_
      refine zq HT_ 17 ?_
      refine zq HT_ 18 ?_
      refine zq HT_ 19 ?_
      refine zq HT_ 20 ?_
      refine zq HT_ 22 ?_
      refine zk5 HT_ HW_ hHeld 21 ?_
      refine zk5 HT_ HW_ hHeld 23 ?_
      refine zo HT_ 24 (fun K hK => ?_)
      refine zgo Try.func15 #[.int .i64 ((rd_T48 l0 x3_1).f1), .int .i64 0, .int .i64 ((rd_T48 l0 x3_1).f3)] ?_
      with_reducible refine (spec_l31In.calls ((rd_T48 l0 x3_1).f1) 0 ((rd_T48 l0 x3_1).f3) false _ A31.out).mono ?_
      rintro e w' ⟨rfl, ⟨nd, rfl⟩⟩
      refine ⟨_, rfl, ?_⟩
      refine hK.out _ _ ⟨zc0 BK109, zc1 BK109, zc2 BK109, zc3 BK109, zc4 BK109⟩ (fun hHeld => ?_)
      clear hK K
      refine zN ?_
      refine zq HT_ 25 ?_
      refine zq HT_ 26 ?_
      refine zq HT_ 27 ?_
      refine zu HT_ 28 ?_
      refine zu HT_ 29 ?_
      refine zu HT_ 30 ?_
      refine zq HT_ 31 ?_
      refine zq HT_ 32 ?_
      refine zu HT_ 33 ?_
      refine zu HT_ 34 ?_
      refine zu HT_ 35 ?_
      refine zu HT_ 36 ?_
      refine zu HT_ 37 ?_
      refine zu HT_ 38 ?_
      refine zq HT_ 39 ?_
      refine zq HT_ 40 ?_
      refine zu HT_ 41 ?_
      refine zu HT_ 42 ?_
      refine zu HT_ 43 ?_
      refine zq HT_ 44 ?_
      refine done_ (done_of HT_.out (by kernel_rfl)) ?_
      try go_wp2
      go_meet
      case rel => exact ⟨_, (true), zi, H', ⟨by have := HK1.out; first | omega | exact Nat.le_refl _⟩, ⟨zh BK109⟩, ⟨zs1 HB GE109⟩⟩
     subst c32
     have H1 : (if ((rd_T48 l0 x3_1).f3) ≥ 16 then (spec_HandZonesOk.j1 k1 l0 x3_1 true ((rd_T48 l0 x3_1).f0) ((rd_T48 l0 x3_1).f1) ((rd_T48 l0 x3_1).f2) ((rd_T48 l0 x3_1).f3) ((rd_T48 l0 x3_1).f4)) else ((spec_l31In.f ((rd_T48 l0 x3_1).f2) 0 ((rd_T48 l0 x3_1).f4)).bind fun t115 => (if t115 = true then (spec_HandZonesOk.j1 k1 l0 x3_1 (decide (((rd_T48 l0 x3_1).f4) ≥ 16)) ((rd_T48 l0 x3_1).f0) ((rd_T48 l0 x3_1).f1) ((rd_T48 l0 x3_1).f2) ((rd_T48 l0 x3_1).f3) ((rd_T48 l0 x3_1).f4)) else (spec_HandZonesOk.j1 k1 l0 x3_1 true ((rd_T48 l0 x3_1).f0) ((rd_T48 l0 x3_1).f1) ((rd_T48 l0 x3_1).f2) ((rd_T48 l0 x3_1).f3) ((rd_T48 l0 x3_1).f4))))) = some r := by rw [if_pos rfl] at H; exact H
     clear H
     have H := H1
     clear H1
     by_cases c33 : ((rd_T48 l0 x3_1).f3) ≥ 16
     ·rw [if_pos c33] at H
      have c33b0 : decide (16 ≤ ((rd_T48 l0 x3_1).f3)) = true := decide_eq_true c33
      clear c33
      have H' := Aside0.mk H
      clear H
      try go_wp2
      obtain ⟨w34, e_⟩ : ∃ x, x = (((((w7.setCell ⟨gb109, 0, none⟩ (.string ((rd_T48 l0 x3_1).f0))).setCell ⟨gb109, 1, none⟩ (.int .i64 ((rd_T48 l0 x3_1).f1))).setCell ⟨gb109, 2, none⟩ (.int .i64 ((rd_T48 l0 x3_1).f2))).setCell ⟨gb109, 3, none⟩ (.int .i64 ((rd_T48 l0 x3_1).f3))).setCell ⟨gb109, 4, none⟩ (.int .i64 ((rd_T48 l0 x3_1).f4))) := ⟨_, rfl⟩
      have n0_ : Aside0 (w34.heap[gb109]? = some (.cells #[.string ((rd_T48 l0 x3_1).f0), .int .i64 ((rd_T48 l0 x3_1).f1), .int .i64 ((rd_T48 l0 x3_1).f2), .int .i64 ((rd_T48 l0 x3_1).f3), .int .i64 ((rd_T48 l0 x3_1).f4)] 48 (0, 0))) := by rw [e_]; exact ⟨zpb BK109⟩
      have n1_ : Aside0 (Below w.heap.size w w34) := by rw [e_]; exact ⟨zs1 HB GE109⟩
      (try clear BK109)
      (try clear HB)
      rw [← e_]; clear e_
      have BK109 := n0_
      have HB := n1_
      clear n0_ n1_
      replace BK109 := Aside0.mk (blk_drew BK109.out)
      replace HB := Aside0.mk (below_drew1 HB.out)
      refine start_ (n := 45) (S := fun w' => w'.cell? ⟨gb109, 0, none⟩ = some (.string ((rd_T48 l0 x3_1).f0)) ∧ w'.cell? ⟨gb109, 1, none⟩ = some (.int .i64 ((rd_T48 l0 x3_1).f1)) ∧ w'.cell? ⟨gb109, 2, none⟩ = some (.int .i64 ((rd_T48 l0 x3_1).f2)) ∧ w'.cell? ⟨gb109, 3, none⟩ = some (.int .i64 ((rd_T48 l0 x3_1).f3)) ∧ w'.cell? ⟨gb109, 4, none⟩ = some (.int .i64 ((rd_T48 l0 x3_1).f4))) (ds := []) #[false, false, false, false, false, false, false, false, false, false, false, false, false, false, false, false, false, false, false, false, false, false, false, false, false, false, false, false, false, false, false, false, false, false, false, false, false, false, false, false, false, false, false, false, false] (by kernel_rfl) rfl rfl ⟨zc0 BK109, zc1 BK109, zc2 BK109, zc3 BK109, zc4 BK109⟩ (fun hHeld => ?_); refine with_tabW spec_HandZonesOk.tab7 spec_HandZonesOk.bits7 (fun HT_ HW_ => ?_)
      generalize w34.drew = w35 at BK109 HB hHeld ⊢
      refine zq HT_ 0 ?_
      refine zk5 HT_ HW_ hHeld 1 ?_
      refine zo HT_ 2 (fun K hK => ?_)
      refine zgo Try.func17 #[.string ((rd_T48 l0 x3_1).f0)] ?_
      with_reducible refine (spec_l31NameOk.calls k1 ((rd_T48 l0 x3_1).f0) true _ A9.out).mono ?_
      rintro e w' ⟨rfl, ⟨nd, rfl⟩⟩
      refine ⟨_, rfl, ?_⟩
      refine hK.out _ _ ⟨zc0 BK109, zc1 BK109, zc2 BK109, zc3 BK109, zc4 BK109⟩ (fun hHeld => ?_)
      clear hK K
      refine zN ?_
      refine zq HT_ 3 ?_
      refine zq HT_ 4 ?_
      refine zq HT_ 5 ?_
      refine zq HT_ 6 ?_
      refine zq HT_ 7 ?_
      refine zu HT_ 8 ?_
      refine zu HT_ 9 ?_
      refine zu HT_ 10 ?_
      refine zu HT_ 11 ?_
      refine zu HT_ 12 ?_
      refine zu HT_ 13 ?_
      refine zu HT_ 14 ?_
      refine zu HT_ 15 ?_
      refine zu HT_ 16 ?_
      refine zq HT_ 17 ?_
      refine zq HT_ 18 ?_
      refine zq HT_ 19 ?_
      refine zq HT_ 20 ?_
      refine zq HT_ 22 ?_
      refine zk5 HT_ HW_ hHeld 21 ?_
      refine zk5 HT_ HW_ hHeld 23 ?_
      refine zo HT_ 24 (fun K hK => ?_)
      refine zgo Try.func15 #[.int .i64 ((rd_T48 l0 x3_1).f1), .int .i64 0, .int .i64 ((rd_T48 l0 x3_1).f3)] ?_
      with_reducible refine (spec_l31In.calls ((rd_T48 l0 x3_1).f1) 0 ((rd_T48 l0 x3_1).f3) true _ A31.out).mono ?_
      rintro e w' ⟨rfl, ⟨nd, rfl⟩⟩
      refine ⟨_, rfl, ?_⟩
      refine hK.out _ _ ⟨zc0 BK109, zc1 BK109, zc2 BK109, zc3 BK109, zc4 BK109⟩ (fun hHeld => ?_)
      clear hK K
      refine zN ?_
      refine zq HT_ 25 ?_
      refine zq HT_ 26 ?_
      refine zq HT_ 27 ?_
      refine zq HT_ 28 ?_
      refine zk5 HT_ HW_ hHeld 29 ?_
      refine zq HT_ 30 ?_
      refine zq HT_ 31 ?_
      refine zq HT_ 32 ?_
      refine zu HT_ 33 ?_
      refine zu HT_ 34 ?_
      refine zu HT_ 35 ?_
      refine zu HT_ 36 ?_
      refine zu HT_ 37 ?_
      refine zu HT_ 38 ?_
      refine zq HT_ 39 ?_
      refine zq HT_ 40 ?_
      refine zu HT_ 41 ?_
      refine zu HT_ 42 ?_
      refine zu HT_ 43 ?_
      refine zq HT_ 44 ?_
      refine done_ (done_of HT_.out (by kernel_rfl)) ?_
      try go_wp2
      go_meet
      case rel => exact ⟨_, (true), zi, H', ⟨by have := HK1.out; first | omega | exact Nat.le_refl _⟩, ⟨zh BK109⟩, ⟨zs1 HB GE109⟩⟩
     rw [if_neg c33] at H
     have c33b0 : decide (16 ≤ ((rd_T48 l0 x3_1).f3)) = false := decide_eq_false c33
     clear c33
     replace H := zbd H; obtain ⟨t115, A36, H⟩ := H
     by_cases c37 : t115 = true
     rotate_left
     ·replace c37 := Bool.eq_false_iff.mpr c37
      subst c37
      have H1 : (spec_HandZonesOk.j1 k1 l0 x3_1 true ((rd_T48 l0 x3_1).f0) ((rd_T48 l0 x3_1).f1) ((rd_T48 l0 x3_1).f2) ((rd_T48 l0 x3_1).f3) ((rd_T48 l0 x3_1).f4)) = some r := by rw [if_neg (show ¬ (false = true) by decide)] at H; exact H
      clear H
      have H := H1
      clear H1
      have H' := Aside0.mk H
      clear H
      try go_wp2
      obtain ⟨w40, e_⟩ : ∃ x, x = (((((w7.setCell ⟨gb109, 0, none⟩ (.string ((rd_T48 l0 x3_1).f0))).setCell ⟨gb109, 1, none⟩ (.int .i64 ((rd_T48 l0 x3_1).f1))).setCell ⟨gb109, 2, none⟩ (.int .i64 ((rd_T48 l0 x3_1).f2))).setCell ⟨gb109, 3, none⟩ (.int .i64 ((rd_T48 l0 x3_1).f3))).setCell ⟨gb109, 4, none⟩ (.int .i64 ((rd_T48 l0 x3_1).f4))) := ⟨_, rfl⟩
      have n0_ : Aside0 (w40.heap[gb109]? = some (.cells #[.string ((rd_T48 l0 x3_1).f0), .int .i64 ((rd_T48 l0 x3_1).f1), .int .i64 ((rd_T48 l0 x3_1).f2), .int .i64 ((rd_T48 l0 x3_1).f3), .int .i64 ((rd_T48 l0 x3_1).f4)] 48 (0, 0))) := by rw [e_]; exact ⟨zpb BK109⟩
      have n1_ : Aside0 (Below w.heap.size w w40) := by rw [e_]; exact ⟨zs1 HB GE109⟩
      (try clear BK109)
      (try clear HB)
      rw [← e_]; clear e_
      have BK109 := n0_
      have HB := n1_
      clear n0_ n1_
      replace BK109 := Aside0.mk (blk_drew BK109.out)
      replace HB := Aside0.mk (below_drew1 HB.out)
      refine start_ (n := 45) (S := fun w' => w'.cell? ⟨gb109, 0, none⟩ = some (.string ((rd_T48 l0 x3_1).f0)) ∧ w'.cell? ⟨gb109, 1, none⟩ = some (.int .i64 ((rd_T48 l0 x3_1).f1)) ∧ w'.cell? ⟨gb109, 2, none⟩ = some (.int .i64 ((rd_T48 l0 x3_1).f2)) ∧ w'.cell? ⟨gb109, 3, none⟩ = some (.int .i64 ((rd_T48 l0 x3_1).f3)) ∧ w'.cell? ⟨gb109, 4, none⟩ = some (.int .i64 ((rd_T48 l0 x3_1).f4))) (ds := []) #[false, false, false, false, false, false, false, false, false, false, false, false, false, false, false, false, false, false, false, false, false, false, false, false, false, false, false, false, false, false, false, false, false, false, false, false, false, false, false, false, false, false, false, false, false] (by kernel_rfl) rfl rfl ⟨zc0 BK109, zc1 BK109, zc2 BK109, zc3 BK109, zc4 BK109⟩ (fun hHeld => ?_); refine with_tabW spec_HandZonesOk.tab7 spec_HandZonesOk.bits7 (fun HT_ HW_ => ?_)
      generalize w40.drew = w41 at BK109 HB hHeld ⊢
      refine zq HT_ 0 ?_
      refine zk5 HT_ HW_ hHeld 1 ?_
      refine zo HT_ 2 (fun K hK => ?_)
      refine zgo Try.func17 #[.string ((rd_T48 l0 x3_1).f0)] ?_
      with_reducible refine (spec_l31NameOk.calls k1 ((rd_T48 l0 x3_1).f0) true _ A9.out).mono ?_
      rintro e w' ⟨rfl, ⟨nd, rfl⟩⟩
      refine ⟨_, rfl, ?_⟩
      refine hK.out _ _ ⟨zc0 BK109, zc1 BK109, zc2 BK109, zc3 BK109, zc4 BK109⟩ (fun hHeld => ?_)
      clear hK K
      refine zN ?_
      refine zq HT_ 3 ?_
      refine zq HT_ 4 ?_
      refine zq HT_ 5 ?_
      refine zq HT_ 6 ?_
      refine zq HT_ 7 ?_
      refine zu HT_ 8 ?_
      refine zu HT_ 9 ?_
      refine zu HT_ 10 ?_
      refine zu HT_ 11 ?_
      refine zu HT_ 12 ?_
      refine zu HT_ 13 ?_
      refine zu HT_ 14 ?_
      refine zu HT_ 15 ?_
      refine zu HT_ 16 ?_
      refine zq HT_ 17 ?_
      refine zq HT_ 18 ?_
      refine zq HT_ 19 ?_
      refine zq HT_ 20 ?_
      refine zq HT_ 22 ?_
      refine zk5 HT_ HW_ hHeld 21 ?_
      refine zk5 HT_ HW_ hHeld 23 ?_
      refine zo HT_ 24 (fun K hK => ?_)
      refine zgo Try.func15 #[.int .i64 ((rd_T48 l0 x3_1).f1), .int .i64 0, .int .i64 ((rd_T48 l0 x3_1).f3)] ?_
      with_reducible refine (spec_l31In.calls ((rd_T48 l0 x3_1).f1) 0 ((rd_T48 l0 x3_1).f3) true _ A31.out).mono ?_
      rintro e w' ⟨rfl, ⟨nd, rfl⟩⟩
      refine ⟨_, rfl, ?_⟩
      refine hK.out _ _ ⟨zc0 BK109, zc1 BK109, zc2 BK109, zc3 BK109, zc4 BK109⟩ (fun hHeld => ?_)
      clear hK K
      refine zN ?_
      refine zq HT_ 25 ?_
      refine zq HT_ 26 ?_
      refine zq HT_ 27 ?_
      refine zq HT_ 28 ?_
      refine zk5 HT_ HW_ hHeld 29 ?_
      refine zq HT_ 30 ?_
      refine zq HT_ 31 ?_
      refine zq HT_ 32 ?_
      refine zq HT_ 33 ?_
      refine zq HT_ 35 ?_
      refine zk5 HT_ HW_ hHeld 34 ?_
      refine zk5 HT_ HW_ hHeld 36 ?_
      refine zo HT_ 37 (fun K hK => ?_)
      refine zgo Try.func15 #[.int .i64 ((rd_T48 l0 x3_1).f2), .int .i64 0, .int .i64 ((rd_T48 l0 x3_1).f4)] ?_
      with_reducible refine (spec_l31In.calls ((rd_T48 l0 x3_1).f2) 0 ((rd_T48 l0 x3_1).f4) false _ A36.out).mono ?_
      rintro e w' ⟨rfl, ⟨nd, rfl⟩⟩
      refine ⟨_, rfl, ?_⟩
      refine hK.out _ _ ⟨zc0 BK109, zc1 BK109, zc2 BK109, zc3 BK109, zc4 BK109⟩ (fun hHeld => ?_)
      clear hK K
      refine zN ?_
      refine zq HT_ 38 ?_
      refine zq HT_ 39 ?_
      refine zq HT_ 40 ?_
      refine zu HT_ 41 ?_
      refine zu HT_ 42 ?_
      refine zu HT_ 43 ?_
      refine zq HT_ 44 ?_
      refine done_ (done_of HT_.out (by kernel_rfl)) ?_
      try go_wp2
      go_meet
      case rel => exact ⟨_, (true), zi, H', ⟨by have := HK1.out; first | omega | exact Nat.le_refl _⟩, ⟨zh BK109⟩, ⟨zs1 HB GE109⟩⟩
     subst c37
     have H1 : (spec_HandZonesOk.j1 k1 l0 x3_1 (decide (((rd_T48 l0 x3_1).f4) ≥ 16)) ((rd_T48 l0 x3_1).f0) ((rd_T48 l0 x3_1).f1) ((rd_T48 l0 x3_1).f2) ((rd_T48 l0 x3_1).f3) ((rd_T48 l0 x3_1).f4)) = some r := by rw [if_pos rfl] at H; exact H
     clear H
     have H := H1
     clear H1
     have H' := Aside0.mk H
     clear H
     try go_wp2
     obtain ⟨w38, e_⟩ : ∃ x, x = (((((w7.setCell ⟨gb109, 0, none⟩ (.string ((rd_T48 l0 x3_1).f0))).setCell ⟨gb109, 1, none⟩ (.int .i64 ((rd_T48 l0 x3_1).f1))).setCell ⟨gb109, 2, none⟩ (.int .i64 ((rd_T48 l0 x3_1).f2))).setCell ⟨gb109, 3, none⟩ (.int .i64 ((rd_T48 l0 x3_1).f3))).setCell ⟨gb109, 4, none⟩ (.int .i64 ((rd_T48 l0 x3_1).f4))) := ⟨_, rfl⟩
     have n0_ : Aside0 (w38.heap[gb109]? = some (.cells #[.string ((rd_T48 l0 x3_1).f0), .int .i64 ((rd_T48 l0 x3_1).f1), .int .i64 ((rd_T48 l0 x3_1).f2), .int .i64 ((rd_T48 l0 x3_1).f3), .int .i64 ((rd_T48 l0 x3_1).f4)] 48 (0, 0))) := by rw [e_]; exact ⟨zpb BK109⟩
     have n1_ : Aside0 (Below w.heap.size w w38) := by rw [e_]; exact ⟨zs1 HB GE109⟩
     (try clear BK109)
     (try clear HB)
     rw [← e_]; clear e_
     have BK109 := n0_
     have HB := n1_
     clear n0_ n1_
     replace BK109 := Aside0.mk (blk_drew BK109.out)
     replace HB := Aside0.mk (below_drew1 HB.out)
     refine start_ (n := 45) (S := fun w' => w'.cell? ⟨gb109, 0, none⟩ = some (.string ((rd_T48 l0 x3_1).f0)) ∧ w'.cell? ⟨gb109, 1, none⟩ = some (.int .i64 ((rd_T48 l0 x3_1).f1)) ∧ w'.cell? ⟨gb109, 2, none⟩ = some (.int .i64 ((rd_T48 l0 x3_1).f2)) ∧ w'.cell? ⟨gb109, 3, none⟩ = some (.int .i64 ((rd_T48 l0 x3_1).f3)) ∧ w'.cell? ⟨gb109, 4, none⟩ = some (.int .i64 ((rd_T48 l0 x3_1).f4))) (ds := []) #[false, false, false, false, false, false, false, false, false, false, false, false, false, false, false, false, false, false, false, false, false, false, false, false, false, false, false, false, false, false, false, false, false, false, false, false, false, false, false, false, false, false, false, false, false] (by kernel_rfl) rfl rfl ⟨zc0 BK109, zc1 BK109, zc2 BK109, zc3 BK109, zc4 BK109⟩ (fun hHeld => ?_); refine with_tabW spec_HandZonesOk.tab7 spec_HandZonesOk.bits7 (fun HT_ HW_ => ?_)
     generalize w38.drew = w39 at BK109 HB hHeld ⊢
     refine zq HT_ 0 ?_
     refine zk5 HT_ HW_ hHeld 1 ?_
     refine zo HT_ 2 (fun K hK => ?_)
     refine zgo Try.func17 #[.string ((rd_T48 l0 x3_1).f0)] ?_
     with_reducible refine (spec_l31NameOk.calls k1 ((rd_T48 l0 x3_1).f0) true _ A9.out).mono ?_
     rintro e w' ⟨rfl, ⟨nd, rfl⟩⟩
     refine ⟨_, rfl, ?_⟩
     refine hK.out _ _ ⟨zc0 BK109, zc1 BK109, zc2 BK109, zc3 BK109, zc4 BK109⟩ (fun hHeld => ?_)
     clear hK K
     refine zN ?_
     refine zq HT_ 3 ?_
     refine zq HT_ 4 ?_
     refine zq HT_ 5 ?_
     refine zq HT_ 6 ?_
     refine zq HT_ 7 ?_
     refine zu HT_ 8 ?_
     refine zu HT_ 9 ?_
     refine zu HT_ 10 ?_
     refine zu HT_ 11 ?_
     refine zu HT_ 12 ?_
     refine zu HT_ 13 ?_
     refine zu HT_ 14 ?_
     refine zu HT_ 15 ?_
     refine zu HT_ 16 ?_
     refine zq HT_ 17 ?_
     refine zq HT_ 18 ?_
     refine zq HT_ 19 ?_
     refine zq HT_ 20 ?_
     refine zq HT_ 22 ?_
     refine zk5 HT_ HW_ hHeld 21 ?_
     refine zk5 HT_ HW_ hHeld 23 ?_
     refine zo HT_ 24 (fun K hK => ?_)
     refine zgo Try.func15 #[.int .i64 ((rd_T48 l0 x3_1).f1), .int .i64 0, .int .i64 ((rd_T48 l0 x3_1).f3)] ?_
     with_reducible refine (spec_l31In.calls ((rd_T48 l0 x3_1).f1) 0 ((rd_T48 l0 x3_1).f3) true _ A31.out).mono ?_
     rintro e w' ⟨rfl, ⟨nd, rfl⟩⟩
     refine ⟨_, rfl, ?_⟩
     refine hK.out _ _ ⟨zc0 BK109, zc1 BK109, zc2 BK109, zc3 BK109, zc4 BK109⟩ (fun hHeld => ?_)
     clear hK K
     refine zN ?_
     refine zq HT_ 25 ?_
     refine zq HT_ 26 ?_
     refine zq HT_ 27 ?_
     refine zq HT_ 28 ?_
     refine zk5 HT_ HW_ hHeld 29 ?_
     refine zq HT_ 30 ?_
     refine zq HT_ 31 ?_
     refine zq HT_ 32 ?_
     refine zq HT_ 33 ?_
     refine zq HT_ 35 ?_
     refine zk5 HT_ HW_ hHeld 34 ?_
     refine zk5 HT_ HW_ hHeld 36 ?_
     refine zo HT_ 37 (fun K hK => ?_)
     refine zgo Try.func15 #[.int .i64 ((rd_T48 l0 x3_1).f2), .int .i64 0, .int .i64 ((rd_T48 l0 x3_1).f4)] ?_
     with_reducible refine (spec_l31In.calls ((rd_T48 l0 x3_1).f2) 0 ((rd_T48 l0 x3_1).f4) true _ A36.out).mono ?_
     rintro e w' ⟨rfl, ⟨nd, rfl⟩⟩
     refine ⟨_, rfl, ?_⟩
     refine hK.out _ _ ⟨zc0 BK109, zc1 BK109, zc2 BK109, zc3 BK109, zc4 BK109⟩ (fun hHeld => ?_)
     clear hK K
     refine zN ?_
     refine zq HT_ 38 ?_
     refine zq HT_ 39 ?_
     refine zq HT_ 40 ?_
     refine zq HT_ 41 ?_
     refine zk5 HT_ HW_ hHeld 42 ?_
     refine zq HT_ 43 ?_
     refine zq HT_ 44 ?_
     refine done_ (done_of HT_.out (by kernel_rfl)) ?_
     try go_wp2
     go_meet
     case rel => exact ⟨_, (decide (((rd_T48 l0 x3_1).f4) ≥ 16)), zi, H', ⟨by have := HK1.out; first | omega | exact Nat.le_refl _⟩, ⟨zh BK109⟩, ⟨zs1 HB GE109⟩⟩
    rw [if_pos c11] at H
    have c11b0 : decide (0 < x3_1) = true := decide_eq_true c11
    clear c11
    (first | rw [c11b0] | (simp only [i64_w, i32_w]; rw [c11b0]) | skip)
    obtain ⟨ji12, hji12⟩ : ∃ j_ : Int, (wrap64 (x3_1 - 1)) = j_ := ⟨_, rfl⟩
    first | rw [hji12] at H | simp only [hji12] at H
    (try rw [hji12] at A9)
    have hji12w : (IntKind.i64.wrap (x3_1 - 1)) = ji12 := (i64_w _).trans hji12
    by_cases c13 : 0 ≤ (ji12)
    rotate_left
    ·rw [if_neg c13] at H
     exact absurd H (by simp)
    rw [if_pos c13] at H
    have c13b0 : decide (0 ≤ (ji12)) = true := decide_eq_true c13
    clear c13
    by_cases c14 : (ji12) < (l0.length : Int)
    rotate_left
    ·rw [if_neg c14] at H
     exact absurd H (by simp)
    rw [if_pos c14] at H
    have c14b0 : decide ((ji12) < (l0.length : Int)) = true := decide_eq_true c14
    clear c14
    by_cases c15 : ((Op.bytesLess (((rd_T48 l0 (ji12)).f0).toList) (((rd_T48 l0 x3_1).f0).toList)) = true)
    rotate_left
    ·rw [if_neg c15] at H
     have c15b0 : (Op.bytesLess (((rd_T48 l0 (ji12)).f0).toList) (((rd_T48 l0 x3_1).f0).toList)) = false := by simpa using c15
     clear c15
     have H' := Aside0.mk H
     clear H
     try go_wp2
     obtain ⟨w29, e_⟩ : ∃ x, x = (((((w7.setCell ⟨gb109, 0, none⟩ (.string ((rd_T48 l0 x3_1).f0))).setCell ⟨gb109, 1, none⟩ (.int .i64 ((rd_T48 l0 x3_1).f1))).setCell ⟨gb109, 2, none⟩ (.int .i64 ((rd_T48 l0 x3_1).f2))).setCell ⟨gb109, 3, none⟩ (.int .i64 ((rd_T48 l0 x3_1).f3))).setCell ⟨gb109, 4, none⟩ (.int .i64 ((rd_T48 l0 x3_1).f4))) := ⟨_, rfl⟩
     have n0_ : Aside0 (w29.heap[gb109]? = some (.cells #[.string ((rd_T48 l0 x3_1).f0), .int .i64 ((rd_T48 l0 x3_1).f1), .int .i64 ((rd_T48 l0 x3_1).f2), .int .i64 ((rd_T48 l0 x3_1).f3), .int .i64 ((rd_T48 l0 x3_1).f4)] 48 (0, 0))) := by rw [e_]; exact ⟨zpb BK109⟩
     have n1_ : Aside0 (Below w.heap.size w w29) := by rw [e_]; exact ⟨zs1 HB GE109⟩
     (try clear BK109)
     (try clear HB)
     rw [← e_]; clear e_
     have BK109 := n0_
     have HB := n1_
     clear n0_ n1_
     replace BK109 := Aside0.mk (blk_drew BK109.out)
     replace HB := Aside0.mk (below_drew1 HB.out)
     have p111 : 0 ≤ ((ji12) : Int) := za
     have q111 : (ji12) < (l0.length : Int) := za
     obtain ⟨ad111, e111, hx111_0, hx111_1, hx111_2, hx111_3, hx111_4⟩ := at_T48 HR0.out (ji12) p111 q111
     have hw111_4 := hx111_4
     have hw111_3 := hx111_3
     have hw111_2 := hx111_2
     have hw111_1 := hx111_1
     have hw111_0 := hx111_0
     obtain rfl : ad108 = ad111 := (by injection e111)
     replace hx111_0 := zx HB hx111_0
     replace hx111_1 := zx HB hx111_1
     replace hx111_2 := zx HB hx111_2
     replace hx111_3 := zx HB hx111_3
     replace hx111_4 := zx HB hx111_4
     replace p111 := eq_true p111
     replace q111 := eq_true q111
     refine start_ (n := 45) (S := fun w' => w'.cell? ⟨gb109, 0, none⟩ = some (.string ((rd_T48 l0 x3_1).f0)) ∧ w'.cell? ⟨gb109, 1, none⟩ = some (.int .i64 ((rd_T48 l0 x3_1).f1)) ∧ w'.cell? ⟨gb109, 2, none⟩ = some (.int .i64 ((rd_T48 l0 x3_1).f2)) ∧ w'.cell? ⟨gb109, 3, none⟩ = some (.int .i64 ((rd_T48 l0 x3_1).f3)) ∧ w'.cell? ⟨gb109, 4, none⟩ = some (.int .i64 ((rd_T48 l0 x3_1).f4)) ∧ w'.cell? (ad108.add (((ji12)).toNat * 5)) = some (.string ((rd_T48 l0 (ji12)).f0)) ∧ w'.cell? ⟨(ad108.add (((ji12)).toNat * 5)).block, (ad108.add (((ji12)).toNat * 5)).off + 1, none⟩ = some (.int .i64 ((rd_T48 l0 (ji12)).f1)) ∧ w'.cell? ⟨(ad108.add (((ji12)).toNat * 5)).block, (ad108.add (((ji12)).toNat * 5)).off + 2, none⟩ = some (.int .i64 ((rd_T48 l0 (ji12)).f2)) ∧ w'.cell? ⟨(ad108.add (((ji12)).toNat * 5)).block, (ad108.add (((ji12)).toNat * 5)).off + 3, none⟩ = some (.int .i64 ((rd_T48 l0 (ji12)).f3)) ∧ w'.cell? ⟨(ad108.add (((ji12)).toNat * 5)).block, (ad108.add (((ji12)).toNat * 5)).off + 4, none⟩ = some (.int .i64 ((rd_T48 l0 (ji12)).f4))) (ds := []) #[false, false, false, false, false, false, false, false, false, false, false, false, false, false, false, false, false, false, false, false, false, false, false, false, false, false, false, false, false, false, false, false, false, false, false, false, false, false, false, false, false, false, false, false, false] (by kernel_rfl) rfl rfl ⟨zc0 BK109, zc1 BK109, zc2 BK109, zc3 BK109, zc4 BK109, (zw HB hw111_0), (zw HB hw111_1), (zw HB hw111_2), (zw HB hw111_3), (zw HB hw111_4)⟩ (fun hHeld => ?_); refine with_tabW spec_HandZonesOk.tab7 spec_HandZonesOk.bits7 (fun HT_ HW_ => ?_)
     generalize w29.drew = w30 at BK109 HB hx111_0 hx111_1 hx111_2 hx111_3 hx111_4 hHeld ⊢
     refine zq HT_ 0 ?_
     refine zk10 HT_ HW_ hHeld 1 ?_
     refine zo HT_ 2 (fun K hK => ?_)
     refine zgo Try.func17 #[.string ((rd_T48 l0 x3_1).f0)] ?_
     with_reducible refine (spec_l31NameOk.calls k1 ((rd_T48 l0 x3_1).f0) true _ A9.out).mono ?_
     rintro e w' ⟨rfl, ⟨nd, rfl⟩⟩
     refine ⟨_, rfl, ?_⟩
     refine hK.out _ _ ⟨zc0 BK109, zc1 BK109, zc2 BK109, zc3 BK109, zc4 BK109, (zw HB hw111_0), (zw HB hw111_1), (zw HB hw111_2), (zw HB hw111_3), (zw HB hw111_4)⟩ (fun hHeld => ?_)
     clear hK K
     refine zN ?_
     refine zq HT_ 3 ?_
     refine zq HT_ 4 ?_
     refine zq HT_ 5 ?_
     refine zq HT_ 6 ?_
     refine zq HT_ 7 ?_
     refine zq HT_ 8 ?_
     refine zq HT_ 9 ?_
     refine zq HT_ 10 ?_
     refine zq HT_ 11 ?_
     refine zq HT_ 12 ?_
     refine zq HT_ 14 ?_
     refine zk10 HT_ HW_ hHeld 13 ?_
     refine zk10 HT_ HW_ hHeld 15 ?_
     refine zq HT_ 16 ?_
     refine zq HT_ 17 ?_
     refine zq HT_ 18 ?_
     refine zq HT_ 19 ?_
     refine zu HT_ 20 ?_
     refine zu HT_ 21 ?_
     refine zu HT_ 22 ?_
     refine zu HT_ 23 ?_
     refine zu HT_ 24 ?_
     refine zu HT_ 25 ?_
     refine zq HT_ 26 ?_
     refine zq HT_ 27 ?_
     refine zu HT_ 28 ?_
     refine zu HT_ 29 ?_
     refine zu HT_ 30 ?_
     refine zq HT_ 31 ?_
     refine zq HT_ 32 ?_
     refine zu HT_ 33 ?_
     refine zu HT_ 34 ?_
     refine zu HT_ 35 ?_
     refine zu HT_ 36 ?_
     refine zu HT_ 37 ?_
     refine zu HT_ 38 ?_
     refine zq HT_ 39 ?_
     refine zq HT_ 40 ?_
     refine zu HT_ 41 ?_
     refine zu HT_ 42 ?_
     refine zu HT_ 43 ?_
     refine zq HT_ 44 ?_
     refine done_ (done_of HT_.out (by kernel_rfl)) ?_
     try go_wp2
     go_meet
     case rel => exact ⟨_, (true), zi, H', ⟨by have := HK1.out; first | omega | exact Nat.le_refl _⟩, ⟨zh BK109⟩, ⟨zs1 HB GE109⟩⟩
    rw [if_pos c15] at H
    have c15b0 : (Op.bytesLess (((rd_T48 l0 (ji12)).f0).toList) (((rd_T48 l0 x3_1).f0).toList)) = true := c15
    clear c15
    replace H := zbd H; obtain ⟨t112, A16, H⟩ := H
    by_cases c17 : t112 = true
    rotate_left
    ·replace c17 := Bool.eq_false_iff.mpr c17
     subst c17
     have H1 : (spec_HandZonesOk.j1 k1 l0 x3_1 true ((rd_T48 l0 x3_1).f0) ((rd_T48 l0 x3_1).f1) ((rd_T48 l0 x3_1).f2) ((rd_T48 l0 x3_1).f3) ((rd_T48 l0 x3_1).f4)) = some r := by rw [if_neg (show ¬ (false = true) by decide)] at H; exact H
     clear H
     have H := H1
     clear H1
     have H' := Aside0.mk H
     clear H
     try go_wp2
     obtain ⟨w27, e_⟩ : ∃ x, x = (((((w7.setCell ⟨gb109, 0, none⟩ (.string ((rd_T48 l0 x3_1).f0))).setCell ⟨gb109, 1, none⟩ (.int .i64 ((rd_T48 l0 x3_1).f1))).setCell ⟨gb109, 2, none⟩ (.int .i64 ((rd_T48 l0 x3_1).f2))).setCell ⟨gb109, 3, none⟩ (.int .i64 ((rd_T48 l0 x3_1).f3))).setCell ⟨gb109, 4, none⟩ (.int .i64 ((rd_T48 l0 x3_1).f4))) := ⟨_, rfl⟩
     have n0_ : Aside0 (w27.heap[gb109]? = some (.cells #[.string ((rd_T48 l0 x3_1).f0), .int .i64 ((rd_T48 l0 x3_1).f1), .int .i64 ((rd_T48 l0 x3_1).f2), .int .i64 ((rd_T48 l0 x3_1).f3), .int .i64 ((rd_T48 l0 x3_1).f4)] 48 (0, 0))) := by rw [e_]; exact ⟨zpb BK109⟩
     have n1_ : Aside0 (Below w.heap.size w w27) := by rw [e_]; exact ⟨zs1 HB GE109⟩
     (try clear BK109)
     (try clear HB)
     rw [← e_]; clear e_
     have BK109 := n0_
     have HB := n1_
     clear n0_ n1_
     replace BK109 := Aside0.mk (blk_drew BK109.out)
     replace HB := Aside0.mk (below_drew1 HB.out)
     have p111 : 0 ≤ ((ji12) : Int) := za
     have q111 : (ji12) < (l0.length : Int) := za
     obtain ⟨ad111, e111, hx111_0, hx111_1, hx111_2, hx111_3, hx111_4⟩ := at_T48 HR0.out (ji12) p111 q111
     have hw111_4 := hx111_4
     have hw111_3 := hx111_3
     have hw111_2 := hx111_2
     have hw111_1 := hx111_1
     have hw111_0 := hx111_0
     obtain rfl : ad108 = ad111 := (by injection e111)
     replace hx111_0 := zx HB hx111_0
     replace hx111_1 := zx HB hx111_1
     replace hx111_2 := zx HB hx111_2
     replace hx111_3 := zx HB hx111_3
     replace hx111_4 := zx HB hx111_4
     replace p111 := eq_true p111
     replace q111 := eq_true q111
     refine start_ (n := 45) (S := fun w' => w'.cell? ⟨gb109, 0, none⟩ = some (.string ((rd_T48 l0 x3_1).f0)) ∧ w'.cell? ⟨gb109, 1, none⟩ = some (.int .i64 ((rd_T48 l0 x3_1).f1)) ∧ w'.cell? ⟨gb109, 2, none⟩ = some (.int .i64 ((rd_T48 l0 x3_1).f2)) ∧ w'.cell? ⟨gb109, 3, none⟩ = some (.int .i64 ((rd_T48 l0 x3_1).f3)) ∧ w'.cell? ⟨gb109, 4, none⟩ = some (.int .i64 ((rd_T48 l0 x3_1).f4)) ∧ w'.cell? (ad108.add (((ji12)).toNat * 5)) = some (.string ((rd_T48 l0 (ji12)).f0)) ∧ w'.cell? ⟨(ad108.add (((ji12)).toNat * 5)).block, (ad108.add (((ji12)).toNat * 5)).off + 1, none⟩ = some (.int .i64 ((rd_T48 l0 (ji12)).f1)) ∧ w'.cell? ⟨(ad108.add (((ji12)).toNat * 5)).block, (ad108.add (((ji12)).toNat * 5)).off + 2, none⟩ = some (.int .i64 ((rd_T48 l0 (ji12)).f2)) ∧ w'.cell? ⟨(ad108.add (((ji12)).toNat * 5)).block, (ad108.add (((ji12)).toNat * 5)).off + 3, none⟩ = some (.int .i64 ((rd_T48 l0 (ji12)).f3)) ∧ w'.cell? ⟨(ad108.add (((ji12)).toNat * 5)).block, (ad108.add (((ji12)).toNat * 5)).off + 4, none⟩ = some (.int .i64 ((rd_T48 l0 (ji12)).f4))) (ds := []) #[false, false, false, false, false, false, false, false, false, false, false, false, false, false, false, false, false, false, false, false, false, false, false, false, false, false, false, false, false, false, false, false, false, false, false, false, false, false, false, false, false, false, false, false, false] (by kernel_rfl) rfl rfl ⟨zc0 BK109, zc1 BK109, zc2 BK109, zc3 BK109, zc4 BK109, (zw HB hw111_0), (zw HB hw111_1), (zw HB hw111_2), (zw HB hw111_3), (zw HB hw111_4)⟩ (fun hHeld => ?_); refine with_tabW spec_HandZonesOk.tab7 spec_HandZonesOk.bits7 (fun HT_ HW_ => ?_)
     generalize w27.drew = w28 at BK109 HB hx111_0 hx111_1 hx111_2 hx111_3 hx111_4 hHeld ⊢
     refine zq HT_ 0 ?_
     refine zk10 HT_ HW_ hHeld 1 ?_
     refine zo HT_ 2 (fun K hK => ?_)
     refine zgo Try.func17 #[.string ((rd_T48 l0 x3_1).f0)] ?_
     with_reducible refine (spec_l31NameOk.calls k1 ((rd_T48 l0 x3_1).f0) true _ A9.out).mono ?_
     rintro e w' ⟨rfl, ⟨nd, rfl⟩⟩
     refine ⟨_, rfl, ?_⟩
     refine hK.out _ _ ⟨zc0 BK109, zc1 BK109, zc2 BK109, zc3 BK109, zc4 BK109, (zw HB hw111_0), (zw HB hw111_1), (zw HB hw111_2), (zw HB hw111_3), (zw HB hw111_4)⟩ (fun hHeld => ?_)
     clear hK K
     refine zN ?_
     refine zq HT_ 3 ?_
     refine zq HT_ 4 ?_
     refine zq HT_ 5 ?_
     refine zq HT_ 6 ?_
     refine zq HT_ 7 ?_
     refine zq HT_ 8 ?_
     refine zq HT_ 9 ?_
     refine zq HT_ 10 ?_
     refine zq HT_ 11 ?_
     refine zq HT_ 12 ?_
     refine zq HT_ 14 ?_
     refine zk10 HT_ HW_ hHeld 13 ?_
     refine zk10 HT_ HW_ hHeld 15 ?_
     refine zq HT_ 16 ?_
     refine zq HT_ 17 ?_
     refine zq HT_ 18 ?_
     refine zq HT_ 19 ?_
     refine zq HT_ 20 ?_
     refine zq HT_ 22 ?_
     refine zk10 HT_ HW_ hHeld 21 ?_
     refine zk10 HT_ HW_ hHeld 23 ?_
     refine zo HT_ 24 (fun K hK => ?_)
     refine zgo Try.func15 #[.int .i64 ((rd_T48 l0 x3_1).f1), .int .i64 0, .int .i64 ((rd_T48 l0 x3_1).f3)] ?_
     with_reducible refine (spec_l31In.calls ((rd_T48 l0 x3_1).f1) 0 ((rd_T48 l0 x3_1).f3) false _ A16.out).mono ?_
     rintro e w' ⟨rfl, ⟨nd, rfl⟩⟩
     refine ⟨_, rfl, ?_⟩
     refine hK.out _ _ ⟨zc0 BK109, zc1 BK109, zc2 BK109, zc3 BK109, zc4 BK109, (zw HB hw111_0), (zw HB hw111_1), (zw HB hw111_2), (zw HB hw111_3), (zw HB hw111_4)⟩ (fun hHeld => ?_)
     clear hK K
     refine zN ?_
     refine zq HT_ 25 ?_
     refine zq HT_ 26 ?_
     refine zq HT_ 27 ?_
     refine zu HT_ 28 ?_
     refine zu HT_ 29 ?_
     refine zu HT_ 30 ?_
     refine zq HT_ 31 ?_
     refine zq HT_ 32 ?_
     refine zu HT_ 33 ?_
     refine zu HT_ 34 ?_
     refine zu HT_ 35 ?_
     refine zu HT_ 36 ?_
     refine zu HT_ 37 ?_
     refine zu HT_ 38 ?_
     refine zq HT_ 39 ?_
     refine zq HT_ 40 ?_
     refine zu HT_ 41 ?_
     refine zu HT_ 42 ?_
     refine zu HT_ 43 ?_
     refine zq HT_ 44 ?_
     refine done_ (done_of HT_.out (by kernel_rfl)) ?_
     try go_wp2
     go_meet
     case rel => exact ⟨_, (true), zi, H', ⟨by have := HK1.out; first | omega | exact Nat.le_refl _⟩, ⟨zh BK109⟩, ⟨zs1 HB GE109⟩⟩
    subst c17
    have H1 : (if ((rd_T48 l0 x3_1).f3) ≥ 16 then (spec_HandZonesOk.j1 k1 l0 x3_1 true ((rd_T48 l0 x3_1).f0) ((rd_T48 l0 x3_1).f1) ((rd_T48 l0 x3_1).f2) ((rd_T48 l0 x3_1).f3) ((rd_T48 l0 x3_1).f4)) else ((spec_l31In.f ((rd_T48 l0 x3_1).f2) 0 ((rd_T48 l0 x3_1).f4)).bind fun t113 => (if t113 = true then (spec_HandZonesOk.j1 k1 l0 x3_1 (decide (((rd_T48 l0 x3_1).f4) ≥ 16)) ((rd_T48 l0 x3_1).f0) ((rd_T48 l0 x3_1).f1) ((rd_T48 l0 x3_1).f2) ((rd_T48 l0 x3_1).f3) ((rd_T48 l0 x3_1).f4)) else (spec_HandZonesOk.j1 k1 l0 x3_1 true ((rd_T48 l0 x3_1).f0) ((rd_T48 l0 x3_1).f1) ((rd_T48 l0 x3_1).f2) ((rd_T48 l0 x3_1).f3) ((rd_T48 l0 x3_1).f4))))) = some r := by rw [if_pos rfl] at H; exact H
    clear H
    have H := H1
    clear H1
    by_cases c18 : ((rd_T48 l0 x3_1).f3) ≥ 16
    ·rw [if_pos c18] at H
     have c18b0 : decide (16 ≤ ((rd_T48 l0 x3_1).f3)) = true := decide_eq_true c18
     clear c18
     have H' := Aside0.mk H
     clear H
     try go_wp2
     obtain ⟨w19, e_⟩ : ∃ x, x = (((((w7.setCell ⟨gb109, 0, none⟩ (.string ((rd_T48 l0 x3_1).f0))).setCell ⟨gb109, 1, none⟩ (.int .i64 ((rd_T48 l0 x3_1).f1))).setCell ⟨gb109, 2, none⟩ (.int .i64 ((rd_T48 l0 x3_1).f2))).setCell ⟨gb109, 3, none⟩ (.int .i64 ((rd_T48 l0 x3_1).f3))).setCell ⟨gb109, 4, none⟩ (.int .i64 ((rd_T48 l0 x3_1).f4))) := ⟨_, rfl⟩
     have n0_ : Aside0 (w19.heap[gb109]? = some (.cells #[.string ((rd_T48 l0 x3_1).f0), .int .i64 ((rd_T48 l0 x3_1).f1), .int .i64 ((rd_T48 l0 x3_1).f2), .int .i64 ((rd_T48 l0 x3_1).f3), .int .i64 ((rd_T48 l0 x3_1).f4)] 48 (0, 0))) := by rw [e_]; exact ⟨zpb BK109⟩
     have n1_ : Aside0 (Below w.heap.size w w19) := by rw [e_]; exact ⟨zs1 HB GE109⟩
     (try clear BK109)
     (try clear HB)
     rw [← e_]; clear e_
     have BK109 := n0_
     have HB := n1_
     clear n0_ n1_
     replace BK109 := Aside0.mk (blk_drew BK109.out)
     replace HB := Aside0.mk (below_drew1 HB.out)
     have p111 : 0 ≤ ((ji12) : Int) := za
     have q111 : (ji12) < (l0.length : Int) := za
     obtain ⟨ad111, e111, hx111_0, hx111_1, hx111_2, hx111_3, hx111_4⟩ := at_T48 HR0.out (ji12) p111 q111
     have hw111_4 := hx111_4
     have hw111_3 := hx111_3
     have hw111_2 := hx111_2
     have hw111_1 := hx111_1
     have hw111_0 := hx111_0
     obtain rfl : ad108 = ad111 := (by injection e111)
     replace hx111_0 := zx HB hx111_0
     replace hx111_1 := zx HB hx111_1
     replace hx111_2 := zx HB hx111_2
     replace hx111_3 := zx HB hx111_3
     replace hx111_4 := zx HB hx111_4
     replace p111 := eq_true p111
     replace q111 := eq_true q111
     refine start_ (n := 45) (S := fun w' => w'.cell? ⟨gb109, 0, none⟩ = some (.string ((rd_T48 l0 x3_1).f0)) ∧ w'.cell? ⟨gb109, 1, none⟩ = some (.int .i64 ((rd_T48 l0 x3_1).f1)) ∧ w'.cell? ⟨gb109, 2, none⟩ = some (.int .i64 ((rd_T48 l0 x3_1).f2)) ∧ w'.cell? ⟨gb109, 3, none⟩ = some (.int .i64 ((rd_T48 l0 x3_1).f3)) ∧ w'.cell? ⟨gb109, 4, none⟩ = some (.int .i64 ((rd_T48 l0 x3_1).f4)) ∧ w'.cell? (ad108.add (((ji12)).toNat * 5)) = some (.string ((rd_T48 l0 (ji12)).f0)) ∧ w'.cell? ⟨(ad108.add (((ji12)).toNat * 5)).block, (ad108.add (((ji12)).toNat * 5)).off + 1, none⟩ = some (.int .i64 ((rd_T48 l0 (ji12)).f1)) ∧ w'.cell? ⟨(ad108.add (((ji12)).toNat * 5)).block, (ad108.add (((ji12)).toNat * 5)).off + 2, none⟩ = some (.int .i64 ((rd_T48 l0 (ji12)).f2)) ∧ w'.cell? ⟨(ad108.add (((ji12)).toNat * 5)).block, (ad108.add (((ji12)).toNat * 5)).off + 3, none⟩ = some (.int .i64 ((rd_T48 l0 (ji12)).f3)) ∧ w'.cell? ⟨(ad108.add (((ji12)).toNat * 5)).block, (ad108.add (((ji12)).toNat * 5)).off + 4, none⟩ = some (.int .i64 ((rd_T48 l0 (ji12)).f4))) (ds := []) #[false, false, false, false, false, false, false, false, false, false, false, false, false, false, false, false, false, false, false, false, false, false, false, false, false, false, false, false, false, false, false, false, false, false, false, false, false, false, false, false, false, false, false, false, false] (by kernel_rfl) rfl rfl ⟨zc0 BK109, zc1 BK109, zc2 BK109, zc3 BK109, zc4 BK109, (zw HB hw111_0), (zw HB hw111_1), (zw HB hw111_2), (zw HB hw111_3), (zw HB hw111_4)⟩ (fun hHeld => ?_); refine with_tabW spec_HandZonesOk.tab7 spec_HandZonesOk.bits7 (fun HT_ HW_ => ?_)
     generalize w19.drew = w20 at BK109 HB hx111_0 hx111_1 hx111_2 hx111_3 hx111_4 hHeld ⊢
     refine zq HT_ 0 ?_
     refine zk10 HT_ HW_ hHeld 1 ?_
     refine zo HT_ 2 (fun K hK => ?_)
     refine zgo Try.func17 #[.string ((rd_T48 l0 x3_1).f0)] ?_
     with_reducible refine (spec_l31NameOk.calls k1 ((rd_T48 l0 x3_1).f0) true _ A9.out).mono ?_
     rintro e w' ⟨rfl, ⟨nd, rfl⟩⟩
     refine ⟨_, rfl, ?_⟩
     refine hK.out _ _ ⟨zc0 BK109, zc1 BK109, zc2 BK109, zc3 BK109, zc4 BK109, (zw HB hw111_0), (zw HB hw111_1), (zw HB hw111_2), (zw HB hw111_3), (zw HB hw111_4)⟩ (fun hHeld => ?_)
     clear hK K
     refine zN ?_
     refine zq HT_ 3 ?_
     refine zq HT_ 4 ?_
     refine zq HT_ 5 ?_
     refine zq HT_ 6 ?_
     refine zq HT_ 7 ?_
     refine zq HT_ 8 ?_
     refine zq HT_ 9 ?_
     refine zq HT_ 10 ?_
     refine zq HT_ 11 ?_
     refine zq HT_ 12 ?_
     refine zq HT_ 14 ?_
     refine zk10 HT_ HW_ hHeld 13 ?_
     refine zk10 HT_ HW_ hHeld 15 ?_
     refine zq HT_ 16 ?_
     refine zq HT_ 17 ?_
     refine zq HT_ 18 ?_
     refine zq HT_ 19 ?_
     refine zq HT_ 20 ?_
     refine zq HT_ 22 ?_
     refine zk10 HT_ HW_ hHeld 21 ?_
     refine zk10 HT_ HW_ hHeld 23 ?_
     refine zo HT_ 24 (fun K hK => ?_)
     refine zgo Try.func15 #[.int .i64 ((rd_T48 l0 x3_1).f1), .int .i64 0, .int .i64 ((rd_T48 l0 x3_1).f3)] ?_
     with_reducible refine (spec_l31In.calls ((rd_T48 l0 x3_1).f1) 0 ((rd_T48 l0 x3_1).f3) true _ A16.out).mono ?_
     rintro e w' ⟨rfl, ⟨nd, rfl⟩⟩
     refine ⟨_, rfl, ?_⟩
     refine hK.out _ _ ⟨zc0 BK109, zc1 BK109, zc2 BK109, zc3 BK109, zc4 BK109, (zw HB hw111_0), (zw HB hw111_1), (zw HB hw111_2), (zw HB hw111_3), (zw HB hw111_4)⟩ (fun hHeld => ?_)
     clear hK K
     refine zN ?_
     refine zq HT_ 25 ?_
     refine zq HT_ 26 ?_
     refine zq HT_ 27 ?_
     refine zq HT_ 28 ?_
     refine zk10 HT_ HW_ hHeld 29 ?_
     refine zq HT_ 30 ?_
     refine zq HT_ 31 ?_
     refine zq HT_ 32 ?_
     refine zu HT_ 33 ?_
     refine zu HT_ 34 ?_
     refine zu HT_ 35 ?_
     refine zu HT_ 36 ?_
     refine zu HT_ 37 ?_
     refine zu HT_ 38 ?_
     refine zq HT_ 39 ?_
     refine zq HT_ 40 ?_
     refine zu HT_ 41 ?_
     refine zu HT_ 42 ?_
     refine zu HT_ 43 ?_
     refine zq HT_ 44 ?_
     refine done_ (done_of HT_.out (by kernel_rfl)) ?_
     try go_wp2
     go_meet
     case rel => exact ⟨_, (true), zi, H', ⟨by have := HK1.out; first | omega | exact Nat.le_refl _⟩, ⟨zh BK109⟩, ⟨zs1 HB GE109⟩⟩
    rw [if_neg c18] at H
    have c18b0 : decide (16 ≤ ((rd_T48 l0 x3_1).f3)) = false := decide_eq_false c18
    clear c18
    replace H := zbd H; obtain ⟨t113, A21, H⟩ := H
    by_cases c22 : t113 = true
    rotate_left
    ·replace c22 := Bool.eq_false_iff.mpr c22
     subst c22
     have H1 : (spec_HandZonesOk.j1 k1 l0 x3_1 true ((rd_T48 l0 x3_1).f0) ((rd_T48 l0 x3_1).f1) ((rd_T48 l0 x3_1).f2) ((rd_T48 l0 x3_1).f3) ((rd_T48 l0 x3_1).f4)) = some r := by rw [if_neg (show ¬ (false = true) by decide)] at H; exact H
     clear H
     have H := H1
     clear H1
     have H' := Aside0.mk H
     clear H
     try go_wp2
     obtain ⟨w25, e_⟩ : ∃ x, x = (((((w7.setCell ⟨gb109, 0, none⟩ (.string ((rd_T48 l0 x3_1).f0))).setCell ⟨gb109, 1, none⟩ (.int .i64 ((rd_T48 l0 x3_1).f1))).setCell ⟨gb109, 2, none⟩ (.int .i64 ((rd_T48 l0 x3_1).f2))).setCell ⟨gb109, 3, none⟩ (.int .i64 ((rd_T48 l0 x3_1).f3))).setCell ⟨gb109, 4, none⟩ (.int .i64 ((rd_T48 l0 x3_1).f4))) := ⟨_, rfl⟩
     have n0_ : Aside0 (w25.heap[gb109]? = some (.cells #[.string ((rd_T48 l0 x3_1).f0), .int .i64 ((rd_T48 l0 x3_1).f1), .int .i64 ((rd_T48 l0 x3_1).f2), .int .i64 ((rd_T48 l0 x3_1).f3), .int .i64 ((rd_T48 l0 x3_1).f4)] 48 (0, 0))) := by rw [e_]; exact ⟨zpb BK109⟩
     have n1_ : Aside0 (Below w.heap.size w w25) := by rw [e_]; exact ⟨zs1 HB GE109⟩
     (try clear BK109)
     (try clear HB)
     rw [← e_]; clear e_
     have BK109 := n0_
     have HB := n1_
     clear n0_ n1_
     replace BK109 := Aside0.mk (blk_drew BK109.out)
     replace HB := Aside0.mk (below_drew1 HB.out)
     have p111 : 0 ≤ ((ji12) : Int) := za
     have q111 : (ji12) < (l0.length : Int) := za
     obtain ⟨ad111, e111, hx111_0, hx111_1, hx111_2, hx111_3, hx111_4⟩ := at_T48 HR0.out (ji12) p111 q111
     have hw111_4 := hx111_4
     have hw111_3 := hx111_3
     have hw111_2 := hx111_2
     have hw111_1 := hx111_1
     have hw111_0 := hx111_0
     obtain rfl : ad108 = ad111 := (by injection e111)
     replace hx111_0 := zx HB hx111_0
     replace hx111_1 := zx HB hx111_1
     replace hx111_2 := zx HB hx111_2
     replace hx111_3 := zx HB hx111_3
     replace hx111_4 := zx HB hx111_4
     replace p111 := eq_true p111
     replace q111 := eq_true q111
     refine start_ (n := 45) (S := fun w' => w'.cell? ⟨gb109, 0, none⟩ = some (.string ((rd_T48 l0 x3_1).f0)) ∧ w'.cell? ⟨gb109, 1, none⟩ = some (.int .i64 ((rd_T48 l0 x3_1).f1)) ∧ w'.cell? ⟨gb109, 2, none⟩ = some (.int .i64 ((rd_T48 l0 x3_1).f2)) ∧ w'.cell? ⟨gb109, 3, none⟩ = some (.int .i64 ((rd_T48 l0 x3_1).f3)) ∧ w'.cell? ⟨gb109, 4, none⟩ = some (.int .i64 ((rd_T48 l0 x3_1).f4)) ∧ w'.cell? (ad108.add (((ji12)).toNat * 5)) = some (.string ((rd_T48 l0 (ji12)).f0)) ∧ w'.cell? ⟨(ad108.add (((ji12)).toNat * 5)).block, (ad108.add (((ji12)).toNat * 5)).off + 1, none⟩ = some (.int .i64 ((rd_T48 l0 (ji12)).f1)) ∧ w'.cell? ⟨(ad108.add (((ji12)).toNat * 5)).block, (ad108.add (((ji12)).toNat * 5)).off + 2, none⟩ = some (.int .i64 ((rd_T48 l0 (ji12)).f2)) ∧ w'.cell? ⟨(ad108.add (((ji12)).toNat * 5)).block, (ad108.add (((ji12)).toNat * 5)).off + 3, none⟩ = some (.int .i64 ((rd_T48 l0 (ji12)).f3)) ∧ w'.cell? ⟨(ad108.add (((ji12)).toNat * 5)).block, (ad108.add (((ji12)).toNat * 5)).off + 4, none⟩ = some (.int .i64 ((rd_T48 l0 (ji12)).f4))) (ds := []) #[false, false, false, false, false, false, false, false, false, false, false, false, false, false, false, false, false, false, false, false, false, false, false, false, false, false, false, false, false, false, false, false, false, false, false, false, false, false, false, false, false, false, false, false, false] (by kernel_rfl) rfl rfl ⟨zc0 BK109, zc1 BK109, zc2 BK109, zc3 BK109, zc4 BK109, (zw HB hw111_0), (zw HB hw111_1), (zw HB hw111_2), (zw HB hw111_3), (zw HB hw111_4)⟩ (fun hHeld => ?_); refine with_tabW spec_HandZonesOk.tab7 spec_HandZonesOk.bits7 (fun HT_ HW_ => ?_)
     generalize w25.drew = w26 at BK109 HB hx111_0 hx111_1 hx111_2 hx111_3 hx111_4 hHeld ⊢
     refine zq HT_ 0 ?_
     refine zk10 HT_ HW_ hHeld 1 ?_
     refine zo HT_ 2 (fun K hK => ?_)
     refine zgo Try.func17 #[.string ((rd_T48 l0 x3_1).f0)] ?_
     with_reducible refine (spec_l31NameOk.calls k1 ((rd_T48 l0 x3_1).f0) true _ A9.out).mono ?_
     rintro e w' ⟨rfl, ⟨nd, rfl⟩⟩
     refine ⟨_, rfl, ?_⟩
     refine hK.out _ _ ⟨zc0 BK109, zc1 BK109, zc2 BK109, zc3 BK109, zc4 BK109, (zw HB hw111_0), (zw HB hw111_1), (zw HB hw111_2), (zw HB hw111_3), (zw HB hw111_4)⟩ (fun hHeld => ?_)
     clear hK K
     refine zN ?_
     refine zq HT_ 3 ?_
     refine zq HT_ 4 ?_
     refine zq HT_ 5 ?_
     refine zq HT_ 6 ?_
     refine zq HT_ 7 ?_
     refine zq HT_ 8 ?_
     refine zq HT_ 9 ?_
     refine zq HT_ 10 ?_
     refine zq HT_ 11 ?_
     refine zq HT_ 12 ?_
     refine zq HT_ 14 ?_
     refine zk10 HT_ HW_ hHeld 13 ?_
     refine zk10 HT_ HW_ hHeld 15 ?_
     refine zq HT_ 16 ?_
     refine zq HT_ 17 ?_
     refine zq HT_ 18 ?_
     refine zq HT_ 19 ?_
     refine zq HT_ 20 ?_
     refine zq HT_ 22 ?_
     refine zk10 HT_ HW_ hHeld 21 ?_
     refine zk10 HT_ HW_ hHeld 23 ?_
     refine zo HT_ 24 (fun K hK => ?_)
     refine zgo Try.func15 #[.int .i64 ((rd_T48 l0 x3_1).f1), .int .i64 0, .int .i64 ((rd_T48 l0 x3_1).f3)] ?_
     with_reducible refine (spec_l31In.calls ((rd_T48 l0 x3_1).f1) 0 ((rd_T48 l0 x3_1).f3) true _ A16.out).mono ?_
     rintro e w' ⟨rfl, ⟨nd, rfl⟩⟩
     refine ⟨_, rfl, ?_⟩
     refine hK.out _ _ ⟨zc0 BK109, zc1 BK109, zc2 BK109, zc3 BK109, zc4 BK109, (zw HB hw111_0), (zw HB hw111_1), (zw HB hw111_2), (zw HB hw111_3), (zw HB hw111_4)⟩ (fun hHeld => ?_)
     clear hK K
     refine zN ?_
     refine zq HT_ 25 ?_
     refine zq HT_ 26 ?_
     refine zq HT_ 27 ?_
     refine zq HT_ 28 ?_
     refine zk10 HT_ HW_ hHeld 29 ?_
     refine zq HT_ 30 ?_
     refine zq HT_ 31 ?_
     refine zq HT_ 32 ?_
     refine zq HT_ 33 ?_
     refine zq HT_ 35 ?_
     refine zk10 HT_ HW_ hHeld 34 ?_
     refine zk10 HT_ HW_ hHeld 36 ?_
     refine zo HT_ 37 (fun K hK => ?_)
     refine zgo Try.func15 #[.int .i64 ((rd_T48 l0 x3_1).f2), .int .i64 0, .int .i64 ((rd_T48 l0 x3_1).f4)] ?_
     with_reducible refine (spec_l31In.calls ((rd_T48 l0 x3_1).f2) 0 ((rd_T48 l0 x3_1).f4) false _ A21.out).mono ?_
     rintro e w' ⟨rfl, ⟨nd, rfl⟩⟩
     refine ⟨_, rfl, ?_⟩
     refine hK.out _ _ ⟨zc0 BK109, zc1 BK109, zc2 BK109, zc3 BK109, zc4 BK109, (zw HB hw111_0), (zw HB hw111_1), (zw HB hw111_2), (zw HB hw111_3), (zw HB hw111_4)⟩ (fun hHeld => ?_)
     clear hK K
     refine zN ?_
     refine zq HT_ 38 ?_
     refine zq HT_ 39 ?_
     refine zq HT_ 40 ?_
     refine zu HT_ 41 ?_
     refine zu HT_ 42 ?_
     refine zu HT_ 43 ?_
     refine zq HT_ 44 ?_
     refine done_ (done_of HT_.out (by kernel_rfl)) ?_
     try go_wp2
     go_meet
     case rel => exact ⟨_, (true), zi, H', ⟨by have := HK1.out; first | omega | exact Nat.le_refl _⟩, ⟨zh BK109⟩, ⟨zs1 HB GE109⟩⟩
    subst c22
    have H1 : (spec_HandZonesOk.j1 k1 l0 x3_1 (decide (((rd_T48 l0 x3_1).f4) ≥ 16)) ((rd_T48 l0 x3_1).f0) ((rd_T48 l0 x3_1).f1) ((rd_T48 l0 x3_1).f2) ((rd_T48 l0 x3_1).f3) ((rd_T48 l0 x3_1).f4)) = some r := by rw [if_pos rfl] at H; exact H
    clear H
    have H := H1
    clear H1
    have H' := Aside0.mk H
    clear H
    try go_wp2
    obtain ⟨w23, e_⟩ : ∃ x, x = (((((w7.setCell ⟨gb109, 0, none⟩ (.string ((rd_T48 l0 x3_1).f0))).setCell ⟨gb109, 1, none⟩ (.int .i64 ((rd_T48 l0 x3_1).f1))).setCell ⟨gb109, 2, none⟩ (.int .i64 ((rd_T48 l0 x3_1).f2))).setCell ⟨gb109, 3, none⟩ (.int .i64 ((rd_T48 l0 x3_1).f3))).setCell ⟨gb109, 4, none⟩ (.int .i64 ((rd_T48 l0 x3_1).f4))) := ⟨_, rfl⟩
    have n0_ : Aside0 (w23.heap[gb109]? = some (.cells #[.string ((rd_T48 l0 x3_1).f0), .int .i64 ((rd_T48 l0 x3_1).f1), .int .i64 ((rd_T48 l0 x3_1).f2), .int .i64 ((rd_T48 l0 x3_1).f3), .int .i64 ((rd_T48 l0 x3_1).f4)] 48 (0, 0))) := by rw [e_]; exact ⟨zpb BK109⟩
    have n1_ : Aside0 (Below w.heap.size w w23) := by rw [e_]; exact ⟨zs1 HB GE109⟩
    (try clear BK109)
    (try clear HB)
    rw [← e_]; clear e_
    have BK109 := n0_
    have HB := n1_
    clear n0_ n1_
    replace BK109 := Aside0.mk (blk_drew BK109.out)
    replace HB := Aside0.mk (below_drew1 HB.out)
    have p111 : 0 ≤ ((ji12) : Int) := za
    have q111 : (ji12) < (l0.length : Int) := za
    obtain ⟨ad111, e111, hx111_0, hx111_1, hx111_2, hx111_3, hx111_4⟩ := at_T48 HR0.out (ji12) p111 q111
    have hw111_4 := hx111_4
    have hw111_3 := hx111_3
    have hw111_2 := hx111_2
    have hw111_1 := hx111_1
    have hw111_0 := hx111_0
    obtain rfl : ad108 = ad111 := (by injection e111)
    replace hx111_0 := zx HB hx111_0
    replace hx111_1 := zx HB hx111_1
    replace hx111_2 := zx HB hx111_2
    replace hx111_3 := zx HB hx111_3
    replace hx111_4 := zx HB hx111_4
    replace p111 := eq_true p111
    replace q111 := eq_true q111
    refine start_ (n := 45) (S := fun w' => w'.cell? ⟨gb109, 0, none⟩ = some (.string ((rd_T48 l0 x3_1).f0)) ∧ w'.cell? ⟨gb109, 1, none⟩ = some (.int .i64 ((rd_T48 l0 x3_1).f1)) ∧ w'.cell? ⟨gb109, 2, none⟩ = some (.int .i64 ((rd_T48 l0 x3_1).f2)) ∧ w'.cell? ⟨gb109, 3, none⟩ = some (.int .i64 ((rd_T48 l0 x3_1).f3)) ∧ w'.cell? ⟨gb109, 4, none⟩ = some (.int .i64 ((rd_T48 l0 x3_1).f4)) ∧ w'.cell? (ad108.add (((ji12)).toNat * 5)) = some (.string ((rd_T48 l0 (ji12)).f0)) ∧ w'.cell? ⟨(ad108.add (((ji12)).toNat * 5)).block, (ad108.add (((ji12)).toNat * 5)).off + 1, none⟩ = some (.int .i64 ((rd_T48 l0 (ji12)).f1)) ∧ w'.cell? ⟨(ad108.add (((ji12)).toNat * 5)).block, (ad108.add (((ji12)).toNat * 5)).off + 2, none⟩ = some (.int .i64 ((rd_T48 l0 (ji12)).f2)) ∧ w'.cell? ⟨(ad108.add (((ji12)).toNat * 5)).block, (ad108.add (((ji12)).toNat * 5)).off + 3, none⟩ = some (.int .i64 ((rd_T48 l0 (ji12)).f3)) ∧ w'.cell? ⟨(ad108.add (((ji12)).toNat * 5)).block, (ad108.add (((ji12)).toNat * 5)).off + 4, none⟩ = some (.int .i64 ((rd_T48 l0 (ji12)).f4))) (ds := []) #[false, false, false, false, false, false, false, false, false, false, false, false, false, false, false, false, false, false, false, false, false, false, false, false, false, false, false, false, false, false, false, false, false, false, false, false, false, false, false, false, false, false, false, false, false] (by kernel_rfl) rfl rfl ⟨zc0 BK109, zc1 BK109, zc2 BK109, zc3 BK109, zc4 BK109, (zw HB hw111_0), (zw HB hw111_1), (zw HB hw111_2), (zw HB hw111_3), (zw HB hw111_4)⟩ (fun hHeld => ?_); refine with_tabW spec_HandZonesOk.tab7 spec_HandZonesOk.bits7 (fun HT_ HW_ => ?_)
    generalize w23.drew = w24 at BK109 HB hx111_0 hx111_1 hx111_2 hx111_3 hx111_4 hHeld ⊢
    refine zq HT_ 0 ?_
    refine zk10 HT_ HW_ hHeld 1 ?_
    refine zo HT_ 2 (fun K hK => ?_)
    refine zgo Try.func17 #[.string ((rd_T48 l0 x3_1).f0)] ?_
    with_reducible refine (spec_l31NameOk.calls k1 ((rd_T48 l0 x3_1).f0) true _ A9.out).mono ?_
    rintro e w' ⟨rfl, ⟨nd, rfl⟩⟩
    refine ⟨_, rfl, ?_⟩
    refine hK.out _ _ ⟨zc0 BK109, zc1 BK109, zc2 BK109, zc3 BK109, zc4 BK109, (zw HB hw111_0), (zw HB hw111_1), (zw HB hw111_2), (zw HB hw111_3), (zw HB hw111_4)⟩ (fun hHeld => ?_)
    clear hK K
    refine zN ?_
    refine zq HT_ 3 ?_
    refine zq HT_ 4 ?_
    refine zq HT_ 5 ?_
    refine zq HT_ 6 ?_
    refine zq HT_ 7 ?_
    refine zq HT_ 8 ?_
    refine zq HT_ 9 ?_
    refine zq HT_ 10 ?_
    refine zq HT_ 11 ?_
    refine zq HT_ 12 ?_
    refine zq HT_ 14 ?_
    refine zk10 HT_ HW_ hHeld 13 ?_
    refine zk10 HT_ HW_ hHeld 15 ?_
    refine zq HT_ 16 ?_
    refine zq HT_ 17 ?_
    refine zq HT_ 18 ?_
    refine zq HT_ 19 ?_
    refine zq HT_ 20 ?_
    refine zq HT_ 22 ?_
    refine zk10 HT_ HW_ hHeld 21 ?_
    refine zk10 HT_ HW_ hHeld 23 ?_
    refine zo HT_ 24 (fun K hK => ?_)
    refine zgo Try.func15 #[.int .i64 ((rd_T48 l0 x3_1).f1), .int .i64 0, .int .i64 ((rd_T48 l0 x3_1).f3)] ?_
    with_reducible refine (spec_l31In.calls ((rd_T48 l0 x3_1).f1) 0 ((rd_T48 l0 x3_1).f3) true _ A16.out).mono ?_
    rintro e w' ⟨rfl, ⟨nd, rfl⟩⟩
    refine ⟨_, rfl, ?_⟩
    refine hK.out _ _ ⟨zc0 BK109, zc1 BK109, zc2 BK109, zc3 BK109, zc4 BK109, (zw HB hw111_0), (zw HB hw111_1), (zw HB hw111_2), (zw HB hw111_3), (zw HB hw111_4)⟩ (fun hHeld => ?_)
    clear hK K
    refine zN ?_
    refine zq HT_ 25 ?_
    refine zq HT_ 26 ?_
    refine zq HT_ 27 ?_
    refine zq HT_ 28 ?_
    refine zk10 HT_ HW_ hHeld 29 ?_
    refine zq HT_ 30 ?_
    refine zq HT_ 31 ?_
    refine zq HT_ 32 ?_
    refine zq HT_ 33 ?_
    refine zq HT_ 35 ?_
    refine zk10 HT_ HW_ hHeld 34 ?_
    refine zk10 HT_ HW_ hHeld 36 ?_
    refine zo HT_ 37 (fun K hK => ?_)
    refine zgo Try.func15 #[.int .i64 ((rd_T48 l0 x3_1).f2), .int .i64 0, .int .i64 ((rd_T48 l0 x3_1).f4)] ?_
    with_reducible refine (spec_l31In.calls ((rd_T48 l0 x3_1).f2) 0 ((rd_T48 l0 x3_1).f4) true _ A21.out).mono ?_
    rintro e w' ⟨rfl, ⟨nd, rfl⟩⟩
    refine ⟨_, rfl, ?_⟩
    refine hK.out _ _ ⟨zc0 BK109, zc1 BK109, zc2 BK109, zc3 BK109, zc4 BK109, (zw HB hw111_0), (zw HB hw111_1), (zw HB hw111_2), (zw HB hw111_3), (zw HB hw111_4)⟩ (fun hHeld => ?_)
    clear hK K
    refine zN ?_
    refine zq HT_ 38 ?_
    refine zq HT_ 39 ?_
    refine zq HT_ 40 ?_
    refine zq HT_ 41 ?_
    refine zk10 HT_ HW_ hHeld 42 ?_
    refine zq HT_ 43 ?_
    refine zq HT_ 44 ?_
    refine done_ (done_of HT_.out (by kernel_rfl)) ?_
    try go_wp2
    go_meet
    case rel => exact ⟨_, (decide (((rd_T48 l0 x3_1).f4) ≥ 16)), zi, H', ⟨by have := HK1.out; first | omega | exact Nat.le_refl _⟩, ⟨zh BK109⟩, ⟨zs1 HB GE109⟩⟩
   case rest =>
    clear HC6
    try clear c1
    try clear p2
    try clear c3
    try clear c10
    try clear c15
    try clear c17
    try clear c32
    obtain ⟨kq, x65_5, rfl, HA, HJ5, BK109, HB⟩ := hcut
    cases kq with
    | zero => exact absurd HA.out (by simp [spec_HandZonesOk.j1])
    | succ kj5 =>
     have H := HA.out
     clear HA
     simp only [spec_HandZonesOk.j1] at H
     by_cases c46 : x65_5 = true
     ·subst c46
      have H1 : (some false) = some r := by rw [if_pos rfl] at H; exact H
      clear H
      have H := H1
      clear H1
      obtain rfl := Option.some.inj H
      go_wp2
      go_ret
      exact ⟨ze, zs1 HB GE109⟩
     replace c46 := Bool.eq_false_iff.mpr c46
     subst c46
     have H1 : (spec_HandZonesOk.l1 kj5 l0 x3_1 0 ((rd_T48 l0 x3_1).f0) ((rd_T48 l0 x3_1).f1) ((rd_T48 l0 x3_1).f2) ((rd_T48 l0 x3_1).f3) ((rd_T48 l0 x3_1).f4)) = some r := by rw [if_neg (show ¬ (false = true) by decide)] at H; exact H
     clear H
     have H := H1
     clear H1
     have H' := Aside0.mk H
     clear H
     go_wp2
     go_loopg [5] kj5 (fun kq v5 w' => ∃ (x5_3 : Int), v5 = .int .i64 x5_3 ∧ Aside0 (spec_HandZonesOk.l1 kq l0 x3_1 x5_3 ((rd_T48 l0 x3_1).f0) ((rd_T48 l0 x3_1).f1) ((rd_T48 l0 x3_1).f2) ((rd_T48 l0 x3_1).f3) ((rd_T48 l0 x3_1).f4) = some r) ∧ Aside0 (kq ≤ kj5) ∧ Aside0 (w'.heap[gb109]? = some (.cells #[.string ((rd_T48 l0 x3_1).f0), .int .i64 ((rd_T48 l0 x3_1).f1), .int .i64 ((rd_T48 l0 x3_1).f2), .int .i64 ((rd_T48 l0 x3_1).f3), .int .i64 ((rd_T48 l0 x3_1).f4)] 48 (0, 0))) ∧ Aside0 (Below w.heap.size w w'))
     case atStart => exact ⟨(0), zi, H', ⟨Nat.le_refl _⟩, ⟨zh BK109⟩, ⟨zs1 HB GE109⟩⟩
     case round =>
      clear H'
      try clear c1
      try clear p2
      try clear c3
      try clear c4
      try clear c10
      try clear c15
      try clear c17
      try clear c32
      try clear c46
      try clear p2
      obtain ⟨x5_3, rfl, HA, HK3, BK109, HB⟩ := hrel
      cases gk with
      | zero => exact absurd HA.out (by simp [spec_HandZonesOk.l1])
      | succ k3 =>
       have H := HA.out
       clear HA
       simp only [spec_HandZonesOk.l1] at H
       by_cases c47 : x5_3 < x3_1
       rotate_left
       ·rw [if_neg c47] at H
        have c47b0 : decide (x5_3 < x3_1) = false := decide_eq_false c47
        clear c47
        have H' := Aside0.mk H
        clear H
        go_wp2
        go_roundg k3
        case measure => have := HK1.out; have := HJ5.out; have := HK3.out; omega
        case rel => exact ⟨(wrap64 (x3_1 + 1)), zi, H', ⟨by have := HK1.out; have := HJ5.out; have := HK3.out; omega⟩, ⟨zs1 HB GE109⟩⟩
       rw [if_pos c47] at H
       have c47b0 : decide (x5_3 < x3_1) = true := decide_eq_true c47
       clear c47
       by_cases c48 : 0 ≤ x5_3
       rotate_left
       ·rw [if_neg c48] at H
        exact absurd H (by simp)
       rw [if_pos c48] at H
       have c48b0 : decide (0 ≤ x5_3) = true := decide_eq_true c48
       clear c48
       by_cases c49 : x5_3 < (l0.length : Int)
       rotate_left
       ·rw [if_neg c49] at H
        exact absurd H (by simp)
       rw [if_pos c49] at H
       have c49b0 : decide (x5_3 < (l0.length : Int)) = true := decide_eq_true c49
       clear c49
       by_cases c50 : ((rd_T48 l0 x5_3).f1) ≤ ((rd_T48 l0 x3_1).f3)
       rotate_left
       ·rw [if_neg c50] at H
        have c50b0 : decide (((rd_T48 l0 x5_3).f1) ≤ ((rd_T48 l0 x3_1).f3)) = false := decide_eq_false c50
        clear c50
        have H' := Aside0.mk H
        clear H
        have p116 : 0 ≤ (x5_3 : Int) := za
        have q116 : x5_3 < (l0.length : Int) := za
        obtain ⟨ad116, e116, hx116_0, hx116_1, hx116_2, hx116_3, hx116_4⟩ := at_T48 HR0.out x5_3 p116 q116
        obtain rfl : ad108 = ad116 := (by injection e116)
        replace hx116_0 := zx HB hx116_0
        replace hx116_1 := zx HB hx116_1
        replace hx116_2 := zx HB hx116_2
        replace hx116_3 := zx HB hx116_3
        replace hx116_4 := zx HB hx116_4
        replace p116 := eq_true p116
        replace q116 := eq_true q116
        go_wp2_with (first | ((with_reducible refine gate_dst (N := 6) rfl ?_); refine zbx 6 #[.string (⟨#[]⟩ : ByteArray), .int .i64 0, .int .i64 0, .int .i64 0, .int .i64 0] 48 ?_; intro gb117 hg w70 hbox hb; have BK117 := zA hbox; have GW117 := zgs hg (zs1 HB GE109); have GE117 := zgs hg (zs1 HB GE109); have NB109_117 := zne hg BK109; have NB117_109 := znf hg BK109; replace BK109 := zb BK109 hb; replace HB := zE (zs1 HB GE109) hb; clear hb hbox hg; have hnb71 := NB117_109.out; have hnc71 := NB109_117.out; obtain ⟨hcz72_0, hcz72_1, hcz72_2, hcz72_3, hcz72_4⟩ := zd5 BK117; obtain ⟨hfz72_0, hfz72_1, hfz72_2, hfz72_3, hfz72_4⟩ := zn5 BK117; obtain ⟨hcz73_0, hcz73_1, hcz73_2, hcz73_3, hcz73_4⟩ := zd5 BK109; obtain ⟨hfz73_0, hfz73_1, hfz73_2, hfz73_3, hfz73_4⟩ := zn5 BK109))
        go_roundg k3
        case measure => have := HK1.out; have := HJ5.out; have := HK3.out; omega
        case rel => exact ⟨(wrap64 (x5_3 + 1)), zi, H', ⟨by have := HK1.out; have := HJ5.out; have := HK3.out; omega⟩, ⟨zpf BK109 NB109_117⟩, ⟨zs2 HB GE109 GE117⟩⟩
       rw [if_pos c50] at H
       have c50b0 : decide (((rd_T48 l0 x5_3).f1) ≤ ((rd_T48 l0 x3_1).f3)) = true := decide_eq_true c50
       clear c50
       by_cases c51 : ((rd_T48 l0 x3_1).f1) ≤ ((rd_T48 l0 x5_3).f3)
       rotate_left
       ·rw [if_neg c51] at H
        have c51b0 : decide (((rd_T48 l0 x3_1).f1) ≤ ((rd_T48 l0 x5_3).f3)) = false := decide_eq_false c51
        clear c51
        have H' := Aside0.mk H
        clear H
        have p116 : 0 ≤ (x5_3 : Int) := za
        have q116 : x5_3 < (l0.length : Int) := za
        obtain ⟨ad116, e116, hx116_0, hx116_1, hx116_2, hx116_3, hx116_4⟩ := at_T48 HR0.out x5_3 p116 q116
        obtain rfl : ad108 = ad116 := (by injection e116)
        replace hx116_0 := zx HB hx116_0
        replace hx116_1 := zx HB hx116_1
        replace hx116_2 := zx HB hx116_2
        replace hx116_3 := zx HB hx116_3
        replace hx116_4 := zx HB hx116_4
        replace p116 := eq_true p116
        replace q116 := eq_true q116
        go_wp2_with (first | ((with_reducible refine gate_dst (N := 6) rfl ?_); refine zbx 6 #[.string (⟨#[]⟩ : ByteArray), .int .i64 0, .int .i64 0, .int .i64 0, .int .i64 0] 48 ?_; intro gb117 hg w66 hbox hb; have BK117 := zA hbox; have GW117 := zgs hg (zs1 HB GE109); have GE117 := zgs hg (zs1 HB GE109); have NB109_117 := zne hg BK109; have NB117_109 := znf hg BK109; replace BK109 := zb BK109 hb; replace HB := zE (zs1 HB GE109) hb; clear hb hbox hg; have hnb67 := NB117_109.out; have hnc67 := NB109_117.out; obtain ⟨hcz68_0, hcz68_1, hcz68_2, hcz68_3, hcz68_4⟩ := zd5 BK117; obtain ⟨hfz68_0, hfz68_1, hfz68_2, hfz68_3, hfz68_4⟩ := zn5 BK117; obtain ⟨hcz69_0, hcz69_1, hcz69_2, hcz69_3, hcz69_4⟩ := zd5 BK109; obtain ⟨hfz69_0, hfz69_1, hfz69_2, hfz69_3, hfz69_4⟩ := zn5 BK109))
        go_roundg k3
        case measure => have := HK1.out; have := HJ5.out; have := HK3.out; omega
        case rel => exact ⟨(wrap64 (x5_3 + 1)), zi, H', ⟨by have := HK1.out; have := HJ5.out; have := HK3.out; omega⟩, ⟨zpf BK109 NB109_117⟩, ⟨zs2 HB GE109 GE117⟩⟩
       rw [if_pos c51] at H
       have c51b0 : decide (((rd_T48 l0 x3_1).f1) ≤ ((rd_T48 l0 x5_3).f3)) = true := decide_eq_true c51
       clear c51
       by_cases c52 : ((rd_T48 l0 x5_3).f2) ≤ ((rd_T48 l0 x3_1).f4)
       rotate_left
       ·rw [if_neg c52] at H
        have c52b0 : decide (((rd_T48 l0 x5_3).f2) ≤ ((rd_T48 l0 x3_1).f4)) = false := decide_eq_false c52
        clear c52
        have H' := Aside0.mk H
        clear H
        have p116 : 0 ≤ (x5_3 : Int) := za
        have q116 : x5_3 < (l0.length : Int) := za
        obtain ⟨ad116, e116, hx116_0, hx116_1, hx116_2, hx116_3, hx116_4⟩ := at_T48 HR0.out x5_3 p116 q116
        obtain rfl : ad108 = ad116 := (by injection e116)
        replace hx116_0 := zx HB hx116_0
        replace hx116_1 := zx HB hx116_1
        replace hx116_2 := zx HB hx116_2
        replace hx116_3 := zx HB hx116_3
        replace hx116_4 := zx HB hx116_4
        replace p116 := eq_true p116
        replace q116 := eq_true q116
        go_wp2_with (first | ((with_reducible refine gate_dst (N := 6) rfl ?_); refine zbx 6 #[.string (⟨#[]⟩ : ByteArray), .int .i64 0, .int .i64 0, .int .i64 0, .int .i64 0] 48 ?_; intro gb117 hg w62 hbox hb; have BK117 := zA hbox; have GW117 := zgs hg (zs1 HB GE109); have GE117 := zgs hg (zs1 HB GE109); have NB109_117 := zne hg BK109; have NB117_109 := znf hg BK109; replace BK109 := zb BK109 hb; replace HB := zE (zs1 HB GE109) hb; clear hb hbox hg; have hnb63 := NB117_109.out; have hnc63 := NB109_117.out; obtain ⟨hcz64_0, hcz64_1, hcz64_2, hcz64_3, hcz64_4⟩ := zd5 BK117; obtain ⟨hfz64_0, hfz64_1, hfz64_2, hfz64_3, hfz64_4⟩ := zn5 BK117; obtain ⟨hcz65_0, hcz65_1, hcz65_2, hcz65_3, hcz65_4⟩ := zd5 BK109; obtain ⟨hfz65_0, hfz65_1, hfz65_2, hfz65_3, hfz65_4⟩ := zn5 BK109))
        go_roundg k3
        case measure => have := HK1.out; have := HJ5.out; have := HK3.out; omega
        case rel => exact ⟨(wrap64 (x5_3 + 1)), zi, H', ⟨by have := HK1.out; have := HJ5.out; have := HK3.out; omega⟩, ⟨zpf BK109 NB109_117⟩, ⟨zs2 HB GE109 GE117⟩⟩
       rw [if_pos c52] at H
       have c52b0 : decide (((rd_T48 l0 x5_3).f2) ≤ ((rd_T48 l0 x3_1).f4)) = true := decide_eq_true c52
       clear c52
       by_cases c53 : ((rd_T48 l0 x3_1).f2) ≤ ((rd_T48 l0 x5_3).f4)
       ·rw [if_pos c53] at H
        have c53b0 : decide (((rd_T48 l0 x3_1).f2) ≤ ((rd_T48 l0 x5_3).f4)) = true := decide_eq_true c53
        clear c53
        obtain rfl := Option.some.inj H
        have p116 : 0 ≤ (x5_3 : Int) := za
        have q116 : x5_3 < (l0.length : Int) := za
        obtain ⟨ad116, e116, hx116_0, hx116_1, hx116_2, hx116_3, hx116_4⟩ := at_T48 HR0.out x5_3 p116 q116
        obtain rfl : ad108 = ad116 := (by injection e116)
        replace hx116_0 := zx HB hx116_0
        replace hx116_1 := zx HB hx116_1
        replace hx116_2 := zx HB hx116_2
        replace hx116_3 := zx HB hx116_3
        replace hx116_4 := zx HB hx116_4
        replace p116 := eq_true p116
        replace q116 := eq_true q116
        go_wp2_with (first | ((with_reducible refine gate_dst (N := 6) rfl ?_); refine zbx 6 #[.string (⟨#[]⟩ : ByteArray), .int .i64 0, .int .i64 0, .int .i64 0, .int .i64 0] 48 ?_; intro gb117 hg w54 hbox hb; have BK117 := zA hbox; have GW117 := zgs hg (zs1 HB GE109); have GE117 := zgs hg (zs1 HB GE109); have NB109_117 := zne hg BK109; have NB117_109 := znf hg BK109; replace BK109 := zb BK109 hb; replace HB := zE (zs1 HB GE109) hb; clear hb hbox hg; have hnb55 := NB117_109.out; have hnc55 := NB109_117.out; obtain ⟨hcz56_0, hcz56_1, hcz56_2, hcz56_3, hcz56_4⟩ := zd5 BK117; obtain ⟨hfz56_0, hfz56_1, hfz56_2, hfz56_3, hfz56_4⟩ := zn5 BK117; obtain ⟨hcz57_0, hcz57_1, hcz57_2, hcz57_3, hcz57_4⟩ := zd5 BK109; obtain ⟨hfz57_0, hfz57_1, hfz57_2, hfz57_3, hfz57_4⟩ := zn5 BK109))
        go_ret
        exact ⟨ze, zs2 HB GE109 GE117⟩
       rw [if_neg c53] at H
       have c53b0 : decide (((rd_T48 l0 x3_1).f2) ≤ ((rd_T48 l0 x5_3).f4)) = false := decide_eq_false c53
       clear c53
       have H' := Aside0.mk H
       clear H
       have p116 : 0 ≤ (x5_3 : Int) := za
       have q116 : x5_3 < (l0.length : Int) := za
       obtain ⟨ad116, e116, hx116_0, hx116_1, hx116_2, hx116_3, hx116_4⟩ := at_T48 HR0.out x5_3 p116 q116
       obtain rfl : ad108 = ad116 := (by injection e116)
       replace hx116_0 := zx HB hx116_0
       replace hx116_1 := zx HB hx116_1
       replace hx116_2 := zx HB hx116_2
       replace hx116_3 := zx HB hx116_3
       replace hx116_4 := zx HB hx116_4
       replace p116 := eq_true p116
       replace q116 := eq_true q116
       go_wp2_with (first | ((with_reducible refine gate_dst (N := 6) rfl ?_); refine zbx 6 #[.string (⟨#[]⟩ : ByteArray), .int .i64 0, .int .i64 0, .int .i64 0, .int .i64 0] 48 ?_; intro gb117 hg w58 hbox hb; have BK117 := zA hbox; have GW117 := zgs hg (zs1 HB GE109); have GE117 := zgs hg (zs1 HB GE109); have NB109_117 := zne hg BK109; have NB117_109 := znf hg BK109; replace BK109 := zb BK109 hb; replace HB := zE (zs1 HB GE109) hb; clear hb hbox hg; have hnb59 := NB117_109.out; have hnc59 := NB109_117.out; obtain ⟨hcz60_0, hcz60_1, hcz60_2, hcz60_3, hcz60_4⟩ := zd5 BK117; obtain ⟨hfz60_0, hfz60_1, hfz60_2, hfz60_3, hfz60_4⟩ := zn5 BK117; obtain ⟨hcz61_0, hcz61_1, hcz61_2, hcz61_3, hcz61_4⟩ := zd5 BK109; obtain ⟨hfz61_0, hfz61_1, hfz61_2, hfz61_3, hfz61_4⟩ := zn5 BK109))
       go_roundg k3
       case measure => have := HK1.out; have := HJ5.out; have := HK3.out; omega
       case rel => exact ⟨(wrap64 (x5_3 + 1)), zi, H', ⟨by have := HK1.out; have := HJ5.out; have := HK3.out; omega⟩, ⟨zpf BK109 NB109_117⟩, ⟨zs2 HB GE109 GE117⟩⟩
end Go.Proofs.Ytbgcpbdnmpnjhaa.QFnExactHandWordOk
