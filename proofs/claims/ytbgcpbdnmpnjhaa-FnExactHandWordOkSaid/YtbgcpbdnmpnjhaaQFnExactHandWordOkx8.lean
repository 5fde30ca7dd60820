/- The walk of what the law FnExactHandWordOk reaches: laid by a program of this session (ownprint.py). -/
import Derived.Test.YtbgcpbdnmpnjhaaQFnExactHandWordOkx0
import Derived.Test.YtbgcpbdnmpnjhaaQFnExactHandWordOkx6
import Derived.Test.YtbgcpbdnmpnjhaaQFnExactHandWordOkx7
namespace Go.Proofs.Ytbgcpbdnmpnjhaa.QFnExactHandWordOk
open Go.RowKit Go.Proofs.YtbgcpbdnmpnjhaaW.PrintWords Go.Proofs.YtbgcpbdnmpnjhaaW.PrintLast Go.Proofs.YtbgcpbdnmpnjhaaW.PrintMore Go.Proofs.Ytbgcpbdnmpnjhaa.Z
attribute [local go_sem] max2_int min2_int max_two min_two max_three min_three max_four min_four zdn   -- for this text's walks alone
set_option linter.unusedVariables false
set_option linter.unusedSimpArgs false
mutual
def impl_HandZonesOk.l0 : Nat → List (S48) → List (S48) → Int → Int → Option (Bool)
 | 0, _, _, _, _ => none
 | k + 1, x0, x11, x12, x13 => if x13 < x12 then (if 0 ≤ x13 then (if x13 < (x11.length : Int) then ((impl_isName.f k ((rd_T48 x11 x13).f0)).bind fun t187 => (if t187 = true then (if 0 ≤ ((rd_T48 x11 x13).f1) then (if ((rd_T48 x11 x13).f1) ≤ ((rd_T48 x11 x13).f3) then (if (((rd_T48 x11 x13).f3) < 16) then (if 0 ≤ ((rd_T48 x11 x13).f2) then (if ((rd_T48 x11 x13).f2) ≤ ((rd_T48 x11 x13).f4) then (if (((rd_T48 x11 x13).f4) < 16) then (if x13 > 0 then (if 0 ≤ (wrap64 (x13 - 1)) then (if (wrap64 (x13 - 1)) < (x0.length : Int) then (impl_HandZonesOk.j1 k x0 x13 x11 x12 x13 (!(Op.bytesLess (((rd_T48 x0 (wrap64 (x13 - 1))).f0).toList) (((rd_T48 x11 x13).f0).toList))) ((rd_T48 x11 x13).f0) ((rd_T48 x11 x13).f1) ((rd_T48 x11 x13).f2) ((rd_T48 x11 x13).f3) ((rd_T48 x11 x13).f4)) else (none)) else (none)) else (impl_HandZonesOk.j1 k x0 x13 x11 x12 x13 false ((rd_T48 x11 x13).f0) ((rd_T48 x11 x13).f1) ((rd_T48 x11 x13).f2) ((rd_T48 x11 x13).f3) ((rd_T48 x11 x13).f4))) else (impl_HandZonesOk.j1 k x0 x13 x11 x12 x13 true ((rd_T48 x11 x13).f0) ((rd_T48 x11 x13).f1) ((rd_T48 x11 x13).f2) ((rd_T48 x11 x13).f3) ((rd_T48 x11 x13).f4))) else (impl_HandZonesOk.j1 k x0 x13 x11 x12 x13 true ((rd_T48 x11 x13).f0) ((rd_T48 x11 x13).f1) ((rd_T48 x11 x13).f2) ((rd_T48 x11 x13).f3) ((rd_T48 x11 x13).f4))) else (impl_HandZonesOk.j1 k x0 x13 x11 x12 x13 true ((rd_T48 x11 x13).f0) ((rd_T48 x11 x13).f1) ((rd_T48 x11 x13).f2) ((rd_T48 x11 x13).f3) ((rd_T48 x11 x13).f4))) else (impl_HandZonesOk.j1 k x0 x13 x11 x12 x13 true ((rd_T48 x11 x13).f0) ((rd_T48 x11 x13).f1) ((rd_T48 x11 x13).f2) ((rd_T48 x11 x13).f3) ((rd_T48 x11 x13).f4))) else (impl_HandZonesOk.j1 k x0 x13 x11 x12 x13 true ((rd_T48 x11 x13).f0) ((rd_T48 x11 x13).f1) ((rd_T48 x11 x13).f2) ((rd_T48 x11 x13).f3) ((rd_T48 x11 x13).f4))) else (impl_HandZonesOk.j1 k x0 x13 x11 x12 x13 true ((rd_T48 x11 x13).f0) ((rd_T48 x11 x13).f1) ((rd_T48 x11 x13).f2) ((rd_T48 x11 x13).f3) ((rd_T48 x11 x13).f4))) else (impl_HandZonesOk.j1 k x0 x13 x11 x12 x13 true ((rd_T48 x11 x13).f0) ((rd_T48 x11 x13).f1) ((rd_T48 x11 x13).f2) ((rd_T48 x11 x13).f3) ((rd_T48 x11 x13).f4)))) else (none)) else (none)) else (some true)
def impl_HandZonesOk.j1 : Nat → List (S48) → Int → List (S48) → Int → Int → Bool → ByteArray → Int → Int → Int → Int → Option (Bool)
 | 0, _, _, _, _, _, _, _, _, _, _, _ => none
 | k + 1, x0, x3, x11, x12, x13, x72, x187000, x187001, x187002, x187003, x187004 => if x72 = true then (some false) else (if 0 ≤ x3 then (if x3 ≤ (x0.length : Int) then ((some (x0.take (x3 : Int).toNat : List (S48))).bind fun y189 => (impl_HandZonesOk.l1 k x0 x11 x12 x13 y189 (y189.length : Int) 0 x187000 x187001 x187002 x187003 x187004)) else (none)) else (none))
def impl_HandZonesOk.l1 : Nat → List (S48) → List (S48) → Int → Int → List (S48) → Int → Int → ByteArray → Int → Int → Int → Int → Option (Bool)
 | 0, _, _, _, _, _, _, _, _, _, _, _, _ => none
 | k + 1, x0, x11, x12, x13, x75, x76, x77, x187000, x187001, x187002, x187003, x187004 => if x77 < x76 then (if 0 ≤ x77 then (if x77 < (x75.length : Int) then (if ((rd_T48 x75 x77).f1) ≤ x187003 then (if x187001 ≤ ((rd_T48 x75 x77).f3) then (if ((rd_T48 x75 x77).f2) ≤ x187004 then (if x187002 ≤ ((rd_T48 x75 x77).f4) then (some false) else (impl_HandZonesOk.l1 k x0 x11 x12 x13 x75 x76 (wrap64 (x77 + 1)) x187000 x187001 x187002 x187003 x187004)) else (impl_HandZonesOk.l1 k x0 x11 x12 x13 x75 x76 (wrap64 (x77 + 1)) x187000 x187001 x187002 x187003 x187004)) else (impl_HandZonesOk.l1 k x0 x11 x12 x13 x75 x76 (wrap64 (x77 + 1)) x187000 x187001 x187002 x187003 x187004)) else (impl_HandZonesOk.l1 k x0 x11 x12 x13 x75 x76 (wrap64 (x77 + 1)) x187000 x187001 x187002 x187003 x187004)) else (none)) else (none)) else (impl_HandZonesOk.l0 k x0 x11 x12 (wrap64 (x13 + 1)))
end
def impl_HandZonesOk.f (k : Nat) (l0 : List (S48)) : Option (Bool) := (impl_within.f (l0.length : Int) 1 4).bind fun t184 => (if t184 = true then (impl_HandZonesOk.l0 k l0 l0 (l0.length : Int) 0) else (some false))
def impl_HandZonesOk.T6 : Bool × List (List Nat × List Nat) := (true, [([], []), ([0], [0]), ([1], [1]), ([2], [2]), ([3, 2], [3]), ([4], [4]), ([5, 4], [4, 5]), ([6, 4], [4, 6]), ([7, 4, 4], [4, 7]), ([8], [8]), ([9, 8], [8, 9]), ([8], [8]), ([11, 8], [8, 11]), ([10, 12, 8], [8, 10, 12]), ([8, 13, 4], [4, 8, 13]), ([14, 8, 4], [4, 14]), ([15], [15]), ([16, 15], [15, 16]), ([17, 15], [15, 17]), ([15, 18, 4], [4, 15, 18]), ([19, 4], [4, 19]), ([4, 20], [4, 20]), ([21, 15], [21]), ([22], [22]), ([23, 22], [22, 23]), ([24, 22], [22, 24]), ([25, 22, 22], [22, 25]), ([26], [26]), ([27, 26], [26, 27]), ([26], [26]), ([29, 26], [26, 29]), ([28, 30, 26], [26, 28, 30]), ([26, 31, 22], [22, 26, 31]), ([32, 26, 22], [22, 32]), ([33], [33]), ([34, 33], [33, 34]), ([35, 33], [33, 35]), ([33, 36, 22], [22, 33, 36]), ([37, 22], [22, 37]), ([22, 38], [22, 38]), ([39, 33], [39]), ([40], [40]), ([41, 40], [40, 41]), ([42, 40, 40], [40, 42]), ([43], [43]), ([44, 43], [43, 44]), ([43], [43]), ([43], [43]), ([47, 43], [43, 47]), ([46, 48, 43], [43, 46, 48]), ([49, 43], [43, 49]), ([50, 43], [43, 50]), ([45, 51, 43], [43, 45, 51]), ([43, 52, 40], [40, 43, 52]), ([40, 53], [40, 53])])
def impl_HandZonesOk.B6 : List Nat := [0, 1, 3, 7, 15, 31, 63, 127, 255, 511, 1023, 511, 2559, 8191, 16383, 32767, 65535, 131071, 262143, 524287, 1048575, 2097151, 4194303, 8388607, 16777215, 33554431, 67108863, 134217727, 268435455, 134217727, 671088639, 2147483647, 4294967295, 8589934591, 17179869183, 34359738367, 68719476735, 137438953471, 274877906943, 549755813887, 1099511627775, 2199023255551, 4398046511103, 8796093022207, 17592186044415, 35184372088831, 17592186044415, 17592186044415, 158329674399743, 510173395288063, 1073123348709375, 2199023255551999, 4503599627370495, 9007199254740991, 18014398509481983]
theorem impl_HandZonesOk.tab6 : rtab .any (opsOf Try.f23 6) = impl_HandZonesOk.T6 := by kernel_rfl
theorem impl_HandZonesOk.bits6 : waitsOk impl_HandZonesOk.T6.2 impl_HandZonesOk.B6 = true := by kernel_rfl
set_option maxHeartbeats 8000000 in
set_option maxRecDepth 100000 in
theorem impl_HandZonesOk.calls (k : Nat) (A0 : Option Addr) (c0 : Nat) (l0 : List (S48)) (r : Bool) (w : World) (hr0 : Kd.C k48 w A0 l0.length l0) (hc0 : l0.length ≤ c0) (h : impl_HandZonesOk.f k l0 = some r) :
 Calls Try.prog 23 #[.slice A0 l0.length c0] w fun e w' => e = .returned (.bool r) ∧ Below w.heap.size w w' := by
 have hu48 := Try.underlying48
 have HR0 := Aside0.mk hr0
 have HC0 := Aside0.mk hc0
 clear hr0 hc0
 have HB := Aside0.mk (Below.refl w.heap.size w)
 have H : ((impl_within.f (l0.length : Int) 1 4).bind fun t184 => (if t184 = true then (impl_HandZonesOk.l0 k l0 l0 (l0.length : Int) 0) else (some false))) = some r := h
 clear h
 replace H := zbd H; obtain ⟨t184, A2, H⟩ := H
 by_cases c3 : t184 = true
 rotate_left
 ·replace c3 := Bool.eq_false_iff.mpr c3
  subst c3
  have H1 : (some false) = some r := by rw [if_neg (show ¬ (false = true) by decide)] at H; exact H
  clear H
  have H := H1
  clear H1
  obtain rfl := Option.some.inj H
  go_enter Try.func23, Try.ntmps23
  go_wp2_with (first | ((with_reducible refine gate_callee (f := 31) rfl ?_); refine zgl (N := some 9) Try.func31 #[.int .i64 (l0.length : Int), .int .i64 1, .int .i64 4] ?_; (with_reducible refine (impl_within.calls (l0.length : Int) 1 4 false _ A2.out).mono ?_); rintro e w' ⟨rfl, ⟨nd, rfl⟩⟩; refine ⟨_, rfl, ?_⟩))
  go_ret
  exact ⟨ze, zs0 HB⟩
 subst c3
 have H1 : (impl_HandZonesOk.l0 k l0 l0 (l0.length : Int) 0) = some r := by rw [if_pos rfl] at H; exact H
 clear H
 have H := H1
 clear H1
 have H' := Aside0.mk H
 clear H
 go_enter Try.func23, Try.ntmps23
 go_wp2_with (first | ((with_reducible refine gate_callee (f := 31) rfl ?_); refine zgl (N := some 9) Try.func31 #[.int .i64 (l0.length : Int), .int .i64 1, .int .i64 4] ?_; (with_reducible refine (impl_within.calls (l0.length : Int) 1 4 true _ A2.out).mono ?_); rintro e w' ⟨rfl, ⟨nd, rfl⟩⟩; refine ⟨_, rfl, ?_⟩))
 go_loopg [13] k (fun kq v13 w' => ∃ (x13_1 : Int), v13 = .int .i64 x13_1 ∧ Aside0 (impl_HandZonesOk.l0 kq l0 l0 (l0.length : Int) x13_1 = some r) ∧ Aside0 (kq ≤ k) ∧ Aside0 (Below w.heap.size w w'))
 case atStart => exact ⟨(0), zi, H', ⟨Nat.le_refl _⟩, ⟨zs0 HB⟩⟩
 case round =>
  clear H'
  try clear c2
  try clear p2
  try clear c3
  obtain ⟨x13_1, rfl, HA, HK1, HB⟩ := hrel
  cases gk with
  | zero => exact absurd HA.out (by simp [impl_HandZonesOk.l0])
  | succ k1 =>
   have H := HA.out
   clear HA
   simp only [impl_HandZonesOk.l0] at H
   by_cases c4 : x13_1 < (l0.length : Int)
   rotate_left
   ·rw [if_neg c4] at H
    have c4b0 : decide (x13_1 < (l0.length : Int)) = false := decide_eq_false c4
    clear c4
    obtain rfl := Option.some.inj H
    go_wp2
    go_ret
    exact ⟨ze, zs0 HB⟩
   rw [if_pos c4] at H
   have c4b0 : decide (x13_1 < (l0.length : Int)) = true := decide_eq_true c4
   clear c4
   by_cases c5 : 0 ≤ x13_1
   rotate_left
   ·rw [if_neg c5] at H
    exact absurd H (by simp)
   rw [if_pos c5] at H
   have c5b0 : decide (0 ≤ x13_1) = true := decide_eq_true c5
   clear c5
   by_cases c6 : x13_1 < (l0.length : Int)
   rotate_left
   ·rw [if_neg c6] at H
    exact absurd H (by simp)
   rw [if_pos c6] at H
   have c6b0 : decide (x13_1 < (l0.length : Int)) = true := decide_eq_true c6
   clear c6
   have HC7 := Aside0.mk H
   clear H
   have p185 : 0 ≤ (x13_1 : Int) := za
   have q185 : x13_1 < (l0.length : Int) := za
   obtain ⟨ad185, e185, hx185_0, hx185_1, hx185_2, hx185_3, hx185_4⟩ := at_T48 HR0.out x13_1 p185 q185
   cases e185
   replace hx185_0 := zx HB hx185_0
   replace hx185_1 := zx HB hx185_1
   replace hx185_2 := zx HB hx185_2
   replace hx185_3 := zx HB hx185_3
   replace hx185_4 := zx HB hx185_4
   replace p185 := eq_true p185
   replace q185 := eq_true q185
   go_upto_region 6 with (first | ((with_reducible refine gate_dst (N := 4) rfl ?_); refine zbx 4 #[.string (⟨#[]⟩ : ByteArray), .int .i64 0, .int .i64 0, .int .i64 0, .int .i64 0] 48 ?_; intro gb186 hg w8 hbox hb; have BK186 := zA hbox; have GW186 := zgs hg (zs0 HB); have GE186 := zgs hg (zs0 HB); replace HB := zE (zs0 HB) hb; clear hb hbox hg; obtain ⟨hcz9_0, hcz9_1, hcz9_2, hcz9_3, hcz9_4⟩ := zd5 BK186; obtain ⟨hfz9_0, hfz9_1, hfz9_2, hfz9_3, hfz9_4⟩ := zn5 BK186))
   (try simp only [Act.put, List.setIfInBounds_toArray, List.set_cons_zero, List.set_cons_succ])
   go_cut [72] (fun v72 wc => ∃ (kq : Nat) (x72_6 : Bool), v72 = .bool x72_6 ∧ Aside0 (impl_HandZonesOk.j1 kq l0 x13_1 l0 (l0.length : Int) x13_1 x72_6 ((rd_T48 l0 x13_1).f0) ((rd_T48 l0 x13_1).f1) ((rd_T48 l0 x13_1).f2) ((rd_T48 l0 x13_1).f3) ((rd_T48 l0 x13_1).f4) = some r) ∧ Aside0 (kq ≤ k1) ∧ Aside0 (wc.heap[gb186]? = some (.cells #[.string ((rd_T48 l0 x13_1).f0), .int .i64 ((rd_T48 l0 x13_1).f1), .int .i64 ((rd_T48 l0 x13_1).f2), .int .i64 ((rd_T48 l0 x13_1).f3), .int .i64 ((rd_T48 l0 x13_1).f4)] 48 (0, 0))) ∧ Aside0 (Below w.heap.size w wc))
   case first =>
    have H := HC7.out
    clear HC7
    replace H := zbd H; obtain ⟨t187, A10, H⟩ := H
    by_cases c11 : t187 = true
    rotate_left
    ·replace c11 := Bool.eq_false_iff.mpr c11
     subst c11
     have H1 : (impl_HandZonesOk.j1 k1 l0 x13_1 l0 (l0.length : Int) x13_1 true ((rd_T48 l0 x13_1).f0) ((rd_T48 l0 x13_1).f1) ((rd_T48 l0 x13_1).f2) ((rd_T48 l0 x13_1).f3) ((rd_T48 l0 x13_1).f4)) = some r := by rw [if_neg (show ¬ (false = true) by decide)] at H; exact H
     clear H
     have H := H1
     clear H1
     have H' := Aside0.mk H
     clear H
     try go_wp2
     obtain ⟨w38, e_⟩ : ∃ x, x = (((((w8.setCell ⟨gb186, 0, none⟩ (.string ((rd_T48 l0 x13_1).f0))).setCell ⟨gb186, 1, none⟩ (.int .i64 ((rd_T48 l0 x13_1).f1))).setCell ⟨gb186, 2, none⟩ (.int .i64 ((rd_T48 l0 x13_1).f2))).setCell ⟨gb186, 3, none⟩ (.int .i64 ((rd_T48 l0 x13_1).f3))).setCell ⟨gb186, 4, none⟩ (.int .i64 ((rd_T48 l0 x13_1).f4))) := ⟨_, rfl⟩
     have n0_ : Aside0 (w38.heap[gb186]? = some (.cells #[.string ((rd_T48 l0 x13_1).f0), .int .i64 ((rd_T48 l0 x13_1).f1), .int .i64 ((rd_T48 l0 x13_1).f2), .int .i64 ((rd_T48 l0 x13_1).f3), .int .i64 ((rd_T48 l0 x13_1).f4)] 48 (0, 0))) := by rw [e_]; exact ⟨zpb BK186⟩
     have n1_ : Aside0 (Below w.heap.size w w38) := by rw [e_]; exact ⟨zs1 HB GE186⟩
     (try clear BK186)
     (try clear HB)
     rw [← e_]; clear e_
     have BK186 := n0_
     have HB := n1_
     clear n0_ n1_
     replace BK186 := Aside0.mk (blk_drew BK186.out)
     replace HB := Aside0.mk (below_drew1 HB.out)
     refine start_ (n := 55) (S := fun w' => w'.cell? ⟨gb186, 0, none⟩ = some (.string ((rd_T48 l0 x13_1).f0)) ∧ w'.cell? ⟨gb186, 1, none⟩ = some (.int .i64 ((rd_T48 l0 x13_1).f1)) ∧ w'.cell? ⟨gb186, 2, none⟩ = some (.int .i64 ((rd_T48 l0 x13_1).f2)) ∧ w'.cell? ⟨gb186, 3, none⟩ = some (.int .i64 ((rd_T48 l0 x13_1).f3)) ∧ w'.cell? ⟨gb186, 4, none⟩ = some (.int .i64 ((rd_T48 l0 x13_1).f4))) (ds := []) #[false, false, false, false, false, false, false, false, false, false, false, false, false, false, false, false, false, false, false, false, false, false, false, false, false, false, false, false, false, false, false, false, false, false, false, false, false, false, false, false, false, false, false, false, false, false, false, false, false, false, false, false, false, false, false] (by kernel_rfl) rfl rfl ⟨zc0 BK186, zc1 BK186, zc2 BK186, zc3 BK186, zc4 BK186⟩ (fun hHeld => ?_); refine with_tabW impl_HandZonesOk.tab6 impl_HandZonesOk.bits6 (fun HT_ HW_ => ?_)
     generalize w38.drew = w39 at BK186 HB hHeld ⊢
     refine zq HT_ 0 ?_
     refine zk5 HT_ HW_ hHeld 1 ?_
     refine zo HT_ 2 (fun K hK => ?_)
     refine zgo Try.func32 #[.string ((rd_T48 l0 x13_1).f0)] ?_
     with_reducible refine (impl_isName.calls k1 ((rd_T48 l0 x13_1).f0) false _ A10.out).mono ?_
     rintro e w' ⟨rfl, ⟨nd, rfl⟩⟩
     refine ⟨_, rfl, ?_⟩
     refine hK.out _ _ ⟨zc0 BK186, zc1 BK186, zc2 BK186, zc3 BK186, zc4 BK186⟩ (fun hHeld => ?_)
     clear hK K
     refine zN ?_
     refine zq HT_ 3 ?_
     refine zq HT_ 4 ?_
     refine zu HT_ 5 ?_
     refine zu HT_ 6 ?_
     refine zu HT_ 7 ?_
     refine zu HT_ 8 ?_
     refine zu HT_ 9 ?_
     refine zu HT_ 10 ?_
     refine zu HT_ 11 ?_
     refine zu HT_ 12 ?_
     refine zu HT_ 13 ?_
     refine zu HT_ 14 ?_
     refine zu HT_ 15 ?_
     refine zu HT_ 16 ?_
     refine zu HT_ 17 ?_
     refine zu HT_ 18 ?_
     refine zu HT_ 19 ?_
     refine zu HT_ 20 ?_
     refine zq HT_ 21 ?_
     refine zq HT_ 22 ?_
     refine zu HT_ 23 ?_
     refine zu HT_ 24 ?_
     refine zu HT_ 25 ?_
     refine zu HT_ 26 ?_
     refine zu HT_ 27 ?_
     refine zu HT_ 28 ?_
     refine zu HT_ 29 ?_
     refine zu HT_ 30 ?_
     refine zu HT_ 31 ?_
     refine zu HT_ 32 ?_
     refine zu HT_ 33 ?_
     refine zu HT_ 34 ?_
     refine zu HT_ 35 ?_
     refine zu HT_ 36 ?_
     refine zu HT_ 37 ?_
     refine zu HT_ 38 ?_
     refine zq HT_ 39 ?_
     refine zq HT_ 40 ?_
     refine zu HT_ 41 ?_
     refine zu HT_ 42 ?_
     refine zu HT_ 43 ?_
     refine zu HT_ 44 ?_
     refine zu HT_ 45 ?_
     refine zu HT_ 46 ?_
     refine zu HT_ 47 ?_
     refine zu HT_ 48 ?_
     refine zu HT_ 49 ?_
     refine zu HT_ 50 ?_
     refine zu HT_ 51 ?_
     refine zu HT_ 52 ?_
     refine zu HT_ 53 ?_
     refine zq HT_ 54 ?_
     refine done_ (done_of HT_.out (by kernel_rfl)) ?_
     try go_wp2
     go_meet
     case rel => exact ⟨_, (true), zi, H', ⟨by have := HK1.out; first | omega | exact Nat.le_refl _⟩, ⟨zh BK186⟩, ⟨zs1 HB GE186⟩⟩
    subst c11
    have H1 : (if 0 ≤ ((rd_T48 l0 x13_1).f1) then (if ((rd_T48 l0 x13_1).f1) ≤ ((rd_T48 l0 x13_1).f3) then (if (((rd_T48 l0 x13_1).f3) < 16) then (if 0 ≤ ((rd_T48 l0 x13_1).f2) then (if ((rd_T48 l0 x13_1).f2) ≤ ((rd_T48 l0 x13_1).f4) then (if (((rd_T48 l0 x13_1).f4) < 16) then (if x13_1 > 0 then (if 0 ≤ (wrap64 (x13_1 - 1)) then (if (wrap64 (x13_1 - 1)) < (l0.length : Int) then (impl_HandZonesOk.j1 k1 l0 x13_1 l0 (l0.length : Int) x13_1 (!(Op.bytesLess (((rd_T48 l0 (wrap64 (x13_1 - 1))).f0).toList) (((rd_T48 l0 x13_1).f0).toList))) ((rd_T48 l0 x13_1).f0) ((rd_T48 l0 x13_1).f1) ((rd_T48 l0 x13_1).f2) ((rd_T48 l0 x13_1).f3) ((rd_T48 l0 x13_1).f4)) else (none)) else (none)) else (impl_HandZonesOk.j1 k1 l0 x13_1 l0 (l0.length : Int) x13_1 false ((rd_T48 l0 x13_1).f0) ((rd_T48 l0 x13_1).f1) ((rd_T48 l0 x13_1).f2) ((rd_T48 l0 x13_1).f3) ((rd_T48 l0 x13_1).f4))) else (impl_HandZonesOk.j1 k1 l0 x13_1 l0 (l0.length : Int) x13_1 true ((rd_T48 l0 x13_1).f0) ((rd_T48 l0 x13_1).f1) ((rd_T48 l0 x13_1).f2) ((rd_T48 l0 x13_1).f3) ((rd_T48 l0 x13_1).f4))) else (impl_HandZonesOk.j1 k1 l0 x13_1 l0 (l0.length : Int) x13_1 true ((rd_T48 l0 x13_1).f0) ((rd_T48 l0 x13_1).f1) ((rd_T48 l0 x13_1).f2) ((rd_T48 l0 x13_1).f3) ((rd_T48 l0 x13_1).f4))) else (impl_HandZonesOk.j1 k1 l0 x13_1 l0 (l0.length : Int) x13_1 true ((rd_T48 l0 x13_1).f0) ((rd_T48 l0 x13_1).f1) ((rd_T48 l0 x13_1).f2) ((rd_T48 l0 x13_1).f3) ((rd_T48 l0 x13_1).f4))) else (impl_HandZonesOk.j1 k1 l0 x13_1 l0 (l0.length : Int) x13_1 true ((rd_T48 l0 x13_1).f0) ((rd_T48 l0 x13_1).f1) ((rd_T48 l0 x13_1).f2) ((rd_T48 l0 x13_1).f3) ((rd_T48 l0 x13_1).f4))) else (impl_HandZonesOk.j1 k1 l0 x13_1 l0 (l0.length : Int) x13_1 true ((rd_T48 l0 x13_1).f0) ((rd_T48 l0 x13_1).f1) ((rd_T48 l0 x13_1).f2) ((rd_T48 l0 x13_1).f3) ((rd_T48 l0 x13_1).f4))) else (impl_HandZonesOk.j1 k1 l0 x13_1 l0 (l0.length : Int) x13_1 true ((rd_T48 l0 x13_1).f0) ((rd_T48 l0 x13_1).f1) ((rd_T48 l0 x13_1).f2) ((rd_T48 l0 x13_1).f3) ((rd_T48 l0 x13_1).f4))) = some r := by rw [if_pos rfl] at H; exact H
    clear H
    have H := H1
    clear H1
    by_cases c12 : 0 ≤ ((rd_T48 l0 x13_1).f1)
    rotate_left
    ·rw [if_neg c12] at H
     have c12b0 : decide (0 ≤ ((rd_T48 l0 x13_1).f1)) = false := decide_eq_false c12
     clear c12
     (first | rw [c12b0] | (simp only [i64_w, i32_w]; rw [c12b0]) | skip)
     have H' := Aside0.mk H
     clear H
     try go_wp2
     obtain ⟨w36, e_⟩ : ∃ x, x = (((((w8.setCell ⟨gb186, 0, none⟩ (.string ((rd_T48 l0 x13_1).f0))).setCell ⟨gb186, 1, none⟩ (.int .i64 ((rd_T48 l0 x13_1).f1))).setCell ⟨gb186, 2, none⟩ (.int .i64 ((rd_T48 l0 x13_1).f2))).setCell ⟨gb186, 3, none⟩ (.int .i64 ((rd_T48 l0 x13_1).f3))).setCell ⟨gb186, 4, none⟩ (.int .i64 ((rd_T48 l0 x13_1).f4))) := ⟨_, rfl⟩
     have n0_ : Aside0 (w36.heap[gb186]? = some (.cells #[.string ((rd_T48 l0 x13_1).f0), .int .i64 ((rd_T48 l0 x13_1).f1), .int .i64 ((rd_T48 l0 x13_1).f2), .int .i64 ((rd_T48 l0 x13_1).f3), .int .i64 ((rd_T48 l0 x13_1).f4)] 48 (0, 0))) := by rw [e_]; exact ⟨zpb BK186⟩
     have n1_ : Aside0 (Below w.heap.size w w36) := by rw [e_]; exact ⟨zs1 HB GE186⟩
     (try clear BK186)
     (try clear HB)
     rw [← e_]; clear e_
     have BK186 := n0_
     have HB := n1_
     clear n0_ n1_
     replace BK186 := Aside0.mk (blk_drew BK186.out)
     replace HB := Aside0.mk (below_drew1 HB.out)
     refine start_ (n := 55) (S := fun w' => w'.cell? ⟨gb186, 0, none⟩ = some (.string ((rd_T48 l0 x13_1).f0)) ∧ w'.cell? ⟨gb186, 1, none⟩ = some (.int .i64 ((rd_T48 l0 x13_1).f1)) ∧ w'.cell? ⟨gb186, 2, none⟩ = some (.int .i64 ((rd_T48 l0 x13_1).f2)) ∧ w'.cell? ⟨gb186, 3, none⟩ = some (.int .i64 ((rd_T48 l0 x13_1).f3)) ∧ w'.cell? ⟨gb186, 4, none⟩ = some (.int .i64 ((rd_T48 l0 x13_1).f4))) (ds := []) #[false, false, false, false, false, false, false, false, false, false, false, false, false, false, false, false, false, false, false, false, false, false, false, false, false, false, false, false, false, false, false, false, false, false, false, false, false, false, false, false, false, false, false, false, false, false, false, false, false, false, false, false, false, false, false] (by kernel_rfl) rfl rfl ⟨zc0 BK186, zc1 BK186, zc2 BK186, zc3 BK186, zc4 BK186⟩ (fun hHeld => ?_); refine with_tabW impl_HandZonesOk.tab6 impl_HandZonesOk.bits6 (fun HT_ HW_ => ?_)
     generalize w36.drew = w37 at BK186 HB hHeld ⊢
     refine zq HT_ 0 ?_
     refine zk5 HT_ HW_ hHeld 1 ?_
     refine zo HT_ 2 (fun K hK => ?_)
     refine zgo Try.func32 #[.string ((rd_T48 l0 x13_1).f0)] ?_
     with_reducible refine (impl_isName.calls k1 ((rd_T48 l0 x13_1).f0) true _ A10.out).mono ?_
     rintro e w' ⟨rfl, ⟨nd, rfl⟩⟩
     refine ⟨_, rfl, ?_⟩
     refine hK.out _ _ ⟨zc0 BK186, zc1 BK186, zc2 BK186, zc3 BK186, zc4 BK186⟩ (fun hHeld => ?_)
     clear hK K
     refine zN ?_
     refine zq HT_ 3 ?_
     refine zq HT_ 4 ?_
     refine zq HT_ 5 ?_
     refine zk5 HT_ HW_ hHeld 6 ?_
     refine zq HT_ 7 ?_
     refine zq HT_ 8 ?_
     refine zu HT_ 9 ?_
     refine zu HT_ 10 ?_
     refine zu HT_ 11 ?_
     refine zu HT_ 12 ?_
     refine zu HT_ 13 ?_
     refine zq HT_ 14 ?_
     refine zq HT_ 15 ?_
     refine zu HT_ 16 ?_
     refine zu HT_ 17 ?_
     refine zu HT_ 18 ?_
     refine zq HT_ 19 ?_
     refine zq HT_ 20 ?_
     refine zq HT_ 21 ?_
     refine zq HT_ 22 ?_
     refine zu HT_ 23 ?_
     refine zu HT_ 24 ?_
     refine zu HT_ 25 ?_
     refine zu HT_ 26 ?_
     refine zu HT_ 27 ?_
     refine zu HT_ 28 ?_
     refine zu HT_ 29 ?_
     refine zu HT_ 30 ?_
     refine zu HT_ 31 ?_
     refine zu HT_ 32 ?_
     refine zu HT_ 33 ?_
     refine zu HT_ 34 ?_
     refine zu HT_ 35 ?_
     refine zu HT_ 36 ?_
     refine zu HT_ 37 ?_
     refine zu HT_ 38 ?_
     refine zq HT_ 39 ?_
     refine zq HT_ 40 ?_
     refine zu HT_ 41 ?_
     refine zu HT_ 42 ?_
     refine zu HT_ 43 ?_
     refine zu HT_ 44 ?_
     refine zu HT_ 45 ?_
     refine zu HT_ 46 ?_
     refine zu HT_ 47 ?_
     refine zu HT_ 48 ?_
     refine zu HT_ 49 ?_
     refine zu HT_ 50 ?_
     refine zu HT_ 51 ?_
     refine zu HT_ 52 ?_
     refine zu HT_ 53 ?_
     refine zq HT_ 54 ?_
     refine done_ (done_of HT_.out (by kernel_rfl)) ?_
     try go_wp2
     go_meet
     case rel => exact ⟨_, (true), zi, H', ⟨by have := HK1.out; first | omega | exact Nat.le_refl _⟩, ⟨zh BK186⟩, ⟨zs1 HB GE186⟩⟩
    rw [if_pos c12] at H
    have c12b0 : decide (0 ≤ ((rd_T48 l0 x13_1).f1)) = true := decide_eq_true c12
    clear c12
    (first | rw [c12b0] | (simp only [i64_w, i32_w]; rw [c12b0]) | skip)
    by_cases c13 : ((rd_T48 l0 x13_1).f1) ≤ ((rd_T48 l0 x13_1).f3)
    rotate_left
    ·rw [if_neg c13] at H
     have c13b0 : decide (((rd_T48 l0 x13_1).f1) ≤ ((rd_T48 l0 x13_1).f3)) = false := decide_eq_false c13
     clear c13
     have H' := Aside0.mk H
     clear H
     try go_wp2
     obtain ⟨w34, e_⟩ : ∃ x, x = (((((w8.setCell ⟨gb186, 0, none⟩ (.string ((rd_T48 l0 x13_1).f0))).setCell ⟨gb186, 1, none⟩ (.int .i64 ((rd_T48 l0 x13_1).f1))).setCell ⟨gb186, 2, none⟩ (.int .i64 ((rd_T48 l0 x13_1).f2))).setCell ⟨gb186, 3, none⟩ (.int .i64 ((rd_T48 l0 x13_1).f3))).setCell ⟨gb186, 4, none⟩ (.int .i64 ((rd_T48 l0 x13_1).f4))) := ⟨_, rfl⟩
     have n0_ : Aside0 (w34.heap[gb186]? = some (.cells #[.string ((rd_T48 l0 x13_1).f0), .int .i64 ((rd_T48 l0 x13_1).f1), .int .i64 ((rd_T48 l0 x13_1).f2), .int .i64 ((rd_T48 l0 x13_1).f3), .int .i64 ((rd_T48 l0 x13_1).f4)] 48 (0, 0))) := by rw [e_]; exact ⟨zpb BK186⟩
     have n1_ : Aside0 (Below w.heap.size w w34) := by rw [e_]; exact ⟨zs1 HB GE186⟩
     (try clear BK186)
     (try clear HB)
     rw [← e_]; clear e_
     have BK186 := n0_
     have HB := n1_
     clear n0_ n1_
     replace BK186 := Aside0.mk (blk_drew BK186.out)
     replace HB := Aside0.mk (below_drew1 HB.out)
     refine start_ (n := 55) (S := fun w' => w'.cell? ⟨gb186, 0, none⟩ = some (.string ((rd_T48 l0 x13_1).f0)) ∧ w'.cell? ⟨gb186, 1, none⟩ = some (.int .i64 ((rd_T48 l0 x13_1).f1)) ∧ w'.cell? ⟨gb186, 2, none⟩ = some (.int .i64 ((rd_T48 l0 x13_1).f2)) ∧ w'.cell? ⟨gb186, 3, none⟩ = some (.int .i64 ((rd_T48 l0 x13_1).f3)) ∧ w'.cell? ⟨gb186, 4, none⟩ = some (.int .i64 ((rd_T48 l0 x13_1).f4))) (ds := []) #[false, false, false, false, false, false, false, false, false, false, false, false, false, false, false, false, false, false, false, false, false, false, false, false, false, false, false, false, false, false, false, false, false, false, false, false, false, false, false, false, false, false, false, false, false, false, false, false, false, false, false, false, false, false, false] (by kernel_rfl) rfl rfl ⟨zc0 BK186, zc1 BK186, zc2 BK186, zc3 BK186, zc4 BK186⟩ (fun hHeld => ?_); refine with_tabW impl_HandZonesOk.tab6 impl_HandZonesOk.bits6 (fun HT_ HW_ => ?_)
     generalize w34.drew = w35 at BK186 HB hHeld ⊢
     refine zq HT_ 0 ?_
     refine zk5 HT_ HW_ hHeld 1 ?_
     refine zo HT_ 2 (fun K hK => ?_)
     refine zgo Try.func32 #[.string ((rd_T48 l0 x13_1).f0)] ?_
     with_reducible refine (impl_isName.calls k1 ((rd_T48 l0 x13_1).f0) true _ A10.out).mono ?_
     rintro e w' ⟨rfl, ⟨nd, rfl⟩⟩
     refine ⟨_, rfl, ?_⟩
     refine hK.out _ _ ⟨zc0 BK186, zc1 BK186, zc2 BK186, zc3 BK186, zc4 BK186⟩ (fun hHeld => ?_)
     clear hK K
     refine zN ?_
     refine zq HT_ 3 ?_
     refine zq HT_ 4 ?_
     refine zq HT_ 5 ?_
     refine zk5 HT_ HW_ hHeld 6 ?_
     refine zq HT_ 7 ?_
     refine zq HT_ 8 ?_
     refine zq HT_ 9 ?_
     refine zq HT_ 11 ?_
     refine zk5 HT_ HW_ hHeld 10 ?_
     refine zk5 HT_ HW_ hHeld 12 ?_
     refine zq HT_ 13 ?_
     refine zq HT_ 14 ?_
     refine zq HT_ 15 ?_
     refine zu HT_ 16 ?_
     refine zu HT_ 17 ?_
     refine zu HT_ 18 ?_
     refine zq HT_ 19 ?_
     refine zq HT_ 20 ?_
     refine zq HT_ 21 ?_
     refine zq HT_ 22 ?_
     refine zu HT_ 23 ?_
     refine zu HT_ 24 ?_
     refine zu HT_ 25 ?_
     refine zu HT_ 26 ?_
     refine zu HT_ 27 ?_
     refine zu HT_ 28 ?_
     refine zu HT_ 29 ?_
     refine zu HT_ 30 ?_
     refine zu HT_ 31 ?_
     refine zu HT_ 32 ?_
     refine zu HT_ 33 ?_
     refine zu HT_ 34 ?_
     refine zu HT_ 35 ?_
     refine zu HT_ 36 ?_
     refine zu HT_ 37 ?_
     refine zu HT_ 38 ?_
     refine zq HT_ 39 ?_
     refine zq HT_ 40 ?_
     refine zu HT_ 41 ?_
     refine zu HT_ 42 ?_
     refine zu HT_ 43 ?_
     refine zu HT_ 44 ?_
     refine zu HT_ 45 ?_
     refine zu HT_ 46 ?_
     refine zu HT_ 47 ?_
     refine zu HT_ 48 ?_
     refine zu HT_ 49 ?_
     refine zu HT_ 50 ?_
     refine zu HT_ 51 ?_
     refine zu HT_ 52 ?_
     refine zu HT_ 53 ?_
     refine zq HT_ 54 ?_
     refine done_ (done_of HT_.out (by kernel_rfl)) ?_
     try go_wp2
     go_meet
     case rel => exact ⟨_, (true), zi, H', ⟨by have := HK1.out; first | omega | exact Nat.le_refl _⟩, ⟨zh BK186⟩, ⟨zs1 HB GE186⟩⟩
    rw [if_pos c13] at H
    have c13b0 : decide (((rd_T48 l0 x13_1).f1) ≤ ((rd_T48 l0 x13_1).f3)) = true := decide_eq_true c13
    clear c13
    by_cases c14 : (((rd_T48 l0 x13_1).f3) < 16)
    rotate_left
    ·rw [if_neg c14] at H
     have c14b0 : decide (((rd_T48 l0 x13_1).f3) < 16) = false := decide_eq_false c14
     clear c14
     have H' := Aside0.mk H
     clear H
     try go_wp2
     obtain ⟨w32, e_⟩ : ∃ x, x = (((((w8.setCell ⟨gb186, 0, none⟩ (.string ((rd_T48 l0 x13_1).f0))).setCell ⟨gb186, 1, none⟩ (.int .i64 ((rd_T48 l0 x13_1).f1))).setCell ⟨gb186, 2, none⟩ (.int .i64 ((rd_T48 l0 x13_1).f2))).setCell ⟨gb186, 3, none⟩ (.int .i64 ((rd_T48 l0 x13_1).f3))).setCell ⟨gb186, 4, none⟩ (.int .i64 ((rd_T48 l0 x13_1).f4))) := ⟨_, rfl⟩
     have n0_ : Aside0 (w32.heap[gb186]? = some (.cells #[.string ((rd_T48 l0 x13_1).f0), .int .i64 ((rd_T48 l0 x13_1).f1), .int .i64 ((rd_T48 l0 x13_1).f2), .int .i64 ((rd_T48 l0 x13_1).f3), .int .i64 ((rd_T48 l0 x13_1).f4)] 48 (0, 0))) := by rw [e_]; exact ⟨zpb BK186⟩
     have n1_ : Aside0 (Below w.heap.size w w32) := by rw [e_]; exact ⟨zs1 HB GE186⟩
     (try clear BK186)
     (try clear HB)
     rw [← e_]; clear e_
     have BK186 := n0_
     have HB := n1_
     clear n0_ n1_
     replace BK186 := Aside0.mk (blk_drew BK186.out)
     replace HB := Aside0.mk (below_drew1 HB.out)
     refine start_ (n := 55) (S := fun w' => w'.cell? ⟨gb186, 0, none⟩ = some (.string ((rd_T48 l0 x13_1).f0)) ∧ w'.cell? ⟨gb186, 1, none⟩ = some (.int .i64 ((rd_T48 l0 x13_1).f1)) ∧ w'.cell? ⟨gb186, 2, none⟩ = some (.int .i64 ((rd_T48 l0 x13_1).f2)) ∧ w'.cell? ⟨gb186, 3, none⟩ = some (.int .i64 ((rd_T48 l0 x13_1).f3)) ∧ w'.cell? ⟨gb186, 4, none⟩ = some (.int .i64 ((rd_T48 l0 x13_1).f4))) (ds := []) #[false, false, false, false, false, false, false, false, false, false, false, false, false, false, false, false, false, false, false, false, false, false, false, false, false, false, false, false, false, false, false, false, false, false, false, false, false, false, false, false, false, false, false, false, false, false, false, false, false, false, false, false, false, false, false] (by kernel_rfl) rfl rfl ⟨zc0 BK186, zc1 BK186, zc2 BK186, zc3 BK186, zc4 BK186⟩ (fun hHeld => ?_); refine with_tabW impl_HandZonesOk.tab6 impl_HandZonesOk.bits6 (fun HT_ HW_ => ?_)
     generalize w32.drew = w33 at BK186 HB hHeld ⊢
     refine zq HT_ 0 ?_
     refine zk5 HT_ HW_ hHeld 1 ?_
     refine zo HT_ 2 (fun K hK => ?_)
     refine zgo Try.func32 #[.string ((rd_T48 l0 x13_1).f0)] ?_
     with_reducible refine (impl_isName.calls k1 ((rd_T48 l0 x13_1).f0) true _ A10.out).mono ?_
     rintro e w' ⟨rfl, ⟨nd, rfl⟩⟩
     refine ⟨_, rfl, ?_⟩
     refine hK.out _ _ ⟨zc0 BK186, zc1 BK186, zc2 BK186, zc3 BK186, zc4 BK186⟩ (fun hHeld => ?_)
     clear hK K
     refine zN ?_
     refine zq HT_ 3 ?_
     refine zq HT_ 4 ?_
     refine zq HT_ 5 ?_
     refine zk5 HT_ HW_ hHeld 6 ?_
     refine zq HT_ 7 ?_
     refine zq HT_ 8 ?_
     refine zq HT_ 9 ?_
     refine zq HT_ 11 ?_
     refine zk5 HT_ HW_ hHeld 10 ?_
     refine zk5 HT_ HW_ hHeld 12 ?_
     refine zq HT_ 13 ?_
     refine zq HT_ 14 ?_
     refine zq HT_ 15 ?_
     refine zq HT_ 16 ?_
     refine zk5 HT_ HW_ hHeld 17 ?_
     refine zq HT_ 18 ?_
     refine zq HT_ 19 ?_
     refine zq HT_ 20 ?_
     refine zq HT_ 21 ?_
     refine zq HT_ 22 ?_
     refine zu HT_ 23 ?_
     refine zu HT_ 24 ?_
     refine zu HT_ 25 ?_
     refine zu HT_ 26 ?_
     refine zu HT_ 27 ?_
     refine zu HT_ 28 ?_
     refine zu HT_ 29 ?_
     refine zu HT_ 30 ?_
     refine zu HT_ 31 ?_
     refine zu HT_ 32 ?_
     refine zu HT_ 33 ?_
     refine zu HT_ 34 ?_
     refine zu HT_ 35 ?_
     refine zu HT_ 36 ?_
     refine zu HT_ 37 ?_
     refine zu HT_ 38 ?_
     refine zq HT_ 39 ?_
     refine zq HT_ 40 ?_
     refine zu HT_ 41 ?_
     refine zu HT_ 42 ?_
     refine zu HT_ 43 ?_
     refine zu HT_ 44 ?_
     refine zu HT_ 45 ?_
     refine zu HT_ 46 ?_
     refine zu HT_ 47 ?_
     refine zu HT_ 48 ?_
     refine zu HT_ 49 ?_
     refine zu HT_ 50 ?_
     refine zu HT_ 51 ?_
     refine zu HT_ 52 ?_
     refine zu HT_ 53 ?_
     refine zq HT_ 54 ?_
     refine done_ (done_of HT_.out (by kernel_rfl)) ?_
     try go_wp2
     go_meet
     case rel => exact ⟨_, (true), zi, H', ⟨by have := HK1.out; first | omega | exact Nat.le_refl _⟩, ⟨zh BK186⟩, ⟨zs1 HB GE186⟩⟩
    rw [if_pos c14] at H
    have c14b0 : decide (((rd_T48 l0 x13_1).f3) < 16) = true := decide_eq_true c14
    clear c14
    by_cases c15 : 0 ≤ ((rd_T48 l0 x13_1).f2)
    rotate_left
    ·rw [if_neg c15] at H
     have c15b0 : decide (0 ≤ ((rd_T48 l0 x13_1).f2)) = false := decide_eq_false c15
     clear c15
     have H' := Aside0.mk H
     clear H
     try go_wp2
     obtain ⟨w30, e_⟩ : ∃ x, x = (((((w8.setCell ⟨gb186, 0, none⟩ (.string ((rd_T48 l0 x13_1).f0))).setCell ⟨gb186, 1, none⟩ (.int .i64 ((rd_T48 l0 x13_1).f1))).setCell ⟨gb186, 2, none⟩ (.int .i64 ((rd_T48 l0 x13_1).f2))).setCell ⟨gb186, 3, none⟩ (.int .i64 ((rd_T48 l0 x13_1).f3))).setCell ⟨gb186, 4, none⟩ (.int .i64 ((rd_T48 l0 x13_1).f4))) := ⟨_, rfl⟩
     have n0_ : Aside0 (w30.heap[gb186]? = some (.cells #[.string ((rd_T48 l0 x13_1).f0), .int .i64 ((rd_T48 l0 x13_1).f1), .int .i64 ((rd_T48 l0 x13_1).f2), .int .i64 ((rd_T48 l0 x13_1).f3), .int .i64 ((rd_T48 l0 x13_1).f4)] 48 (0, 0))) := by rw [e_]; exact ⟨zpb BK186⟩
     have n1_ : Aside0 (Below w.heap.size w w30) := by rw [e_]; exact ⟨zs1 HB GE186⟩
     (try clear BK186)
     (try clear HB)
     rw [← e_]; clear e_
     have BK186 := n0_
     have HB := n1_
     clear n0_ n1_
     replace BK186 := Aside0.mk (blk_drew BK186.out)
     replace HB := Aside0.mk (below_drew1 HB.out)
     refine start_ (n := 55) (S := fun w' => w'.cell? ⟨gb186, 0, none⟩ = some (.string ((rd_T48 l0 x13_1).f0)) ∧ w'.cell? ⟨gb186, 1, none⟩ = some (.int .i64 ((rd_T48 l0 x13_1).f1)) ∧ w'.cell? ⟨gb186, 2, none⟩ = some (.int .i64 ((rd_T48 l0 x13_1).f2)) ∧ w'.cell? ⟨gb186, 3, none⟩ = some (.int .i64 ((rd_T48 l0 x13_1).f3)) ∧ w'.cell? ⟨gb186, 4, none⟩ = some (.int .i64 ((rd_T48 l0 x13_1).f4))) (ds := []) #[false, false, false, false, false, false, false, false, false, false, false, false, false, false, false, false, false, false, false, false, false, false, false, false, false, false, false, false, false, false, false, false, false, false, false, false, false, false, false, false, false, false, false, false, false, false, false, false, false, false, false, false, false, false, false] (by kernel_rfl) rfl rfl ⟨zc0 BK186, zc1 BK186, zc2 BK186, zc3 BK186, zc4 BK186⟩ (fun hHeld => ?_); refine with_tabW impl_HandZonesOk.tab6 impl_HandZonesOk.bits6 (fun HT_ HW_ => ?_)
     generalize w30.drew = w31 at BK186 HB hHeld ⊢
     refine zq HT_ 0 ?_
     refine zk5 HT_ HW_ hHeld 1 ?_
     refine zo HT_ 2 (fun K hK => ?_)
     refine zgo Try.func32 #[.string ((rd_T48 l0 x13_1).f0)] ?_
     with_reducible refine (impl_isName.calls k1 ((rd_T48 l0 x13_1).f0) true _ A10.out).mono ?_
     rintro e w' ⟨rfl, ⟨nd, rfl⟩⟩
     refine ⟨_, rfl, ?_⟩
     refine hK.out _ _ ⟨zc0 BK186, zc1 BK186, zc2 BK186, zc3 BK186, zc4 BK186⟩ (fun hHeld => ?_)
     clear hK K
     refine zN ?_
     refine zq HT_ 3 ?_
     refine zq HT_ 4 ?_
     refine zq HT_ 5 ?_
     refine zk5 HT_ HW_ hHeld 6 ?_
     refine zq HT_ 7 ?_
     refine zq HT_ 8 ?_
     refine zq HT_ 9 ?_
     refine zq HT_ 11 ?_
     refine zk5 HT_ HW_ hHeld 10 ?_
     refine zk5 HT_ HW_ hHeld 12 ?_
     refine zq HT_ 13 ?_
     refine zq HT_ 14 ?_
     refine zq HT_ 15 ?_
     refine zq HT_ 16 ?_
     refine zk5 HT_ HW_ hHeld 17 ?_
     refine zq HT_ 18 ?_
     refine zq HT_ 19 ?_
     refine zq HT_ 20 ?_
     refine zq HT_ 21 ?_
     refine zq HT_ 22 ?_
     refine zq HT_ 23 ?_
     refine zk5 HT_ HW_ hHeld 24 ?_
     refine zq HT_ 25 ?_
     refine zq HT_ 26 ?_
     refine zu HT_ 27 ?_
     refine zu HT_ 28 ?_
     refine zu HT_ 29 ?_
     refine zu HT_ 30 ?_
     refine zu HT_ 31 ?_
     refine zq HT_ 32 ?_
     refine zq HT_ 33 ?_
     refine zu HT_ 34 ?_
     refine zu HT_ 35 ?_
     refine zu HT_ 36 ?_
     refine zq HT_ 37 ?_
     refine zq HT_ 38 ?_
     refine zq HT_ 39 ?_
     refine zq HT_ 40 ?_
     refine zu HT_ 41 ?_
     refine zu HT_ 42 ?_
     refine zu HT_ 43 ?_
     refine zu HT_ 44 ?_
     refine zu HT_ 45 ?_
     refine zu HT_ 46 ?_
     refine zu HT_ 47 ?_
     refine zu HT_ 48 ?_
     refine zu HT_ 49 ?_
     refine zu HT_ 50 ?_
     refine zu HT_ 51 ?_
     refine zu HT_ 52 ?_
     refine zu HT_ 53 ?_
     refine zq HT_ 54 ?_
     refine done_ (done_of HT_.out (by kernel_rfl)) ?_
     try go_wp2
     go_meet
     case rel => exact ⟨_, (true), zi, H', ⟨by have := HK1.out; first | omega | exact Nat.le_refl _⟩, ⟨zh BK186⟩, ⟨zs1 HB GE186⟩⟩
    rw [if_pos c15] at H
    have c15b0 : decide (0 ≤ ((rd_T48 l0 x13_1).f2)) = true := decide_eq_true c15
    clear c15
    by_cases c16 : ((rd_T48 l0 x13_1).f2) ≤ ((rd_T48 l0 x13_1).f4)
    rotate_left
    ·rw [if_neg c16] at H
     have c16b0 : decide (((rd_T48 l0 x13_1).f2) ≤ ((rd_T48 l0 x13_1).f4)) = false := decide_eq_false c16
     clear c16
     have H' := Aside0.mk H
     clear H
     try go_wp2
     obtain ⟨w28, e_⟩ : ∃ x, x = (((((w8.setCell ⟨gb186, 0, none⟩ (.string ((rd_T48 l0 x13_1).f0))).setCell ⟨gb186, 1, none⟩ (.int .i64 ((rd_T48 l0 x13_1).f1))).setCell ⟨gb186, 2, none⟩ (.int .i64 ((rd_T48 l0 x13_1).f2))).setCell ⟨gb186, 3, none⟩ (.int .i64 ((rd_T48 l0 x13_1).f3))).setCell ⟨gb186, 4, none⟩ (.int .i64 ((rd_T48 l0 x13_1).f4))) := ⟨_, rfl⟩
     have n0_ : Aside0 (w28.heap[gb186]? = some (.cells #[.string ((rd_T48 l0 x13_1).f0), .int .i64 ((rd_T48 l0 x13_1).f1), .int .i64 ((rd_T48 l0 x13_1).f2), .int .i64 ((rd_T48 l0 x13_1).f3), .int .i64 ((rd_T48 l0 x13_1).f4)] 48 (0, 0))) := by rw [e_]; exact ⟨zpb BK186⟩
     have n1_ : Aside0 (Below w.heap.size w w28) := by rw [e_]; exact ⟨zs1 HB GE186⟩
     (try clear BK186)
     (try clear HB)
     rw [← e_]; clear e_
     have BK186 := n0_
     have HB := n1_
     clear n0_ n1_
     replace BK186 := Aside0.mk (blk_drew BK186.out)
     replace HB := Aside0.mk (below_drew1 HB.out)
     refine start_ (n := 55) (S := fun w' => w'.cell? ⟨gb186, 0, none⟩ = some (.string ((rd_T48 l0 x13_1).f0)) ∧ w'.cell? ⟨gb186, 1, none⟩ = some (.int .i64 ((rd_T48 l0 x13_1).f1)) ∧ w'.cell? ⟨gb186, 2, none⟩ = some (.int .i64 ((rd_T48 l0 x13_1).f2)) ∧ w'.cell? ⟨gb186, 3, none⟩ = some (.int .i64 ((rd_T48 l0 x13_1).f3)) ∧ w'.cell? ⟨gb186, 4, none⟩ = some (.int .i64 ((rd_T48 l0 x13_1).f4))) (ds := []) #[false, false, false, false, false, false, false, false, false, false, false, false, false, false, false, false, false, false, false, false, false, false, false, false, false, false, false, false, false, false, false, false, false, false, false, false, false, false, false, false, false, false, false, false, false, false, false, false, false, false, false, false, false, false, false] (by kernel_rfl) rfl rfl ⟨zc0 BK186, zc1 BK186, zc2 BK186, zc3 BK186, zc4 BK186⟩ (fun hHeld => ?_); refine with_tabW impl_HandZonesOk.tab6 impl_HandZonesOk.bits6 (fun HT_ HW_ => ?_)
     generalize w28.drew = w29 at BK186 HB hHeld ⊢
     refine zq HT_ 0 ?_
     refine zk5 HT_ HW_ hHeld 1 ?_
     refine zo HT_ 2 (fun K hK => ?_)
     refine zgo Try.func32 #[.string ((rd_T48 l0 x13_1).f0)] ?_
     with_reducible refine (impl_isName.calls k1 ((rd_T48 l0 x13_1).f0) true _ A10.out).mono ?_
     rintro e w' ⟨rfl, ⟨nd, rfl⟩⟩
     refine ⟨_, rfl, ?_⟩
     refine hK.out _ _ ⟨zc0 BK186, zc1 BK186, zc2 BK186, zc3 BK186, zc4 BK186⟩ (fun hHeld => ?_)
     clear hK K
     refine zN ?_
     refine zq HT_ 3 ?_
     refine zq HT_ 4 ?_
     refine zq HT_ 5 ?_
     refine zk5 HT_ HW_ hHeld 6 ?_
     refine zq HT_ 7 ?_
     refine zq HT_ 8 ?_
     refine zq HT_ 9 ?_
     refine zq HT_ 11 ?_
     refine zk5 HT_ HW_ hHeld 10 ?_
     refine zk5 HT_ HW_ hHeld 12 ?_
     refine zq HT_ 13 ?_
     refine zq HT_ 14 ?_
     refine zq HT_ 15 ?_
     refine zq HT_ 16 ?_
     refine zk5 HT_ HW_ hHeld 17 ?_
     refine zq HT_ 18 ?_
     refine zq HT_ 19 ?_
     refine zq HT_ 20 ?_
     refine zq HT_ 21 ?_
     refine zq HT_ 22 ?_
     refine zq HT_ 23 ?_
     refine zk5 HT_ HW_ hHeld 24 ?_
     refine zq HT_ 25 ?_
     refine zq HT_ 26 ?_
     refine zq HT_ 27 ?_
     refine zq HT_ 29 ?_
     refine zk5 HT_ HW_ hHeld 28 ?_
     refine zk5 HT_ HW_ hHeld 30 ?_
     refine zq HT_ 31 ?_
     refine zq HT_ 32 ?_
     refine zq HT_ 33 ?_
     refine zu HT_ 34 ?_
     refine zu HT_ 35 ?_
     refine zu HT_ 36 ?_
     refine zq HT_ 37 ?_
     refine zq HT_ 38 ?_
     refine zq HT_ 39 ?_
     refine zq HT_ 40 ?_
     refine zu HT_ 41 ?_
     refine zu HT_ 42 ?_
     refine zu HT_ 43 ?_
     refine zu HT_ 44 ?_
     refine zu HT_ 45 ?_
     refine zu HT_ 46 ?_
     refine zu HT_ 47 ?_
     refine zu HT_ 48 ?_
     refine zu HT_ 49 ?_
     refine zu HT_ 50 ?_
     refine zu HT_ 51 ?_
     refine zu HT_ 52 ?_
     refine zu HT_ 53 ?_
     refine zq HT_ 54 ?_
     refine done_ (done_of HT_.out (by kernel_rfl)) ?_
     try go_wp2
     go_meet
     case rel => exact ⟨_, (true), zi, H', ⟨by have := HK1.out; first | omega | exact Nat.le_refl _⟩, ⟨zh BK186⟩, ⟨zs1 HB GE186⟩⟩
    rw [if_pos c16] at H
    have c16b0 : decide (((rd_T48 l0 x13_1).f2) ≤ ((rd_T48 l0 x13_1).f4)) = true := decide_eq_true c16
    clear c16
    by_cases c17 : (((rd_T48 l0 x13_1).f4) < 16)
    rotate_left
    ·rw [if_neg c17] at H
     have c17b0 : decide (((rd_T48 l0 x13_1).f4) < 16) = false := decide_eq_false c17
     clear c17
     have H' := Aside0.mk H
     clear H
     try go_wp2
     obtain ⟨w26, e_⟩ : ∃ x, x = (((((w8.setCell ⟨gb186, 0, none⟩ (.string ((rd_T48 l0 x13_1).f0))).setCell ⟨gb186, 1, none⟩ (.int .i64 ((rd_T48 l0 x13_1).f1))).setCell ⟨gb186, 2, none⟩ (.int .i64 ((rd_T48 l0 x13_1).f2))).setCell ⟨gb186, 3, none⟩ (.int .i64 ((rd_T48 l0 x13_1).f3))).setCell ⟨gb186, 4, none⟩ (.int .i64 ((rd_T48 l0 x13_1).f4))) := ⟨_, rfl⟩
     have n0_ : Aside0 (w26.heap[gb186]? = some (.cells #[.string ((rd_T48 l0 x13_1).f0), .int .i64 ((rd_T48 l0 x13_1).f1), .int .i64 ((rd_T48 l0 x13_1).f2), .int .i64 ((rd_T48 l0 x13_1).f3), .int .i64 ((rd_T48 l0 x13_1).f4)] 48 (0, 0))) := by rw [e_]; exact ⟨zpb BK186⟩
     have n1_ : Aside0 (Below w.heap.size w w26) := by rw [e_]; exact ⟨zs1 HB GE186⟩
     (try clear BK186)
     (try clear HB)
     rw [← e_]; clear e_
     have BK186 := n0_
     have HB := n1_
     clear n0_ n1_
     replace BK186 := Aside0.mk (blk_drew BK186.out)
     replace HB := Aside0.mk (below_drew1 HB.out)
     refine start_ (n := 55) (S := fun w' => w'.cell? ⟨gb186, 0, none⟩ = some (.string ((rd_T48 l0 x13_1).f0)) ∧ w'.cell? ⟨gb186, 1, none⟩ = some (.int .i64 ((rd_T48 l0 x13_1).f1)) ∧ w'.cell? ⟨gb186, 2, none⟩ = some (.int .i64 ((rd_T48 l0 x13_1).f2)) ∧ w'.cell? ⟨gb186, 3, none⟩ = some (.int .i64 ((rd_T48 l0 x13_1).f3)) ∧ w'.cell? ⟨gb186, 4, none⟩ = some (.int .i64 ((rd_T48 l0 x13_1).f4))) (ds := []) #[false, false, false, false, false, false, false, false, false, false, false, false, false, false, false, false, false, false, false, false, false, false, false, false, false, false, false, false, false, false, false, false, false, false, false, false, false, false, false, false, false, false, false, false, false, false, false, false, false, false, false, false, false, false, false] (by kernel_rfl) rfl rfl ⟨zc0 BK186, zc1 BK186, zc2 BK186, zc3 BK186, zc4 BK186⟩ (fun hHeld => ?_); refine with_tabW impl_HandZonesOk.tab6 impl_HandZonesOk.bits6 (fun HT_ HW_ => ?_)
     generalize w26.drew = w27 at BK186 HB hHeld ⊢
     refine zq HT_ 0 ?_
     refine zk5 HT_ HW_ hHeld 1 ?_
     refine zo HT_ 2 (fun K hK => ?_)
     refine zgo Try.func32 #[.string ((rd_T48 l0 x13_1).f0)] ?_
     with_reducible refine (impl_isName.calls k1 ((rd_T48 l0 x13_1).f0) true _ A10.out).mono ?_
     rintro e w' ⟨rfl, ⟨nd, rfl⟩⟩
     refine ⟨_, rfl, ?_⟩
     refine hK.out _ _ ⟨zc0 BK186, zc1 BK186, zc2 BK186, zc3 BK186, zc4 BK186⟩ (fun hHeld => ?_)
     clear hK K
     refine zN ?_
     refine zq HT_ 3 ?_
     refine zq HT_ 4 ?_
     refine zq HT_ 5 ?_
     refine zk5 HT_ HW_ hHeld 6 ?_
     refine zq HT_ 7 ?_
     refine zq HT_ 8 ?_
     refine zq HT_ 9 ?_
     refine zq HT_ 11 ?_
     refine zk5 HT_ HW_ hHeld 10 ?_
     refine zk5 HT_ HW_ hHeld 12 ?_
     refine zq HT_ 13 ?_
     refine zq HT_ 14 ?_
     refine zq HT_ 15 ?_
     refine zq HT_ 16 ?_
     refine zk5 HT_ HW_ hHeld 17 ?_
     refine zq HT_ 18 ?_
     refine zq HT_ 19 ?_
     refine zq HT_ 20 ?_
     refine zq HT_ 21 ?_
     refine zq HT_ 22 ?_
     refine zq HT_ 23 ?_
     refine zk5 HT_ HW_ hHeld 24 ?_
     refine zq HT_ 25 ?_
     refine zq HT_ 26 ?_
     refine zq HT_ 27 ?_
     refine zq HT_ 29 ?_
     refine zk5 HT_ HW_ hHeld 28 ?_
     refine zk5 HT_ HW_ hHeld 30 ?_
     refine zq HT_ 31 ?_
     refine zq HT_ 32 ?_
     refine zq HT_ 33 ?_
     refine zq HT_ 34 ?_
     refine zk5 HT_ HW_ hHeld 35 ?_
     refine zq HT_ 36 ?_
     refine zq HT_ 37 ?_
     refine zq HT_ 38 ?_
     refine zq HT_ 39 ?_
     refine zq HT_ 40 ?_
     refine zu HT_ 41 ?_
     refine zu HT_ 42 ?_
     refine zu HT_ 43 ?_
     refine zu HT_ 44 ?_
     refine zu HT_ 45 ?_
     refine zu HT_ 46 ?_
     refine zu HT_ 47 ?_
     refine zu HT_ 48 ?_
     refine zu HT_ 49 ?_
     refine zu HT_ 50 ?_
     refine zu HT_ 51 ?_
     refine zu HT_ 52 ?_
     refine zu HT_ 53 ?_
     refine zq HT_ 54 ?_
     refine done_ (done_of HT_.out (by kernel_rfl)) ?_
     try go_wp2
     go_meet
     case rel => exact ⟨_, (true), zi, H', ⟨by have := HK1.out; first | omega | exact Nat.le_refl _⟩, ⟨zh BK186⟩, ⟨zs1 HB GE186⟩⟩
    rw [if_pos c17] at H
    have c17b0 : decide (((rd_T48 l0 x13_1).f4) < 16) = true := decide_eq_true c17
    clear c17
    by_cases c18 : x13_1 > 0
    rotate_left
    ·rw [if_neg c18] at H
     have c18b0 : decide (0 < x13_1) = false := decide_eq_false c18
     clear c18
     have H' := Aside0.mk H
     clear H
     try go_wp2
     obtain ⟨w24, e_⟩ : ∃ x, x = (((((w8.setCell ⟨gb186, 0, none⟩ (.string ((rd_T48 l0 x13_1).f0))).setCell ⟨gb186, 1, none⟩ (.int .i64 ((rd_T48 l0 x13_1).f1))).setCell ⟨gb186, 2, none⟩ (.int .i64 ((rd_T48 l0 x13_1).f2))).setCell ⟨gb186, 3, none⟩ (.int .i64 ((rd_T48 l0 x13_1).f3))).setCell ⟨gb186, 4, none⟩ (.int .i64 ((rd_T48 l0 x13_1).f4))) := ⟨_, rfl⟩
     have n0_ : Aside0 (w24.heap[gb186]? = some (.cells #[.string ((rd_T48 l0 x13_1).f0), .int .i64 ((rd_T48 l0 x13_1).f1), .int .i64 ((rd_T48 l0 x13_1).f2), .int .i64 ((rd_T48 l0 x13_1).f3), .int .i64 ((rd_T48 l0 x13_1).f4)] 48 (0, 0))) := by rw [e_]; exact ⟨zpb BK186⟩
     have n1_ : Aside0 (Below w.heap.size w w24) := by rw [e_]; exact ⟨zs1 HB GE186⟩
     (try clear BK186)
     (try clear HB)
     rw [← e_]; clear e_
     have BK186 := n0_
     have HB := n1_
     clear n0_ n1_
     replace BK186 := Aside0.mk (blk_drew BK186.out)
     replace HB := Aside0.mk (below_drew1 HB.out)
     refine start_ (n := 55) (S := fun w' => w'.cell? ⟨gb186, 0, none⟩ = some (.string ((rd_T48 l0 x13_1).f0)) ∧ w'.cell? ⟨gb186, 1, none⟩ = some (.int .i64 ((rd_T48 l0 x13_1).f1)) ∧ w'.cell? ⟨gb186, 2, none⟩ = some (.int .i64 ((rd_T48 l0 x13_1).f2)) ∧ w'.cell? ⟨gb186, 3, none⟩ = some (.int .i64 ((rd_T48 l0 x13_1).f3)) ∧ w'.cell? ⟨gb186, 4, none⟩ = some (.int .i64 ((rd_T48 l0 x13_1).f4))) (ds := []) #[false, false, false, false, false, false, false, false, false, false, false, false, false, false, false, false, false, false, false, false, false, false, false, false, false, false, false, false, false, false, false, false, false, false, false, false, false, false, false, false, false, false, false, false, false, false, false, false, false, false, false, false, false, false, false] (by kernel_rfl) rfl rfl ⟨zc0 BK186, zc1 BK186, zc2 BK186, zc3 BK186, zc4 BK186⟩ (fun hHeld => ?_); refine with_tabW impl_HandZonesOk.tab6 impl_HandZonesOk.bits6 (fun HT_ HW_ => ?_)
     generalize w24.drew = w25 at BK186 HB hHeld ⊢
     refine zq HT_ 0 ?_
     refine zk5 HT_ HW_ hHeld 1 ?_
     refine zo HT_ 2 (fun K hK => ?_)
     refine zgo Try.func32 #[.string ((rd_T48 l0 x13_1).f0)] ?_
     with_reducible refine (impl_isName.calls k1 ((rd_T48 l0 x13_1).f0) true _ A10.out).mono ?_
     rintro e w' ⟨rfl, ⟨nd, rfl⟩⟩
     refine ⟨_, rfl, ?_⟩
     refine hK.out _ _ ⟨zc0 BK186, zc1 BK186, zc2 BK186, zc3 BK186, zc4 BK186⟩ (fun hHeld => ?_)
     clear hK K
     refine zN ?_
     refine zq HT_ 3 ?_
     refine zq HT_ 4 ?_
     refine zq HT_ 5 ?_
     refine zk5 HT_ HW_ hHeld 6 ?_
     refine zq HT_ 7 ?_
     refine zq HT_ 8 ?_
     refine zq HT_ 9 ?_
     refine zq HT_ 11 ?_
     refine zk5 HT_ HW_ hHeld 10 ?_
     refine zk5 HT_ HW_ hHeld 12 ?_
     refine zq HT_ 13 ?_
     refine zq HT_ 14 ?_
     refine zq HT_ 15 ?_
     refine zq HT_ 16 ?_
     refine zk5 HT_ HW_ hHeld 17 ?_
     refine zq HT_ 18 ?_
     refine zq HT_ 19 ?_
     refine zq HT_ 20 ?_
     refine zq HT_ 21 ?_
     refine zq HT_ 22 ?_
     refine zq HT_ 23 ?_
     refine zk5 HT_ HW_ hHeld 24 ?_
     refine zq HT_ 25 ?_
     refine zq HT_ 26 ?_
     refine zq HT_ 27 ?_
     refine zq HT_ 29 ?_
     refine zk5 HT_ HW_ hHeld 28 ?_
     refine zk5 HT_ HW_ hHeld 30 ?_
     refine zq HT_ 31 ?_
     refine zq HT_ 32 ?_
     refine zq HT_ 33 ?_
     refine zq HT_ 34 ?_
     refine zk5 HT_ HW_ hHeld 35 ?_
     refine zq HT_ 36 ?_
     refine zq HT_ 37 ?_
     refine zq HT_ 38 ?_
     refine zq HT_ 39 ?_
     refine zq HT_ 40 ?_
     refine zq HT_ 41 ?_
     refine zq HT_ 42 ?_
     refine zq HT_ 43 ?_
     refine zu HT_ 44 ?_
     refine zu HT_ 45 ?_
     refine zu HT_ 46 ?_
     refine zu HT_ 47 ?_
     refine zu HT_ 48 ?_
     refine zu HT_ 49 ?_
     refine zu HT_ 50 ?_
     refine zu HT_ 51 ?_
     refine zu HT_ 52 ?_
     refine zq HT_ 53 ?_
     refine zq HT_ 54 ?_
     refine done_ (done_of HT_.out (by kernel_rfl)) ?_
     try go_wp2
     go_meet
     case rel => exact ⟨_, (false), zi, H', ⟨by have := HK1.out; first | omega | exact Nat.le_refl _⟩, ⟨zh BK186⟩, ⟨zs1 HB GE186⟩⟩
    rw [if_pos c18] at H
    have c18b0 : decide (0 < x13_1) = true := decide_eq_true c18
    clear c18
    obtain ⟨ji19, hji19⟩ : ∃ j_ : Int, (wrap64 (x13_1 - 1)) = j_ := ⟨_, rfl⟩
    first | rw [hji19] at H | simp only [hji19] at H
    (try rw [hji19] at A10)
    have hji19w : (IntKind.i64.wrap (x13_1 - 1)) = ji19 := (i64_w _).trans hji19
    by_cases c20 : 0 ≤ (ji19)
    rotate_left
    ·rw [if_neg c20] at H
     exact absurd H (by simp)
    rw [if_pos c20] at H
    have c20b0 : decide (0 ≤ (ji19)) = true := decide_eq_true c20
    clear c20
    by_cases c21 : (ji19) < (l0.length : Int)
    rotate_left
    ·rw [if_neg c21] at H
     exact absurd H (by simp)
    rw [if_pos c21] at H
    have c21b0 : decide ((ji19) < (l0.length : Int)) = true := decide_eq_true c21
    clear c21
    have H' := Aside0.mk H
    clear H
    try go_wp2
    obtain ⟨w22, e_⟩ : ∃ x, x = (((((w8.setCell ⟨gb186, 0, none⟩ (.string ((rd_T48 l0 x13_1).f0))).setCell ⟨gb186, 1, none⟩ (.int .i64 ((rd_T48 l0 x13_1).f1))).setCell ⟨gb186, 2, none⟩ (.int .i64 ((rd_T48 l0 x13_1).f2))).setCell ⟨gb186, 3, none⟩ (.int .i64 ((rd_T48 l0 x13_1).f3))).setCell ⟨gb186, 4, none⟩ (.int .i64 ((rd_T48 l0 x13_1).f4))) := ⟨_, rfl⟩
    have n0_ : Aside0 (w22.heap[gb186]? = some (.cells #[.string ((rd_T48 l0 x13_1).f0), .int .i64 ((rd_T48 l0 x13_1).f1), .int .i64 ((rd_T48 l0 x13_1).f2), .int .i64 ((rd_T48 l0 x13_1).f3), .int .i64 ((rd_T48 l0 x13_1).f4)] 48 (0, 0))) := by rw [e_]; exact ⟨zpb BK186⟩
    have n1_ : Aside0 (Below w.heap.size w w22) := by rw [e_]; exact ⟨zs1 HB GE186⟩
    (try clear BK186)
    (try clear HB)
    rw [← e_]; clear e_
    have BK186 := n0_
    have HB := n1_
    clear n0_ n1_
    replace BK186 := Aside0.mk (blk_drew BK186.out)
    replace HB := Aside0.mk (below_drew1 HB.out)
    have p188 : 0 ≤ ((ji19) : Int) := za
    have q188 : (ji19) < (l0.length : Int) := za
    obtain ⟨ad188, e188, hx188_0, hx188_1, hx188_2, hx188_3, hx188_4⟩ := at_T48 HR0.out (ji19) p188 q188
    have hw188_4 := hx188_4
    have hw188_3 := hx188_3
    have hw188_2 := hx188_2
    have hw188_1 := hx188_1
    have hw188_0 := hx188_0
    obtain rfl : ad185 = ad188 := (by injection e188)
    replace hx188_0 := zx HB hx188_0
    replace hx188_1 := zx HB hx188_1
    replace hx188_2 := zx HB hx188_2
    replace hx188_3 := zx HB hx188_3
    replace hx188_4 := zx HB hx188_4
    replace p188 := eq_true p188
    replace q188 := eq_true q188
    refine start_ (n := 55) (S := fun w' => w'.cell? ⟨gb186, 0, none⟩ = some (.string ((rd_T48 l0 x13_1).f0)) ∧ w'.cell? ⟨gb186, 1, none⟩ = some (.int .i64 ((rd_T48 l0 x13_1).f1)) ∧ w'.cell? ⟨gb186, 2, none⟩ = some (.int .i64 ((rd_T48 l0 x13_1).f2)) ∧ w'.cell? ⟨gb186, 3, none⟩ = some (.int .i64 ((rd_T48 l0 x13_1).f3)) ∧ w'.cell? ⟨gb186, 4, none⟩ = some (.int .i64 ((rd_T48 l0 x13_1).f4)) ∧ w'.cell? (ad185.add (((ji19)).toNat * 5)) = some (.string ((rd_T48 l0 (ji19)).f0)) ∧ w'.cell? ⟨(ad185.add (((ji19)).toNat * 5)).block, (ad185.add (((ji19)).toNat * 5)).off + 1, none⟩ = some (.int .i64 ((rd_T48 l0 (ji19)).f1)) ∧ w'.cell? ⟨(ad185.add (((ji19)).toNat * 5)).block, (ad185.add (((ji19)).toNat * 5)).off + 2, none⟩ = some (.int .i64 ((rd_T48 l0 (ji19)).f2)) ∧ w'.cell? ⟨(ad185.add (((ji19)).toNat * 5)).block, (ad185.add (((ji19)).toNat * 5)).off + 3, none⟩ = some (.int .i64 ((rd_T48 l0 (ji19)).f3)) ∧ w'.cell? ⟨(ad185.add (((ji19)).toNat * 5)).block, (ad185.add (((ji19)).toNat * 5)).off + 4, none⟩ = some (.int .i64 ((rd_T48 l0 (ji19)).f4))) (ds := []) #[false, false, false, false, false, false, false, false, false, false, false, false, false, false, false, false, false, false, false, false, false, false, false, false, false, false, false, false, false, false, false, false, false, false, false, false, false, false, false, false, false, false, false, false, false, false, false, false, false, false, false, false, false, false, false] (by kernel_rfl) rfl rfl ⟨zc0 BK186, zc1 BK186, zc2 BK186, zc3 BK186, zc4 BK186, (zw HB hw188_0), (zw HB hw188_1), (zw HB hw188_2), (zw HB hw188_3), (zw HB hw188_4)⟩ (fun hHeld => ?_); refine with_tabW impl_HandZonesOk.tab6 impl_HandZonesOk.bits6 (fun HT_ HW_ => ?_)
    generalize w22.drew = w23 at BK186 HB hx188_0 hx188_1 hx188_2 hx188_3 hx188_4 hHeld ⊢
    refine zq HT_ 0 ?_
    refine zk10 HT_ HW_ hHeld 1 ?_
    refine zo HT_ 2 (fun K hK => ?_)
    refine zgo Try.func32 #[.string ((rd_T48 l0 x13_1).f0)] ?_
    with_reducible refine (impl_isName.calls k1 ((rd_T48 l0 x13_1).f0) true _ A10.out).mono ?_
    rintro e w' ⟨rfl, ⟨nd, rfl⟩⟩
    refine ⟨_, rfl, ?_⟩
    refine hK.out _ _ ⟨zc0 BK186, zc1 BK186, zc2 BK186, zc3 BK186, zc4 BK186, (zw HB hw188_0), (zw HB hw188_1), (zw HB hw188_2), (zw HB hw188_3), (zw HB hw188_4)⟩ (fun hHeld => ?_)
    clear hK K
    refine zN ?_
    refine zq HT_ 3 ?_
    refine zq HT_ 4 ?_
    refine zq HT_ 5 ?_
    refine zk10 HT_ HW_ hHeld 6 ?_
    refine zq HT_ 7 ?_
    refine zq HT_ 8 ?_
    refine zq HT_ 9 ?_
    refine zq HT_ 11 ?_
    refine zk10 HT_ HW_ hHeld 10 ?_
    refine zk10 HT_ HW_ hHeld 12 ?_
    refine zq HT_ 13 ?_
    refine zq HT_ 14 ?_
    refine zq HT_ 15 ?_
    refine zq HT_ 16 ?_
    refine zk10 HT_ HW_ hHeld 17 ?_
    refine zq HT_ 18 ?_
    refine zq HT_ 19 ?_
    refine zq HT_ 20 ?_
    refine zq HT_ 21 ?_
    refine zq HT_ 22 ?_
    refine zq HT_ 23 ?_
    refine zk10 HT_ HW_ hHeld 24 ?_
    refine zq HT_ 25 ?_
    refine zq HT_ 26 ?_
    refine zq HT_ 27 ?_
    refine zq HT_ 29 ?_
    refine zk10 HT_ HW_ hHeld 28 ?_
    refine zk10 HT_ HW_ hHeld 30 ?_
    refine zq HT_ 31 ?_
    refine zq HT_ 32 ?_
    refine zq HT_ 33 ?_
    refine zq HT_ 34 ?_
    refine zk10 HT_ HW_ hHeld 35 ?_
    refine zq HT_ 36 ?_
    refine zq HT_ 37 ?_
    refine zq HT_ 38 ?_
    refine zq HT_ 39 ?_
    refine zq HT_ 40 ?_
    refine zq HT_ 41 ?_
    refine zq HT_ 42 ?_
    refine zq HT_ 43 ?_
    refine zq HT_ 44 ?_
    refine zq HT_ 46 ?_
    refine zq HT_ 47 ?_
    refine zq HT_ 48 ?_
    refine zq HT_ 49 ?_
    refine zq HT_ 50 ?_
    refine zk10 HT_ HW_ hHeld 45 ?_
    refine zk10 HT_ HW_ hHeld 51 ?_
    refine zq HT_ 52 ?_
    refine zq HT_ 53 ?_
    refine zq HT_ 54 ?_
    refine done_ (done_of HT_.out (by kernel_rfl)) ?_
    try go_wp2
    go_meet
    case rel => exact ⟨_, (!(Op.bytesLess (((rd_T48 l0 (ji19)).f0).toList) (((rd_T48 l0 x13_1).f0).toList))), (by first | rfl | (simp; done) | (simp only [← hji19] <;> (first | rfl | exact congrArg Value.bool (leq_not _ _) | exact leq_not _ _ | simp)) | (simp [*]; done)), H', ⟨by have := HK1.out; first | omega | exact Nat.le_refl _⟩, ⟨zh BK186⟩, ⟨zs1 HB GE186⟩⟩
   case rest =>
    clear HC7
    try clear c1
    try clear p2
    try clear c3
    try clear c11
    try clear c32
    obtain ⟨kq, x72_6, rfl, HA, HJ6, BK186, HB⟩ := hcut
    cases kq with
    | zero => exact absurd HA.out (by simp [impl_HandZonesOk.j1])
    | succ kj6 =>
     have H := HA.out
     clear HA
     simp only [impl_HandZonesOk.j1] at H
     by_cases c40 : x72_6 = true
     ·subst c40
      have H1 : (some false) = some r := by rw [if_pos rfl] at H; exact H
      clear H
      have H := H1
      clear H1
      obtain rfl := Option.some.inj H
      go_wp2
      go_ret
      exact ⟨ze, zs1 HB GE186⟩
     replace c40 := Bool.eq_false_iff.mpr c40
     subst c40
     have H1 : (if 0 ≤ x13_1 then (if x13_1 ≤ (l0.length : Int) then ((some (l0.take (x13_1 : Int).toNat : List (S48))).bind fun y189 => (impl_HandZonesOk.l1 kj6 l0 l0 (l0.length : Int) x13_1 y189 (y189.length : Int) 0 ((rd_T48 l0 x13_1).f0) ((rd_T48 l0 x13_1).f1) ((rd_T48 l0 x13_1).f2) ((rd_T48 l0 x13_1).f3) ((rd_T48 l0 x13_1).f4))) else (none)) else (none)) = some r := by rw [if_neg (show ¬ (false = true) by decide)] at H; exact H
     clear H
     have H := H1
     clear H1
     by_cases c41 : 0 ≤ x13_1
     rotate_left
     ·rw [if_neg c41] at H
      exact absurd H (by simp)
     rw [if_pos c41] at H
     have c41b0 := eq_true c41
     have c41b1 : decide (0 ≤ x13_1) = true := decide_eq_true c41
     clear c41
     by_cases c42 : x13_1 ≤ (l0.length : Int)
     rotate_left
     ·rw [if_neg c42] at H
      exact absurd H (by simp)
     rw [if_pos c42] at H
     have c42b0 := eq_true c42
     have c42b1 : decide (x13_1 ≤ (l0.length : Int)) = true := decide_eq_true c42
     clear c42
     obtain ⟨y189, hy189⟩ : ∃ y_ : List (S48), y_ = (l0.take (x13_1 : Int).toNat) := ⟨_, rfl⟩
     replace H : (impl_HandZonesOk.l1 kj6 l0 l0 (l0.length : Int) x13_1 y189 (y189.length : Int) 0 ((rd_T48 l0 x13_1).f0) ((rd_T48 l0 x13_1).f1) ((rd_T48 l0 x13_1).f2) ((rd_T48 l0 x13_1).f3) ((rd_T48 l0 x13_1).f4)) = some r := by first | (rw [hy189]; with_reducible exact H) | (have H2_ := (Option.bind_some _ _).symm.trans H; rw [hy189]; with_reducible exact H2_) | (have H2_ := (Option.bind_some _ _).symm.trans H; with_reducible exact H2_) | with_reducible exact H | (rw [hy189]; exact H) | exact H
     have Ny189 := Aside0.mk hy189
     clear hy189
     have H' := Aside0.mk H
     clear H
     have q43 : (x13_1 : Int) ≤ ((l0.length : Int) : Int) := za
     obtain ⟨i043, hi043, _, hsz43, _⟩ := info_parts info48
     have hroom43 : l0.length ≤ c0 := HC0.out
     have hC43 : Kd.C k48 _ (some ad185) l0.length l0 := HR0.out
     have hcut43 := cut_to (P := Try.prog) 29 48 .i64 Try.underlying29 hi043 (some ad185) l0.length c0 x13_1 (za) q43 hroom43
     have hr43 := Kd.C_take (m := (x13_1 : Int).toNat) hC43 (by omega)
     have hy43 : y189.length = (x13_1 : Int).toNat := (by rw [Ny189.out, List.length_take]; omega)
     rw [← Ny189.out] at hr43
     rw [← hy43] at hcut43
     have HR192 := Aside0.mk hr43
     have HC192 := Aside0.mk (show y189.length ≤ c0 from by omega)
     clear hr43 hC43 hroom43 hi043 hsz43
     have KY43 := Aside0.mk hy43
     clear hy43
     replace q43 := eq_true q43
     go_wp2
     go_loopg [77] kj6 (fun kq v77 w' => ∃ (x77_3 : Int), v77 = .int .i64 x77_3 ∧ Aside0 (impl_HandZonesOk.l1 kq l0 l0 (l0.length : Int) x13_1 y189 (y189.length : Int) x77_3 ((rd_T48 l0 x13_1).f0) ((rd_T48 l0 x13_1).f1) ((rd_T48 l0 x13_1).f2) ((rd_T48 l0 x13_1).f3) ((rd_T48 l0 x13_1).f4) = some r) ∧ Aside0 (kq ≤ kj6) ∧ Aside0 (w'.heap[gb186]? = some (.cells #[.string ((rd_T48 l0 x13_1).f0), .int .i64 ((rd_T48 l0 x13_1).f1), .int .i64 ((rd_T48 l0 x13_1).f2), .int .i64 ((rd_T48 l0 x13_1).f3), .int .i64 ((rd_T48 l0 x13_1).f4)] 48 (0, 0))) ∧ Aside0 (Below w.heap.size w w'))
     case atStart => exact ⟨(0), zi, H', ⟨Nat.le_refl _⟩, ⟨zh BK186⟩, ⟨zs1 HB GE186⟩⟩
     case round =>
      clear H'
      try clear c1
      try clear p2
      try clear c3
      try clear c4
      try clear q4
      try clear c11
      try clear c32
      try clear c40
      try clear c41
      try clear c41b0
      try clear c41b1
      try clear c42
      try clear c42b0
      try clear c42b1
      try clear q43
      try clear p2
      try clear q43
      obtain ⟨x77_3, rfl, HA, HK3, BK186, HB⟩ := hrel
      cases gk with
      | zero => exact absurd HA.out (by simp [impl_HandZonesOk.l1])
      | succ k3 =>
       have H := HA.out
       clear HA
       simp only [impl_HandZonesOk.l1] at H
       by_cases c44 : x77_3 < (y189.length : Int)
       rotate_left
       ·rw [if_neg c44] at H
        have c44b0 : decide (x77_3 < (y189.length : Int)) = false := decide_eq_false c44
        clear c44
        have H' := Aside0.mk H
        clear H
        go_wp2
        go_roundg k3
        case measure => have := HK1.out; have := HJ6.out; have := HK3.out; omega
        case rel => exact ⟨(wrap64 (x13_1 + 1)), zi, H', ⟨by have := HK1.out; have := HJ6.out; have := HK3.out; omega⟩, ⟨zs1 HB GE186⟩⟩
       rw [if_pos c44] at H
       have c44b0 : decide (x77_3 < (y189.length : Int)) = true := decide_eq_true c44
       clear c44
       by_cases c45 : 0 ≤ x77_3
       rotate_left
       ·rw [if_neg c45] at H
        exact absurd H (by simp)
       rw [if_pos c45] at H
       have c45b0 : decide (0 ≤ x77_3) = true := decide_eq_true c45
       clear c45
       by_cases c46 : x77_3 < (y189.length : Int)
       rotate_left
       ·rw [if_neg c46] at H
        exact absurd H (by simp)
       rw [if_pos c46] at H
       have c46b0 : decide (x77_3 < (y189.length : Int)) = true := decide_eq_true c46
       clear c46
       by_cases c47 : ((rd_T48 y189 x77_3).f1) ≤ ((rd_T48 l0 x13_1).f3)
       rotate_left
       ·rw [if_neg c47] at H
        have c47b0 : decide (((rd_T48 y189 x77_3).f1) ≤ ((rd_T48 l0 x13_1).f3)) = false := decide_eq_false c47
        clear c47
        have H' := Aside0.mk H
        clear H
        have p193 : 0 ≤ (x77_3 : Int) := za
        have q193 : x77_3 < (y189.length : Int) := za
        obtain ⟨ad193, e193, hx193_0, hx193_1, hx193_2, hx193_3, hx193_4⟩ := at_T48 HR192.out x77_3 p193 q193
        obtain rfl : ad185 = ad193 := (by injection e193)
        replace hx193_0 := zx HB hx193_0
        replace hx193_1 := zx HB hx193_1
        replace hx193_2 := zx HB hx193_2
        replace hx193_3 := zx HB hx193_3
        replace hx193_4 := zx HB hx193_4
        replace p193 := eq_true p193
        replace q193 := eq_true q193
        go_wp2_with (first | ((with_reducible refine gate_dst (N := 6) rfl ?_); refine zbx 6 #[.string (⟨#[]⟩ : ByteArray), .int .i64 0, .int .i64 0, .int .i64 0, .int .i64 0] 48 ?_; intro gb194 hg w67 hbox hb; have BK194 := zA hbox; have GW194 := zgs hg (zs1 HB GE186); have GE194 := zgs hg (zs1 HB GE186); have NB186_194 := zne hg BK186; have NB194_186 := znf hg BK186; replace BK186 := zb BK186 hb; replace HB := zE (zs1 HB GE186) hb; clear hb hbox hg; have hnb68 := NB194_186.out; have hnc68 := NB186_194.out; obtain ⟨hcz69_0, hcz69_1, hcz69_2, hcz69_3, hcz69_4⟩ := zd5 BK194; obtain ⟨hfz69_0, hfz69_1, hfz69_2, hfz69_3, hfz69_4⟩ := zn5 BK194; obtain ⟨hcz70_0, hcz70_1, hcz70_2, hcz70_3, hcz70_4⟩ := zd5 BK186; obtain ⟨hfz70_0, hfz70_1, hfz70_2, hfz70_3, hfz70_4⟩ := zn5 BK186))
        go_roundg k3
        case measure => have := HK1.out; have := HJ6.out; have := HK3.out; omega
        case rel => exact ⟨(wrap64 (x77_3 + 1)), zi, H', ⟨by have := HK1.out; have := HJ6.out; have := HK3.out; omega⟩, ⟨zpf BK186 NB186_194⟩, ⟨zs2 HB GE186 GE194⟩⟩
       rw [if_pos c47] at H
       have c47b0 : decide (((rd_T48 y189 x77_3).f1) ≤ ((rd_T48 l0 x13_1).f3)) = true := decide_eq_true c47
       clear c47
       by_cases c48 : ((rd_T48 l0 x13_1).f1) ≤ ((rd_T48 y189 x77_3).f3)
       rotate_left
       ·rw [if_neg c48] at H
        have c48b0 : decide (((rd_T48 l0 x13_1).f1) ≤ ((rd_T48 y189 x77_3).f3)) = false := decide_eq_false c48
        clear c48
        have H' := Aside0.mk H
        clear H
        have p193 : 0 ≤ (x77_3 : Int) := za
        have q193 : x77_3 < (y189.length : Int) := za
        obtain ⟨ad193, e193, hx193_0, hx193_1, hx193_2, hx193_3, hx193_4⟩ := at_T48 HR192.out x77_3 p193 q193
        obtain rfl : ad185 = ad193 := (by injection e193)
        replace hx193_0 := zx HB hx193_0
        replace hx193_1 := zx HB hx193_1
        replace hx193_2 := zx HB hx193_2
        replace hx193_3 := zx HB hx193_3
        replace hx193_4 := zx HB hx193_4
        replace p193 := eq_true p193
        replace q193 := eq_true q193
        go_wp2_with (first | ((with_reducible refine gate_dst (N := 6) rfl ?_); refine zbx 6 #[.string (⟨#[]⟩ : ByteArray), .int .i64 0, .int .i64 0, .int .i64 0, .int .i64 0] 48 ?_; intro gb194 hg w63 hbox hb; have BK194 := zA hbox; have GW194 := zgs hg (zs1 HB GE186); have GE194 := zgs hg (zs1 HB GE186); have NB186_194 := zne hg BK186; have NB194_186 := znf hg BK186; replace BK186 := zb BK186 hb; replace HB := zE (zs1 HB GE186) hb; clear hb hbox hg; have hnb64 := NB194_186.out; have hnc64 := NB186_194.out; obtain ⟨hcz65_0, hcz65_1, hcz65_2, hcz65_3, hcz65_4⟩ := zd5 BK194; obtain ⟨hfz65_0, hfz65_1, hfz65_2, hfz65_3, hfz65_4⟩ := zn5 BK194; obtain ⟨hcz66_0, hcz66_1, hcz66_2, hcz66_3, hcz66_4⟩ := zd5 BK186; obtain ⟨hfz66_0, hfz66_1, hfz66_2, hfz66_3, hfz66_4⟩ := zn5 BK186))
        go_roundg k3
        case measure => have := HK1.out; have := HJ6.out; have := HK3.out; omega
        case rel => exact ⟨(wrap64 (x77_3 + 1)), zi, H', ⟨by have := HK1.out; have := HJ6.out; have := HK3.out; omega⟩, ⟨zpf BK186 NB186_194⟩, ⟨zs2 HB GE186 GE194⟩⟩
       rw [if_pos c48] at H
       have c48b0 : decide (((rd_T48 l0 x13_1).f1) ≤ ((rd_T48 y189 x77_3).f3)) = true := decide_eq_true c48
       clear c48
       by_cases c49 : ((rd_T48 y189 x77_3).f2) ≤ ((rd_T48 l0 x13_1).f4)
       rotate_left
       ·rw [if_neg c49] at H
        have c49b0 : decide (((rd_T48 y189 x77_3).f2) ≤ ((rd_T48 l0 x13_1).f4)) = false := decide_eq_false c49
        clear c49
        have H' := Aside0.mk H
        clear H
        have p193 : 0 ≤ (x77_3 : Int) := za
        have q193 : x77_3 < (y189.length : Int) := za
        obtain ⟨ad193, e193, hx193_0, hx193_1, hx193_2, hx193_3, hx193_4⟩ := at_T48 HR192.out x77_3 p193 q193
        obtain rfl : ad185 = ad193 := (by injection e193)
        replace hx193_0 := zx HB hx193_0
        replace hx193_1 := zx HB hx193_1
        replace hx193_2 := zx HB hx193_2
        replace hx193_3 := zx HB hx193_3
        replace hx193_4 := zx HB hx193_4
        replace p193 := eq_true p193
        replace q193 := eq_true q193
        go_wp2_with (first | ((with_reducible refine gate_dst (N := 6) rfl ?_); refine zbx 6 #[.string (⟨#[]⟩ : ByteArray), .int .i64 0, .int .i64 0, .int .i64 0, .int .i64 0] 48 ?_; intro gb194 hg w59 hbox hb; have BK194 := zA hbox; have GW194 := zgs hg (zs1 HB GE186); have GE194 := zgs hg (zs1 HB GE186); have NB186_194 := zne hg BK186; have NB194_186 := znf hg BK186; replace BK186 := zb BK186 hb; replace HB := zE (zs1 HB GE186) hb; clear hb hbox hg; have hnb60 := NB194_186.out; have hnc60 := NB186_194.out; obtain ⟨hcz61_0, hcz61_1, hcz61_2, hcz61_3, hcz61_4⟩ := zd5 BK194; obtain ⟨hfz61_0, hfz61_1, hfz61_2, hfz61_3, hfz61_4⟩ := zn5 BK194; obtain ⟨hcz62_0, hcz62_1, hcz62_2, hcz62_3, hcz62_4⟩ := zd5 BK186; obtain ⟨hfz62_0, hfz62_1, hfz62_2, hfz62_3, hfz62_4⟩ := zn5 BK186))
        go_roundg k3
        case measure => have := HK1.out; have := HJ6.out; have := HK3.out; omega
        case rel => exact ⟨(wrap64 (x77_3 + 1)), zi, H', ⟨by have := HK1.out; have := HJ6.out; have := HK3.out; omega⟩, ⟨zpf BK186 NB186_194⟩, ⟨zs2 HB GE186 GE194⟩⟩
       rw [if_pos c49] at H
       have c49b0 : decide (((rd_T48 y189 x77_3).f2) ≤ ((rd_T48 l0 x13_1).f4)) = true := decide_eq_true c49
       clear c49
       by_cases c50 : ((rd_T48 l0 x13_1).f2) ≤ ((rd_T48 y189 x77_3).f4)
       ·rw [if_pos c50] at H
        have c50b0 : decide (((rd_T48 l0 x13_1).f2) ≤ ((rd_T48 y189 x77_3).f4)) = true := decide_eq_true c50
        clear c50
        obtain rfl := Option.some.inj H
        have p193 : 0 ≤ (x77_3 : Int) := za
        have q193 : x77_3 < (y189.length : Int) := za
        obtain ⟨ad193, e193, hx193_0, hx193_1, hx193_2, hx193_3, hx193_4⟩ := at_T48 HR192.out x77_3 p193 q193
        obtain rfl : ad185 = ad193 := (by injection e193)
        replace hx193_0 := zx HB hx193_0
        replace hx193_1 := zx HB hx193_1
        replace hx193_2 := zx HB hx193_2
        replace hx193_3 := zx HB hx193_3
        replace hx193_4 := zx HB hx193_4
        replace p193 := eq_true p193
        replace q193 := eq_true q193
        go_wp2_with (first | ((with_reducible refine gate_dst (N := 6) rfl ?_); refine zbx 6 #[.string (⟨#[]⟩ : ByteArray), .int .i64 0, .int .i64 0, .int .i64 0, .int .i64 0] 48 ?_; intro gb194 hg w51 hbox hb; have BK194 := zA hbox; have GW194 := zgs hg (zs1 HB GE186); have GE194 := zgs hg (zs1 HB GE186); have NB186_194 := zne hg BK186; have NB194_186 := znf hg BK186; replace BK186 := zb BK186 hb; replace HB := zE (zs1 HB GE186) hb; clear hb hbox hg; have hnb52 := NB194_186.out; have hnc52 := NB186_194.out; obtain ⟨hcz53_0, hcz53_1, hcz53_2, hcz53_3, hcz53_4⟩ := zd5 BK194; obtain ⟨hfz53_0, hfz53_1, hfz53_2, hfz53_3, hfz53_4⟩ := zn5 BK194; obtain ⟨hcz54_0, hcz54_1, hcz54_2, hcz54_3, hcz54_4⟩ := zd5 BK186; obtain ⟨hfz54_0, hfz54_1, hfz54_2, hfz54_3, hfz54_4⟩ := zn5 BK186))
        go_ret
        exact ⟨ze, zs2 HB GE186 GE194⟩
       rw [if_neg c50] at H
       have c50b0 : decide (((rd_T48 l0 x13_1).f2) ≤ ((rd_T48 y189 x77_3).f4)) = false := decide_eq_false c50
       clear c50
       have H' := Aside0.mk H
       clear H
       have p193 : 0 ≤ (x77_3 : Int) := za
       have q193 : x77_3 < (y189.length : Int) := za
       obtain ⟨ad193, e193, hx193_0, hx193_1, hx193_2, hx193_3, hx193_4⟩ := at_T48 HR192.out x77_3 p193 q193
       obtain rfl : ad185 = ad193 := (by injection e193)
       replace hx193_0 := zx HB hx193_0
       replace hx193_1 := zx HB hx193_1
       replace hx193_2 := zx HB hx193_2
       replace hx193_3 := zx HB hx193_3
       replace hx193_4 := zx HB hx193_4
       replace p193 := eq_true p193
       replace q193 := eq_true q193
       go_wp2_with (first | ((with_reducible refine gate_dst (N := 6) rfl ?_); refine zbx 6 #[.string (⟨#[]⟩ : ByteArray), .int .i64 0, .int .i64 0, .int .i64 0, .int .i64 0] 48 ?_; intro gb194 hg w55 hbox hb; have BK194 := zA hbox; have GW194 := zgs hg (zs1 HB GE186); have GE194 := zgs hg (zs1 HB GE186); have NB186_194 := zne hg BK186; have NB194_186 := znf hg BK186; replace BK186 := zb BK186 hb; replace HB := zE (zs1 HB GE186) hb; clear hb hbox hg; have hnb56 := NB194_186.out; have hnc56 := NB186_194.out; obtain ⟨hcz57_0, hcz57_1, hcz57_2, hcz57_3, hcz57_4⟩ := zd5 BK194; obtain ⟨hfz57_0, hfz57_1, hfz57_2, hfz57_3, hfz57_4⟩ := zn5 BK194; obtain ⟨hcz58_0, hcz58_1, hcz58_2, hcz58_3, hcz58_4⟩ := zd5 BK186; obtain ⟨hfz58_0, hfz58_1, hfz58_2, hfz58_3, hfz58_4⟩ := zn5 BK186))
       go_roundg k3
       case measure => have := HK1.out; have := HJ6.out; have := HK3.out; omega
       case rel => exact ⟨(wrap64 (x77_3 + 1)), zi, H', ⟨by have := HK1.out; have := HJ6.out; have := HK3.out; omega⟩, ⟨zpf BK186 NB186_194⟩, ⟨zs2 HB GE186 GE194⟩⟩
end Go.Proofs.Ytbgcpbdnmpnjhaa.QFnExactHandWordOk
