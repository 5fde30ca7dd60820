/- The walk of what the law FnExactSkyAlong reaches: laid by a program of this session (ownprint.py). -/
import Derived.Test.YtkdhfgonjipbbaaQFnExactSkyAlongx0
namespace Go.Proofs.Ytkdhfgonjipbbaa.QFnExactSkyAlong
open Go.RowKit Go.Proofs.YtkdhfgonjipbbaaW.PrintWords Go.Proofs.YtkdhfgonjipbbaaW.PrintLast Go.Proofs.YtkdhfgonjipbbaaW.PrintMore Go.Proofs.Ytkdhfgonjipbbaa.Z
attribute [local go_sem] max2_int min2_int max_two min_two max_three min_three max_four min_four zdn   -- for this text's walks alone
set_option linter.unusedVariables false
set_option linter.unusedSimpArgs false
def spec_l8Hop.l0 : Nat → ByteArray → ByteArray → Int → List (S61) → List (S43) → Option (Int)
 | 0, _, _, _, _, _ => none
 | k + 1, x1, x2, x7, x115000, x115001 => if x7 < (x115001.length : Int) then (if 0 ≤ x7 then (if ((rd_T43 x115001 x7).f0).toList = x1.toList then (if ((rd_T43 x115001 x7).f1).toList = x2.toList then (some x7) else (spec_l8Hop.l0 k x1 x2 (wrap64 (x7 + 1)) x115000 x115001)) else (spec_l8Hop.l0 k x1 x2 (wrap64 (x7 + 1)) x115000 x115001)) else (none)) else (some (-1))
def spec_l8Hop.f (k : Nat) (l0_0 : List (S61)) (l0_1 : List (S43)) (a1 : ByteArray) (a2 : ByteArray) : Option (Int) := spec_l8Hop.l0 k a1 a2 0 l0_0 l0_1
set_option maxHeartbeats 8000000 in
set_option maxRecDepth 100000 in
theorem spec_l8Hop.calls (k : Nat) (A0_0 : Option Addr) (c0_0 : Nat) (l0_0 : List (S61)) (A0_1 : Option Addr) (c0_1 : Nat) (l0_1 : List (S43)) (a1 : ByteArray) (a2 : ByteArray) (r : Int) (w : World) (hr0_0 : Kd.C k61 w A0_0 l0_0.length l0_0) (hc0_0 : l0_0.length ≤ c0_0) (hr0_1 : Kd.C k43 w A0_1 l0_1.length l0_1) (hc0_1 : l0_1.length ≤ c0_1) (h : spec_l8Hop.f k l0_0 l0_1 a1 a2 = some r) :
 Calls Try.prog 15 #[.agg #[.slice A0_0 l0_0.length c0_0, .slice A0_1 l0_1.length c0_1], .string a1, .string a2] w fun e w' => e = .returned (.int .i64 r) ∧ Below w.heap.size w w' := by
 have hu32 := Try.underlying32
 have HR0_0 := Aside0.mk hr0_0
 have HC0_0 := Aside0.mk hc0_0
 clear hr0_0 hc0_0
 have HR0_1 := Aside0.mk hr0_1
 have HC0_1 := Aside0.mk hc0_1
 clear hr0_1 hc0_1
 have HB := Aside0.mk (Below.refl w.heap.size w)
 have H : (spec_l8Hop.l0 k a1 a2 0 l0_0 l0_1) = some r := h
 clear h
 have H' := Aside0.mk H
 clear H
 go_enter Try.func15, Try.ntmps15
 go_wp2_with (first | ((with_reducible refine gate_dst (N := 3) rfl ?_); refine zbx 3 #[.slice A0_0 l0_0.length c0_0, .slice A0_1 l0_1.length c0_1] 32 ?_; intro gb114 hg w4 hbox hb; have BK114 := zA hbox; have GW114 := zgs hg (zs0 HB); have GE114 := zgs hg (zs0 HB); replace HB := zE (zs0 HB) hb; clear hb hbox hg))
 go_loopg [7] k (fun kq v7 w' => ∃ (x7_1 : Int), v7 = .int .i64 x7_1 ∧ Aside0 (spec_l8Hop.l0 kq a1 a2 x7_1 l0_0 l0_1 = some r) ∧ Aside0 (kq ≤ k) ∧ Aside0 (w'.heap[gb114]? = some (.cells #[(.slice A0_0 l0_0.length c0_0), (.slice A0_1 l0_1.length c0_1)] 32 (0, 0))) ∧ Aside0 (Below w.heap.size w w'))
 case atStart => exact ⟨(0), zi, H', ⟨Nat.le_refl _⟩, ⟨zh BK114⟩, ⟨zs1 HB GE114⟩⟩
 case round =>
  clear H'
  try clear c1
  try clear p2
  obtain ⟨x7_1, rfl, HA, HK1, BK114, HB⟩ := hrel
  cases gk with
  | zero => exact absurd HA.out (by simp [spec_l8Hop.l0])
  | succ k1 =>
   have H := HA.out
   clear HA
   simp only [spec_l8Hop.l0] at H
   by_cases c5 : x7_1 < (l0_1.length : Int)
   rotate_left
   ·rw [if_neg c5] at H
    have c5b0 : decide (x7_1 < (l0_1.length : Int)) = false := decide_eq_false c5
    clear c5
    obtain rfl := Option.some.inj H
    obtain ⟨hcz12_0, hcz12_1⟩ := zd2 BK114
    obtain ⟨hfz12_0, hfz12_1⟩ := zn2 BK114
    go_wp2
    go_ret
    exact ⟨ze, zs1 HB GE114⟩
   rw [if_pos c5] at H
   have c5b0 : decide (x7_1 < (l0_1.length : Int)) = true := decide_eq_true c5
   clear c5
   by_cases c6 : 0 ≤ x7_1
   rotate_left
   ·rw [if_neg c6] at H
    exact absurd H (by simp)
   rw [if_pos c6] at H
   have c6b0 : decide (0 ≤ x7_1) = true := decide_eq_true c6
   clear c6
   by_cases c7 : ((rd_T43 l0_1 x7_1).f0).toList = a1.toList
   rotate_left
   ·rw [if_neg c7] at H
    have c7b0 : (((rd_T43 l0_1 x7_1).f0).toList == a1.toList) = false := beq_eq_false_iff_ne.mpr c7
    have c7b1 : (((rd_T43 l0_1 x7_1).f0).toList != a1.toList) = true := bne_iff_ne.mpr c7
    have H' := Aside0.mk H
    clear H
    obtain ⟨hcz11_0, hcz11_1⟩ := zd2 BK114
    obtain ⟨hfz11_0, hfz11_1⟩ := zn2 BK114
    have p115 : 0 ≤ (x7_1 : Int) := za
    have q115 : x7_1 < (l0_1.length : Int) := za
    obtain ⟨ad115, e115, hx115_0, hx115_1, hx115_2, hx115_3⟩ := at_T43 HR0_1.out x7_1 p115 q115
    cases e115
    replace hx115_0 := zx HB hx115_0
    replace hx115_1 := zx HB hx115_1
    replace hx115_2 := zx HB hx115_2
    replace hx115_3 := zx HB hx115_3
    replace p115 := eq_true p115
    replace q115 := eq_true q115
    go_wp2
    go_roundg k1
    case measure => have := HK1.out; omega
    case rel => exact ⟨(wrap64 (x7_1 + 1)), zi, H', ⟨by have := HK1.out; omega⟩, ⟨zh BK114⟩, ⟨zs1 HB GE114⟩⟩
   rw [if_pos c7] at H
   have c7b0 : (((rd_T43 l0_1 x7_1).f0).toList == a1.toList) = true := beq_iff_eq.mpr c7
   have c7b1 : (((rd_T43 l0_1 x7_1).f0).toList != a1.toList) = false := bne_eq_false_iff_eq.mpr c7
   clear c7
   by_cases c8 : ((rd_T43 l0_1 x7_1).f1).toList = a2.toList
   ·rw [if_pos c8] at H
    have c8b0 : (((rd_T43 l0_1 x7_1).f1).toList == a2.toList) = true := beq_iff_eq.mpr c8
    have c8b1 : (((rd_T43 l0_1 x7_1).f1).toList != a2.toList) = false := bne_eq_false_iff_eq.mpr c8
    clear c8
    obtain rfl := Option.some.inj H
    obtain ⟨hcz9_0, hcz9_1⟩ := zd2 BK114
    obtain ⟨hfz9_0, hfz9_1⟩ := zn2 BK114
    have p115 : 0 ≤ (x7_1 : Int) := za
    have q115 : x7_1 < (l0_1.length : Int) := za
    obtain ⟨ad115, e115, hx115_0, hx115_1, hx115_2, hx115_3⟩ := at_T43 HR0_1.out x7_1 p115 q115
    cases e115
    replace hx115_0 := zx HB hx115_0
    replace hx115_1 := zx HB hx115_1
    replace hx115_2 := zx HB hx115_2
    replace hx115_3 := zx HB hx115_3
    replace p115 := eq_true p115
    replace q115 := eq_true q115
    have p116 : 0 ≤ (x7_1 : Int) := za
    have q116 : x7_1 < (l0_1.length : Int) := za
    obtain ⟨ad116, e116, hx116_0, hx116_1, hx116_2, hx116_3⟩ := at_T43 HR0_1.out x7_1 p116 q116
    obtain rfl : ad115 = ad116 := (by injection e116)
    replace hx116_0 := zx HB hx116_0
    replace hx116_1 := zx HB hx116_1
    replace hx116_2 := zx HB hx116_2
    replace hx116_3 := zx HB hx116_3
    replace p116 := eq_true p116
    replace q116 := eq_true q116
    go_wp2
    go_ret
    exact ⟨ze, zs1 HB GE114⟩
   rw [if_neg c8] at H
   have c8b0 : (((rd_T43 l0_1 x7_1).f1).toList == a2.toList) = false := beq_eq_false_iff_ne.mpr c8
   have c8b1 : (((rd_T43 l0_1 x7_1).f1).toList != a2.toList) = true := bne_iff_ne.mpr c8
   have H' := Aside0.mk H
   clear H
   obtain ⟨hcz10_0, hcz10_1⟩ := zd2 BK114
   obtain ⟨hfz10_0, hfz10_1⟩ := zn2 BK114
   have p115 : 0 ≤ (x7_1 : Int) := za
   have q115 : x7_1 < (l0_1.length : Int) := za
   obtain ⟨ad115, e115, hx115_0, hx115_1, hx115_2, hx115_3⟩ := at_T43 HR0_1.out x7_1 p115 q115
   cases e115
   replace hx115_0 := zx HB hx115_0
   replace hx115_1 := zx HB hx115_1
   replace hx115_2 := zx HB hx115_2
   replace hx115_3 := zx HB hx115_3
   replace p115 := eq_true p115
   replace q115 := eq_true q115
   have p116 : 0 ≤ (x7_1 : Int) := za
   have q116 : x7_1 < (l0_1.length : Int) := za
   obtain ⟨ad116, e116, hx116_0, hx116_1, hx116_2, hx116_3⟩ := at_T43 HR0_1.out x7_1 p116 q116
   obtain rfl : ad115 = ad116 := (by injection e116)
   replace hx116_0 := zx HB hx116_0
   replace hx116_1 := zx HB hx116_1
   replace hx116_2 := zx HB hx116_2
   replace hx116_3 := zx HB hx116_3
   replace p116 := eq_true p116
   replace q116 := eq_true q116
   go_wp2
   go_roundg k1
   case measure => have := HK1.out; omega
   case rel => exact ⟨(wrap64 (x7_1 + 1)), zi, H', ⟨by have := HK1.out; omega⟩, ⟨zh BK114⟩, ⟨zs1 HB GE114⟩⟩
def spec_SkyAlong.l0 : Nat → ByteArray → ByteArray → List ByteArray → List (S61) → List (S43) → Option (List ByteArray)
 | 0, _, _, _, _, _ => none
 | k + 1, x1, x2, x7, x118000, x118001 => if x1.toList = x2.toList then (some x7) else ((spec_l8Hop.f k x118000 x118001 x1 x2).bind fun t121 => (if t121 < 0 then (some (([] : List ByteArray))) else (if (x7.length : Int) ≥ 16 then (some (([] : List ByteArray))) else (if 0 ≤ t121 then (if t121 < (x118001.length : Int) then (if x7.length < 8796093022208 then (spec_SkyAlong.l0 k ((rd_T43 x118001 t121).f3) x2 (x7 ++ [(rd_T43 x118001 t121).f3]) x118000 x118001) else (none)) else (none)) else (none)))))
def spec_SkyAlong.f (k : Nat) (l0_0 : List (S61)) (l0_1 : List (S43)) (a1 : ByteArray) (a2 : ByteArray) : Option (List ByteArray) := spec_SkyAlong.l0 k a1 a2 (([a1] : List ByteArray)) l0_0 l0_1
set_option maxHeartbeats 8000000 in
set_option maxRecDepth 100000 in
theorem spec_SkyAlong.calls (k : Nat) (A0_0 : Option Addr) (c0_0 : Nat) (l0_0 : List (S61)) (A0_1 : Option Addr) (c0_1 : Nat) (l0_1 : List (S43)) (a1 : ByteArray) (a2 : ByteArray) (r : List ByteArray) (w : World) (hr0_0 : Kd.C k61 w A0_0 l0_0.length l0_0) (hc0_0 : l0_0.length ≤ c0_0) (hr0_1 : Kd.C k43 w A0_1 l0_1.length l0_1) (hc0_1 : l0_1.length ≤ c0_1) (h : spec_SkyAlong.f k l0_0 l0_1 a1 a2 = some r) :
 Calls Try.prog 5 #[.agg #[.slice A0_0 l0_0.length c0_0, .slice A0_1 l0_1.length c0_1], .string a1, .string a2] w fun e w' => ∃ v0_ : Value, e = .returned (v0_) ∧ Kd.R Kd.string 9 w' w.heap.size (fun _ => True) v0_ r ∧ Below w.heap.size w w' := by
 have hu32 := Try.underlying32
 have HR0_0 := Aside0.mk hr0_0
 have HC0_0 := Aside0.mk hc0_0
 clear hr0_0 hc0_0
 have HR0_1 := Aside0.mk hr0_1
 have HC0_1 := Aside0.mk hc0_1
 clear hr0_1 hc0_1
 have HB := Aside0.mk (Below.refl w.heap.size w)
 have H : (spec_SkyAlong.l0 k a1 a2 (([a1] : List ByteArray)) l0_0 l0_1) = some r := h
 clear h
 obtain ⟨y118, hy118⟩ : ∃ y_ : List ByteArray, y_ = (([a1] : List ByteArray)) := ⟨_, rfl⟩
 replace H : (spec_SkyAlong.l0 k a1 a2 y118 l0_0 l0_1) = some r := by first | (rw [hy118]; with_reducible exact H) | (have H2_ := (Option.bind_some _ _).symm.trans H; rw [hy118]; with_reducible exact H2_) | (have H2_ := (Option.bind_some _ _).symm.trans H; with_reducible exact H2_) | with_reducible exact H | (rw [hy118]; exact H) | exact H
 have Ny118 := Aside0.mk hy118
 clear hy118
 have H' := Aside0.mk H
 clear H
 go_enter Try.func5, Try.ntmps5
 go_wp2_with (first | ((with_reducible refine gate_dst (N := 3) rfl ?_); (try (refine gate_guard (by rfl) ?_; dsimp only)); refine zbx 3 #[.slice A0_0 l0_0.length c0_0, .slice A0_1 l0_1.length c0_1] 32 ?_; intro gb117 hg w4 hbox hb; have BK117 := zA hbox; have GW117 := zgs hg (zs0 HB); have GE117 := zgs hg (zs0 HB); replace HB := zE (zs0 HB) hb; clear hb hbox hg) | ((with_reducible refine gate_dst (N := 10) rfl ?_); (try (refine gate_guard (by rfl) ?_; dsimp only)); refine Kd.R_lit Kd.string _ 9 ?hg (N := 10) ?hd (xs := ([a1] : List ByteArray)) (inner := [.string a1]) (ok := fun _ => True) (okp := fun _ => True) ?hr ?hp (fun _ hk => hk) trivial (Below.refl _ _) (Nat.le_refl _) (by simp) ?_; (case hd => rfl); (case hg => rfl); (case hr => first | (go_simp; done) | (go_simp; rfl)); (case hp => exact (Reps.one (show Kd.M Kd.string _ _ _ a1 [.string a1] from rfl) (Reps.none _ _))); intro v119 w5 ho6 hb hg_ hnew_; clear hg_ hnew_; (first | rw [← Ny118.out] at ho6 | (simp only [Int.reduceToNat] at ho6; rw [← Ny118.out] at ho6)); have HO120 := Aside0.mk (Kd.R_lower ho6 (below_size (zs1 HB GE117))); replace BK117 := zb BK117 hb; replace HB := zE (zs1 HB GE117) hb; clear hb ho6))
 go_loopg [1, 7] k (fun kq v1 v7 w' => ∃ (x1_1 : ByteArray) (x7_1 : List ByteArray), v1 = .string x1_1 ∧ Aside0 (spec_SkyAlong.l0 kq x1_1 a2 x7_1 l0_0 l0_1 = some r) ∧ Aside0 (kq ≤ k) ∧ Aside0 (Kd.R Kd.string 9 w' w.heap.size (fun _ => True) v7 x7_1) ∧ Aside0 (w'.heap[gb117]? = some (.cells #[(.slice A0_0 l0_0.length c0_0), (.slice A0_1 l0_1.length c0_1)] 32 (0, 0))) ∧ Aside0 (Below w.heap.size w w'))
 case atStart => exact ⟨(a1), (y118), zi, H', ⟨Nat.le_refl _⟩, ⟨zr HO120⟩, ⟨zh BK117⟩, ⟨zs1 HB GE117⟩⟩
 case round =>
  clear H'
  try clear p2
  try clear c5
  obtain ⟨x1_1, x7_1, rfl, HA, HK1, HO_7, BK117, HB⟩ := hrel
  cases gk with
  | zero => exact absurd HA.out (by simp [spec_SkyAlong.l0])
  | succ k1 =>
   have H := HA.out
   clear HA
   simp only [spec_SkyAlong.l0] at H
   by_cases c7 : x1_1.toList = a2.toList
   ·rw [if_pos c7] at H
    have c7b0 : (x1_1.toList == a2.toList) = true := beq_iff_eq.mpr c7
    have c7b1 : (x1_1.toList != a2.toList) = false := bne_eq_false_iff_eq.mpr c7
    clear c7
    obtain rfl := Option.some.inj H
    go_wp2
    go_ret
    exact ⟨_, ze, zr HO_7, zs1 HB GE117⟩
   rw [if_neg c7] at H
   have c7b0 : (x1_1.toList == a2.toList) = false := beq_eq_false_iff_ne.mpr c7
   have c7b1 : (x1_1.toList != a2.toList) = true := bne_iff_ne.mpr c7
   replace H := zbd H; obtain ⟨t121, A8, H⟩ := H
   by_cases c9 : t121 < 0
   ·rw [if_pos c9] at H
    have c9b0 : decide (t121 < 0) = true := decide_eq_true c9
    clear c9
    obtain ⟨y122, hy122⟩ : ∃ y_ : List ByteArray, y_ = (([] : List ByteArray)) := ⟨_, rfl⟩
    replace H : (some y122) = some r := by first | (rw [hy122]; with_reducible exact H) | (have H2_ := (Option.bind_some _ _).symm.trans H; rw [hy122]; with_reducible exact H2_) | (have H2_ := (Option.bind_some _ _).symm.trans H; with_reducible exact H2_) | with_reducible exact H | (rw [hy122]; exact H) | exact H
    have Ny122 := Aside0.mk hy122
    clear hy122
    obtain rfl := Option.some.inj H
    obtain ⟨hcz10_0, hcz10_1⟩ := zd2 BK117
    obtain ⟨hfz10_0, hfz10_1⟩ := zn2 BK117
    go_wp2_with (first | ((with_reducible refine gate_callee (f := 15) rfl ?_); refine zgl (N := some 17) Try.func15 #[.agg #[.slice A0_0 l0_0.length c0_0, .slice A0_1 l0_1.length c0_1], .string x1_1, .string a2] ?_; (with_reducible refine (spec_l8Hop.calls k1 _ _ l0_0 _ _ l0_1 x1_1 a2 t121 _ ?side1 ?side2 ?side3 ?side4 A8.out).mono ?_); (case side1 => exact zC HR0_0 HB); (case side2 => exact HC0_0.out); (case side3 => exact zC HR0_1 HB); (case side4 => exact HC0_1.out); rintro e w11 ⟨rfl, hb⟩; refine ⟨_, rfl, ?_⟩; replace HO_7 := Aside0.mk (Kd.R_below (zr HO_7) hb); replace BK117 := zb BK117 hb; replace HB := zE (zs1 HB GE117) hb; (try clear hb); (try clear hb2); (try clear hk); (try clear hi)) | ((with_reducible refine gate_dst (N := 25) rfl ?_); (try (refine gate_guard (by rfl) ?_; dsimp only)); refine Kd.R_lit Kd.string _ 9 ?hg (N := 25) ?hd (xs := ([] : List ByteArray)) (inner := []) (ok := fun _ => True) (okp := fun _ => True) ?hr ?hp (fun _ hk => hk) trivial (Below.refl _ _) (Nat.le_refl _) (by simp) ?_; (case hd => rfl); (case hg => rfl); (case hr => first | (go_simp; done) | (go_simp; rfl)); (case hp => exact (Reps.none _ _)); intro v123 w12 ho13 hb hg_ hnew_; clear hg_ hnew_; (first | rw [← Ny122.out] at ho13 | (simp only [Int.reduceToNat] at ho13; rw [← Ny122.out] at ho13)); have HO124 := Aside0.mk (Kd.R_lower (Kd.R_new' ho13 (Kd.R_lt (zr HO_7))) (below_size (zs1 HB GE117))); replace HO_7 := Aside0.mk (Kd.R_elder' (zr HO_7) (Kd.R_base ho13) hb); replace BK117 := zb BK117 hb; replace HB := zE (zs1 HB GE117) hb; clear hb ho13))
    go_ret
    exact ⟨_, ze, by (with_reducible repeat (first | apply Kd.R_alloc | apply Kd.R_drewN | apply Kd.R_drew)); exact Kd.R_mono HO124.out (fun _ hk => trivial), zs1 HB GE117⟩
   rw [if_neg c9] at H
   have c9b0 : decide (t121 < 0) = false := decide_eq_false c9
   clear c9
   by_cases c14 : (x7_1.length : Int) ≥ 16
   ·rw [if_pos c14] at H
    have c14b0 : decide (16 ≤ (x7_1.length : Int)) = true := decide_eq_true c14
    have c14b1 : decide (16 ≤ x7_1.length) = true := decide_eq_true (by omega)
    clear c14
    obtain ⟨y125, hy125⟩ : ∃ y_ : List ByteArray, y_ = (([] : List ByteArray)) := ⟨_, rfl⟩
    replace H : (some y125) = some r := by first | (rw [hy125]; with_reducible exact H) | (have H2_ := (Option.bind_some _ _).symm.trans H; rw [hy125]; with_reducible exact H2_) | (have H2_ := (Option.bind_some _ _).symm.trans H; with_reducible exact H2_) | with_reducible exact H | (rw [hy125]; exact H) | exact H
    have Ny125 := Aside0.mk hy125
    clear hy125
    obtain rfl := Option.some.inj H
    obtain ⟨hcz15_0, hcz15_1⟩ := zd2 BK117
    obtain ⟨hfz15_0, hfz15_1⟩ := zn2 BK117
    go_wp2_with (first | ((with_reducible refine gate_callee (f := 15) rfl ?_); refine zgl (N := some 17) Try.func15 #[.agg #[.slice A0_0 l0_0.length c0_0, .slice A0_1 l0_1.length c0_1], .string x1_1, .string a2] ?_; (with_reducible refine (spec_l8Hop.calls k1 _ _ l0_0 _ _ l0_1 x1_1 a2 t121 _ ?side1 ?side2 ?side3 ?side4 A8.out).mono ?_); (case side1 => exact zC HR0_0 HB); (case side2 => exact HC0_0.out); (case side3 => exact zC HR0_1 HB); (case side4 => exact HC0_1.out); rintro e w16 ⟨rfl, hb⟩; refine ⟨_, rfl, ?_⟩; replace HO_7 := Aside0.mk (Kd.R_below (zr HO_7) hb); replace BK117 := zb BK117 hb; replace HB := zE (zs1 HB GE117) hb; (try clear hb); (try clear hb2); (try clear hk); (try clear hi); obtain ⟨Ao17, co17, eo17⟩ := Kd.R_slice HO_7.out; subst eo17) | ((with_reducible refine gate_dst (N := 25) rfl ?_); (try (refine gate_guard (by rfl) ?_; dsimp only)); refine Kd.R_lit Kd.string _ 9 ?hg (N := 25) ?hd (xs := ([] : List ByteArray)) (inner := []) (ok := fun _ => True) (okp := fun _ => True) ?hr ?hp (fun _ hk => hk) trivial (Below.refl _ _) (Nat.le_refl _) (by simp) ?_; (case hd => rfl); (case hg => rfl); (case hr => first | (go_simp; done) | (go_simp; rfl)); (case hp => exact (Reps.none _ _)); intro v126 w18 ho19 hb hg_ hnew_; clear hg_ hnew_; (first | rw [← Ny125.out] at ho19 | (simp only [Int.reduceToNat] at ho19; rw [← Ny125.out] at ho19)); have HO127 := Aside0.mk (Kd.R_lower (Kd.R_new' ho19 (Kd.R_lt (zr HO_7))) (below_size (zs1 HB GE117))); replace HO_7 := Aside0.mk (Kd.R_elder' (zr HO_7) (Kd.R_base ho19) hb); replace BK117 := zb BK117 hb; replace HB := zE (zs1 HB GE117) hb; clear hb ho19))
    go_ret
    exact ⟨_, ze, by (with_reducible repeat (first | apply Kd.R_alloc | apply Kd.R_drewN | apply Kd.R_drew)); exact Kd.R_mono HO127.out (fun _ hk => trivial), zs1 HB GE117⟩
   rw [if_neg c14] at H
   have c14b0 : decide (16 ≤ (x7_1.length : Int)) = false := decide_eq_false c14
   have c14b1 : decide (16 ≤ x7_1.length) = false := decide_eq_false (by omega)
   clear c14
   by_cases c20 : 0 ≤ t121
   rotate_left
   ·rw [if_neg c20] at H
    exact absurd H (by simp)
   rw [if_pos c20] at H
   have c20b0 : decide (0 ≤ t121) = true := decide_eq_true c20
   clear c20
   by_cases c21 : t121 < (l0_1.length : Int)
   rotate_left
   ·rw [if_neg c21] at H
    exact absurd H (by simp)
   rw [if_pos c21] at H
   have c21b0 : decide (t121 < (l0_1.length : Int)) = true := decide_eq_true c21
   clear c21
   by_cases c22 : x7_1.length < 8796093022208
   rotate_left
   ·rw [if_neg c22] at H
    exact absurd H (by simp)
   rw [if_pos c22] at H
   have LMc22 := Aside0.mk c22
   clear c22
   obtain ⟨y129, hy129⟩ : ∃ y_ : List ByteArray, y_ = (x7_1 ++ [(rd_T43 l0_1 t121).f3]) := ⟨_, rfl⟩
   replace H : (spec_SkyAlong.l0 k1 ((rd_T43 l0_1 t121).f3) a2 y129 l0_0 l0_1) = some r := by first | (rw [hy129]; with_reducible exact H) | (have H2_ := (Option.bind_some _ _).symm.trans H; rw [hy129]; with_reducible exact H2_) | (have H2_ := (Option.bind_some _ _).symm.trans H; with_reducible exact H2_) | with_reducible exact H | (rw [hy129]; exact H) | exact H
   have Ny129 := Aside0.mk hy129
   clear hy129
   have H' := Aside0.mk H
   clear H
   obtain ⟨hcz23_0, hcz23_1⟩ := zd2 BK117
   obtain ⟨hfz23_0, hfz23_1⟩ := zn2 BK117
   go_wp2_with (first | ((with_reducible refine gate_callee (f := 15) rfl ?_); refine zgl (N := some 17) Try.func15 #[.agg #[.slice A0_0 l0_0.length c0_0, .slice A0_1 l0_1.length c0_1], .string x1_1, .string a2] ?_; (with_reducible refine (spec_l8Hop.calls k1 _ _ l0_0 _ _ l0_1 x1_1 a2 t121 _ ?side1 ?side2 ?side3 ?side4 A8.out).mono ?_); (case side1 => exact zC HR0_0 HB); (case side2 => exact HC0_0.out); (case side3 => exact zC HR0_1 HB); (case side4 => exact HC0_1.out); rintro e w24 ⟨rfl, hb⟩; refine ⟨_, rfl, ?_⟩; replace HO_7 := Aside0.mk (Kd.R_below (zr HO_7) hb); replace BK117 := zb BK117 hb; replace HB := zE (zs1 HB GE117) hb; (try clear hb); (try clear hb2); (try clear hk); (try clear hi); obtain ⟨Ao25, co25, eo25⟩ := Kd.R_slice HO_7.out; subst eo25; obtain ⟨hcz26_0, hcz26_1⟩ := zd2 BK117; obtain ⟨hfz26_0, hfz26_1⟩ := zn2 BK117; have p128 : 0 ≤ (t121 : Int) := za; have q128 : t121 < (l0_1.length : Int) := za; obtain ⟨ad128, e128, hx128_0, hx128_1, hx128_2, hx128_3⟩ := at_T43 HR0_1.out t121 p128 q128; cases e128; replace hx128_0 := zx HB hx128_0; replace hx128_1 := zx HB hx128_1; replace hx128_2 := zx HB hx128_2; replace hx128_3 := zx HB hx128_3; replace p128 := eq_true p128; replace q128 := eq_true q128) | ((with_reducible refine gate_builtin (b := .append) (xs := #[.tmp 32, .tmp 34]) rfl ?_); (try (refine gate_guard (by rfl) ?_; dsimp only)); at_builtin; refine Kd.R_append Kd.string (w0 := w) w.heap.size rfl (.tmp 32) (.tmp 34) 27 9 (.string ⟨#[]⟩) 16 rfl Try.underlying27 info9 rfl (by decide) (by omega) (.slice Ao25 x7_1.length co25) x7_1 ((rd_T43 l0_1 t121).f3) [.string ((rd_T43 l0_1 t121).f3)] (fun _ => True) (fun _ => False) rfl rfl ?aP (fun _ hk => hk.elim) ?aF ?aO ?aB ?aS ?aL ?_; (case aP => exact rfl); (case aB => exact (zs1 HB GE117)); (case aF => exact (fun _ _ => trivial)); (case aO => exact (zr HO_7)); (case aS => exact (below_size (zs1 HB GE117))); (case aL => have := LMc22.out; omega); intro v130 w27 ho hb hg hat; rw [← Ny129.out] at ho; have HO131 := Aside0.mk (ho); replace BK117 := Aside0.mk (blk_grown (g := gb117) (o := .cells #[.slice A0_0 l0_0.length c0_0, .slice (some ad128) l0_1.length c0_1] 32 (0, 0)) (zh BK117) hg (Kd.R_ne HO_7.out BK117.out (by decide))); replace HB := Aside0.mk (hb); clear HO_7; clear ho hb hg hat))
   go_roundg k1
   case measure => have := HK1.out; omega
   case rel => exact ⟨((rd_T43 l0_1 t121).f3), (y129), zi, H', ⟨by have := HK1.out; omega⟩, ⟨zr HO131⟩, ⟨zh BK117⟩, ⟨zs1 HB GE117⟩⟩
def laws_toSkyRun.f (a0_0 : Int) (a0_1 : Int) (a0_2 : ByteArray) : Option (Int × Int × ByteArray) := some (a0_0, a0_1, a0_2)
set_option maxHeartbeats 8000000 in
set_option maxRecDepth 100000 in
theorem laws_toSkyRun.calls (a0_0 : Int) (a0_1 : Int) (a0_2 : ByteArray) (r1 : Int) (r2 : Int) (r3 : ByteArray) (w : World) (h : laws_toSkyRun.f a0_0 a0_1 a0_2 = some (r1, r2, r3)) :
 Calls Try.prog 36 #[.agg #[.int .i64 a0_0, .int .i64 a0_1, .string a0_2]] w fun e w' => e = .returned (.agg #[.int .i64 r1, .int .i64 r2, .string r3]) ∧ Below w.heap.size w w' := by
 have hu74 := Try.underlying74
 have hu72 := Try.underlying72
 have HB := Aside0.mk (Below.refl w.heap.size w)
 have H : (some (a0_0, a0_1, a0_2)) = some (r1, r2, r3) := h
 clear h
 simp only [Option.some.injEq, Prod.mk.injEq] at H
 obtain ⟨rfl, rfl, rfl⟩ := H
 go_enter Try.func36, Try.ntmps36
 go_wp2_with (first | ((with_reducible refine gate_dst (N := 1) rfl ?_); refine zbx 1 #[.int .i64 a0_0, .int .i64 a0_1, .string a0_2] 74 ?_; intro gb132 hg w2 hbox hb; have BK132 := zA hbox; have GW132 := zgs hg (zs0 HB); have GE132 := zgs hg (zs0 HB); replace HB := zE (zs0 HB) hb; clear hb hbox hg) | ((with_reducible refine gate_dst (N := 2) rfl ?_); refine zbx 2 #[.int .i64 0, .int .i64 0, .string (⟨#[]⟩ : ByteArray)] 72 ?_; intro gb133 hg w3 hbox hb; have BK133 := zA hbox; have GW133 := zgs hg (zs1 HB GE132); have GE133 := zgs hg (zs1 HB GE132); have NB132_133 := zne hg BK132; have NB133_132 := znf hg BK132; replace BK132 := zb BK132 hb; replace HB := zE (zs1 HB GE132) hb; clear hb hbox hg) | ((with_reducible refine gate_dst (N := 3) rfl ?_); refine zbx 3 #[.int .i64 0, .int .i64 0, .string (⟨#[]⟩ : ByteArray)] 72 ?_; intro gb134 hg w4 hbox hb; have BK134 := zA hbox; have GW134 := zgs hg (zs2 HB GE132 GE133); have GE134 := zgs hg (zs2 HB GE132 GE133); have NB132_134 := zne hg BK132; have NB134_132 := znf hg BK132; have NB133_134 := zne hg BK133; have NB134_133 := znf hg BK133; replace BK132 := zb BK132 hb; replace BK133 := zb BK133 hb; replace HB := zE (zs2 HB GE132 GE133) hb; clear hb hbox hg; have hnb5 := NB132_133.out; have hnc5 := NB133_132.out; have hnb6 := NB132_134.out; have hnc6 := NB134_132.out; obtain ⟨hcz7_0, hcz7_1, hcz7_2⟩ := zd3 BK132; obtain ⟨hfz7_0, hfz7_1, hfz7_2⟩ := zn3 BK132; have hnb8 := NB134_133.out; have hnc8 := NB133_134.out; obtain ⟨hcz9_0, hcz9_1, hcz9_2⟩ := zd3 BK134; obtain ⟨hfz9_0, hfz9_1, hfz9_2⟩ := zn3 BK134; obtain ⟨hcz10_0, hcz10_1, hcz10_2⟩ := zd3 BK133; obtain ⟨hfz10_0, hfz10_1, hfz10_2⟩ := zn3 BK133))
 refine bodyPost_ret (results_cell_row rfl _ _ gb133 72 #[.int .i64 a0_0, .int .i64 a0_1, .string a0_2] (0, 0) _ rfl ?hz Try.underlying72 rfl (by kernel_rfl)) rfl ?_; (case hz => exact zpf BK133 NB133_134)
 exact ⟨ze, zs3 HB GE132 GE133 GE134⟩
def laws_toSkyRunS.l0 : Nat → List (S74) → List (S72) → Int → Option ((List (S72)))
 | 0, _, _, _ => none
 | k + 1, x0, x3, x4 => if x4 < (x0.length : Int) then (if 0 ≤ x4 then ((laws_toSkyRun.f ((rd_T74 x0 x4).f0) ((rd_T74 x0 x4).f1) ((rd_T74 x0 x4).f2)).bind fun bt139 => (if x4 < (x3.length : Int) then (laws_toSkyRunS.l0 k x0 (x3.set (x4 : Int).toNat (⟨bt139.1, bt139.2.1, bt139.2.2⟩ : S72)) (wrap64 (x4 + 1))) else (none))) else (none)) else (some x3)
def laws_toSkyRunS.f (k : Nat) (l0 : List (S74)) : Option ((List (S72))) := if 0 ≤ (l0.length : Int) then (if ((l0.length : Int) : Int).toNat ≤ 8796093022208 then (laws_toSkyRunS.l0 k l0 (List.replicate ((l0.length : Int) : Int).toNat z72) 0) else (none)) else (none)
set_option maxHeartbeats 8000000 in
set_option maxRecDepth 100000 in
theorem laws_toSkyRunS.calls (k : Nat) (A0 : Option Addr) (c0 : Nat) (l0 : List (S74)) (r : List (S72)) (w : World) (hr0 : Kd.C k74 w A0 l0.length l0) (hc0 : l0.length ≤ c0) (h : laws_toSkyRunS.f k l0 = some r) :
 Calls Try.prog 33 #[.slice A0 l0.length c0] w fun e w' => ∃ v0_ : Value, e = .returned (v0_) ∧ Kd.R k72 72 w' w.heap.size (fun _ => True) v0_ r ∧ Below w.heap.size w w' := by
 have hu74 := Try.underlying74
 have hu72 := Try.underlying72
 have HR0 := Aside0.mk hr0
 have HC0 := Aside0.mk hc0
 clear hr0 hc0
 have HB := Aside0.mk (Below.refl w.heap.size w)
 have H : (if 0 ≤ (l0.length : Int) then (if ((l0.length : Int) : Int).toNat ≤ 8796093022208 then (laws_toSkyRunS.l0 k l0 (List.replicate ((l0.length : Int) : Int).toNat z72) 0) else (none)) else (none)) = some r := h
 clear h
 by_cases c2 : 0 ≤ (l0.length : Int)
 rotate_left
 ·rw [if_neg c2] at H
  exact absurd H (by simp)
 rw [if_pos c2] at H
 have c2b0 := eq_true c2
 have c2b1 : decide (0 ≤ (l0.length : Int)) = true := decide_eq_true c2
 clear c2
 by_cases c3 : ((l0.length : Int) : Int).toNat ≤ 8796093022208
 rotate_left
 ·rw [if_neg c3] at H
  exact absurd H (by simp)
 rw [if_pos c3] at H
 have c3b0 := eq_true c3
 have c3b1 : decide (((l0.length : Int) : Int).toNat ≤ 8796093022208) = true := decide_eq_true c3
 clear c3
 obtain ⟨y135, hy135⟩ : ∃ y_ : List (S72), y_ = (List.replicate ((l0.length : Int) : Int).toNat z72) := ⟨_, rfl⟩
 replace H : (laws_toSkyRunS.l0 k l0 y135 0) = some r := by first | (rw [hy135]; with_reducible exact H) | (have H2_ := (Option.bind_some _ _).symm.trans H; rw [hy135]; with_reducible exact H2_) | (have H2_ := (Option.bind_some _ _).symm.trans H; with_reducible exact H2_) | with_reducible exact H | (rw [hy135]; exact H) | exact H
 have Ny135 := Aside0.mk hy135
 clear hy135
 have H' := Aside0.mk H
 clear H
 go_enter Try.func33, Try.ntmps33
 go_wp2_with (first | ((with_reducible refine gate_dst (N := 7) rfl ?_); refine Kd.R_make k72 _ 72 rfl (N := 7) rfl 59 _ _ rfl (l0.length : Int) rfl rfl Try.underlying59 (.agg #[(.int .i64 0), (.int .i64 0), (.string ⟨#[]⟩)]) 32 info72 rfl (by decide) (by omega) z72 (ok := fun _ => True) (okp := fun _ => True) (k72_mkM _ _ _ z72 ) (fun _ hk => hk) trivial (za) (Nat.le_trans (Nat.mul_le_mul_right _ (za : (l0.length : Int).toNat ≤ 8796093022208)) (by omega)) (Below.refl _ _) (Nat.le_refl _) ?_; intro v136 w4 ho5 hb hg_ hnew_; clear hg_ hnew_; (first | rw [← Ny135.out] at ho5 | (simp only [Int.reduceToNat] at ho5; rw [← Ny135.out] at ho5)); have HO137 := Aside0.mk (Kd.R_lower ho5 (below_size (zs0 HB))); replace HB := zE (zs0 HB) hb; clear hb ho5))
 go_loopg [4] k (fun kq v4 w' => ∃ (x3_1 : List (S72)) (x4_1 : Int), v4 = .int .i64 x4_1 ∧ Aside0 (laws_toSkyRunS.l0 kq l0 x3_1 x4_1 = some r) ∧ Aside0 (kq ≤ k) ∧ Aside0 (Kd.R k72 72 w' w.heap.size (fun _ => True) v136 x3_1) ∧ Aside0 (Below w.heap.size w w'))
 case atStart => exact ⟨(y135), (0), zi, H', ⟨Nat.le_refl _⟩, ⟨zr HO137⟩, ⟨zs0 HB⟩⟩
 case round =>
  clear H'
  try clear c2
  try clear c2b0
  try clear c2b1
  try clear p2
  try clear c3
  try clear c3b0
  try clear c3b1
  obtain ⟨x3_1, x4_1, rfl, HA, HK1, HO_3, HB⟩ := hrel
  cases gk with
  | zero => exact absurd HA.out (by simp [laws_toSkyRunS.l0])
  | succ k1 =>
   have H := HA.out
   clear HA
   simp only [laws_toSkyRunS.l0] at H
   by_cases c6 : x4_1 < (l0.length : Int)
   rotate_left
   ·rw [if_neg c6] at H
    have c6b0 : decide (x4_1 < (l0.length : Int)) = false := decide_eq_false c6
    clear c6
    obtain rfl := Option.some.inj H
    go_wp2
    go_ret
    exact ⟨_, ze, zr HO_3, zs0 HB⟩
   rw [if_pos c6] at H
   have c6b0 : decide (x4_1 < (l0.length : Int)) = true := decide_eq_true c6
   clear c6
   by_cases c7 : 0 ≤ x4_1
   rotate_left
   ·rw [if_neg c7] at H
    exact absurd H (by simp)
   rw [if_pos c7] at H
   have c7b0 : decide (0 ≤ x4_1) = true := decide_eq_true c7
   clear c7
   replace H := Option.bind_eq_some_iff.mp H
   obtain ⟨⟨t139, t140, t141⟩, A80, H⟩ := H
   replace H : (if x4_1 < (x3_1.length : Int) then (laws_toSkyRunS.l0 k1 l0 (x3_1.set (x4_1 : Int).toNat (⟨t139, t140, t141⟩ : S72)) (wrap64 (x4_1 + 1))) else (none)) = some r := H
   have A8 := Aside0.mk A80
   clear A80
   by_cases c9 : x4_1 < (x3_1.length : Int)
   rotate_left
   ·rw [if_neg c9] at H
    exact absurd H (by simp)
   rw [if_pos c9] at H
   have c9b0 : decide (x4_1 < (x3_1.length : Int)) = true := decide_eq_true c9
   clear c9
   obtain ⟨y142, hy142⟩ : ∃ y_ : List (S72), y_ = (x3_1.set (x4_1 : Int).toNat (⟨t139, t140, t141⟩ : S72)) := ⟨_, rfl⟩
   replace H : (laws_toSkyRunS.l0 k1 l0 y142 (wrap64 (x4_1 + 1))) = some r := by first | (rw [hy142]; with_reducible exact H) | (have H2_ := (Option.bind_some _ _).symm.trans H; rw [hy142]; with_reducible exact H2_) | (have H2_ := (Option.bind_some _ _).symm.trans H; with_reducible exact H2_) | with_reducible exact H | (rw [hy142]; exact H) | exact H
   have Ny142 := Aside0.mk hy142
   clear hy142
   have H' := Aside0.mk H
   clear H
   have p138 : 0 ≤ (x4_1 : Int) := za
   have q138 : x4_1 < (l0.length : Int) := za
   obtain ⟨ad138, e138, hx138_0, hx138_1, hx138_2⟩ := at_T74 HR0.out x4_1 p138 q138
   cases e138
   replace hx138_0 := zx HB hx138_0
   replace hx138_1 := zx HB hx138_1
   replace hx138_2 := zx HB hx138_2
   replace p138 := eq_true p138
   replace q138 := eq_true q138
   go_wp2_with (first | ((with_reducible refine gate_callee (f := 36) rfl ?_); refine zgl (N := some 20) Try.func36 #[.agg #[.int .i64 ((rd_T74 l0 x4_1).f0), .int .i64 ((rd_T74 l0 x4_1).f1), .string ((rd_T74 l0 x4_1).f2)]] ?_; (with_reducible refine (laws_toSkyRun.calls ((rd_T74 l0 x4_1).f0) ((rd_T74 l0 x4_1).f1) ((rd_T74 l0 x4_1).f2) t139 t140 t141 _ A8.out).mono ?_); rintro e w11 ⟨rfl, hb⟩; refine ⟨_, rfl, ?_⟩; replace HO_3 := Aside0.mk (Kd.R_below (zr HO_3) hb); replace HB := zE (zs0 HB) hb; (try clear hb); (try clear hb2); (try clear hk); (try clear hi); have p10 : 0 ≤ (x4_1 : Int) := za; have q10 : (x4_1 : Int) < ((x3_1.length : Int) : Int) := za; obtain ⟨go10, co10, eo10, gb10, gl10, cl10, HG10⟩ := Kd.R_form HO_3.out (by omega); (first | cases eo10 | (injection eo10 with ea_ en_ ec_; (first | subst ea_ | (injection ea_ with ea_; subst ea_)); subst ec_; clear en_)); have GB10 := Aside0.mk gb10; have GG10 := Aside0.mk HG10; clear gb10 gl10 HG10; obtain ⟨ce10, hcl10, hM10, hcc10, hfr10⟩ := Kd.R_elem HO_3.out z72 (x4_1 : Int) p10 q10; obtain rfl := k72_openM hM10; have hx10_0 : w11.cell? ⟨go10, (x4_1 : Int).toNat * 3, none⟩ = some (.int .i64 ((rd_T72 x3_1 x4_1).f0)) := hcc10 0 _ rfl; have hx10_1 : w11.cell? ⟨go10, (x4_1 : Int).toNat * 3 + 1, none⟩ = some (.int .i64 ((rd_T72 x3_1 x4_1).f1)) := hcc10 1 _ rfl; have hx10_2 : w11.cell? ⟨go10, (x4_1 : Int).toNat * 3 + 2, none⟩ = some (.string ((rd_T72 x3_1 x4_1).f2)) := hcc10 2 _ rfl; have hf10_0 : w11.frozen? ⟨go10, (x4_1 : Int).toNat * 3, none⟩ = false := hfr10 0; have hf10_1 : w11.frozen? ⟨go10, (x4_1 : Int).toNat * 3 + 1, none⟩ = false := hfr10 1; have hf10_2 : w11.frozen? ⟨go10, (x4_1 : Int).toNat * 3 + 2, none⟩ = false := hfr10 2; clear hcl10 hcc10 hfr10 hM10; replace p10 := eq_true p10; replace q10 := eq_true q10; have HX12 := Aside0.mk (show Kd.R k72 72 w11 w.heap.size (fun _ => True) (.slice (some ⟨go10, 0, none⟩) x3_1.length co10) x3_1 from (zr HO_3)); obtain ⟨ce12, hcl12, hM12, hcc12, hfr12⟩ := Kd.R_elem HX12.out z72 (x4_1 : Int) (za) (by have h_ : (x4_1 : Int) < ((x3_1.length : Int) : Int) := za; first | exact h_ | (have e_ := (Kd.R_reads' HO_3.out).1; omega) | simpa using h_); obtain rfl := k72_openM hM12; have HP12 := Kd.R_seg HX12.out (x4_1 : Int) (za) (by have h_ : (x4_1 : Int) < ((x3_1.length : Int) : Int) := za; first | exact h_ | (have e_ := (Kd.R_reads' HO_3.out).1; omega) | simpa using h_) (seg := [.int .i64 t139, .int .i64 t140, .string t141]) (j := 0) hcl12 hcc12 (show 3 ≤ 3 from by decide) (x' := (⟨t139, t140, t141⟩ : S72)) (k72_mkM _ _ _ (⟨t139, t140, t141⟩ : S72) ) (fun _ hk => hk); have hx12_0 := hcc12 0 _ rfl; (try simp only [show (k72).sz = 3 from rfl, Nat.mul_one, Nat.add_zero] at hx12_0); have hf12_0 := hfr12 0; (try simp only [show (k72).sz = 3 from rfl, Nat.mul_one, Nat.add_zero] at hf12_0); have hx12_1 := hcc12 1 _ rfl; (try simp only [show (k72).sz = 3 from rfl, Nat.mul_one, Nat.add_zero] at hx12_1); have hf12_1 := hfr12 1; (try simp only [show (k72).sz = 3 from rfl, Nat.mul_one, Nat.add_zero] at hf12_1); have hx12_2 := hcc12 2 _ rfl; (try simp only [show (k72).sz = 3 from rfl, Nat.mul_one, Nat.add_zero] at hx12_2); have hf12_2 := hfr12 2; (try simp only [show (k72).sz = 3 from rfl, Nat.mul_one, Nat.add_zero] at hf12_2); clear hcl12 hcc12 hfr12 hM12) | ((with_reducible refine gate_store (t := 72) (p := 21) rfl ?_); refine store_event (t := 72) (p := 21) (v := ?vo_w13) (w1 := (((w11.setCell ⟨go10, (x4_1 : Int).toNat * 3, none⟩ (.int .i64 t139)).setCell ⟨go10, (x4_1 : Int).toNat * 3 + 1, none⟩ (.int .i64 t140)).setCell ⟨go10, (x4_1 : Int).toNat * 3 + 2, none⟩ (.string t141))) ?hg ?ho ?hn ?hr ?_; (case ho => rfl); (case hg => rfl); (case hn => rfl); (case hr => first | (go_simp; done) | (go_simp; rfl)); intro w13 hw; have hg : w11.grownBy w13 (some go10) := (by rw [hw]; exact HP12.2); have hp_ : Kd.R k72 72 w13 w.heap.size (fun _ => True) (.slice (some ⟨go10, 0, none⟩) x3_1.length co10) y142 := (by rw [hw, Ny142.out]; exact HP12.1); clear HP12; replace HO_3 := Aside0.mk (hp_); replace HB := Aside0.mk ((by rw [hw]; exact below_set (below_set (below_set (HB.out) GB10.out) GB10.out) GB10.out : Below w.heap.size w w13)); clear hg hw hp_))
   go_roundg k1
   case measure => have := HK1.out; omega
   case rel => exact ⟨(y142), (wrap64 (x4_1 + 1)), zi, H', ⟨by have := HK1.out; omega⟩, ⟨zr HO_3⟩, ⟨zs0 HB⟩⟩
def laws_toSkyRow.f (k : Nat) (a0_0 : Int) (a0_1 : Int) (l0_2 : List (S74)) : Option (Int × Int × (List (S72))) := (laws_toSkyRunS.f k l0_2).bind fun t146 => (some (a0_0, a0_1, t146))
set_option maxHeartbeats 8000000 in
set_option maxRecDepth 100000 in
theorem laws_toSkyRow.calls (k : Nat) (a0_0 : Int) (a0_1 : Int) (A0_2 : Option Addr) (c0_2 : Nat) (l0_2 : List (S74)) (r1 : Int) (r2 : Int) (r3 : List (S72)) (w : World) (hr0_2 : Kd.C k74 w A0_2 l0_2.length l0_2) (hc0_2 : l0_2.length ≤ c0_2) (h : laws_toSkyRow.f k a0_0 a0_1 l0_2 = some (r1, r2, r3)) :
 Calls Try.prog 27 #[.agg #[.int .i64 a0_0, .int .i64 a0_1, .slice A0_2 l0_2.length c0_2]] w fun e w' => ∃ v2_ : Value, e = .returned (.agg #[.int .i64 r1, .int .i64 r2, v2_]) ∧ Kd.R k72 72 w' w.heap.size (fun _ => True) v2_ r3 ∧ Below w.heap.size w w' := by
 have hu56 := Try.underlying56
 have hu61 := Try.underlying61
 have HR0_2 := Aside0.mk hr0_2
 have HC0_2 := Aside0.mk hc0_2
 clear hr0_2 hc0_2
 have HB := Aside0.mk (Below.refl w.heap.size w)
 have H : ((laws_toSkyRunS.f k l0_2).bind fun t146 => (some (a0_0, a0_1, t146))) = some (r1, r2, r3) := h
 clear h
 replace H := zbd H; obtain ⟨t146, A2, H⟩ := H
 simp only [Option.some.injEq, Prod.mk.injEq] at H
 obtain ⟨rfl, rfl, rfl⟩ := H
 go_enter Try.func27, Try.ntmps27
 go_wp2_with (first | ((with_reducible refine gate_dst (N := 1) rfl ?_); refine zbx 1 #[.int .i64 a0_0, .int .i64 a0_1, .slice A0_2 l0_2.length c0_2] 56 ?_; intro gb143 hg w3 hbox hb; have BK143 := zA hbox; have GW143 := zgs hg (zs0 HB); have GE143 := zgs hg (zs0 HB); replace HB := zE (zs0 HB) hb; clear hb hbox hg) | ((with_reducible refine gate_dst (N := 2) rfl ?_); refine zbx 2 #[.int .i64 0, .int .i64 0, .slice none 0 0] 61 ?_; intro gb144 hg w4 hbox hb; have BK144 := zA hbox; have GW144 := zgs hg (zs1 HB GE143); have GE144 := zgs hg (zs1 HB GE143); have NB143_144 := zne hg BK143; have NB144_143 := znf hg BK143; replace BK143 := zb BK143 hb; replace HB := zE (zs1 HB GE143) hb; clear hb hbox hg) | ((with_reducible refine gate_dst (N := 3) rfl ?_); refine zbx 3 #[.int .i64 0, .int .i64 0, .slice none 0 0] 61 ?_; intro gb145 hg w5 hbox hb; have BK145 := zA hbox; have GW145 := zgs hg (zs2 HB GE143 GE144); have GE145 := zgs hg (zs2 HB GE143 GE144); have NB143_145 := zne hg BK143; have NB145_143 := znf hg BK143; have NB144_145 := zne hg BK144; have NB145_144 := znf hg BK144; replace BK143 := zb BK143 hb; replace BK144 := zb BK144 hb; replace HB := zE (zs2 HB GE143 GE144) hb; clear hb hbox hg; have hnb6 := NB143_144.out; have hnc6 := NB144_143.out; have hnb7 := NB143_145.out; have hnc7 := NB145_143.out; obtain ⟨hcz8_0, hcz8_1, hcz8_2⟩ := zd3 BK143; obtain ⟨hfz8_0, hfz8_1, hfz8_2⟩ := zn3 BK143; have hnb9 := NB145_144.out; have hnc9 := NB144_145.out; obtain ⟨hcz10_0, hcz10_1, hcz10_2⟩ := zd3 BK145; obtain ⟨hfz10_0, hfz10_1, hfz10_2⟩ := zn3 BK145) | ((with_reducible refine gate_callee (f := 33) rfl ?_); refine zgl (N := some 12) Try.func33 #[.slice A0_2 l0_2.length c0_2] ?_; (with_reducible refine (laws_toSkyRunS.calls k _ _ l0_2 t146 _ ?side1 ?side2 A2.out).mono ?_); (case side1 => exact Kd.C_below HR0_2.out (zs3 HB GE143 GE144 GE145)); (case side2 => exact HC0_2.out); rintro e w11 ⟨v147, rfl, ho0, hb⟩; refine ⟨_, rfl, ?_⟩; have HO148 := Aside0.mk (Kd.R_lower ho0 (below_size (zs3 HB GE143 GE144 GE145))); replace BK143 := Aside0.mk (blk_below (g := gb143) (o := .cells #[.int .i64 a0_0, .int .i64 a0_1, .slice A0_2 l0_2.length c0_2] 56 (0, 0)) (zpf BK143 NB143_145) hb); replace BK144 := Aside0.mk (blk_below (g := gb144) (o := .cells #[.int .i64 0, .int .i64 0, .slice none 0 0] 61 (0, 0)) (zpf BK144 NB144_145) hb); replace BK145 := Aside0.mk (blk_below (g := gb145) (o := .cells #[.int .i64 a0_0, .int .i64 a0_1, .slice none 0 0] 61 (0, 0)) (zpb BK145) hb); replace HB := zE (zs3 HB GE143 GE144 GE145) hb; (try clear hb); (try clear hb2); (try clear hk); (try clear hi); (try clear ho0); obtain ⟨Ao12, co12, eo12⟩ := Kd.R_slice HO148.out; subst eo12; obtain ⟨hcz13_0, hcz13_1, hcz13_2⟩ := zd3 BK145; obtain ⟨hfz13_0, hfz13_1, hfz13_2⟩ := zn3 BK145; obtain ⟨hcz14_0, hcz14_1, hcz14_2⟩ := zd3 BK144; obtain ⟨hfz14_0, hfz14_1, hfz14_2⟩ := zn3 BK144))
 refine bodyPost_ret (results_cell_row rfl _ _ gb144 61 #[.int .i64 a0_0, .int .i64 a0_1, .slice Ao12 t146.length co12] (0, 0) _ rfl ?hz Try.underlying61 rfl (by kernel_rfl)) rfl ?_; (case hz => exact zpf BK144 NB144_145)
 exact ⟨_, ze, by (with_reducible repeat (first | apply Kd.R_alloc | apply Kd.R_drewN | apply Kd.R_drew)); exact Kd.R_mono (Kd.R_far (p := ⟨gb144, 2, none⟩) (Kd.R_far (p := ⟨gb144, 1, none⟩) (Kd.R_far (p := ⟨gb144, 0, none⟩) (Kd.R_far (p := ⟨gb145, 2, none⟩) (Kd.R_types (Kd.R_types HO148.out BK145.out (by decide)) BK144.out (by decide)) (fun _ hk => hk.1.2) (.slice Ao12 t146.length co12)) (fun _ hk => hk.2) (.int .i64 a0_0)) (fun _ hk => hk.2) (.int .i64 a0_1)) (fun _ hk => hk.2) (.slice Ao12 t146.length co12)) (fun _ hk => trivial), zs3 HB GE143 GE144 GE145⟩
def laws_toSkyRowS.l0 : Nat → List (S56) → List (S61) → Int → Option ((List (S61)))
 | 0, _, _, _ => none
 | k + 1, x0, x3, x4 => if x4 < (x0.length : Int) then (if 0 ≤ x4 then ((laws_toSkyRow.f k ((rd_T56 x0 x4).f0) ((rd_T56 x0 x4).f1) ((rd_T56 x0 x4).f2)).bind fun bt153 => (if x4 < (x3.length : Int) then (laws_toSkyRowS.l0 k x0 (x3.set (x4 : Int).toNat (⟨bt153.1, bt153.2.1, bt153.2.2⟩ : S61)) (wrap64 (x4 + 1))) else (none))) else (none)) else (some x3)
def laws_toSkyRowS.f (k : Nat) (l0 : List (S56)) : Option ((List (S61))) := if 0 ≤ (l0.length : Int) then (if ((l0.length : Int) : Int).toNat ≤ 7036874417766 then (laws_toSkyRowS.l0 k l0 (List.replicate ((l0.length : Int) : Int).toNat z61) 0) else (none)) else (none)
set_option maxHeartbeats 8000000 in
set_option maxRecDepth 100000 in
theorem laws_toSkyRowS.calls (k : Nat) (A0 : Option Addr) (c0 : Nat) (l0 : List (S56)) (r : List (S61)) (w : World) (hr0 : Kd.C k56 w A0 l0.length l0) (hc0 : l0.length ≤ c0) (h : laws_toSkyRowS.f k l0 = some r) :
 Calls Try.prog 16 #[.slice A0 l0.length c0] w fun e w' => ∃ v0_ : Value, e = .returned (v0_) ∧ Kd.S k61 61 w' w.heap.size (fun _ => True) v0_ r ∧ Below w.heap.size w w' := by
 have hu56 := Try.underlying56
 have hu61 := Try.underlying61
 have HR0 := Aside0.mk hr0
 have HC0 := Aside0.mk hc0
 clear hr0 hc0
 have HB := Aside0.mk (Below.refl w.heap.size w)
 have H : (if 0 ≤ (l0.length : Int) then (if ((l0.length : Int) : Int).toNat ≤ 7036874417766 then (laws_toSkyRowS.l0 k l0 (List.replicate ((l0.length : Int) : Int).toNat z61) 0) else (none)) else (none)) = some r := h
 clear h
 by_cases c2 : 0 ≤ (l0.length : Int)
 rotate_left
 ·rw [if_neg c2] at H
  exact absurd H (by simp)
 rw [if_pos c2] at H
 have c2b0 := eq_true c2
 have c2b1 : decide (0 ≤ (l0.length : Int)) = true := decide_eq_true c2
 clear c2
 by_cases c3 : ((l0.length : Int) : Int).toNat ≤ 7036874417766
 rotate_left
 ·rw [if_neg c3] at H
  exact absurd H (by simp)
 rw [if_pos c3] at H
 have c3b0 := eq_true c3
 have c3b1 : decide (((l0.length : Int) : Int).toNat ≤ 7036874417766) = true := decide_eq_true c3
 clear c3
 obtain ⟨y149, hy149⟩ : ∃ y_ : List (S61), y_ = (List.replicate ((l0.length : Int) : Int).toNat z61) := ⟨_, rfl⟩
 replace H : (laws_toSkyRowS.l0 k l0 y149 0) = some r := by first | (rw [hy149]; with_reducible exact H) | (have H2_ := (Option.bind_some _ _).symm.trans H; rw [hy149]; with_reducible exact H2_) | (have H2_ := (Option.bind_some _ _).symm.trans H; with_reducible exact H2_) | with_reducible exact H | (rw [hy149]; exact H) | exact H
 have Ny149 := Aside0.mk hy149
 clear hy149
 have H' := Aside0.mk H
 clear H
 go_enter Try.func16, Try.ntmps16
 go_wp2_with (first | ((with_reducible refine gate_dst (N := 7) rfl ?_); refine Kd.S_make k61 _ 61 rfl (N := 7) rfl 29 _ _ rfl (l0.length : Int) rfl rfl Try.underlying29 (.agg #[(.int .i64 0), (.int .i64 0), (.slice none 0 0)]) 40 info61 rfl (by decide) (by omega) z61 (ok := fun _ => True) (okp := fun _ => True) (k61_mkM _ _ _ z61 (Kd.R_nil _ _ _ _ _)) (fun _ hk => hk) trivial (za) (Nat.le_trans (Nat.mul_le_mul_right _ (za : (l0.length : Int).toNat ≤ 7036874417766)) (by omega)) (Below.refl _ _) (Nat.le_refl _) ?_; intro v150 w4 ho5 hb hg_ hnew_; clear hg_ hnew_; (first | rw [← Ny149.out] at ho5 | (simp only [Int.reduceToNat] at ho5; rw [← Ny149.out] at ho5)); have HO151 := Aside0.mk (Kd.S_lower ho5 (below_size (zs0 HB))); replace HB := zE (zs0 HB) hb; clear hb ho5))
 go_loopg [4] k (fun kq v4 w' => ∃ (x3_1 : List (S61)) (x4_1 : Int), v4 = .int .i64 x4_1 ∧ Aside0 (laws_toSkyRowS.l0 kq l0 x3_1 x4_1 = some r) ∧ Aside0 (kq ≤ k) ∧ Aside0 (Kd.S k61 61 w' w.heap.size (fun _ => True) v150 x3_1) ∧ Aside0 (Below w.heap.size w w'))
 case atStart => exact ⟨(y149), (0), zi, H', ⟨Nat.le_refl _⟩, ⟨by (with_reducible repeat (first | apply Kd.S_alloc | apply Kd.S_drewN | apply Kd.S_drew)); exact HO151.out⟩, ⟨zs0 HB⟩⟩
 case round =>
  clear H'
  try clear c1
  try clear c2
  try clear c2b0
  try clear c2b1
  try clear p2
  try clear c3
  try clear c3b0
  try clear c3b1
  obtain ⟨x3_1, x4_1, rfl, HA, HK1, HO_3, HB⟩ := hrel
  cases gk with
  | zero => exact absurd HA.out (by simp [laws_toSkyRowS.l0])
  | succ k1 =>
   have H := HA.out
   clear HA
   simp only [laws_toSkyRowS.l0] at H
   by_cases c6 : x4_1 < (l0.length : Int)
   rotate_left
   ·rw [if_neg c6] at H
    have c6b0 : decide (x4_1 < (l0.length : Int)) = false := decide_eq_false c6
    clear c6
    obtain rfl := Option.some.inj H
    go_wp2
    go_ret
    exact ⟨_, ze, by (with_reducible repeat (first | apply Kd.S_alloc | apply Kd.S_drewN | apply Kd.S_drew)); exact HO_3.out, zs0 HB⟩
   rw [if_pos c6] at H
   have c6b0 : decide (x4_1 < (l0.length : Int)) = true := decide_eq_true c6
   clear c6
   by_cases c7 : 0 ≤ x4_1
   rotate_left
   ·rw [if_neg c7] at H
    exact absurd H (by simp)
   rw [if_pos c7] at H
   have c7b0 : decide (0 ≤ x4_1) = true := decide_eq_true c7
   clear c7
   replace H := Option.bind_eq_some_iff.mp H
   obtain ⟨⟨t153, t154, t155⟩, A80, H⟩ := H
   replace H : (if x4_1 < (x3_1.length : Int) then (laws_toSkyRowS.l0 k1 l0 (x3_1.set (x4_1 : Int).toNat (⟨t153, t154, t155⟩ : S61)) (wrap64 (x4_1 + 1))) else (none)) = some r := H
   have A8 := Aside0.mk A80
   clear A80
   by_cases c9 : x4_1 < (x3_1.length : Int)
   rotate_left
   ·rw [if_neg c9] at H
    exact absurd H (by simp)
   rw [if_pos c9] at H
   have c9b0 : decide (x4_1 < (x3_1.length : Int)) = true := decide_eq_true c9
   clear c9
   obtain ⟨y158, hy158⟩ : ∃ y_ : List (S61), y_ = (x3_1.set (x4_1 : Int).toNat (⟨t153, t154, t155⟩ : S61)) := ⟨_, rfl⟩
   replace H : (laws_toSkyRowS.l0 k1 l0 y158 (wrap64 (x4_1 + 1))) = some r := by first | (rw [hy158]; with_reducible exact H) | (have H2_ := (Option.bind_some _ _).symm.trans H; rw [hy158]; with_reducible exact H2_) | (have H2_ := (Option.bind_some _ _).symm.trans H; with_reducible exact H2_) | with_reducible exact H | (rw [hy158]; exact H) | exact H
   have Ny158 := Aside0.mk hy158
   clear hy158
   have H' := Aside0.mk H
   clear H
   have p152 : 0 ≤ (x4_1 : Int) := za
   have q152 : x4_1 < (l0.length : Int) := za
   obtain ⟨ad152, A152_2, c152_2, e152, hx152_0, hx152_1, hx152_2, hl152_2, hi152_2⟩ := at_T56 HR0.out x4_1 p152 q152
   cases e152
   replace hx152_0 := zx HB hx152_0
   replace hx152_1 := zx HB hx152_1
   replace hx152_2 := zx HB hx152_2
   have HR152_2 := Aside0.mk hi152_2
   have HC152_2 := Aside0.mk hl152_2
   clear hi152_2 hl152_2
   replace p152 := eq_true p152
   replace q152 := eq_true q152
   go_wp2_with (first | ((with_reducible refine gate_callee (f := 27) rfl ?_); refine zgl (N := some 20) Try.func27 #[.agg #[.int .i64 ((rd_T56 l0 x4_1).f0), .int .i64 ((rd_T56 l0 x4_1).f1), .slice A152_2 ((rd_T56 l0 x4_1).f2).length c152_2]] ?_; (with_reducible refine (laws_toSkyRow.calls k1 ((rd_T56 l0 x4_1).f0) ((rd_T56 l0 x4_1).f1) _ _ ((rd_T56 l0 x4_1).f2) t153 t154 t155 _ ?side1 ?side2 A8.out).mono ?_); (case side1 => exact zC HR152_2 HB); (case side2 => exact HC152_2.out); rintro e w11 ⟨v156, rfl, ho0, hb⟩; refine ⟨_, rfl, ?_⟩; have HO157 := Aside0.mk (Kd.R_lower ho0 (below_size (zs0 HB))); replace HO_3 := Aside0.mk (Kd.S_elder' (by (with_reducible repeat (first | apply Kd.S_alloc | apply Kd.S_drewN | apply Kd.S_drew)); exact HO_3.out) (Kd.R_base ho0) hb); replace HB := zE (zs0 HB) hb; (try clear hb); (try clear hb2); (try clear hk); (try clear hi); (try clear ho0); have p10 : 0 ≤ (x4_1 : Int) := za; have q10 : (x4_1 : Int) < ((x3_1.length : Int) : Int) := za; obtain ⟨go10, co10, eo10, gb10, gl10, cl10, HG10⟩ := Kd.S_form HO_3.out (by omega); (first | cases eo10 | (injection eo10 with ea_ en_ ec_; (first | subst ea_ | (injection ea_ with ea_; subst ea_)); subst ec_; clear en_)); have GB10 := Aside0.mk gb10; have GG10 := Aside0.mk HG10; clear gb10 gl10 HG10; obtain ⟨_, ce10, hcl10, hM10, hcc10, hfr10, _, _⟩ := Kd.S_elem HO_3.out z61 (x4_1 : Int) p10 q10; obtain ⟨ve10_2, rfl, ge10_2⟩ := k61_openM hM10; have hx10_0 : w11.cell? ⟨go10, (x4_1 : Int).toNat * 3, none⟩ = some (.int .i64 ((rd_T61 x3_1 x4_1).f0)) := hcc10 0 _ rfl; have hx10_1 : w11.cell? ⟨go10, (x4_1 : Int).toNat * 3 + 1, none⟩ = some (.int .i64 ((rd_T61 x3_1 x4_1).f1)) := hcc10 1 _ rfl; have hx10_2 : w11.cell? ⟨go10, (x4_1 : Int).toNat * 3 + 2, none⟩ = some (ve10_2) := hcc10 2 _ rfl; have hf10_0 : w11.frozen? ⟨go10, (x4_1 : Int).toNat * 3, none⟩ = false := hfr10 0; have hf10_1 : w11.frozen? ⟨go10, (x4_1 : Int).toNat * 3 + 1, none⟩ = false := hfr10 1; have hf10_2 : w11.frozen? ⟨go10, (x4_1 : Int).toNat * 3 + 2, none⟩ = false := hfr10 2; clear hcl10 hcc10 hfr10 hM10; replace p10 := eq_true p10; replace q10 := eq_true q10; have n_ := Aside0.mk (Kd.S_mono (ok' := (fun k_ => some k_ ≠ (v156 : Value).ownBlock)) HO_3.out (fun k_ hk => hk.2)); clear HO_3; have HO_3 := n_; clear n_; have HX12 := Aside0.mk (show Kd.S k61 61 w11 w.heap.size (fun k_ => ((fun _ => True)) k_ ∧ ¬ ((fun k_ => some k_ = (v156 : Value).ownBlock)) k_) (.slice (some ⟨go10, 0, none⟩) x3_1.length co10) x3_1 from (by (with_reducible repeat (first | apply Kd.S_alloc | apply Kd.S_drewN | apply Kd.S_drew)); exact Kd.S_mono HO_3.out (fun k_ hk => ⟨trivial, fun e_ => hk e_⟩))); obtain ⟨oki12, ce12, hcl12, hM12, hcc12, hfr12, hoki12, hH12⟩ := Kd.S_elem HX12.out z61 (x4_1 : Int) (za) (by have h_ : (x4_1 : Int) < ((x3_1.length : Int) : Int) := za; first | exact h_ | (have e_ := (Kd.S_reads' HO_3.out).1; omega) | simpa using h_); obtain ⟨ve12_2, rfl, ge12_2⟩ := k61_openM hM12; have HP12 := Kd.S_seg hH12 (za) (by have h_ : (x4_1 : Int) < ((x3_1.length : Int) : Int) := za; first | exact h_ | (have e_ := (Kd.S_reads' HO_3.out).1; omega) | simpa using h_) (seg := [.int .i64 t153, .int .i64 t154, v156]) (j := 0) (show 3 ≤ 3 from by decide) (x' := (⟨t153, t154, t155⟩ : S61)) (k61_mkM _ _ _ (⟨t153, t154, t155⟩ : S61) (Kd.R_mono (Kd.R_tight rfl (Kd.R_mono (ok' := fun k_ => ((fun _ => True)) k_ ∧ k_ ≠ go10) (Kd.R_apart' (HO157.out) (Kd.S_typed HO_3.out) (by decide)) (fun k_ hk => ⟨trivial, fun e_ => (hk.2) (by rw [e_]; rfl)⟩))) (fun _ h_ => Or.inr (h_)))) (fun _ hk => hk) (fun k_ hk_ => ((Kd.R_mono (ok' := fun k_ => ((fun _ => True)) k_ ∧ k_ ≠ go10) (Kd.R_apart' (HO157.out) (Kd.S_typed HO_3.out) (by decide)) (fun k_ hk => ⟨trivial, fun e_ => (hk.2) (by rw [e_]; rfl)⟩))).1 k_ hk_.symm); have hx12_0 := hcc12 0 _ rfl; (try simp only [show (k61).sz = 3 from rfl, Nat.mul_one, Nat.add_zero] at hx12_0); have hf12_0 := hfr12 0; (try simp only [show (k61).sz = 3 from rfl, Nat.mul_one, Nat.add_zero] at hf12_0); have hx12_1 := hcc12 1 _ rfl; (try simp only [show (k61).sz = 3 from rfl, Nat.mul_one, Nat.add_zero] at hx12_1); have hf12_1 := hfr12 1; (try simp only [show (k61).sz = 3 from rfl, Nat.mul_one, Nat.add_zero] at hf12_1); have hx12_2 := hcc12 2 _ rfl; (try simp only [show (k61).sz = 3 from rfl, Nat.mul_one, Nat.add_zero] at hx12_2); have hf12_2 := hfr12 2; (try simp only [show (k61).sz = 3 from rfl, Nat.mul_one, Nat.add_zero] at hf12_2); clear hcl12 hcc12 hfr12 hM12 hoki12 hH12; obtain ⟨Ao156, co156, eo156⟩ := Kd.R_slice HO157.out) | ((with_reducible refine gate_store (t := 61) (p := 21) rfl ?_); refine store_event (t := 61) (p := 21) (v := ?vo_w13) (w1 := (((w11.setCell ⟨go10, (x4_1 : Int).toNat * 3, none⟩ (.int .i64 t153)).setCell ⟨go10, (x4_1 : Int).toNat * 3 + 1, none⟩ (.int .i64 t154)).setCell ⟨go10, (x4_1 : Int).toNat * 3 + 2, none⟩ (v156))) ?hg ?ho ?hn ?hr ?_; (case ho => rfl); (case hg => rfl); (case hn => rfl); (case hr => first | (go_simp; done) | (go_simp; rfl)); intro w13 hw; have hg : w11.grownBy w13 (some go10) := (by rw [hw]; exact HP12.2); have hp_ : Kd.S k61 61 w13 w.heap.size (fun _ => True) (.slice (some ⟨go10, 0, none⟩) x3_1.length co10) y158 := (by rw [hw, Ny158.out]; exact HP12.1); clear HP12; replace HO_3 := Aside0.mk (hp_); replace HB := Aside0.mk ((by rw [hw]; exact below_set (below_set (below_set (HB.out) GB10.out) GB10.out) GB10.out : Below w.heap.size w w13)); clear HO157; clear hg hw hp_))
   go_roundg k1
   case measure => have := HK1.out; omega
   case rel => exact ⟨(y158), (wrap64 (x4_1 + 1)), zi, H', ⟨by have := HK1.out; omega⟩, ⟨by (with_reducible repeat (first | apply Kd.S_alloc | apply Kd.S_drewN | apply Kd.S_drew)); exact HO_3.out⟩, ⟨zs0 HB⟩⟩
def laws_toSkyHop.f (a0_0 : ByteArray) (a0_1 : ByteArray) (a0_2 : Int) (a0_3 : ByteArray) : Option (ByteArray × ByteArray × Int × ByteArray) := some (a0_0, a0_1, a0_2, a0_3)
set_option maxHeartbeats 8000000 in
set_option maxRecDepth 100000 in
theorem laws_toSkyHop.calls (a0_0 : ByteArray) (a0_1 : ByteArray) (a0_2 : Int) (a0_3 : ByteArray) (r1 : ByteArray) (r2 : ByteArray) (r3 : Int) (r4 : ByteArray) (w : World) (h : laws_toSkyHop.f a0_0 a0_1 a0_2 a0_3 = some (r1, r2, r3, r4)) :
 Calls Try.prog 28 #[.agg #[.string a0_0, .string a0_1, .int .i64 a0_2, .string a0_3]] w fun e w' => e = .returned (.agg #[.string r1, .string r2, .int .i64 r3, .string r4]) ∧ Below w.heap.size w w' := by
 have hu58 := Try.underlying58
 have hu43 := Try.underlying43
 have HB := Aside0.mk (Below.refl w.heap.size w)
 have H : (some (a0_0, a0_1, a0_2, a0_3)) = some (r1, r2, r3, r4) := h
 clear h
 simp only [Option.some.injEq, Prod.mk.injEq] at H
 obtain ⟨rfl, rfl, rfl, rfl⟩ := H
 go_enter Try.func28, Try.ntmps28
 go_wp2_with (first | ((with_reducible refine gate_dst (N := 1) rfl ?_); refine zbx 1 #[.string a0_0, .string a0_1, .int .i64 a0_2, .string a0_3] 58 ?_; intro gb159 hg w2 hbox hb; have BK159 := zA hbox; have GW159 := zgs hg (zs0 HB); have GE159 := zgs hg (zs0 HB); replace HB := zE (zs0 HB) hb; clear hb hbox hg) | ((with_reducible refine gate_dst (N := 2) rfl ?_); refine zbx 2 #[.string (⟨#[]⟩ : ByteArray), .string (⟨#[]⟩ : ByteArray), .int .i64 0, .string (⟨#[]⟩ : ByteArray)] 43 ?_; intro gb160 hg w3 hbox hb; have BK160 := zA hbox; have GW160 := zgs hg (zs1 HB GE159); have GE160 := zgs hg (zs1 HB GE159); have NB159_160 := zne hg BK159; have NB160_159 := znf hg BK159; replace BK159 := zb BK159 hb; replace HB := zE (zs1 HB GE159) hb; clear hb hbox hg) | ((with_reducible refine gate_dst (N := 3) rfl ?_); refine zbx 3 #[.string (⟨#[]⟩ : ByteArray), .string (⟨#[]⟩ : ByteArray), .int .i64 0, .string (⟨#[]⟩ : ByteArray)] 43 ?_; intro gb161 hg w4 hbox hb; have BK161 := zA hbox; have GW161 := zgs hg (zs2 HB GE159 GE160); have GE161 := zgs hg (zs2 HB GE159 GE160); have NB159_161 := zne hg BK159; have NB161_159 := znf hg BK159; have NB160_161 := zne hg BK160; have NB161_160 := znf hg BK160; replace BK159 := zb BK159 hb; replace BK160 := zb BK160 hb; replace HB := zE (zs2 HB GE159 GE160) hb; clear hb hbox hg; have hnb5 := NB159_160.out; have hnc5 := NB160_159.out; have hnb6 := NB159_161.out; have hnc6 := NB161_159.out; obtain ⟨hcz7_0, hcz7_1, hcz7_2, hcz7_3⟩ := zd4 BK159; obtain ⟨hfz7_0, hfz7_1, hfz7_2, hfz7_3⟩ := zn4 BK159; have hnb8 := NB161_160.out; have hnc8 := NB160_161.out; obtain ⟨hcz9_0, hcz9_1, hcz9_2, hcz9_3⟩ := zd4 BK161; obtain ⟨hfz9_0, hfz9_1, hfz9_2, hfz9_3⟩ := zn4 BK161; obtain ⟨hcz10_0, hcz10_1, hcz10_2, hcz10_3⟩ := zd4 BK160; obtain ⟨hfz10_0, hfz10_1, hfz10_2, hfz10_3⟩ := zn4 BK160))
 refine bodyPost_ret (results_cell_row rfl _ _ gb160 43 #[.string a0_0, .string a0_1, .int .i64 a0_2, .string a0_3] (0, 0) _ rfl ?hz Try.underlying43 rfl (by kernel_rfl)) rfl ?_; (case hz => exact zpf BK160 NB160_161)
 exact ⟨ze, zs3 HB GE159 GE160 GE161⟩
end Go.Proofs.Ytkdhfgonjipbbaa.QFnExactSkyAlong
