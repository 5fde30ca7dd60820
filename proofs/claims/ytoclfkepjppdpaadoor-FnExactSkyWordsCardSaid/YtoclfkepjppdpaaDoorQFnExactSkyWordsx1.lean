/- The walk of what the law FnExactSkyWords reaches: laid by a program of this session (ownprint.py). -/
import Derived.Test.YtoclfkepjppdpaaDoorQFnExactSkyWordsx0
namespace Go.Proofs.YtoclfkepjppdpaaDoor.QFnExactSkyWords
open Go.RowKit Go.Proofs.YtoclfkepjppdpaaDoorW.PrintWords Go.Proofs.YtoclfkepjppdpaaDoorW.PrintLast Go.Proofs.YtoclfkepjppdpaaDoorW.PrintMore Go.Proofs.YtoclfkepjppdpaaDoor.Z
attribute [local go_sem] max2_int min2_int max_two min_two max_three min_three max_four min_four zdn   -- for this text's walks alone
set_option linter.unusedVariables false
set_option linter.unusedSimpArgs false
def spec_l1Bare.l0 : Nat → ByteArray → Int → Option (ByteArray)
 | 0, _, _ => none
 | k + 1, x0, x3 => if x3 < (x0.size : Int) then (if 0 ≤ x3 then (if (bt x0 x3) = 35 then (if x3 ≤ (x0.size : Int) then (some (x0.extract 0 (x3 : Int).toNat)) else (none)) else (spec_l1Bare.l0 k x0 (wrap64 (x3 + 1)))) else (none)) else (some x0)
def spec_l1Bare.f (k : Nat) (a0 : ByteArray) : Option (ByteArray) := spec_l1Bare.l0 k a0 0
set_option maxHeartbeats 8000000 in
set_option maxRecDepth 100000 in
theorem spec_l1Bare.calls (k : Nat) (a0 : ByteArray) (r : ByteArray) (w : World) (h : spec_l1Bare.f k a0 = some r) :
 Calls Tryd.prog 9 #[.string a0] w fun e w' => e = .returned (.string r) ∧ Drawn0 w w' := by
 have H : (spec_l1Bare.l0 k a0 0) = some r := h
 clear h
 have H' := Aside0.mk H
 clear H
 go_enter Tryd.func9, Tryd.ntmps9
 go_wp2
 go_loopg [3] k (fun kq v3 w' => ∃ (x3_1 : Int), v3 = .int .i64 x3_1 ∧ Aside0 (spec_l1Bare.l0 kq a0 x3_1 = some r) ∧ Aside0 (kq ≤ k) ∧ Drawn0 w w')
 case atStart => exact ⟨(0), zi, H', ⟨Nat.le_refl _⟩, by repeat (first | exact Drawn0.refl _ | apply Drawn0.step)⟩
 case round =>
  clear H'
  obtain ⟨x3_1, rfl, HA, HK1, ⟨m1, rfl⟩⟩ := hrel
  cases gk with
  | zero => exact absurd HA.out (by simp [spec_l1Bare.l0])
  | succ k1 =>
   have H := HA.out
   clear HA
   simp only [spec_l1Bare.l0] at H
   by_cases c2 : x3_1 < (a0.size : Int)
   rotate_left
   ·rw [if_neg c2] at H
    have c2b0 : decide (x3_1 < (a0.size : Int)) = false := decide_eq_false c2
    clear c2
    obtain rfl := Option.some.inj H
    go_wp2
    go_ret
    exact ⟨by first | rfl | (simp; done) | (simp [*]; done), by repeat (first | exact Drawn0.refl _ | apply Drawn0.step)⟩
   rw [if_pos c2] at H
   have c2b0 : decide (x3_1 < (a0.size : Int)) = true := decide_eq_true c2
   clear c2
   by_cases c3 : 0 ≤ x3_1
   rotate_left
   ·rw [if_neg c3] at H
    exact absurd H (by simp)
   rw [if_pos c3] at H
   have c3b0 : decide (0 ≤ x3_1) = true := decide_eq_true c3
   clear c3
   by_cases c5 : (bt a0 x3_1) = 35
   rotate_left
   ·rw [if_neg c5] at H
    have c5b0 : ((bt a0 x3_1) == 35) = false := beq_eq_false_iff_ne.mpr c5
    have c5b1 : ((bt a0 x3_1) != 35) = true := bne_iff_ne.mpr c5
    have H' := Aside0.mk H
    clear H
    have p4 : 0 ≤ (x3_1 : Int) := za
    have q4 : x3_1 < (a0.size : Int) := za
    have hx4 := bt_at a0 x3_1
    replace p4 := eq_true p4
    replace q4 := eq_true q4
    go_wp2
    go_roundg k1
    case measure => have := HK1.out; omega
    case rel => exact ⟨(wrap64 (x3_1 + 1)), zi, H', ⟨by have := HK1.out; omega⟩, by repeat (first | exact Drawn0.refl _ | apply Drawn0.step)⟩
   rw [if_pos c5] at H
   have c5b0 : ((bt a0 x3_1) == 35) = true := beq_iff_eq.mpr c5
   have c5b1 : ((bt a0 x3_1) != 35) = false := bne_eq_false_iff_eq.mpr c5
   clear c5
   have c6b0 := eq_true (za : 0 ≤ x3_1)
   by_cases c7 : x3_1 ≤ (a0.size : Int)
   rotate_left
   ·rw [if_neg c7] at H
    exact absurd H (by simp)
   rw [if_pos c7] at H
   have c7b0 := eq_true c7
   have c7b1 : decide (x3_1 ≤ (a0.size : Int)) = true := decide_eq_true c7
   clear c7
   obtain rfl := Option.some.inj H
   have p4 : 0 ≤ (x3_1 : Int) := za
   have q4 : x3_1 < (a0.size : Int) := za
   have hx4 := bt_at a0 x3_1
   replace p4 := eq_true p4
   replace q4 := eq_true q4
   go_wp2
   go_ret
   exact ⟨by first | rfl | (simp; done) | (simp [*]; done), by repeat (first | exact Drawn0.refl _ | apply Drawn0.step)⟩
def spec_l1In.f (a0 : Int) (a1 : Int) (a2 : Int) : Option (Bool) := if a0 ≥ a1 then (some (decide (a0 ≤ a2))) else (some false)
set_option maxHeartbeats 8000000 in
set_option maxRecDepth 100000 in
theorem spec_l1In.calls (a0 : Int) (a1 : Int) (a2 : Int) (r : Bool) (w : World) (h : spec_l1In.f a0 a1 a2 = some r) :
 Calls Tryd.prog 10 #[.int .i64 a0, .int .i64 a1, .int .i64 a2] w fun e w' => e = .returned (.bool r) ∧ Drawn0 w w' := by
 have H : (if a0 ≥ a1 then (some (decide (a0 ≤ a2))) else (some false)) = some r := h
 clear h
 by_cases c4 : a0 ≥ a1
 ·rw [if_pos c4] at H
  have c4b0 : decide (a1 ≤ a0) = true := decide_eq_true c4
  clear c4
  obtain rfl := Option.some.inj H
  go_enter Tryd.func10, Tryd.ntmps10
  go_wp2
  go_ret
  exact ⟨by first | rfl | (simp; done) | (simp [*]; done), by repeat (first | exact Drawn0.refl _ | apply Drawn0.step)⟩
 rw [if_neg c4] at H
 have c4b0 : decide (a1 ≤ a0) = false := decide_eq_false c4
 clear c4
 obtain rfl := Option.some.inj H
 go_enter Tryd.func10, Tryd.ntmps10
 go_wp2
 go_ret
 exact ⟨by first | rfl | (simp; done) | (simp [*]; done), by repeat (first | exact Drawn0.refl _ | apply Drawn0.step)⟩
mutual
def spec_SkyWords.l0 : Nat → List ByteArray → ByteArray → ByteArray → Int → Option (List ByteArray × Bool)
 | 0, _, _, _, _ => none
 | k + 1, x4, x5, x6, x7 => if x7 < (x6.size : Int) then (if 0 ≤ x7 then (if (bt x6 x7) = 32 then (if x5.toList = ([] : List UInt8) then (spec_SkyWords.l0 k x4 x5 x6 (wrap64 (x7 + 1))) else (if x4.length < 8796093022208 then (spec_SkyWords.l0 k (x4 ++ [x5]) (⟨#[]⟩ : ByteArray) x6 (wrap64 (x7 + 1))) else (none))) else (if x7 ≤ (wrap64 (x7 + 1)) then (if (wrap64 (x7 + 1)) ≤ (x6.size : Int) then (if x5.size + (x6.extract (x7 : Int).toNat ((wrap64 (x7 + 1)) : Int).toNat).size ≤ 9223372036854775807 then ((spec_l1In.f (wrap64 (bt x6 x7)) 33 126).bind fun t111 => (if t111 = true then (spec_SkyWords.j1 k x4 (x5 ++ (x6.extract (x7 : Int).toNat ((wrap64 (x7 + 1)) : Int).toNat)) x6 x7 (decide (((x5 ++ (x6.extract (x7 : Int).toNat ((wrap64 (x7 + 1)) : Int).toNat)).size : Int) > 24))) else (spec_SkyWords.j1 k x4 (x5 ++ (x6.extract (x7 : Int).toNat ((wrap64 (x7 + 1)) : Int).toNat)) x6 x7 true))) else (none)) else (none)) else (none))) else (none)) else (if (x4.length : Int) > 12 then (some ((([] : List ByteArray)), false)) else (some (x4, true)))
def spec_SkyWords.j1 : Nat → List ByteArray → ByteArray → ByteArray → Int → Bool → Option (List ByteArray × Bool)
 | 0, _, _, _, _, _ => none
 | k + 1, x4, x5, x6, x7, x39 => if x39 = true then (some ((([] : List ByteArray)), false)) else (spec_SkyWords.l0 k x4 x5 x6 (wrap64 (x7 + 1)))
end
def spec_SkyWords.f (k : Nat) (a0 : ByteArray) : Option (List ByteArray × Bool) := (spec_l1Bare.f k a0).bind fun t104 => (if t104.size + 1 ≤ 9223372036854775807 then (spec_SkyWords.l0 k (([] : List ByteArray)) (⟨#[]⟩ : ByteArray) (t104 ++ (⟨#[32]⟩ : ByteArray)) 0) else (none))
set_option maxHeartbeats 8000000 in
set_option maxRecDepth 100000 in
theorem spec_SkyWords.calls (k : Nat) (a0 : ByteArray) (r1 : List ByteArray) (r2 : Bool) (w : World) (h : spec_SkyWords.f k a0 = some (r1, r2)) :
 Calls Tryd.prog 4 #[.string a0] w fun e w' => ∃ v0_ : Value, e = .returned (.tuple #[v0_, .bool r2]) ∧ Kd.R Kd.string 9 w' w.heap.size (fun _ => True) v0_ r1 ∧ Below w.heap.size w w' := by
 have HB := Aside0.mk (Below.refl w.heap.size w)
 have H : ((spec_l1Bare.f k a0).bind fun t104 => (if t104.size + 1 ≤ 9223372036854775807 then (spec_SkyWords.l0 k (([] : List ByteArray)) (⟨#[]⟩ : ByteArray) (t104 ++ (⟨#[32]⟩ : ByteArray)) 0) else (none))) = some (r1, r2) := h
 clear h
 obtain ⟨y101, hy101⟩ : ∃ y_ : List ByteArray, y_ = (([] : List ByteArray)) := ⟨_, rfl⟩
 replace H : ((spec_l1Bare.f k a0).bind fun t104 => (if t104.size + 1 ≤ 9223372036854775807 then (spec_SkyWords.l0 k y101 (⟨#[]⟩ : ByteArray) (t104 ++ (⟨#[32]⟩ : ByteArray)) 0) else (none))) = some (r1, r2) := by first | (rw [hy101]; with_reducible exact H) | (have H2_ := (Option.bind_some _ _).symm.trans H; rw [hy101]; with_reducible exact H2_) | (have H2_ := (Option.bind_some _ _).symm.trans H; with_reducible exact H2_) | with_reducible exact H | (rw [hy101]; exact H) | exact H
 have Ny101 := Aside0.mk hy101
 clear hy101
 replace H := zbd H; obtain ⟨t104, A2, H⟩ := H
 by_cases c3 : t104.size + 1 ≤ 9223372036854775807
 rotate_left
 ·rw [if_neg c3] at H
  exact absurd H (by simp)
 rw [if_pos c3] at H
 have c3b0 := eq_true c3
 have c3b1 : decide (t104.size + 1 ≤ 9223372036854775807) = true := decide_eq_true c3
 try have c3b2 : (9223372036854775807 < t104.size + 1) = False := eq_false (Nat.not_lt.2 c3)
 have H' := Aside0.mk H
 clear H
 go_enter Tryd.func4, Tryd.ntmps4
 go_wp2_with (first | ((with_reducible refine gate_dst (N := 8) rfl ?_); (try (refine gate_guard (by rfl) ?_; dsimp only)); refine Kd.R_lit Kd.string _ 9 ?hg (N := 8) ?hd (xs := ([] : List ByteArray)) (inner := []) (ok := fun _ => True) (okp := fun _ => True) ?hr ?hp (fun _ hk => hk) trivial (Below.refl _ _) (Nat.le_refl _) (by simp) ?_; (case hd => rfl); (case hg => rfl); (case hr => first | (go_simp; done) | (go_simp; rfl)); (case hp => exact (Reps.none _ _)); intro v102 w4 ho5 hb hg_ hnew_; clear hg_ hnew_; (first | rw [← Ny101.out] at ho5 | (simp only [Int.reduceToNat] at ho5; rw [← Ny101.out] at ho5)); have HO103 := Aside0.mk (Kd.R_lower ho5 (below_size (zs0 HB))); replace HB := zE (zs0 HB) hb; clear hb ho5) | ((with_reducible refine gate_callee (f := 9) rfl ?_); refine goesL_ (some 10) rfl rfl Tryd.func9 (by kernel_rfl) rfl #[.string a0] rfl zl ?_; (with_reducible refine (spec_l1Bare.calls k a0 t104 _ A2.out).mono ?_); rintro e w' ⟨rfl, ⟨nd, rfl⟩⟩; refine ⟨_, rfl, ?_⟩))
 go_loopg [4, 5, 7] k (fun kq v4 v5 v7 w' => ∃ (x4_1 : List ByteArray) (x5_1 : ByteArray) (x7_1 : Int), v5 = .string x5_1 ∧ v7 = .int .i64 x7_1 ∧ Aside0 (spec_SkyWords.l0 kq x4_1 x5_1 (t104 ++ (⟨#[32]⟩ : ByteArray)) x7_1 = some (r1, r2)) ∧ Aside0 (kq ≤ k) ∧ Aside0 (Kd.R Kd.string 9 w' w.heap.size (fun _ => True) v4 x4_1) ∧ Aside0 (Below w.heap.size w w'))
 case atStart => exact ⟨(y101), ((⟨#[]⟩ : ByteArray)), (0), zi, zi, H', ⟨Nat.le_refl _⟩, ⟨zr HO103⟩, ⟨zs0 HB⟩⟩
 case round =>
  clear H'
  try clear p2
  try clear c3
  try clear c3b0
  try clear c3b1
  try clear c3b2
  try clear c4
  obtain ⟨x4_1, x5_1, x7_1, rfl, rfl, HA, HK1, HO_4, HB⟩ := hrel
  generalize t104 ++ (⟨#[32]⟩ : ByteArray) = zs_ at *
  cases gk with
  | zero => exact absurd HA.out (by simp [spec_SkyWords.l0])
  | succ k1 =>
   have H := HA.out
   clear HA
   simp only [spec_SkyWords.l0] at H
   by_cases c6 : x7_1 < (zs_.size : Int)
   rotate_left
   ·rw [if_neg c6] at H
    have c6b0 : decide (x7_1 < (zs_.size : Int)) = false := decide_eq_false c6
    clear c6
    by_cases c24 : (x4_1.length : Int) > 12
    rotate_left
    ·rw [if_neg c24] at H
     have c24b0 : decide (12 < (x4_1.length : Int)) = false := decide_eq_false c24
     have c24b1 : decide (12 < x4_1.length) = false := decide_eq_false (by omega)
     clear c24
     simp only [Option.some.injEq, Prod.mk.injEq] at H
     obtain ⟨rfl, rfl⟩ := H
     obtain ⟨Ao28, co28, eo28⟩ := Kd.R_slice HO_4.out
     subst eo28
     go_wp2
     go_ret2
     exact ⟨_, ze, zr HO_4, zs0 HB⟩
    rw [if_pos c24] at H
    have c24b0 : decide (12 < (x4_1.length : Int)) = true := decide_eq_true c24
    have c24b1 : decide (12 < x4_1.length) = true := decide_eq_true (by omega)
    clear c24
    obtain ⟨y105, hy105⟩ : ∃ y_ : List ByteArray, y_ = (([] : List ByteArray)) := ⟨_, rfl⟩
    replace H : (some (y105, false)) = some (r1, r2) := by first | (rw [hy105]; with_reducible exact H) | (have H2_ := (Option.bind_some _ _).symm.trans H; rw [hy105]; with_reducible exact H2_) | (have H2_ := (Option.bind_some _ _).symm.trans H; with_reducible exact H2_) | with_reducible exact H | (rw [hy105]; exact H) | exact H
    have Ny105 := Aside0.mk hy105
    clear hy105
    simp only [Option.some.injEq, Prod.mk.injEq] at H
    obtain ⟨rfl, rfl⟩ := H
    obtain ⟨Ao25, co25, eo25⟩ := Kd.R_slice HO_4.out
    subst eo25
    go_wp2_with (first | ((with_reducible refine gate_dst (N := 50) rfl ?_); (try (refine gate_guard (by rfl) ?_; dsimp only)); refine Kd.R_lit Kd.string _ 9 ?hg (N := 50) ?hd (xs := ([] : List ByteArray)) (inner := []) (ok := fun _ => True) (okp := fun _ => True) ?hr ?hp (fun _ hk => hk) trivial (Below.refl _ _) (Nat.le_refl _) (by simp) ?_; (case hd => rfl); (case hg => rfl); (case hr => first | (go_simp; done) | (go_simp; rfl)); (case hp => exact (Reps.none _ _)); intro v106 w26 ho27 hb hg_ hnew_; clear hg_ hnew_; (first | rw [← Ny105.out] at ho27 | (simp only [Int.reduceToNat] at ho27; rw [← Ny105.out] at ho27)); have HO107 := Aside0.mk (Kd.R_lower (Kd.R_new' ho27 (Kd.R_lt (zr HO_4))) (below_size (zs0 HB))); replace HO_4 := Aside0.mk (Kd.R_elder' (zr HO_4) (Kd.R_base ho27) hb); replace HB := zE (zs0 HB) hb; clear hb ho27))
    go_ret2
    exact ⟨_, ze, by (with_reducible repeat (first | apply Kd.R_alloc | apply Kd.R_drewN | apply Kd.R_drew)); exact Kd.R_mono HO107.out (fun _ hk => trivial), zs0 HB⟩
   rw [if_pos c6] at H
   have c6b0 : decide (x7_1 < (zs_.size : Int)) = true := decide_eq_true c6
   clear c6
   by_cases c7 : 0 ≤ x7_1
   rotate_left
   ·rw [if_neg c7] at H
    exact absurd H (by simp)
   rw [if_pos c7] at H
   have c7b0 : decide (0 ≤ x7_1) = true := decide_eq_true c7
   clear c7
   by_cases c9 : (bt zs_ x7_1) = 32
   ·rw [if_pos c9] at H
    have c9b0 : ((bt zs_ x7_1) == 32) = true := beq_iff_eq.mpr c9
    have c9b1 : ((bt zs_ x7_1) != 32) = false := bne_eq_false_iff_eq.mpr c9
    clear c9
    by_cases c10 : x5_1.toList = ([] : List UInt8)
    ·rw [if_pos c10] at H
     have c10b0 : (x5_1.toList == ([] : List UInt8)) = true := beq_iff_eq.mpr c10
     have c10b1 : (x5_1.toList != ([] : List UInt8)) = false := bne_eq_false_iff_eq.mpr c10
     clear c10
     have H' := Aside0.mk H
     clear H
     have p8 : 0 ≤ (x7_1 : Int) := za
     have q8 : x7_1 < (zs_.size : Int) := za
     have hx8 := bt_at zs_ x7_1
     replace p8 := eq_true p8
     replace q8 := eq_true q8
     go_wp2
     go_roundg k1
     case measure => have := HK1.out; omega
     case rel => exact ⟨(x4_1), (x5_1), (wrap64 (x7_1 + 1)), zi, zi, H', ⟨by have := HK1.out; omega⟩, ⟨zr HO_4⟩, ⟨zs0 HB⟩⟩
    rw [if_neg c10] at H
    have c10b0 : (x5_1.toList == ([] : List UInt8)) = false := beq_eq_false_iff_ne.mpr c10
    have c10b1 : (x5_1.toList != ([] : List UInt8)) = true := bne_iff_ne.mpr c10
    by_cases c11 : x4_1.length < 8796093022208
    rotate_left
    ·rw [if_neg c11] at H
     exact absurd H (by simp)
    rw [if_pos c11] at H
    have LMc11 := Aside0.mk c11
    clear c11
    obtain ⟨y108, hy108⟩ : ∃ y_ : List ByteArray, y_ = (x4_1 ++ [x5_1]) := ⟨_, rfl⟩
    replace H : (spec_SkyWords.l0 k1 y108 (⟨#[]⟩ : ByteArray) zs_ (wrap64 (x7_1 + 1))) = some (r1, r2) := by first | (rw [hy108]; with_reducible exact H) | (have H2_ := (Option.bind_some _ _).symm.trans H; rw [hy108]; with_reducible exact H2_) | (have H2_ := (Option.bind_some _ _).symm.trans H; with_reducible exact H2_) | with_reducible exact H | (rw [hy108]; exact H) | exact H
    have Ny108 := Aside0.mk hy108
    clear hy108
    have H' := Aside0.mk H
    clear H
    have p8 : 0 ≤ (x7_1 : Int) := za
    have q8 : x7_1 < (zs_.size : Int) := za
    have hx8 := bt_at zs_ x7_1
    replace p8 := eq_true p8
    replace q8 := eq_true q8
    go_wp2_with (first | ((with_reducible refine gate_builtin (b := .append) (xs := #[.tmp 43, .tmp 45]) rfl ?_); (try (refine gate_guard (by rfl) ?_; dsimp only)); at_builtin; refine Kd.R_append Kd.string (w0 := w) w.heap.size rfl (.tmp 43) (.tmp 45) 22 9 (.string ⟨#[]⟩) 16 rfl Tryd.underlying22 info9 rfl (by decide) (by omega) u4 x4_1 x5_1 [.string x5_1] (fun _ => True) (fun _ => False) rfl rfl ?aP (fun _ hk => hk.elim) ?aF ?aO ?aB ?aS ?aL ?_; (case aP => exact rfl); (case aB => exact (zs0 HB)); (case aF => exact (fun _ _ => trivial)); (case aO => exact (zr HO_4)); (case aS => exact (below_size (zs0 HB))); (case aL => have := LMc11.out; omega); intro v109 w12 ho hb hg hat; rw [← Ny108.out] at ho; have HO110 := Aside0.mk (ho); replace HB := Aside0.mk (hb); clear HO_4; clear ho hb hg hat))
    go_roundg k1
    case measure => have := HK1.out; omega
    case rel => exact ⟨(y108), ((⟨#[]⟩ : ByteArray)), (wrap64 (x7_1 + 1)), zi, zi, H', ⟨by have := HK1.out; omega⟩, ⟨zr HO110⟩, ⟨zs0 HB⟩⟩
   rw [if_neg c9] at H
   have c9b0 : ((bt zs_ x7_1) == 32) = false := beq_eq_false_iff_ne.mpr c9
   have c9b1 : ((bt zs_ x7_1) != 32) = true := bne_iff_ne.mpr c9
   have c13b0 := eq_true (za : 0 ≤ x7_1)
   by_cases c14 : x7_1 ≤ (wrap64 (x7_1 + 1))
   rotate_left
   ·rw [if_neg c14] at H
    exact absurd H (by simp)
   rw [if_pos c14] at H
   have c14b0 := eq_true c14
   have c14b1 : decide (x7_1 ≤ (wrap64 (x7_1 + 1))) = true := decide_eq_true c14
   by_cases c15 : (wrap64 (x7_1 + 1)) ≤ (zs_.size : Int)
   rotate_left
   ·rw [if_neg c15] at H
    exact absurd H (by simp)
   rw [if_pos c15] at H
   have c15b0 := eq_true c15
   have c15b1 : decide ((wrap64 (x7_1 + 1)) ≤ (zs_.size : Int)) = true := decide_eq_true c15
   by_cases c16 : x5_1.size + (zs_.extract (x7_1 : Int).toNat ((wrap64 (x7_1 + 1)) : Int).toNat).size ≤ 9223372036854775807
   rotate_left
   ·rw [if_neg c16] at H
    exact absurd H (by simp)
   rw [if_pos c16] at H
   have c16b0 := eq_true c16
   have c16b1 : decide (x5_1.size + (zs_.extract (x7_1 : Int).toNat ((wrap64 (x7_1 + 1)) : Int).toNat).size ≤ 9223372036854775807) = true := decide_eq_true c16
   try have c16b2 : (9223372036854775807 < x5_1.size + (zs_.extract (x7_1 : Int).toNat ((wrap64 (x7_1 + 1)) : Int).toNat).size) = False := eq_false (Nat.not_lt.2 c16)
   have HC17 := Aside0.mk H
   clear H
   have p8 : 0 ≤ (x7_1 : Int) := za
   have q8 : x7_1 < (zs_.size : Int) := za
   have hx8 := bt_at zs_ x7_1
   replace p8 := eq_true p8
   replace q8 := eq_true q8
   go_upto_region 9 with (fail)
   go_cut [39] (fun v39 wc => ∃ (kq : Nat) (x39_16 : Bool), v39 = .bool x39_16 ∧ Aside0 (spec_SkyWords.j1 kq x4_1 (x5_1 ++ (zs_.extract (x7_1 : Int).toNat ((wrap64 (x7_1 + 1)) : Int).toNat)) zs_ x7_1 x39_16 = some (r1, r2)) ∧ Aside0 (kq ≤ k1) ∧ Aside0 (Kd.R Kd.string 9 wc w.heap.size (fun _ => True) u4 x4_1) ∧ Aside0 (Below w.heap.size w wc))
   case first =>
    have H := HC17.out
    clear HC17
    replace H := zbd H; obtain ⟨t111, A19, H⟩ := H
    by_cases c20 : t111 = true
    rotate_left
    ·replace c20 := Bool.eq_false_iff.mpr c20
     subst c20
     have H1 : (spec_SkyWords.j1 k1 x4_1 (x5_1 ++ (zs_.extract (x7_1 : Int).toNat ((wrap64 (x7_1 + 1)) : Int).toNat)) zs_ x7_1 true) = some (r1, r2) := by rw [if_neg (show ¬ (false = true) by decide)] at H; exact H
     clear H
     have H := H1
     clear H1
     have H' := Aside0.mk H
     clear H
     have p18 : 0 ≤ (x7_1 : Int) := za
     have q18 : x7_1 < (zs_.size : Int) := za
     have hx18 := bt_at zs_ x7_1
     replace p18 := eq_true p18
     replace q18 := eq_true q18
     go_wp2_with (first | ((with_reducible refine gate_callee (f := 10) rfl ?_); refine goesL_ (some 33) rfl rfl Tryd.func10 (by kernel_rfl) rfl #[.int .i64 (wrap64 (bt zs_ x7_1)), .int .i64 33, .int .i64 126] rfl zl ?_; (with_reducible refine (spec_l1In.calls (wrap64 (bt zs_ x7_1)) 33 126 false _ A19.out).mono ?_); rintro e w' ⟨rfl, ⟨nd, rfl⟩⟩; refine ⟨_, rfl, ?_⟩))
     go_meet
     case rel => exact ⟨_, (true), zi, H', ⟨by have := HK1.out; first | omega | exact Nat.le_refl _⟩, ⟨zr HO_4⟩, ⟨zs0 HB⟩⟩
    subst c20
    have H1 : (spec_SkyWords.j1 k1 x4_1 (x5_1 ++ (zs_.extract (x7_1 : Int).toNat ((wrap64 (x7_1 + 1)) : Int).toNat)) zs_ x7_1 (decide (((x5_1 ++ (zs_.extract (x7_1 : Int).toNat ((wrap64 (x7_1 + 1)) : Int).toNat)).size : Int) > 24))) = some (r1, r2) := by rw [if_pos rfl] at H; exact H
    clear H
    have H := H1
    clear H1
    have H' := Aside0.mk H
    clear H
    have p18 : 0 ≤ (x7_1 : Int) := za
    have q18 : x7_1 < (zs_.size : Int) := za
    have hx18 := bt_at zs_ x7_1
    replace p18 := eq_true p18
    replace q18 := eq_true q18
    go_wp2_with (first | ((with_reducible refine gate_callee (f := 10) rfl ?_); refine goesL_ (some 33) rfl rfl Tryd.func10 (by kernel_rfl) rfl #[.int .i64 (wrap64 (bt zs_ x7_1)), .int .i64 33, .int .i64 126] rfl zl ?_; (with_reducible refine (spec_l1In.calls (wrap64 (bt zs_ x7_1)) 33 126 true _ A19.out).mono ?_); rintro e w' ⟨rfl, ⟨nd, rfl⟩⟩; refine ⟨_, rfl, ?_⟩))
    go_meet
    case rel => exact ⟨_, (decide (((x5_1 ++ (zs_.extract (x7_1 : Int).toNat ((wrap64 (x7_1 + 1)) : Int).toNat)).size : Int) > 24)), zi, H', ⟨by have := HK1.out; first | omega | exact Nat.le_refl _⟩, ⟨zr HO_4⟩, ⟨zs0 HB⟩⟩
   case rest =>
    clear HC17
    try clear c1
    try clear p1
    try clear q1
    try clear hx1
    try clear c2
    try clear p2
    try clear c3
    try clear c3b0
    try clear c3b1
    try clear c3b2
    try clear c4
    try clear c6
    try clear c6b0
    try clear p6
    try clear c7
    try clear c7b0
    try clear p8
    try clear q8
    try clear hx8
    try clear c9
    try clear c9b0
    try clear c9b1
    try clear c10
    try clear c10b0
    try clear c10b1
    try clear c11
    try clear c13
    try clear c13b0
    try clear c14
    try clear c14b0
    try clear c14b1
    try clear c15
    try clear c15b0
    try clear c15b1
    try clear c16
    try clear c16b0
    try clear c16b1
    try clear c16b2
    try clear p18
    try clear q18
    try clear hx18
    try clear c20
    try clear p18
    try clear p2
    try clear p8
    try clear q18
    try clear q8
    obtain ⟨kq, x39_16, rfl, HA, HJ16, HO_4, HB⟩ := hcut
    cases kq with
    | zero => exact absurd HA.out (by simp [spec_SkyWords.j1])
    | succ kj16 =>
     have H := HA.out
     clear HA
     simp only [spec_SkyWords.j1] at H
     by_cases c21 : x39_16 = true
     rotate_left
     ·replace c21 := Bool.eq_false_iff.mpr c21
      subst c21
      have H1 : (spec_SkyWords.l0 kj16 x4_1 (x5_1 ++ (zs_.extract (x7_1 : Int).toNat ((wrap64 (x7_1 + 1)) : Int).toNat)) zs_ (wrap64 (x7_1 + 1))) = some (r1, r2) := by rw [if_neg (show ¬ (false = true) by decide)] at H; exact H
      clear H
      have H := H1
      clear H1
      have H' := Aside0.mk H
      clear H
      go_wp2
      go_roundg kj16
      case measure => have := HK1.out; have := HJ16.out; omega
      case rel => exact ⟨(x4_1), ((x5_1 ++ (zs_.extract (x7_1 : Int).toNat ((wrap64 (x7_1 + 1)) : Int).toNat))), (wrap64 (x7_1 + 1)), zi, zi, H', ⟨by have := HK1.out; have := HJ16.out; omega⟩, ⟨zr HO_4⟩, ⟨zs0 HB⟩⟩
     subst c21
     have H1 : (some ((([] : List ByteArray)), false)) = some (r1, r2) := by rw [if_pos rfl] at H; exact H
     clear H
     have H := H1
     clear H1
     obtain ⟨y112, hy112⟩ : ∃ y_ : List ByteArray, y_ = (([] : List ByteArray)) := ⟨_, rfl⟩
     replace H : (some (y112, false)) = some (r1, r2) := by first | (rw [hy112]; with_reducible exact H) | (have H2_ := (Option.bind_some _ _).symm.trans H; rw [hy112]; with_reducible exact H2_) | (have H2_ := (Option.bind_some _ _).symm.trans H; with_reducible exact H2_) | with_reducible exact H | (rw [hy112]; exact H) | exact H
     have Ny112 := Aside0.mk hy112
     clear hy112
     simp only [Option.some.injEq, Prod.mk.injEq] at H
     obtain ⟨rfl, rfl⟩ := H
     go_wp2_with (first | ((with_reducible refine gate_dst (N := 40) rfl ?_); (try (refine gate_guard (by rfl) ?_; dsimp only)); refine Kd.R_lit Kd.string _ 9 ?hg (N := 40) ?hd (xs := ([] : List ByteArray)) (inner := []) (ok := fun _ => True) (okp := fun _ => True) ?hr ?hp (fun _ hk => hk) trivial (Below.refl _ _) (Nat.le_refl _) (by simp) ?_; (case hd => rfl); (case hg => rfl); (case hr => first | (go_simp; done) | (go_simp; rfl)); (case hp => exact (Reps.none _ _)); intro v113 w22 ho23 hb hg_ hnew_; clear hg_ hnew_; (first | rw [← Ny112.out] at ho23 | (simp only [Int.reduceToNat] at ho23; rw [← Ny112.out] at ho23)); have HO114 := Aside0.mk (Kd.R_lower (Kd.R_new' ho23 (Kd.R_lt (zr HO_4))) (below_size (zs0 HB))); replace HO_4 := Aside0.mk (Kd.R_elder' (zr HO_4) (Kd.R_base ho23) hb); replace HB := zE (zs0 HB) hb; clear hb ho23))
     go_ret2
     exact ⟨_, ze, by (with_reducible repeat (first | apply Kd.R_alloc | apply Kd.R_drewN | apply Kd.R_drew)); exact Kd.R_mono HO114.out (fun _ hk => trivial), zs0 HB⟩
-- NOT PRINTED: function 26 (utf8_RuneCountInString)
-- NOT PRINTED: function 31 (utf8_decodeRuneInStringSlow)
-- NOT PRINTED: function 27 (utf8_DecodeRuneInString)
-- NOT PRINTED: function 19 (strings_explode)
-- NOT PRINTED: function 29 (bytealg_IndexByteString)
-- NOT PRINTED: function 22 (stringslite_IndexByte)
-- NOT PRINTED: function 23 (bytealg_IndexString)
end Go.Proofs.YtoclfkepjppdpaaDoor.QFnExactSkyWords
