/- The walk of what the law FnSkyWords reaches: laid by a program of this session (ownprint.py). -/
import Derived.Test.YtnmjmhhkbcnccaaDoorQFnSkyWordsx0
import Derived.Test.YtnmjmhhkbcnccaaDoorQFnSkyWordsx4
namespace Go.Proofs.YtnmjmhhkbcnccaaDoor.QFnSkyWords
open Go.RowKit Go.Proofs.YtnmjmhhkbcnccaaDoorW.PrintWords Go.Proofs.YtnmjmhhkbcnccaaDoorW.PrintLast Go.Proofs.YtnmjmhhkbcnccaaDoorW.PrintMore Go.Proofs.YtnmjmhhkbcnccaaDoor.Z
attribute [local go_sem] max2_int min2_int max_two min_two max_three min_three max_four min_four zdn   -- for this text's walks alone
set_option linter.unusedVariables false
set_option linter.unusedSimpArgs false
mutual
def spec_SkyWords.l0 : Nat → List ByteArray → ByteArray → ByteArray → Int → Option (List ByteArray × Bool)
 | 0, _, _, _, _ => none
 | k + 1, x4, x5, x6, x7 => if x7 < (x6.size : Int) then (if 0 ≤ x7 then (if (bt x6 x7) = 32 then (if x5.toList = ([] : List UInt8) then (spec_SkyWords.l0 k x4 x5 x6 (wrap64 (x7 + 1))) else (if x4.length < 8796093022208 then (spec_SkyWords.l0 k (x4 ++ [x5]) (⟨#[]⟩ : ByteArray) x6 (wrap64 (x7 + 1))) else (none))) else (if x7 ≤ (wrap64 (x7 + 1)) then (if (wrap64 (x7 + 1)) ≤ (x6.size : Int) then (if x5.size + (x6.extract (x7 : Int).toNat ((wrap64 (x7 + 1)) : Int).toNat).size ≤ 9223372036854775807 then ((spec_l1In.f (wrap64 (bt x6 x7)) 33 126).bind fun t185 => (if t185 = true then (spec_SkyWords.j1 k x4 (x5 ++ (x6.extract (x7 : Int).toNat ((wrap64 (x7 + 1)) : Int).toNat)) x6 x7 (decide (((x5 ++ (x6.extract (x7 : Int).toNat ((wrap64 (x7 + 1)) : Int).toNat)).size : Int) > 24))) else (spec_SkyWords.j1 k x4 (x5 ++ (x6.extract (x7 : Int).toNat ((wrap64 (x7 + 1)) : Int).toNat)) x6 x7 true))) else (none)) else (none)) else (none))) else (none)) else (if (x4.length : Int) > 12 then (some ((([] : List ByteArray)), false)) else (some (x4, true)))
def spec_SkyWords.j1 : Nat → List ByteArray → ByteArray → ByteArray → Int → Bool → Option (List ByteArray × Bool)
 | 0, _, _, _, _, _ => none
 | k + 1, x4, x5, x6, x7, x39 => if x39 = true then (some ((([] : List ByteArray)), false)) else (spec_SkyWords.l0 k x4 x5 x6 (wrap64 (x7 + 1)))
end
def spec_SkyWords.f (k : Nat) (a0 : ByteArray) : Option (List ByteArray × Bool) := (spec_l1Bare.f k a0).bind fun t178 => (if t178.size + 1 ≤ 9223372036854775807 then (spec_SkyWords.l0 k (([] : List ByteArray)) (⟨#[]⟩ : ByteArray) (t178 ++ (⟨#[32]⟩ : ByteArray)) 0) else (none))
set_option maxHeartbeats 8000000 in
set_option maxRecDepth 100000 in
theorem spec_SkyWords.calls (k : Nat) (a0 : ByteArray) (r1 : List ByteArray) (r2 : Bool) (w : World) (h : spec_SkyWords.f k a0 = some (r1, r2)) :
 Calls Tryd.prog 6 #[.string a0] w fun e w' => ∃ v0_ : Value, e = .returned (.tuple #[v0_, .bool r2]) ∧ Kd.R Kd.string 9 w' w.heap.size (fun _ => True) v0_ r1 ∧ Below w.heap.size w w' := by
 have HB := Aside0.mk (Below.refl w.heap.size w)
 have H : ((spec_l1Bare.f k a0).bind fun t178 => (if t178.size + 1 ≤ 9223372036854775807 then (spec_SkyWords.l0 k (([] : List ByteArray)) (⟨#[]⟩ : ByteArray) (t178 ++ (⟨#[32]⟩ : ByteArray)) 0) else (none))) = some (r1, r2) := h
 clear h
 obtain ⟨y175, hy175⟩ : ∃ y_ : List ByteArray, y_ = (([] : List ByteArray)) := ⟨_, rfl⟩
 replace H : ((spec_l1Bare.f k a0).bind fun t178 => (if t178.size + 1 ≤ 9223372036854775807 then (spec_SkyWords.l0 k y175 (⟨#[]⟩ : ByteArray) (t178 ++ (⟨#[32]⟩ : ByteArray)) 0) else (none))) = some (r1, r2) := by first | (rw [hy175]; with_reducible exact H) | (have H2_ := (Option.bind_some _ _).symm.trans H; rw [hy175]; with_reducible exact H2_) | (have H2_ := (Option.bind_some _ _).symm.trans H; with_reducible exact H2_) | with_reducible exact H | (rw [hy175]; exact H) | exact H
 have Ny175 := Aside0.mk hy175
 clear hy175
 replace H := zbd H; obtain ⟨t178, A2, H⟩ := H
 by_cases c3 : t178.size + 1 ≤ 9223372036854775807
 rotate_left
 ·rw [if_neg c3] at H
  exact absurd H (by simp)
 rw [if_pos c3] at H
 have c3b0 := eq_true c3
 have c3b1 : decide (t178.size + 1 ≤ 9223372036854775807) = true := decide_eq_true c3
 try have c3b2 : (9223372036854775807 < t178.size + 1) = False := eq_false (Nat.not_lt.2 c3)
 have H' := Aside0.mk H
 clear H
 go_enter Tryd.func6, Tryd.ntmps6
 go_wp2_with (first | ((with_reducible refine gate_dst (N := 8) rfl ?_); (try (refine gate_guard (by rfl) ?_; dsimp only)); refine Kd.R_lit Kd.string _ 9 ?hg (N := 8) ?hd (xs := ([] : List ByteArray)) (inner := []) (ok := fun _ => True) (okp := fun _ => True) ?hr ?hp (fun _ hk => hk) trivial (Below.refl _ _) (Nat.le_refl _) (by simp) ?_; (case hd => rfl); (case hg => rfl); (case hr => first | (go_simp; done) | (go_simp; rfl)); (case hp => exact (Reps.none _ _)); intro v176 w4 ho5 hb hg_ hnew_; clear hg_ hnew_; (first | rw [← Ny175.out] at ho5 | (simp only [Int.reduceToNat] at ho5; rw [← Ny175.out] at ho5)); have HO177 := Aside0.mk (Kd.R_lower ho5 (below_size (zs0 HB))); replace HB := zE (zs0 HB) hb; clear hb ho5) | ((with_reducible refine gate_callee (f := 15) rfl ?_); refine goesL_ (some 10) rfl rfl Tryd.func15 (by kernel_rfl) rfl #[.string a0] rfl zl ?_; (with_reducible refine (spec_l1Bare.calls k a0 t178 _ A2.out).mono ?_); rintro e w' ⟨rfl, ⟨nd, rfl⟩⟩; refine ⟨_, rfl, ?_⟩))
 go_loopg [4, 5, 7] k (fun kq v4 v5 v7 w' => ∃ (x4_1 : List ByteArray) (x5_1 : ByteArray) (x7_1 : Int), v5 = .string x5_1 ∧ v7 = .int .i64 x7_1 ∧ Aside0 (spec_SkyWords.l0 kq x4_1 x5_1 (t178 ++ (⟨#[32]⟩ : ByteArray)) x7_1 = some (r1, r2)) ∧ Aside0 (kq ≤ k) ∧ Aside0 (Kd.R Kd.string 9 w' w.heap.size (fun _ => True) v4 x4_1) ∧ Aside0 (Below w.heap.size w w'))
 case atStart => exact ⟨(y175), ((⟨#[]⟩ : ByteArray)), (0), zi, zi, H', ⟨Nat.le_refl _⟩, ⟨zr HO177⟩, ⟨zs0 HB⟩⟩
 case round =>
  clear H'
  try clear c1
  try clear p2
  try clear c3
  try clear c3b0
  try clear c3b1
  try clear c3b2
  obtain ⟨x4_1, x5_1, x7_1, rfl, rfl, HA, HK1, HO_4, HB⟩ := hrel
  generalize t178 ++ (⟨#[32]⟩ : ByteArray) = zs_ at *
  cases gk with
  | zero => exact absurd HA.out (by simp [spec_SkyWords.l0])
  | succ k1 =>
   have H := HA.out
   clear HA
   simp only [spec_SkyWords.l0] at H
   by_cases c6 : x7_1 < (zs_.size : Int)
   rotate_left
   ·rw [if_neg c6] at H
    have c6b0 : decide (x7_1 < (zs_.size : Int)) = false := decide_eq_false c6
    clear c6
    by_cases c24 : (x4_1.length : Int) > 12
    rotate_left
    ·rw [if_neg c24] at H
     have c24b0 : decide (12 < (x4_1.length : Int)) = false := decide_eq_false c24
     have c24b1 : decide (12 < x4_1.length) = false := decide_eq_false (by omega)
     clear c24
     simp only [Option.some.injEq, Prod.mk.injEq] at H
     obtain ⟨rfl, rfl⟩ := H
     obtain ⟨Ao28, co28, eo28⟩ := Kd.R_slice HO_4.out
     subst eo28
     go_wp2
     go_ret2
     exact ⟨_, ze, zr HO_4, zs0 HB⟩
    rw [if_pos c24] at H
    have c24b0 : decide (12 < (x4_1.length : Int)) = true := decide_eq_true c24
    have c24b1 : decide (12 < x4_1.length) = true := decide_eq_true (by omega)
    clear c24
    obtain ⟨y179, hy179⟩ : ∃ y_ : List ByteArray, y_ = (([] : List ByteArray)) := ⟨_, rfl⟩
    replace H : (some (y179, false)) = some (r1, r2) := by first | (rw [hy179]; with_reducible exact H) | (have H2_ := (Option.bind_some _ _).symm.trans H; rw [hy179]; with_reducible exact H2_) | (have H2_ := (Option.bind_some _ _).symm.trans H; with_reducible exact H2_) | with_reducible exact H | (rw [hy179]; exact H) | exact H
    have Ny179 := Aside0.mk hy179
    clear hy179
    simp only [Option.some.injEq, Prod.mk.injEq] at H
    obtain ⟨rfl, rfl⟩ := H
    obtain ⟨Ao25, co25, eo25⟩ := Kd.R_slice HO_4.out
    subst eo25
    go_wp2_with (first | ((with_reducible refine gate_dst (N := 50) rfl ?_); (try (refine gate_guard (by rfl) ?_; dsimp only)); refine Kd.R_lit Kd.string _ 9 ?hg (N := 50) ?hd (xs := ([] : List ByteArray)) (inner := []) (ok := fun _ => True) (okp := fun _ => True) ?hr ?hp (fun _ hk => hk) trivial (Below.refl _ _) (Nat.le_refl _) (by simp) ?_; (case hd => rfl); (case hg => rfl); (case hr => first | (go_simp; done) | (go_simp; rfl)); (case hp => exact (Reps.none _ _)); intro v180 w26 ho27 hb hg_ hnew_; clear hg_ hnew_; (first | rw [← Ny179.out] at ho27 | (simp only [Int.reduceToNat] at ho27; rw [← Ny179.out] at ho27)); have HO181 := Aside0.mk (Kd.R_lower (Kd.R_new' ho27 (Kd.R_lt (zr HO_4))) (below_size (zs0 HB))); replace HO_4 := Aside0.mk (Kd.R_elder' (zr HO_4) (Kd.R_base ho27) hb); replace HB := zE (zs0 HB) hb; clear hb ho27))
    go_ret2
    exact ⟨_, ze, by (with_reducible repeat (first | apply Kd.R_alloc | apply Kd.R_drewN | apply Kd.R_drew)); exact Kd.R_mono HO181.out (fun _ hk => trivial), zs0 HB⟩
   rw [if_pos c6] at H
   have c6b0 : decide (x7_1 < (zs_.size : Int)) = true := decide_eq_true c6
   clear c6
   by_cases c7 : 0 ≤ x7_1
   rotate_left
   ·rw [if_neg c7] at H
    exact absurd H (by simp)
   rw [if_pos c7] at H
   have c7b0 : decide (0 ≤ x7_1) = true := decide_eq_true c7
   clear c7
   by_cases c9 : (bt zs_ x7_1) = 32
   ·rw [if_pos c9] at H
    have c9b0 : ((bt zs_ x7_1) == 32) = true := beq_iff_eq.mpr c9
    have c9b1 : ((bt zs_ x7_1) != 32) = false := bne_eq_false_iff_eq.mpr c9
    clear c9
    by_cases c10 : x5_1.toList = ([] : List UInt8)
    ·rw [if_pos c10] at H
     have c10b0 : (x5_1.toList == ([] : List UInt8)) = true := beq_iff_eq.mpr c10
     have c10b1 : (x5_1.toList != ([] : List UInt8)) = false := bne_eq_false_iff_eq.mpr c10
     clear c10
     have H' := Aside0.mk H
     clear H
     have p8 : 0 ≤ (x7_1 : Int) := za
     have q8 : x7_1 < (zs_.size : Int) := za
     have hx8 := bt_at zs_ x7_1
     replace p8 := eq_true p8
     replace q8 := eq_true q8
     go_wp2
     go_roundg k1
     case measure => have := HK1.out; omega
     case rel => exact ⟨(x4_1), (x5_1), (wrap64 (x7_1 + 1)), zi, zi, H', ⟨by have := HK1.out; omega⟩, ⟨zr HO_4⟩, ⟨zs0 HB⟩⟩
    rw [if_neg c10] at H
    have c10b0 : (x5_1.toList == ([] : List UInt8)) = false := beq_eq_false_iff_ne.mpr c10
    have c10b1 : (x5_1.toList != ([] : List UInt8)) = true := bne_iff_ne.mpr c10
    by_cases c11 : x4_1.length < 8796093022208
    rotate_left
    ·rw [if_neg c11] at H
     exact absurd H (by simp)
    rw [if_pos c11] at H
    have LMc11 := Aside0.mk c11
    clear c11
    obtain ⟨y182, hy182⟩ : ∃ y_ : List ByteArray, y_ = (x4_1 ++ [x5_1]) := ⟨_, rfl⟩
    replace H : (spec_SkyWords.l0 k1 y182 (⟨#[]⟩ : ByteArray) zs_ (wrap64 (x7_1 + 1))) = some (r1, r2) := by first | (rw [hy182]; with_reducible exact H) | (have H2_ := (Option.bind_some _ _).symm.trans H; rw [hy182]; with_reducible exact H2_) | (have H2_ := (Option.bind_some _ _).symm.trans H; with_reducible exact H2_) | with_reducible exact H | (rw [hy182]; exact H) | exact H
    have Ny182 := Aside0.mk hy182
    clear hy182
    have H' := Aside0.mk H
    clear H
    have p8 : 0 ≤ (x7_1 : Int) := za
    have q8 : x7_1 < (zs_.size : Int) := za
    have hx8 := bt_at zs_ x7_1
    replace p8 := eq_true p8
    replace q8 := eq_true q8
    go_wp2_with (first | ((with_reducible refine gate_builtin (b := .append) (xs := #[.tmp 43, .tmp 45]) rfl ?_); (try (refine gate_guard (by rfl) ?_; dsimp only)); at_builtin; refine Kd.R_append Kd.string (w0 := w) w.heap.size rfl (.tmp 43) (.tmp 45) 24 9 (.string ⟨#[]⟩) 16 rfl Tryd.underlying24 info9 rfl (by decide) (by omega) u4 x4_1 x5_1 [.string x5_1] (fun _ => True) (fun _ => False) rfl rfl ?aP (fun _ hk => hk.elim) ?aF ?aO ?aB ?aS ?aL ?_; (case aP => exact rfl); (case aB => exact (zs0 HB)); (case aF => exact (fun _ _ => trivial)); (case aO => exact (zr HO_4)); (case aS => exact (below_size (zs0 HB))); (case aL => have := LMc11.out; omega); intro v183 w12 ho hb hg hat; rw [← Ny182.out] at ho; have HO184 := Aside0.mk (ho); replace HB := Aside0.mk (hb); clear HO_4; clear ho hb hg hat))
    go_roundg k1
    case measure => have := HK1.out; omega
    case rel => exact ⟨(y182), ((⟨#[]⟩ : ByteArray)), (wrap64 (x7_1 + 1)), zi, zi, H', ⟨by have := HK1.out; omega⟩, ⟨zr HO184⟩, ⟨zs0 HB⟩⟩
   rw [if_neg c9] at H
   have c9b0 : ((bt zs_ x7_1) == 32) = false := beq_eq_false_iff_ne.mpr c9
   have c9b1 : ((bt zs_ x7_1) != 32) = true := bne_iff_ne.mpr c9
   have c13b0 := eq_true (za : 0 ≤ x7_1)
   by_cases c14 : x7_1 ≤ (wrap64 (x7_1 + 1))
   rotate_left
   ·rw [if_neg c14] at H
    exact absurd H (by simp)
   rw [if_pos c14] at H
   have c14b0 := eq_true c14
   have c14b1 : decide (x7_1 ≤ (wrap64 (x7_1 + 1))) = true := decide_eq_true c14
   by_cases c15 : (wrap64 (x7_1 + 1)) ≤ (zs_.size : Int)
   rotate_left
   ·rw [if_neg c15] at H
    exact absurd H (by simp)
   rw [if_pos c15] at H
   have c15b0 := eq_true c15
   have c15b1 : decide ((wrap64 (x7_1 + 1)) ≤ (zs_.size : Int)) = true := decide_eq_true c15
   by_cases c16 : x5_1.size + (zs_.extract (x7_1 : Int).toNat ((wrap64 (x7_1 + 1)) : Int).toNat).size ≤ 9223372036854775807
   rotate_left
   ·rw [if_neg c16] at H
    exact absurd H (by simp)
   rw [if_pos c16] at H
   have c16b0 := eq_true c16
   have c16b1 : decide (x5_1.size + (zs_.extract (x7_1 : Int).toNat ((wrap64 (x7_1 + 1)) : Int).toNat).size ≤ 9223372036854775807) = true := decide_eq_true c16
   try have c16b2 : (9223372036854775807 < x5_1.size + (zs_.extract (x7_1 : Int).toNat ((wrap64 (x7_1 + 1)) : Int).toNat).size) = False := eq_false (Nat.not_lt.2 c16)
   have HC17 := Aside0.mk H
   clear H
   have p8 : 0 ≤ (x7_1 : Int) := za
   have q8 : x7_1 < (zs_.size : Int) := za
   have hx8 := bt_at zs_ x7_1
   replace p8 := eq_true p8
   replace q8 := eq_true q8
   go_upto_region 9 with (fail)
   go_cut [39] (fun v39 wc => ∃ (kq : Nat) (x39_16 : Bool), v39 = .bool x39_16 ∧ Aside0 (spec_SkyWords.j1 kq x4_1 (x5_1 ++ (zs_.extract (x7_1 : Int).toNat ((wrap64 (x7_1 + 1)) : Int).toNat)) zs_ x7_1 x39_16 = some (r1, r2)) ∧ Aside0 (kq ≤ k1) ∧ Aside0 (Kd.R Kd.string 9 wc w.heap.size (fun _ => True) u4 x4_1) ∧ Aside0 (Below w.heap.size w wc))
   case first =>
    have H := HC17.out
    clear HC17
    replace H := zbd H; obtain ⟨t185, A19, H⟩ := H
    by_cases c20 : t185 = true
    rotate_left
    ·replace c20 := Bool.eq_false_iff.mpr c20
     subst c20
     have H1 : (spec_SkyWords.j1 k1 x4_1 (x5_1 ++ (zs_.extract (x7_1 : Int).toNat ((wrap64 (x7_1 + 1)) : Int).toNat)) zs_ x7_1 true) = some (r1, r2) := by rw [if_neg (show ¬ (false = true) by decide)] at H; exact H
     clear H
     have H := H1
     clear H1
     have H' := Aside0.mk H
     clear H
     have p18 : 0 ≤ (x7_1 : Int) := za
     have q18 : x7_1 < (zs_.size : Int) := za
     have hx18 := bt_at zs_ x7_1
     replace p18 := eq_true p18
     replace q18 := eq_true q18
     go_wp2_with (first | ((with_reducible refine gate_callee (f := 16) rfl ?_); refine goesL_ (some 33) rfl rfl Tryd.func16 (by kernel_rfl) rfl #[.int .i64 (wrap64 (bt zs_ x7_1)), .int .i64 33, .int .i64 126] rfl zl ?_; (with_reducible refine (spec_l1In.calls (wrap64 (bt zs_ x7_1)) 33 126 false _ A19.out).mono ?_); rintro e w' ⟨rfl, ⟨nd, rfl⟩⟩; refine ⟨_, rfl, ?_⟩))
     go_meet
     case rel => exact ⟨_, (true), zi, H', ⟨by have := HK1.out; first | omega | exact Nat.le_refl _⟩, ⟨zr HO_4⟩, ⟨zs0 HB⟩⟩
    subst c20
    have H1 : (spec_SkyWords.j1 k1 x4_1 (x5_1 ++ (zs_.extract (x7_1 : Int).toNat ((wrap64 (x7_1 + 1)) : Int).toNat)) zs_ x7_1 (decide (((x5_1 ++ (zs_.extract (x7_1 : Int).toNat ((wrap64 (x7_1 + 1)) : Int).toNat)).size : Int) > 24))) = some (r1, r2) := by rw [if_pos rfl] at H; exact H
    clear H
    have H := H1
    clear H1
    have H' := Aside0.mk H
    clear H
    have p18 : 0 ≤ (x7_1 : Int) := za
    have q18 : x7_1 < (zs_.size : Int) := za
    have hx18 := bt_at zs_ x7_1
    replace p18 := eq_true p18
    replace q18 := eq_true q18
    go_wp2_with (first | ((with_reducible refine gate_callee (f := 16) rfl ?_); refine goesL_ (some 33) rfl rfl Tryd.func16 (by kernel_rfl) rfl #[.int .i64 (wrap64 (bt zs_ x7_1)), .int .i64 33, .int .i64 126] rfl zl ?_; (with_reducible refine (spec_l1In.calls (wrap64 (bt zs_ x7_1)) 33 126 true _ A19.out).mono ?_); rintro e w' ⟨rfl, ⟨nd, rfl⟩⟩; refine ⟨_, rfl, ?_⟩))
    go_meet
    case rel => exact ⟨_, (decide (((x5_1 ++ (zs_.extract (x7_1 : Int).toNat ((wrap64 (x7_1 + 1)) : Int).toNat)).size : Int) > 24)), zi, H', ⟨by have := HK1.out; first | omega | exact Nat.le_refl _⟩, ⟨zr HO_4⟩, ⟨zs0 HB⟩⟩
   case rest =>
    clear HC17
    try clear c1
    try clear p1
    try clear q1
    try clear hx1
    try clear c2
    try clear p2
    try clear c3
    try clear c3b0
    try clear c3b1
    try clear c3b2
    try clear c6
    try clear c6b0
    try clear p6
    try clear c7
    try clear c7b0
    try clear p8
    try clear q8
    try clear hx8
    try clear c9
    try clear c9b0
    try clear c9b1
    try clear c10
    try clear c10b0
    try clear c10b1
    try clear c11
    try clear c13
    try clear c13b0
    try clear c14
    try clear c14b0
    try clear c14b1
    try clear c15
    try clear c15b0
    try clear c15b1
    try clear c16
    try clear c16b0
    try clear c16b1
    try clear c16b2
    try clear p18
    try clear q18
    try clear hx18
    try clear c20
    try clear p18
    try clear p2
    try clear p8
    try clear q18
    try clear q8
    obtain ⟨kq, x39_16, rfl, HA, HJ16, HO_4, HB⟩ := hcut
    cases kq with
    | zero => exact absurd HA.out (by simp [spec_SkyWords.j1])
    | succ kj16 =>
     have H := HA.out
     clear HA
     simp only [spec_SkyWords.j1] at H
     by_cases c21 : x39_16 = true
     rotate_left
     ·replace c21 := Bool.eq_false_iff.mpr c21
      subst c21
      have H1 : (spec_SkyWords.l0 kj16 x4_1 (x5_1 ++ (zs_.extract (x7_1 : Int).toNat ((wrap64 (x7_1 + 1)) : Int).toNat)) zs_ (wrap64 (x7_1 + 1))) = some (r1, r2) := by rw [if_neg (show ¬ (false = true) by decide)] at H; exact H
      clear H
      have H := H1
      clear H1
      have H' := Aside0.mk H
      clear H
      go_wp2
      go_roundg kj16
      case measure => have := HK1.out; have := HJ16.out; omega
      case rel => exact ⟨(x4_1), ((x5_1 ++ (zs_.extract (x7_1 : Int).toNat ((wrap64 (x7_1 + 1)) : Int).toNat))), (wrap64 (x7_1 + 1)), zi, zi, H', ⟨by have := HK1.out; have := HJ16.out; omega⟩, ⟨zr HO_4⟩, ⟨zs0 HB⟩⟩
     subst c21
     have H1 : (some ((([] : List ByteArray)), false)) = some (r1, r2) := by rw [if_pos rfl] at H; exact H
     clear H
     have H := H1
     clear H1
     obtain ⟨y186, hy186⟩ : ∃ y_ : List ByteArray, y_ = (([] : List ByteArray)) := ⟨_, rfl⟩
     replace H : (some (y186, false)) = some (r1, r2) := by first | (rw [hy186]; with_reducible exact H) | (have H2_ := (Option.bind_some _ _).symm.trans H; rw [hy186]; with_reducible exact H2_) | (have H2_ := (Option.bind_some _ _).symm.trans H; with_reducible exact H2_) | with_reducible exact H | (rw [hy186]; exact H) | exact H
     have Ny186 := Aside0.mk hy186
     clear hy186
     simp only [Option.some.injEq, Prod.mk.injEq] at H
     obtain ⟨rfl, rfl⟩ := H
     go_wp2_with (first | ((with_reducible refine gate_dst (N := 40) rfl ?_); (try (refine gate_guard (by rfl) ?_; dsimp only)); refine Kd.R_lit Kd.string _ 9 ?hg (N := 40) ?hd (xs := ([] : List ByteArray)) (inner := []) (ok := fun _ => True) (okp := fun _ => True) ?hr ?hp (fun _ hk => hk) trivial (Below.refl _ _) (Nat.le_refl _) (by simp) ?_; (case hd => rfl); (case hg => rfl); (case hr => first | (go_simp; done) | (go_simp; rfl)); (case hp => exact (Reps.none _ _)); intro v187 w22 ho23 hb hg_ hnew_; clear hg_ hnew_; (first | rw [← Ny186.out] at ho23 | (simp only [Int.reduceToNat] at ho23; rw [← Ny186.out] at ho23)); have HO188 := Aside0.mk (Kd.R_lower (Kd.R_new' ho23 (Kd.R_lt (zr HO_4))) (below_size (zs0 HB))); replace HO_4 := Aside0.mk (Kd.R_elder' (zr HO_4) (Kd.R_base ho23) hb); replace HB := zE (zs0 HB) hb; clear hb ho23))
     go_ret2
     exact ⟨_, ze, by (with_reducible repeat (first | apply Kd.R_alloc | apply Kd.R_drewN | apply Kd.R_drew)); exact Kd.R_mono HO188.out (fun _ hk => trivial), zs0 HB⟩
def laws_wmTexts.l0 : Nat → List ByteArray → List ByteArray → Int → Option (Bool)
 | 0, _, _, _ => none
 | k + 1, x0, x1, x5 => if x5 < (x0.length : Int) then (if 0 ≤ x5 then (if x5 < (x1.length : Int) then (if (rdOf ByteArray.empty x0 x5).toList = (rdOf ByteArray.empty x1 x5).toList then (laws_wmTexts.l0 k x0 x1 (wrap64 (x5 + 1))) else (some false)) else (none)) else (none)) else (some true)
def laws_wmTexts.f (k : Nat) (l0 : List ByteArray) (l1 : List ByteArray) : Option (Bool) := if (l0.length : Int) = (l1.length : Int) then (laws_wmTexts.l0 k l0 l1 0) else (some false)
set_option maxHeartbeats 8000000 in
set_option maxRecDepth 100000 in
theorem laws_wmTexts.calls (k : Nat) (A0 : Option Addr) (c0 : Nat) (l0 : List ByteArray) (A1 : Option Addr) (c1 : Nat) (l1 : List ByteArray) (r : Bool) (w : World) (hr0 : Kd.C Kd.string w A0 l0.length l0) (hc0 : l0.length ≤ c0) (hr1 : Kd.C Kd.string w A1 l1.length l1) (hc1 : l1.length ≤ c1) (h : laws_wmTexts.f k l0 l1 = some r) :
 Calls Tryd.prog 7 #[.slice A0 l0.length c0, .slice A1 l1.length c1] w fun e w' => e = .returned (.bool r) ∧ Drawn0 w w' := by
 have HR0 := Aside0.mk hr0
 have HC0 := Aside0.mk hc0
 clear hr0 hc0
 have HR1 := Aside0.mk hr1
 have HC1 := Aside0.mk hc1
 clear hr1 hc1
 have H : (if (l0.length : Int) = (l1.length : Int) then (laws_wmTexts.l0 k l0 l1 0) else (some false)) = some r := h
 clear h
 by_cases c3 : (l0.length : Int) = (l1.length : Int)
 rotate_left
 ·rw [if_neg c3] at H
  have c3b0 : ((l0.length : Int) == (l1.length : Int)) = false := beq_eq_false_iff_ne.mpr c3
  have c3b1 : ((l0.length : Int) != (l1.length : Int)) = true := bne_iff_ne.mpr c3
  have c3b2 : (l0.length == l1.length) = false := by first | simpa using c3 | (simp at c3 ⊢; omega)
  obtain rfl := Option.some.inj H
  go_enter Tryd.func7, Tryd.ntmps7
  go_wp2
  repeat (go_quiet (fail); try go_wp2)
  go_ret
  exact ⟨by first | rfl | (simp; done) | (simp [*]; done), by repeat (first | exact Drawn0.refl _ | apply Drawn0.step)⟩
 rw [if_pos c3] at H
 have c3b0 : ((l0.length : Int) == (l1.length : Int)) = true := beq_iff_eq.mpr c3
 have c3b1 : ((l0.length : Int) != (l1.length : Int)) = false := bne_eq_false_iff_eq.mpr c3
 have c3b2 : (l0.length == l1.length) = true := by first | simpa using c3 | (simp at c3 ⊢; omega)
 clear c3
 have H' := Aside0.mk H
 clear H
 go_enter Tryd.func7, Tryd.ntmps7
 go_wp2
 repeat (go_quiet (fail); try go_wp2)
 go_loopg [5] k (fun kq v5 w' => ∃ (x5_1 : Int), v5 = .int .i64 x5_1 ∧ Aside0 (laws_wmTexts.l0 kq l0 l1 x5_1 = some r) ∧ Aside0 (kq ≤ k) ∧ Drawn0 w w')
 case atStart => exact ⟨(0), zi, H', ⟨Nat.le_refl _⟩, by repeat (first | exact Drawn0.refl _ | apply Drawn0.step)⟩
 case round =>
  clear H'
  try clear c1
  try clear p2
  try clear c3
  try clear c3b0
  try clear c3b1
  try clear c3b2
  obtain ⟨x5_1, rfl, HA, HK1, ⟨m1, rfl⟩⟩ := hrel
  cases gk with
  | zero => exact absurd HA.out (by simp [laws_wmTexts.l0])
  | succ k1 =>
   have H := HA.out
   clear HA
   simp only [laws_wmTexts.l0] at H
   by_cases c4 : x5_1 < (l0.length : Int)
   rotate_left
   ·rw [if_neg c4] at H
    have c4b0 : decide (x5_1 < (l0.length : Int)) = false := decide_eq_false c4
    clear c4
    obtain rfl := Option.some.inj H
    go_wp2
    repeat (go_quiet (fail); try go_wp2)
    go_ret
    exact ⟨by first | rfl | (simp; done) | (simp [*]; done), by repeat (first | exact Drawn0.refl _ | apply Drawn0.step)⟩
   rw [if_pos c4] at H
   have c4b0 : decide (x5_1 < (l0.length : Int)) = true := decide_eq_true c4
   clear c4
   by_cases c5 : 0 ≤ x5_1
   rotate_left
   ·rw [if_neg c5] at H
    exact absurd H (by simp)
   rw [if_pos c5] at H
   have c5b0 : decide (0 ≤ x5_1) = true := decide_eq_true c5
   clear c5
   by_cases c6 : x5_1 < (l1.length : Int)
   rotate_left
   ·rw [if_neg c6] at H
    exact absurd H (by simp)
   rw [if_pos c6] at H
   have c6b0 : decide (x5_1 < (l1.length : Int)) = true := decide_eq_true c6
   clear c6
   by_cases c7 : (rdOf ByteArray.empty l0 x5_1).toList = (rdOf ByteArray.empty l1 x5_1).toList
   rotate_left
   ·rw [if_neg c7] at H
    have c7b0 : ((rdOf ByteArray.empty l0 x5_1).toList == (rdOf ByteArray.empty l1 x5_1).toList) = false := beq_eq_false_iff_ne.mpr c7
    have c7b1 : ((rdOf ByteArray.empty l0 x5_1).toList != (rdOf ByteArray.empty l1 x5_1).toList) = true := bne_iff_ne.mpr c7
    obtain rfl := Option.some.inj H
    have p189 : 0 ≤ (x5_1 : Int) := za
    have q189 : x5_1 < (l0.length : Int) := za
    obtain ⟨ad189, e189, hx189_0⟩ := Kd.at_string HR0.out x5_1 p189 q189
    cases e189
    replace p189 := eq_true p189
    replace q189 := eq_true q189
    have p190 : 0 ≤ (x5_1 : Int) := za
    have q190 : x5_1 < (l1.length : Int) := za
    obtain ⟨ad190, e190, hx190_0⟩ := Kd.at_string HR1.out x5_1 p190 q190
    cases e190
    replace p190 := eq_true p190
    replace q190 := eq_true q190
    go_wp2
    repeat (go_quiet (fail); try go_wp2)
    go_ret
    exact ⟨by first | rfl | (simp; done) | (simp [*]; done), by repeat (first | exact Drawn0.refl _ | apply Drawn0.step)⟩
   rw [if_pos c7] at H
   have c7b0 : ((rdOf ByteArray.empty l0 x5_1).toList == (rdOf ByteArray.empty l1 x5_1).toList) = true := beq_iff_eq.mpr c7
   have c7b1 : ((rdOf ByteArray.empty l0 x5_1).toList != (rdOf ByteArray.empty l1 x5_1).toList) = false := bne_eq_false_iff_eq.mpr c7
   clear c7
   have H' := Aside0.mk H
   clear H
   have p189 : 0 ≤ (x5_1 : Int) := za
   have q189 : x5_1 < (l0.length : Int) := za
   obtain ⟨ad189, e189, hx189_0⟩ := Kd.at_string HR0.out x5_1 p189 q189
   cases e189
   replace p189 := eq_true p189
   replace q189 := eq_true q189
   have p190 : 0 ≤ (x5_1 : Int) := za
   have q190 : x5_1 < (l1.length : Int) := za
   obtain ⟨ad190, e190, hx190_0⟩ := Kd.at_string HR1.out x5_1 p190 q190
   cases e190
   replace p190 := eq_true p190
   replace q190 := eq_true q190
   go_wp2
   repeat (go_quiet (fail); try go_wp2)
   go_roundg k1
   case measure => have := HK1.out; omega
   case rel => exact ⟨(wrap64 (x5_1 + 1)), zi, H', ⟨by have := HK1.out; omega⟩, by repeat (first | exact Drawn0.refl _ | apply Drawn0.step)⟩
end Go.Proofs.YtnmjmhhkbcnccaaDoor.QFnSkyWords
