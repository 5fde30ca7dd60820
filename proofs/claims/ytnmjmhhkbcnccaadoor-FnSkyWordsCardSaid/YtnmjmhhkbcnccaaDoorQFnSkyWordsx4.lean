/- The walk of what the law FnSkyWords reaches: laid by a program of this session (ownprint.py). -/
import Derived.Test.YtnmjmhhkbcnccaaDoorQFnSkyWordsx0
import Derived.Test.YtnmjmhhkbcnccaaDoorQFnSkyWordsx3
namespace Go.Proofs.YtnmjmhhkbcnccaaDoor.QFnSkyWords
open Go.RowKit Go.Proofs.YtnmjmhhkbcnccaaDoorW.PrintWords Go.Proofs.YtnmjmhhkbcnccaaDoorW.PrintLast Go.Proofs.YtnmjmhhkbcnccaaDoorW.PrintMore Go.Proofs.YtnmjmhhkbcnccaaDoor.Z
attribute [local go_sem] max2_int min2_int max_two min_two max_three min_three max_four min_four zdn   -- for this text's walks alone
set_option linter.unusedVariables false
set_option linter.unusedSimpArgs false
mutual
def impl_SkyWords.l0 : Nat → List ByteArray → List ByteArray → Int → Int → Option (List ByteArray × Bool)
 | 0, _, _, _, _ => none
 | k + 1, x4, x15, x16, x17 => if x17 < x16 then (if 0 ≤ x17 then (if x17 < (x15.length : Int) then (if (rdOf ByteArray.empty x15 x17).toList = ([] : List UInt8) then (impl_SkyWords.l0 k x4 x15 x16 (wrap64 (x17 + 1))) else (impl_SkyWords.l1 k x4 (rdOf ByteArray.empty x15 x17) 0 x15 x16 x17)) else (none)) else (none)) else (if (x4.length : Int) > 12 then (some (([] : List ByteArray), false)) else (some (x4, true)))
def impl_SkyWords.l1 : Nat → List ByteArray → ByteArray → Int → List ByteArray → Int → Int → Option (List ByteArray × Bool)
 | 0, _, _, _, _, _, _ => none
 | k + 1, x4, x6, x7, x15, x16, x17 => if x7 < (x6.size : Int) then (if 0 ≤ x7 then (if (bt x6 x7) < 33 then (some (([] : List ByteArray), false)) else (if (bt x6 x7) > 126 then (some (([] : List ByteArray), false)) else (impl_SkyWords.l1 k x4 x6 (wrap64 (x7 + 1)) x15 x16 x17))) else (none)) else (if (x6.size : Int) > 24 then (some (([] : List ByteArray), false)) else ((strings_Clone.f x6).bind fun t171 => (if x4.length < 8796093022208 then (impl_SkyWords.l0 k (x4 ++ [t171]) x15 x16 (wrap64 (x17 + 1))) else (none))))
end
def impl_SkyWords.f (k : Nat) (a0 : ByteArray) : Option (List ByteArray × Bool) := (strings_Cut.f a0 (⟨#[35]⟩ : ByteArray)).bind fun bt164 => ((strings_Split.f bt164.1 (⟨#[32]⟩ : ByteArray)).bind fun t167 => (impl_SkyWords.l0 k ([] : List ByteArray) t167 (t167.length : Int) 0))
set_option maxHeartbeats 8000000 in
set_option maxRecDepth 100000 in
theorem impl_SkyWords.calls (k : Nat) (a0 : ByteArray) (r1 : List ByteArray) (r2 : Bool) (w : World) (h : impl_SkyWords.f k a0 = some (r1, r2)) (gm : Int) (hgm : w.cell? ⟨0, 0, none⟩ = some (.int .i64 gm)) :
 Calls Tryd.prog 5 #[.string a0] w fun e w' => ∃ v0_ : Value, e = .returned (.tuple #[v0_, .bool r2]) ∧ Kd.R Kd.string 9 w' w.heap.size (fun _ => True) v0_ r1 ∧ Below w.heap.size w w' := by
 have HGM := Aside0.mk hgm
 clear hgm
 have HB := Aside0.mk (Below.refl w.heap.size w)
 have H : ((strings_Cut.f a0 (⟨#[35]⟩ : ByteArray)).bind fun bt164 => ((strings_Split.f bt164.1 (⟨#[32]⟩ : ByteArray)).bind fun t167 => (impl_SkyWords.l0 k ([] : List ByteArray) t167 (t167.length : Int) 0))) = some (r1, r2) := h
 clear h
 replace H := Option.bind_eq_some_iff.mp H
 obtain ⟨⟨t164, t165, t166⟩, A20, H⟩ := H
 replace H : ((strings_Split.f t164 (⟨#[32]⟩ : ByteArray)).bind fun t167 => (impl_SkyWords.l0 k ([] : List ByteArray) t167 (t167.length : Int) 0)) = some (r1, r2) := H
 have A2 := Aside0.mk A20
 clear A20
 replace H := zbd H; obtain ⟨t167, A3, H⟩ := H
 have H' := Aside0.mk H
 clear H
 go_enter Tryd.func5, Tryd.ntmps5
 go_wp2_with (first | ((with_reducible refine gate_callee (f := 12) rfl ?_); refine goesL_ (some 10) rfl rfl Tryd.func12 (by kernel_rfl) rfl #[.string a0, .string (⟨#[35]⟩ : ByteArray)] rfl zl ?_; (with_reducible refine (strings_Cut.calls a0 (⟨#[35]⟩ : ByteArray) t164 t165 t166 _ A2.out _ (zhc (zs0 HB) HGM.out)).mono ?_); rintro e w4 ⟨rfl, hb⟩; refine ⟨_, rfl, ?_⟩; replace HB := zE (zs0 HB) hb; (try clear hb); (try clear hb2); (try clear hk); (try clear hi)) | ((with_reducible refine gate_callee (f := 13) rfl ?_); refine goesL_ (some 15) rfl rfl Tryd.func13 (by kernel_rfl) rfl #[.string t164, .string (⟨#[32]⟩ : ByteArray)] rfl zl ?_; (with_reducible refine (strings_Split.calls t164 (⟨#[32]⟩ : ByteArray) t167 _ A3.out _ (zhc (zs0 HB) HGM.out)).mono ?_); rintro e w5 ⟨v168, rfl, ho0, hb⟩; refine ⟨_, rfl, ?_⟩; have HO169 := Aside0.mk (Kd.R_lower ho0 (below_size (zs0 HB))); replace HB := zE (zs0 HB) hb; (try clear hb); (try clear hb2); (try clear hk); (try clear hi); (try clear ho0); obtain ⟨Ao6, co6, eo6⟩ := Kd.R_slice HO169.out; subst eo6))
 go_loopg [4, 17] k (fun kq v4 v17 w' => ∃ (x4_1 : List ByteArray) (x17_1 : Int), v17 = .int .i64 x17_1 ∧ Aside0 (impl_SkyWords.l0 kq x4_1 t167 (t167.length : Int) x17_1 = some (r1, r2)) ∧ Aside0 (kq ≤ k) ∧ Aside0 (Kd.R Kd.string 9 w' w.heap.size (fun k_ => some k_ ≠ ((.slice Ao6 t167.length co6) : Value).ownBlock) v4 x4_1) ∧ Aside0 (Kd.R Kd.string 9 w' w.heap.size (fun k_ => some k_ ≠ (v4 : Value).ownBlock) (.slice Ao6 t167.length co6) t167) ∧ Aside0 (Below w.heap.size w w'))
 case atStart => exact ⟨(([] : List ByteArray)), (0), zi, H', ⟨Nat.le_refl _⟩, ⟨by first | exact Kd.R_nil _ _ _ _ _ | exact Kd.N_nil _ _ _ _ _ | exact Kd.V_nil _ _ _ _ _ | exact Kd.Q_nil _ _ _ _ _ | exact Kd.S_nil _ _ _ _ _⟩, ⟨by (with_reducible repeat (first | apply Kd.R_alloc | apply Kd.R_drewN | apply Kd.R_drew)); exact Kd.R_mono HO169.out (fun _ hk => (by simp [Value.ownBlock]))⟩, ⟨zs0 HB⟩⟩
 case round =>
  clear H'
  try clear c1
  try clear p2
  try clear c5
  obtain ⟨x4_1, x17_1, rfl, HA, HK1, HO_4, HO_15, HB⟩ := hrel
  cases gk with
  | zero => exact absurd HA.out (by simp [impl_SkyWords.l0])
  | succ k1 =>
   have H := HA.out
   clear HA
   simp only [impl_SkyWords.l0] at H
   by_cases c7 : x17_1 < (t167.length : Int)
   rotate_left
   ·rw [if_neg c7] at H
    have c7b0 : decide (x17_1 < (t167.length : Int)) = false := decide_eq_false c7
    clear c7
    by_cases c22 : (x4_1.length : Int) > 12
    rotate_left
    ·rw [if_neg c22] at H
     have c22b0 : decide (12 < (x4_1.length : Int)) = false := decide_eq_false c22
     have c22b1 : decide (12 < x4_1.length) = false := decide_eq_false (by omega)
     clear c22
     simp only [Option.some.injEq, Prod.mk.injEq] at H
     obtain ⟨rfl, rfl⟩ := H
     obtain ⟨Ao24, co24, eo24⟩ := Kd.R_slice HO_4.out
     subst eo24
     go_wp2
     go_ret2
     exact ⟨_, ze, by (with_reducible repeat (first | apply Kd.R_alloc | apply Kd.R_drewN | apply Kd.R_drew)); exact Kd.R_mono HO_4.out (fun _ hk => trivial), zs0 HB⟩
    rw [if_pos c22] at H
    have c22b0 : decide (12 < (x4_1.length : Int)) = true := decide_eq_true c22
    have c22b1 : decide (12 < x4_1.length) = true := decide_eq_true (by omega)
    clear c22
    simp only [Option.some.injEq, Prod.mk.injEq] at H
    obtain ⟨rfl, rfl⟩ := H
    obtain ⟨Ao23, co23, eo23⟩ := Kd.R_slice HO_4.out
    subst eo23
    go_wp2
    go_ret2
    exact ⟨_, ze, by first | exact Kd.R_nil _ _ _ _ _ | exact Kd.N_nil _ _ _ _ _ | exact Kd.V_nil _ _ _ _ _ | exact Kd.Q_nil _ _ _ _ _ | exact Kd.S_nil _ _ _ _ _, zs0 HB⟩
   rw [if_pos c7] at H
   have c7b0 : decide (x17_1 < (t167.length : Int)) = true := decide_eq_true c7
   clear c7
   by_cases c8 : 0 ≤ x17_1
   rotate_left
   ·rw [if_neg c8] at H
    exact absurd H (by simp)
   rw [if_pos c8] at H
   have c8b0 : decide (0 ≤ x17_1) = true := decide_eq_true c8
   clear c8
   by_cases c9 : x17_1 < (t167.length : Int)
   rotate_left
   ·rw [if_neg c9] at H
    exact absurd H (by simp)
   rw [if_pos c9] at H
   have c9b0 : decide (x17_1 < (t167.length : Int)) = true := decide_eq_true c9
   clear c9
   by_cases c10 : (rdOf ByteArray.empty t167 x17_1).toList = ([] : List UInt8)
   ·rw [if_pos c10] at H
    have c10b0 : ((rdOf ByteArray.empty t167 x17_1).toList == ([] : List UInt8)) = true := beq_iff_eq.mpr c10
    have c10b1 : ((rdOf ByteArray.empty t167 x17_1).toList != ([] : List UInt8)) = false := bne_eq_false_iff_eq.mpr c10
    clear c10
    have H' := Aside0.mk H
    clear H
    have p170 : 0 ≤ (x17_1 : Int) := za
    have q170 : x17_1 < (t167.length : Int) := za
    obtain ⟨ad170, e170, hx170_0⟩ := Kd.at_string (Kd.R_reads' HO_15.out).2.2 x17_1 p170 q170
    cases e170
    replace p170 := eq_true p170
    replace q170 := eq_true q170
    go_wp2
    go_roundg k1
    case measure => have := HK1.out; omega
    case rel => exact ⟨(x4_1), (wrap64 (x17_1 + 1)), zi, H', ⟨by have := HK1.out; omega⟩, ⟨zr HO_4⟩, ⟨zr HO_15⟩, ⟨zs0 HB⟩⟩
   rw [if_neg c10] at H
   have c10b0 : ((rdOf ByteArray.empty t167 x17_1).toList == ([] : List UInt8)) = false := beq_eq_false_iff_ne.mpr c10
   have c10b1 : ((rdOf ByteArray.empty t167 x17_1).toList != ([] : List UInt8)) = true := bne_iff_ne.mpr c10
   have H' := Aside0.mk H
   clear H
   have p170 : 0 ≤ (x17_1 : Int) := za
   have q170 : x17_1 < (t167.length : Int) := za
   obtain ⟨ad170, e170, hx170_0⟩ := Kd.at_string (Kd.R_reads' HO_15.out).2.2 x17_1 p170 q170
   cases e170
   replace p170 := eq_true p170
   replace q170 := eq_true q170
   go_wp2
   go_loopg [7] k1 (fun kq v7 w' => ∃ (x7_2 : Int), v7 = .int .i64 x7_2 ∧ Aside0 (impl_SkyWords.l1 kq x4_1 (rdOf ByteArray.empty t167 x17_1) x7_2 t167 (t167.length : Int) x17_1 = some (r1, r2)) ∧ Aside0 (kq ≤ k1) ∧ Aside0 (Kd.R Kd.string 9 w' w.heap.size (fun k_ => some k_ ≠ ((.slice (some ad170) t167.length co6) : Value).ownBlock) u4 x4_1) ∧ Aside0 (Kd.R Kd.string 9 w' w.heap.size (fun k_ => some k_ ≠ (u4 : Value).ownBlock) (.slice (some ad170) t167.length co6) t167) ∧ Aside0 (Below w.heap.size w w'))
   case atStart => exact ⟨(0), zi, H', ⟨Nat.le_refl _⟩, ⟨zr HO_4⟩, ⟨zr HO_15⟩, ⟨zs0 HB⟩⟩
   case round =>
    clear H'
    try clear c1
    try clear p1
    try clear q1
    try clear hx1
    try clear p2
    try clear c5
    try clear p6
    try clear c7
    try clear c7b0
    try clear c8
    try clear c8b0
    try clear c9
    try clear c9b0
    try clear c10
    try clear c10b0
    try clear c10b1
    try clear hx170_0
    try clear p170
    try clear p2
    try clear q170
    obtain ⟨x7_2, rfl, HA, HK2, HO_4, HO_15, HB⟩ := hrel
    cases gk with
    | zero => exact absurd HA.out (by simp [impl_SkyWords.l1])
    | succ k2 =>
     have H := HA.out
     clear HA
     simp only [impl_SkyWords.l1] at H
     by_cases c11 : x7_2 < ((rdOf ByteArray.empty t167 x17_1).size : Int)
     ·rw [if_pos c11] at H
      have c11b0 : decide (x7_2 < ((rdOf ByteArray.empty t167 x17_1).size : Int)) = true := decide_eq_true c11
      clear c11
      by_cases c12 : 0 ≤ x7_2
      rotate_left
      ·rw [if_neg c12] at H
       exact absurd H (by simp)
      rw [if_pos c12] at H
      have c12b0 : decide (0 ≤ x7_2) = true := decide_eq_true c12
      clear c12
      by_cases c14 : (bt (rdOf ByteArray.empty t167 x17_1) x7_2) < 33
      ·rw [if_pos c14] at H
       have c14b0 : decide ((bt (rdOf ByteArray.empty t167 x17_1) x7_2) < 33) = true := decide_eq_true c14
       clear c14
       simp only [Option.some.injEq, Prod.mk.injEq] at H
       obtain ⟨rfl, rfl⟩ := H
       have p13 : 0 ≤ (x7_2 : Int) := za
       have q13 : x7_2 < ((rdOf ByteArray.empty t167 x17_1).size : Int) := za
       have hx13 := bt_at (rdOf ByteArray.empty t167 x17_1) x7_2
       replace p13 := eq_true p13
       replace q13 := eq_true q13
       go_wp2
       go_ret2
       exact ⟨_, ze, by first | exact Kd.R_nil _ _ _ _ _ | exact Kd.N_nil _ _ _ _ _ | exact Kd.V_nil _ _ _ _ _ | exact Kd.Q_nil _ _ _ _ _ | exact Kd.S_nil _ _ _ _ _, zs0 HB⟩
      rw [if_neg c14] at H
      have c14b0 : decide ((bt (rdOf ByteArray.empty t167 x17_1) x7_2) < 33) = false := decide_eq_false c14
      clear c14
      by_cases c16 : (bt (rdOf ByteArray.empty t167 x17_1) x7_2) > 126
      ·rw [if_pos c16] at H
       have c16b0 : decide (126 < (bt (rdOf ByteArray.empty t167 x17_1) x7_2)) = true := decide_eq_true c16
       clear c16
       simp only [Option.some.injEq, Prod.mk.injEq] at H
       obtain ⟨rfl, rfl⟩ := H
       have p13 : 0 ≤ (x7_2 : Int) := za
       have q13 : x7_2 < ((rdOf ByteArray.empty t167 x17_1).size : Int) := za
       have hx13 := bt_at (rdOf ByteArray.empty t167 x17_1) x7_2
       replace p13 := eq_true p13
       replace q13 := eq_true q13
       have p15 : 0 ≤ (x7_2 : Int) := za
       have q15 : x7_2 < ((rdOf ByteArray.empty t167 x17_1).size : Int) := za
       have hx15 := bt_at (rdOf ByteArray.empty t167 x17_1) x7_2
       replace p15 := eq_true p15
       replace q15 := eq_true q15
       go_wp2
       go_ret2
       exact ⟨_, ze, by first | exact Kd.R_nil _ _ _ _ _ | exact Kd.N_nil _ _ _ _ _ | exact Kd.V_nil _ _ _ _ _ | exact Kd.Q_nil _ _ _ _ _ | exact Kd.S_nil _ _ _ _ _, zs0 HB⟩
      rw [if_neg c16] at H
      have c16b0 : decide (126 < (bt (rdOf ByteArray.empty t167 x17_1) x7_2)) = false := decide_eq_false c16
      clear c16
      have H' := Aside0.mk H
      clear H
      have p13 : 0 ≤ (x7_2 : Int) := za
      have q13 : x7_2 < ((rdOf ByteArray.empty t167 x17_1).size : Int) := za
      have hx13 := bt_at (rdOf ByteArray.empty t167 x17_1) x7_2
      replace p13 := eq_true p13
      replace q13 := eq_true q13
      have p15 : 0 ≤ (x7_2 : Int) := za
      have q15 : x7_2 < ((rdOf ByteArray.empty t167 x17_1).size : Int) := za
      have hx15 := bt_at (rdOf ByteArray.empty t167 x17_1) x7_2
      replace p15 := eq_true p15
      replace q15 := eq_true q15
      go_wp2
      go_roundg k2
      case measure => have := HK1.out; have := HK2.out; omega
      case rel => exact ⟨(wrap64 (x7_2 + 1)), zi, H', ⟨by have := HK1.out; have := HK2.out; omega⟩, ⟨zr HO_4⟩, ⟨zr HO_15⟩, ⟨zs0 HB⟩⟩
     rw [if_neg c11] at H
     have c11b0 : decide (x7_2 < ((rdOf ByteArray.empty t167 x17_1).size : Int)) = false := decide_eq_false c11
     clear c11
     by_cases c17 : ((rdOf ByteArray.empty t167 x17_1).size : Int) > 24
     ·rw [if_pos c17] at H
      have c17b0 : decide (24 < ((rdOf ByteArray.empty t167 x17_1).size : Int)) = true := decide_eq_true c17
      have c17b1 : decide (24 < (rdOf ByteArray.empty t167 x17_1).size) = true := decide_eq_true (by omega)
      clear c17
      simp only [Option.some.injEq, Prod.mk.injEq] at H
      obtain ⟨rfl, rfl⟩ := H
      go_wp2
      go_ret2
      exact ⟨_, ze, by first | exact Kd.R_nil _ _ _ _ _ | exact Kd.N_nil _ _ _ _ _ | exact Kd.V_nil _ _ _ _ _ | exact Kd.Q_nil _ _ _ _ _ | exact Kd.S_nil _ _ _ _ _, zs0 HB⟩
     rw [if_neg c17] at H
     have c17b0 : decide (24 < ((rdOf ByteArray.empty t167 x17_1).size : Int)) = false := decide_eq_false c17
     have c17b1 : decide (24 < (rdOf ByteArray.empty t167 x17_1).size) = false := decide_eq_false (by omega)
     clear c17
     replace H := zbd H; obtain ⟨t171, A18, H⟩ := H
     by_cases c19 : x4_1.length < 8796093022208
     rotate_left
     ·rw [if_neg c19] at H
      exact absurd H (by simp)
     rw [if_pos c19] at H
     have LMc19 := Aside0.mk c19
     clear c19
     obtain ⟨y172, hy172⟩ : ∃ y_ : List ByteArray, y_ = (x4_1 ++ [t171]) := ⟨_, rfl⟩
     replace H : (impl_SkyWords.l0 k2 y172 t167 (t167.length : Int) (wrap64 (x17_1 + 1))) = some (r1, r2) := by first | (rw [hy172]; with_reducible exact H) | (have H2_ := (Option.bind_some _ _).symm.trans H; rw [hy172]; with_reducible exact H2_) | (have H2_ := (Option.bind_some _ _).symm.trans H; with_reducible exact H2_) | with_reducible exact H | (rw [hy172]; exact H) | exact H
     have Ny172 := Aside0.mk hy172
     clear hy172
     have H' := Aside0.mk H
     clear H
     go_wp2_with (first | ((with_reducible refine gate_callee (f := 14) rfl ?_); refine goesL_ (some 44) rfl rfl Tryd.func14 (by kernel_rfl) rfl #[.string (rdOf ByteArray.empty t167 x17_1)] rfl zl ?_; (with_reducible refine (strings_Clone.calls (rdOf ByteArray.empty t167 x17_1) t171 _ A18.out).mono ?_); rintro e w20 ⟨rfl, hb⟩; refine ⟨_, rfl, ?_⟩; replace HO_4 := Aside0.mk (Kd.R_below (zr HO_4) hb); replace HO_15 := Aside0.mk (Kd.R_below (zr HO_15) hb); replace HB := zE (zs0 HB) hb; (try clear hb); (try clear hb2); (try clear hk); (try clear hi)) | ((with_reducible refine gate_builtin (b := .append) (xs := #[.tmp 42, .tmp 45]) rfl ?_); at_builtin; refine Kd.R_append Kd.string (w0 := w) w.heap.size rfl (.tmp 42) (.tmp 45) 24 9 (.string ⟨#[]⟩) 16 rfl Tryd.underlying24 info9 rfl (by decide) (by omega) u4 x4_1 t171 [.string t171] (fun k_ => some k_ ≠ (.slice (some ad170) t167.length co6 : Value).ownBlock) (fun _ => False) rfl rfl ?aP (fun _ hk => hk.elim) ?aF ?aO ?aB ?aS ?aL ?_; (case aP => exact rfl); (case aB => exact (zs0 HB)); (case aF => exact (fun k_ hk => Kd.fresh' (Kd.R_lt (zr HO_15)) k_ hk)); (case aO => exact (zr HO_4)); (case aS => exact (below_size (zs0 HB))); (case aL => have := LMc19.out; omega); intro v173 w21 ho hb hg hat; rw [← Ny172.out] at ho; have HO174 := Aside0.mk (ho); replace HO_15 := Aside0.mk (Kd.R_after (ok := (fun _ => True)) (by (with_reducible repeat (first | apply Kd.R_alloc | apply Kd.R_drewN | apply Kd.R_drew)); exact Kd.R_mono HO_15.out (fun _ hk => ⟨trivial, hk⟩)) hg hat); replace HB := Aside0.mk (hb); clear HO_4; clear ho hb hg hat))
     go_roundg k2
     case measure => have := HK1.out; have := HK2.out; omega
     case rel => exact ⟨(y172), (wrap64 (x17_1 + 1)), zi, H', ⟨by have := HK1.out; have := HK2.out; omega⟩, ⟨zr HO174⟩, ⟨by (with_reducible repeat (first | apply Kd.R_alloc | apply Kd.R_drewN | apply Kd.R_drew)); exact Kd.R_mono HO_15.out (fun _ hk => hk.2)⟩, ⟨zs0 HB⟩⟩
def spec_l1Bare.l0 : Nat → ByteArray → Int → Option (ByteArray)
 | 0, _, _ => none
 | k + 1, x0, x3 => if x3 < (x0.size : Int) then (if 0 ≤ x3 then (if (bt x0 x3) = 35 then (if x3 ≤ (x0.size : Int) then (some (x0.extract 0 (x3 : Int).toNat)) else (none)) else (spec_l1Bare.l0 k x0 (wrap64 (x3 + 1)))) else (none)) else (some x0)
def spec_l1Bare.f (k : Nat) (a0 : ByteArray) : Option (ByteArray) := spec_l1Bare.l0 k a0 0
set_option maxHeartbeats 8000000 in
set_option maxRecDepth 100000 in
theorem spec_l1Bare.calls (k : Nat) (a0 : ByteArray) (r : ByteArray) (w : World) (h : spec_l1Bare.f k a0 = some r) :
 Calls Tryd.prog 15 #[.string a0] w fun e w' => e = .returned (.string r) ∧ Drawn0 w w' := by
 have H : (spec_l1Bare.l0 k a0 0) = some r := h
 clear h
 have H' := Aside0.mk H
 clear H
 go_enter Tryd.func15, Tryd.ntmps15
 go_wp2
 go_loopg [3] k (fun kq v3 w' => ∃ (x3_1 : Int), v3 = .int .i64 x3_1 ∧ Aside0 (spec_l1Bare.l0 kq a0 x3_1 = some r) ∧ Aside0 (kq ≤ k) ∧ Drawn0 w w')
 case atStart => exact ⟨(0), zi, H', ⟨Nat.le_refl _⟩, by repeat (first | exact Drawn0.refl _ | apply Drawn0.step)⟩
 case round =>
  clear H'
  try clear c1
  obtain ⟨x3_1, rfl, HA, HK1, ⟨m1, rfl⟩⟩ := hrel
  cases gk with
  | zero => exact absurd HA.out (by simp [spec_l1Bare.l0])
  | succ k1 =>
   have H := HA.out
   clear HA
   simp only [spec_l1Bare.l0] at H
   by_cases c2 : x3_1 < (a0.size : Int)
   rotate_left
   ·rw [if_neg c2] at H
    have c2b0 : decide (x3_1 < (a0.size : Int)) = false := decide_eq_false c2
    clear c2
    obtain rfl := Option.some.inj H
    go_wp2
    go_ret
    exact ⟨by first | rfl | (simp; done) | (simp [*]; done), by repeat (first | exact Drawn0.refl _ | apply Drawn0.step)⟩
   rw [if_pos c2] at H
   have c2b0 : decide (x3_1 < (a0.size : Int)) = true := decide_eq_true c2
   clear c2
   by_cases c3 : 0 ≤ x3_1
   rotate_left
   ·rw [if_neg c3] at H
    exact absurd H (by simp)
   rw [if_pos c3] at H
   have c3b0 : decide (0 ≤ x3_1) = true := decide_eq_true c3
   clear c3
   by_cases c5 : (bt a0 x3_1) = 35
   rotate_left
   ·rw [if_neg c5] at H
    have c5b0 : ((bt a0 x3_1) == 35) = false := beq_eq_false_iff_ne.mpr c5
    have c5b1 : ((bt a0 x3_1) != 35) = true := bne_iff_ne.mpr c5
    have H' := Aside0.mk H
    clear H
    have p4 : 0 ≤ (x3_1 : Int) := za
    have q4 : x3_1 < (a0.size : Int) := za
    have hx4 := bt_at a0 x3_1
    replace p4 := eq_true p4
    replace q4 := eq_true q4
    go_wp2
    go_roundg k1
    case measure => have := HK1.out; omega
    case rel => exact ⟨(wrap64 (x3_1 + 1)), zi, H', ⟨by have := HK1.out; omega⟩, by repeat (first | exact Drawn0.refl _ | apply Drawn0.step)⟩
   rw [if_pos c5] at H
   have c5b0 : ((bt a0 x3_1) == 35) = true := beq_iff_eq.mpr c5
   have c5b1 : ((bt a0 x3_1) != 35) = false := bne_eq_false_iff_eq.mpr c5
   clear c5
   have c6b0 := eq_true (za : 0 ≤ x3_1)
   by_cases c7 : x3_1 ≤ (a0.size : Int)
   rotate_left
   ·rw [if_neg c7] at H
    exact absurd H (by simp)
   rw [if_pos c7] at H
   have c7b0 := eq_true c7
   have c7b1 : decide (x3_1 ≤ (a0.size : Int)) = true := decide_eq_true c7
   clear c7
   obtain rfl := Option.some.inj H
   have p4 : 0 ≤ (x3_1 : Int) := za
   have q4 : x3_1 < (a0.size : Int) := za
   have hx4 := bt_at a0 x3_1
   replace p4 := eq_true p4
   replace q4 := eq_true q4
   go_wp2
   go_ret
   exact ⟨by first | rfl | (simp; done) | (simp [*]; done), by repeat (first | exact Drawn0.refl _ | apply Drawn0.step)⟩
def spec_l1In.f (a0 : Int) (a1 : Int) (a2 : Int) : Option (Bool) := if a0 ≥ a1 then (some (decide (a0 ≤ a2))) else (some false)
set_option maxHeartbeats 8000000 in
set_option maxRecDepth 100000 in
theorem spec_l1In.calls (a0 : Int) (a1 : Int) (a2 : Int) (r : Bool) (w : World) (h : spec_l1In.f a0 a1 a2 = some r) :
 Calls Tryd.prog 16 #[.int .i64 a0, .int .i64 a1, .int .i64 a2] w fun e w' => e = .returned (.bool r) ∧ Drawn0 w w' := by
 have H : (if a0 ≥ a1 then (some (decide (a0 ≤ a2))) else (some false)) = some r := h
 clear h
 by_cases c4 : a0 ≥ a1
 ·rw [if_pos c4] at H
  have c4b0 : decide (a1 ≤ a0) = true := decide_eq_true c4
  clear c4
  obtain rfl := Option.some.inj H
  go_enter Tryd.func16, Tryd.ntmps16
  go_wp2
  go_ret
  exact ⟨by first | rfl | (simp; done) | (simp [*]; done), by repeat (first | exact Drawn0.refl _ | apply Drawn0.step)⟩
 rw [if_neg c4] at H
 have c4b0 : decide (a1 ≤ a0) = false := decide_eq_false c4
 clear c4
 obtain rfl := Option.some.inj H
 go_enter Tryd.func16, Tryd.ntmps16
 go_wp2
 go_ret
 exact ⟨by first | rfl | (simp; done) | (simp [*]; done), by repeat (first | exact Drawn0.refl _ | apply Drawn0.step)⟩
end Go.Proofs.YtnmjmhhkbcnccaaDoor.QFnSkyWords
