/- The walk of what the law FnSkyWords reaches: laid by a program of this session (ownprint.py). -/
import Derived.Test.YtnmjmhhkbcnccaaDoorQFnSkyWordsx0
import Derived.Test.YtnmjmhhkbcnccaaDoorQFnSkyWordsx2
import Derived.Test.YtnmjmhhkbcnccaaDoorQFnSkyWordsx4
import Derived.Test.YtnmjmhhkbcnccaaDoorQFnSkyWordsx5
namespace Go.Proofs.YtnmjmhhkbcnccaaDoor.QFnSkyWords
open Go.RowKit Go.Proofs.YtnmjmhhkbcnccaaDoorW.PrintWords Go.Proofs.YtnmjmhhkbcnccaaDoorW.PrintLast Go.Proofs.YtnmjmhhkbcnccaaDoorW.PrintMore Go.Proofs.YtnmjmhhkbcnccaaDoor.Z
attribute [local go_sem] max2_int min2_int max_two min_two max_three min_three max_four min_four zdn   -- for this text's walks alone
set_option linter.unusedVariables false
set_option linter.unusedSimpArgs false
mutual
def laws_FnSkyWords.j0 : Nat → ByteArray → List ByteArray → Bool → Option (Bool)
 | 0, _, _, _ => none
 | k + 1, x3, x4, x35 => if x35 = true then (some false) else (laws_FnSkyWords.l0 k x3 x4 (⟨#[]⟩ : ByteArray) 0)
def laws_FnSkyWords.l0 : Nat → ByteArray → List ByteArray → ByteArray → Int → Option (Bool)
 | 0, _, _, _, _ => none
 | k + 1, x3, x4, x8, x9 => if x9 < (x4.length : Int) then (if x8.size + 1 ≤ 9223372036854775807 then (if 0 ≤ x9 then (if (x8 ++ (⟨#[32]⟩ : ByteArray)).size + (rdOf ByteArray.empty x4 x9).size ≤ 9223372036854775807 then (laws_FnSkyWords.l0 k x3 x4 ((x8 ++ (⟨#[32]⟩ : ByteArray)) ++ (rdOf ByteArray.empty x4 x9)) (wrap64 (x9 + 1))) else (none)) else (none)) else (none)) else (if x8.size + 3 ≤ 9223372036854775807 then (if (x8 ++ (⟨#[32, 35, 32]⟩ : ByteArray)).size + x3.size ≤ 9223372036854775807 then ((impl_SkyWords.f k ((x8 ++ (⟨#[32, 35, 32]⟩ : ByteArray)) ++ x3)).bind fun bt202 => (if bt202.2 = true then ((laws_wmTexts.f k bt202.1 x4).bind fun t206 => (some t206)) else (some false))) else (none)) else (none))
end
def laws_FnSkyWords.f (k : Nat) (l0 : List Int) : Option (Bool) := if (l0.length : Int) > 1048576 then (some true) else ((spec_DrawSkyWords.f k l0).bind fun t191 => ((impl_SkyWords.f k t191).bind fun bt192 => ((spec_SkyWords.f k t191).bind fun bt196 => (if (bt192.2 != bt196.2) = true then (laws_FnSkyWords.j0 k t191 bt192.1 true) else ((laws_wmTexts.f k bt192.1 bt196.1).bind fun t200 => (laws_FnSkyWords.j0 k t191 bt192.1 (!t200)))))))
set_option maxHeartbeats 8000000 in
set_option maxRecDepth 100000 in
theorem laws_FnSkyWords.calls (k : Nat) (A0 : Option Addr) (c0 : Nat) (l0 : List Int) (r : Bool) (w : World) (hr0 : Kd.C (Kd.int .u8) w A0 l0.length l0) (hc0 : l0.length ≤ c0) (h : laws_FnSkyWords.f k l0 = some r) (gm : Int) (hgm : w.cell? ⟨0, 0, none⟩ = some (.int .i64 gm)) :
 Calls Tryd.prog 3 #[.slice A0 l0.length c0] w fun e w' => e = .returned (.bool r) ∧ Below w.heap.size w w' := by
 have HR0 := Aside0.mk hr0
 have HC0 := Aside0.mk hc0
 clear hr0 hc0
 have HGM := Aside0.mk hgm
 clear hgm
 have HB := Aside0.mk (Below.refl w.heap.size w)
 have H : (if (l0.length : Int) > 1048576 then (some true) else ((spec_DrawSkyWords.f k l0).bind fun t191 => ((impl_SkyWords.f k t191).bind fun bt192 => ((spec_SkyWords.f k t191).bind fun bt196 => (if (bt192.2 != bt196.2) = true then (laws_FnSkyWords.j0 k t191 bt192.1 true) else ((laws_wmTexts.f k bt192.1 bt196.1).bind fun t200 => (laws_FnSkyWords.j0 k t191 bt192.1 (!t200)))))))) = some r := h
 clear h
 by_cases c2 : (l0.length : Int) > 1048576
 ·rw [if_pos c2] at H
  have c2b0 : decide (1048576 < (l0.length : Int)) = true := decide_eq_true c2
  have c2b1 : decide (1048576 < l0.length) = true := decide_eq_true (by omega)
  clear c2
  obtain rfl := Option.some.inj H
  go_enter Tryd.func3, Tryd.ntmps3
  go_wp2
  go_ret
  exact ⟨ze, zs0 HB⟩
 rw [if_neg c2] at H
 have c2b0 : decide (1048576 < (l0.length : Int)) = false := decide_eq_false c2
 have c2b1 : decide (1048576 < l0.length) = false := decide_eq_false (by omega)
 clear c2
 replace H := zbd H; obtain ⟨t191, A3, H⟩ := H
 replace H := Option.bind_eq_some_iff.mp H
 obtain ⟨⟨t192, t193⟩, A40, H⟩ := H
 replace H : ((spec_SkyWords.f k t191).bind fun bt196 => (if (t193 != bt196.2) = true then (laws_FnSkyWords.j0 k t191 t192 true) else ((laws_wmTexts.f k t192 bt196.1).bind fun t200 => (laws_FnSkyWords.j0 k t191 t192 (!t200))))) = some r := H
 have A4 := Aside0.mk A40
 clear A40
 replace H := Option.bind_eq_some_iff.mp H
 obtain ⟨⟨t196, t197⟩, A50, H⟩ := H
 replace H : (if (t193 != t197) = true then (laws_FnSkyWords.j0 k t191 t192 true) else ((laws_wmTexts.f k t192 t196).bind fun t200 => (laws_FnSkyWords.j0 k t191 t192 (!t200)))) = some r := H
 have A5 := Aside0.mk A50
 clear A50
 have HC6 := Aside0.mk H
 clear H
 go_enter Tryd.func3, Tryd.ntmps3
 go_upto_region 6 with (first | ((with_reducible refine gate_callee (f := 4) rfl ?_); refine goesL_ (some 16) rfl rfl Tryd.func4 (by kernel_rfl) rfl #[.slice A0 l0.length c0] rfl zl ?_; (with_reducible refine (spec_DrawSkyWords.calls k _ _ l0 t191 _ ?side1 ?side2 A3.out).mono ?_); (case side1 => repeat (first | exact HR0.out | (with_reducible refine Kd.C_alloc ?_ _) | (with_reducible refine Kd.C_drewN ?_ _) | (with_reducible refine Kd.C_drew ?_))); (case side2 => exact HC0.out); rintro e w7 ⟨rfl, hb⟩; refine ⟨_, rfl, ?_⟩; replace HB := zE (zs0 HB) hb; (try clear hb); (try clear hb2); (try clear hk); (try clear hi)) | ((with_reducible refine gate_callee (f := 5) rfl ?_); refine goesL_ (some 19) rfl rfl Tryd.func5 (by kernel_rfl) rfl #[.string t191] rfl zl ?_; (with_reducible refine (impl_SkyWords.calls k t191 t192 t193 _ A4.out _ (zhc (zs0 HB) HGM.out)).mono ?_); rintro e w8 ⟨v194, rfl, ho0, hb⟩; refine ⟨_, rfl, ?_⟩; have HO195 := Aside0.mk (Kd.R_lower ho0 (below_size (zs0 HB))); replace HB := zE (zs0 HB) hb; (try clear hb); (try clear hb2); (try clear hk); (try clear hi); (try clear ho0)) | ((with_reducible refine gate_callee (f := 6) rfl ?_); refine goesL_ (some 24) rfl rfl Tryd.func6 (by kernel_rfl) rfl #[.string t191] rfl zl ?_; (with_reducible refine (spec_SkyWords.calls k t191 t196 t197 _ A5.out).mono ?_); rintro e w9 ⟨v198, rfl, ho0, hb⟩; refine ⟨_, rfl, ?_⟩; have HO199 := Aside0.mk (Kd.R_lower (Kd.R_new' ho0 (Kd.R_lt (zr HO195))) (below_size (zs0 HB))); replace HO195 := Aside0.mk (Kd.R_elder' (zr HO195) (Kd.R_base ho0) hb); replace HB := zE (zs0 HB) hb; (try clear hb); (try clear hb2); (try clear hk); (try clear hi); (try clear ho0)))
 (try simp only [Act.put, List.setIfInBounds_toArray, List.set_cons_zero, List.set_cons_succ])
 go_cut [35] (fun v35 wc => ∃ (kq : Nat) (x35_5 : Bool), v35 = .bool x35_5 ∧ Aside0 (laws_FnSkyWords.j0 kq t191 t192 x35_5 = some r) ∧ Aside0 (kq ≤ k) ∧ Aside0 (Kd.R Kd.string 9 wc w.heap.size (fun _ => True) v194 t192) ∧ Aside0 (Below w.heap.size w wc))
 case first =>
  have H := HC6.out
  clear HC6
  by_cases c10 : (t193 != t197) = true
  ·rw [if_pos c10] at H
   have c10b0 : (t193 != t197) = true := c10
   (try (have c10b1 : decide (t193 = t197) = false := by simpa using c10))
   (try (have c10b2 : (t193 == t197) = false := by simpa using c10))
   (try (have c10b3 : ¬ (t193 = t197) := by simpa using c10))
   clear c10
   (first | rw [c10b0] | (simp only [i64_w, i32_w]; rw [c10b0]) | skip)
   have H' := Aside0.mk H
   clear H
   go_wp2
   go_meet
   case rel => exact ⟨_, (true), zi, H', ⟨by first | omega | exact Nat.le_refl _⟩, ⟨by (with_reducible repeat (first | apply Kd.R_alloc | apply Kd.R_drewN | apply Kd.R_drew)); exact Kd.R_mono HO195.out (fun _ hk => trivial)⟩, ⟨zs0 HB⟩⟩
  rw [if_neg c10] at H
  have c10b0 : (t193 != t197) = false := by simpa using c10
  (try (have c10b1 : decide (t193 = t197) = true := by simpa using c10))
  (try (have c10b2 : (t193 == t197) = true := by simpa using c10))
  clear c10
  (first | rw [c10b0] | (simp only [i64_w, i32_w]; rw [c10b0]) | skip)
  replace H := zbd H; obtain ⟨t200, A11, H⟩ := H
  have H' := Aside0.mk H
  clear H
  obtain ⟨Ao12, co12, eo12⟩ := Kd.R_slice HO195.out
  subst eo12
  obtain ⟨Ao13, co13, eo13⟩ := Kd.R_slice HO199.out
  subst eo13
  go_wp2_with (first | (go_at_call 7; (with_reducible refine (laws_wmTexts.calls k _ _ t192 _ _ t196 t200 _ ?side1 ?side2 ?side3 ?side4 A11.out).mono ?_); (case side1 => repeat (first | exact (Kd.R_reads' HO195.out).2.2 | (with_reducible refine Kd.C_alloc ?_ _) | (with_reducible refine Kd.C_drewN ?_ _) | (with_reducible refine Kd.C_drew ?_))); (case side2 => exact (Kd.R_reads' HO195.out).2.1); (case side3 => repeat (first | exact (Kd.R_reads' HO199.out).2.2 | (with_reducible refine Kd.C_alloc ?_ _) | (with_reducible refine Kd.C_drewN ?_ _) | (with_reducible refine Kd.C_drew ?_))); (case side4 => exact (Kd.R_reads' HO199.out).2.1); rintro e w' ⟨rfl, ⟨nd, rfl⟩⟩))
  go_meet
  case rel => exact ⟨_, (!t200), zi, H', ⟨by first | omega | exact Nat.le_refl _⟩, ⟨by (with_reducible repeat (first | apply Kd.R_alloc | apply Kd.R_drewN | apply Kd.R_drew)); exact Kd.R_mono HO195.out (fun _ hk => trivial)⟩, ⟨zs0 HB⟩⟩
 case rest =>
  clear HC6
  try clear c1
  try clear c2
  try clear c2b0
  try clear c2b1
  try clear p2
  try clear c3
  try clear c4
  try clear c5
  try clear c6
  try clear c10
  try clear c10b0
  try clear c10b1
  try clear c10b2
  obtain ⟨kq, x35_5, rfl, HA, HJ5, HO_4, HB⟩ := hcut
  cases kq with
  | zero => exact absurd HA.out (by simp [laws_FnSkyWords.j0])
  | succ kj5 =>
   have H := HA.out
   clear HA
   simp only [laws_FnSkyWords.j0] at H
   by_cases c14 : x35_5 = true
   ·subst c14
    have H1 : (some false) = some r := by rw [if_pos rfl] at H; exact H
    clear H
    have H := H1
    clear H1
    obtain rfl := Option.some.inj H
    go_wp2
    go_ret
    exact ⟨ze, zs0 HB⟩
   replace c14 := Bool.eq_false_iff.mpr c14
   subst c14
   have H1 : (laws_FnSkyWords.l0 kj5 t191 t192 (⟨#[]⟩ : ByteArray) 0) = some r := by rw [if_neg (show ¬ (false = true) by decide)] at H; exact H
   clear H
   have H := H1
   clear H1
   have H' := Aside0.mk H
   clear H
   go_wp2
   go_loopg [8, 9] kj5 (fun kq v8 v9 w' => ∃ (x8_2 : ByteArray) (x9_2 : Int), v8 = .string x8_2 ∧ v9 = .int .i64 x9_2 ∧ Aside0 (laws_FnSkyWords.l0 kq t191 t192 x8_2 x9_2 = some r) ∧ Aside0 (kq ≤ kj5) ∧ Aside0 (Kd.R Kd.string 9 w' w.heap.size (fun _ => True) v194 t192) ∧ Aside0 (Below w.heap.size w w'))
   case atStart => exact ⟨((⟨#[]⟩ : ByteArray)), (0), zi, zi, H', ⟨Nat.le_refl _⟩, ⟨zr HO_4⟩, ⟨zs0 HB⟩⟩
   case round =>
    clear H'
    try clear c1
    try clear c2
    try clear c2b0
    try clear c2b1
    try clear p2
    try clear c3
    try clear c4
    try clear c5
    try clear c6
    try clear c10
    try clear c10b0
    try clear c10b1
    try clear c10b2
    try clear c14
    try clear p2
    obtain ⟨x8_2, x9_2, rfl, rfl, HA, HK2, HO_4, HB⟩ := hrel
    cases gk with
    | zero => exact absurd HA.out (by simp [laws_FnSkyWords.l0])
    | succ k2 =>
     have H := HA.out
     clear HA
     simp only [laws_FnSkyWords.l0] at H
     by_cases c15 : x9_2 < (t192.length : Int)
     ·rw [if_pos c15] at H
      have c15b0 : decide (x9_2 < (t192.length : Int)) = true := decide_eq_true c15
      clear c15
      by_cases c16 : x8_2.size + 1 ≤ 9223372036854775807
      rotate_left
      ·rw [if_neg c16] at H
       exact absurd H (by simp)
      rw [if_pos c16] at H
      have c16b0 := eq_true c16
      have c16b1 : decide (x8_2.size + 1 ≤ 9223372036854775807) = true := decide_eq_true c16
      try have c16b2 : (9223372036854775807 < x8_2.size + 1) = False := eq_false (Nat.not_lt.2 c16)
      by_cases c17 : 0 ≤ x9_2
      rotate_left
      ·rw [if_neg c17] at H
       exact absurd H (by simp)
      rw [if_pos c17] at H
      have c17b0 : decide (0 ≤ x9_2) = true := decide_eq_true c17
      clear c17
      by_cases c18 : (x8_2 ++ (⟨#[32]⟩ : ByteArray)).size + (rdOf ByteArray.empty t192 x9_2).size ≤ 9223372036854775807
      rotate_left
      ·rw [if_neg c18] at H
       exact absurd H (by simp)
      rw [if_pos c18] at H
      have c18b0 := eq_true c18
      have c18b1 : decide ((x8_2 ++ (⟨#[32]⟩ : ByteArray)).size + (rdOf ByteArray.empty t192 x9_2).size ≤ 9223372036854775807) = true := decide_eq_true c18
      try have c18b2 : (9223372036854775807 < (x8_2 ++ (⟨#[32]⟩ : ByteArray)).size + (rdOf ByteArray.empty t192 x9_2).size) = False := eq_false (Nat.not_lt.2 c18)
      try have c18b3 : (9223372036854775807 < x8_2.size + 1 + (rdOf ByteArray.empty t192 x9_2).size) = False := eq_false (Nat.not_lt.2 (by have h_ := c18; rw [ByteArray.size_append] at h_; exact h_))
      have H' := Aside0.mk H
      clear H
      obtain ⟨Ao19, co19, eo19⟩ := Kd.R_slice HO_4.out
      subst eo19
      have p201 : 0 ≤ (x9_2 : Int) := za
      have q201 : x9_2 < (t192.length : Int) := za
      obtain ⟨ad201, e201, hx201_0⟩ := Kd.at_string (Kd.R_reads' HO_4.out).2.2 x9_2 p201 q201
      cases e201
      replace p201 := eq_true p201
      replace q201 := eq_true q201
      go_wp2
      go_roundg k2
      case measure => have := HJ5.out; have := HK2.out; omega
      case rel => exact ⟨((x8_2 ++ (⟨#[32]⟩ : ByteArray)) ++ (rdOf ByteArray.empty t192 x9_2)), (wrap64 (x9_2 + 1)), zi, zi, H', ⟨by have := HJ5.out; have := HK2.out; omega⟩, ⟨zr HO_4⟩, ⟨zs0 HB⟩⟩
     rw [if_neg c15] at H
     have c15b0 : decide (x9_2 < (t192.length : Int)) = false := decide_eq_false c15
     clear c15
     by_cases c20 : x8_2.size + 3 ≤ 9223372036854775807
     rotate_left
     ·rw [if_neg c20] at H
      exact absurd H (by simp)
     rw [if_pos c20] at H
     have c20b0 := eq_true c20
     have c20b1 : decide (x8_2.size + 3 ≤ 9223372036854775807) = true := decide_eq_true c20
     try have c20b2 : (9223372036854775807 < x8_2.size + 3) = False := eq_false (Nat.not_lt.2 c20)
     by_cases c21 : (x8_2 ++ (⟨#[32, 35, 32]⟩ : ByteArray)).size + t191.size ≤ 9223372036854775807
     rotate_left
     ·rw [if_neg c21] at H
      exact absurd H (by simp)
     rw [if_pos c21] at H
     have c21b0 := eq_true c21
     have c21b1 : decide ((x8_2 ++ (⟨#[32, 35, 32]⟩ : ByteArray)).size + t191.size ≤ 9223372036854775807) = true := decide_eq_true c21
     try have c21b2 : (9223372036854775807 < (x8_2 ++ (⟨#[32, 35, 32]⟩ : ByteArray)).size + t191.size) = False := eq_false (Nat.not_lt.2 c21)
     try have c21b3 : (9223372036854775807 < x8_2.size + 3 + t191.size) = False := eq_false (Nat.not_lt.2 (by have h_ := c21; rw [ByteArray.size_append] at h_; exact h_))
     replace H := Option.bind_eq_some_iff.mp H
     obtain ⟨⟨t202, t203⟩, A220, H⟩ := H
     replace H : (if t203 = true then ((laws_wmTexts.f k2 t202 t192).bind fun t206 => (some t206)) else (some false)) = some r := H
     have A22 := Aside0.mk A220
     clear A220
     by_cases c23 : t203 = true
     rotate_left
     ·replace c23 := Bool.eq_false_iff.mpr c23
      subst c23
      have H1 : (some false) = some r := by rw [if_neg (show ¬ (false = true) by decide)] at H; exact H
      clear H
      have H := H1
      clear H1
      obtain rfl := Option.some.inj H
      obtain ⟨Ao28, co28, eo28⟩ := Kd.R_slice HO_4.out
      subst eo28
      go_wp2_with (first | ((with_reducible refine gate_callee (f := 5) rfl ?_); refine goesL_ (some 54) rfl rfl Tryd.func5 (by kernel_rfl) rfl #[.string ((x8_2 ++ (⟨#[32, 35, 32]⟩ : ByteArray)) ++ t191)] rfl zl ?_; (with_reducible refine (impl_SkyWords.calls k2 ((x8_2 ++ (⟨#[32, 35, 32]⟩ : ByteArray)) ++ t191) t202 false _ A22.out _ (zhc (zs0 HB) HGM.out)).mono ?_); rintro e w29 ⟨v204, rfl, ho0, hb⟩; refine ⟨_, rfl, ?_⟩; have HO205 := Aside0.mk (Kd.R_lower (Kd.R_new' ho0 (Kd.R_lt (zr HO_4))) (below_size (zs0 HB))); replace HO_4 := Aside0.mk (Kd.R_elder' (zr HO_4) (Kd.R_base ho0) hb); replace HB := zE (zs0 HB) hb; (try clear hb); (try clear hb2); (try clear hk); (try clear hi); (try clear ho0)))
      go_ret
      exact ⟨ze, zs0 HB⟩
     subst c23
     have H1 : ((laws_wmTexts.f k2 t202 t192).bind fun t206 => (some t206)) = some r := by rw [if_pos rfl] at H; exact H
     clear H
     have H := H1
     clear H1
     replace H := zbd H; obtain ⟨t206, A24, H⟩ := H
     obtain rfl := Option.some.inj H
     obtain ⟨Ao25, co25, eo25⟩ := Kd.R_slice HO_4.out
     subst eo25
     go_wp2_with (first | ((with_reducible refine gate_callee (f := 5) rfl ?_); refine goesL_ (some 54) rfl rfl Tryd.func5 (by kernel_rfl) rfl #[.string ((x8_2 ++ (⟨#[32, 35, 32]⟩ : ByteArray)) ++ t191)] rfl zl ?_; (with_reducible refine (impl_SkyWords.calls k2 ((x8_2 ++ (⟨#[32, 35, 32]⟩ : ByteArray)) ++ t191) t202 true _ A22.out _ (zhc (zs0 HB) HGM.out)).mono ?_); rintro e w26 ⟨v204, rfl, ho0, hb⟩; refine ⟨_, rfl, ?_⟩; have HO205 := Aside0.mk (Kd.R_lower (Kd.R_new' ho0 (Kd.R_lt (zr HO_4))) (below_size (zs0 HB))); replace HO_4 := Aside0.mk (Kd.R_elder' (zr HO_4) (Kd.R_base ho0) hb); replace HB := zE (zs0 HB) hb; (try clear hb); (try clear hb2); (try clear hk); (try clear hi); (try clear ho0); obtain ⟨Ao27, co27, eo27⟩ := Kd.R_slice HO205.out; subst eo27) | (go_at_call 7; (with_reducible refine (laws_wmTexts.calls k2 _ _ t202 _ _ t192 t206 _ ?side1 ?side2 ?side3 ?side4 A24.out).mono ?_); (case side1 => repeat (first | exact (Kd.R_reads' HO205.out).2.2 | (with_reducible refine Kd.C_alloc ?_ _) | (with_reducible refine Kd.C_drewN ?_ _) | (with_reducible refine Kd.C_drew ?_))); (case side2 => exact (Kd.R_reads' HO205.out).2.1); (case side3 => repeat (first | exact (Kd.R_reads' HO_4.out).2.2 | (with_reducible refine Kd.C_alloc ?_ _) | (with_reducible refine Kd.C_drewN ?_ _) | (with_reducible refine Kd.C_drew ?_))); (case side4 => exact (Kd.R_reads' HO_4.out).2.1); rintro e w' ⟨rfl, ⟨nd, rfl⟩⟩))
     go_ret
     exact ⟨ze, zs0 HB⟩
/-- THE ONE PURE STATEMENT of laws_FnSkyWords: yours. -/
def laws_FnSkyWords.Pure : Prop := ∀ (l0 : List Int), l0.length ≤ maxLen → l0.length * 1 ≤ 140737488351232 → (∀ x ∈ l0, (Lit.int .u8 x).wf = true) → ∃ k, laws_FnSkyWords.f k l0 = some true
theorem laws_FnSkyWords.walk (P : laws_FnSkyWords.Pure) (a0 : Option Addr) (len0 cap0 : Nat) (z0 : List Int) (w : World) (w0 : (a0 = none ∧ len0 = 0 ∧ cap0 = 0 ∧ z0 = []) ∨ ∃ x, a0 = some x ∧ len0 ≤ cap0 ∧ cap0 ≤ maxLen ∧ z0.length = cap0 ∧ (∀ i, i < z0.length → w.cell? (x.add i) = some (.int .u8 (z0.getD i 0))) ∧ ∀ n ∈ z0, (Lit.int .u8 n).wf = true) (y0 : len0 * 1 ≤ 140737488351232) (gm : Int) (hgm : w.cell? ⟨0, 0, none⟩ = some (.int .i64 gm)) :
 Calls Tryd.prog 3 #[.slice a0 len0 cap0] w fun e w' => e = .returned (.bool true) ∧ Below w.heap.size w w' := by
 obtain ⟨l0, rfl, hr0, hm0, hw0, hc0⟩ := ReadsInt.ofRowC w0
 obtain ⟨k, h⟩ := P l0 hm0 y0 hw0
 refine (laws_FnSkyWords.calls k _ _ l0 true w (Kd.C_of_reads (d := (0 : Int)) (h1 := fun _ => rfl) hr0) hc0 h gm hgm).mono ?_
 rintro e w' ⟨rfl, hd⟩
 exact ⟨rfl, hd⟩
end Go.Proofs.YtnmjmhhkbcnccaaDoor.QFnSkyWords
