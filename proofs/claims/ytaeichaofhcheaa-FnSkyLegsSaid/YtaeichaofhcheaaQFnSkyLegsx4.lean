/- The walk of what the law FnSkyLegs reaches: laid by a program of this session (ownprint.py). -/
import Derived.Test.YtaeichaofhcheaaQFnSkyLegsx0
import Derived.Test.YtaeichaofhcheaaQFnSkyLegsx2
import Derived.Test.YtaeichaofhcheaaQFnSkyLegsx3
namespace Go.Proofs.Ytaeichaofhcheaa.QFnSkyLegs
open Go.RowKit Go.Proofs.YtaeichaofhcheaaW.PrintWords Go.Proofs.YtaeichaofhcheaaW.PrintLast Go.Proofs.YtaeichaofhcheaaW.PrintMore Go.Proofs.Ytaeichaofhcheaa.Z
attribute [local go_sem] max2_int min2_int max_two min_two max_three min_three max_four min_four zdn   -- for this text's walks alone
set_option linter.unusedVariables false
set_option linter.unusedSimpArgs false
mutual
def impl_leg.j0 : Nat → Int → Int → Int → Int → Bool → Option ((List (S39)))
 | 0, _, _, _, _, _ => none
 | k + 1, x0, x1, x2, x3, x9 => if x9 = true then (impl_leg.j1 k x2 x3 x0 x1 x9) else (impl_leg.j1 k x0 x1 x2 x3 x9)
def impl_leg.j1 : Nat → Int → Int → Int → Int → Bool → Option ((List (S39)))
 | 0, _, _, _, _, _ => none
 | k + 1, x0, x1, x2, x3, x9 => (impl_dist.f x0 x2).bind fun t134 => ((impl_dist.f x1 x3).bind fun t135 => (impl_leg.l0 k x0 x1 x2 x3 x9 (mx t134 t135) ([] : List (S39)) 0))
def impl_leg.l0 : Nat → Int → Int → Int → Int → Bool → Int → List (S39) → Int → Option ((List (S39)))
 | 0, _, _, _, _, _, _, _, _ => none
 | k + 1, x0, x1, x2, x3, x9, x10, x11, x12 => if x12 ≤ x10 then (if x10 = 0 then (if x11.length < 8796093022208 then ((some (x11 ++ [(⟨x0, x1⟩ : S39)] : List (S39))).bind fun y137 => (if x9 = true then ((slices_Reverse_2_int_2_int.f k y137).bind fun t140 => (some t140)) else (some y137))) else (none)) else ((impl_floorDiv.f (wrap64 ((wrap64 ((wrap64 (2 * x12)) * (wrap64 (x2 - x0)))) + x10)) (wrap64 (2 * x10))).bind fun t141 => ((impl_floorDiv.f (wrap64 ((wrap64 ((wrap64 (2 * x12)) * (wrap64 (x3 - x1)))) + x10)) (wrap64 (2 * x10))).bind fun t142 => (if x11.length < 8796093022208 then (impl_leg.l0 k x0 x1 x2 x3 x9 x10 (x11 ++ [(⟨wrap64 (x0 + t141), wrap64 (x1 + t142)⟩ : S39)]) (wrap64 (x12 + 1))) else (none))))) else (if x9 = true then ((slices_Reverse_2_int_2_int.f k x11).bind fun t136 => (some t136)) else (some x11))
end
def impl_leg.f (k : Nat) (a0 : Int) (a1 : Int) (a2 : Int) (a3 : Int) : Option ((List (S39))) := if a0 > a2 then (impl_leg.j0 k a0 a1 a2 a3 true) else (if a0 = a2 then (impl_leg.j0 k a0 a1 a2 a3 (decide (a1 > a3))) else (impl_leg.j0 k a0 a1 a2 a3 false))
set_option maxHeartbeats 8000000 in
set_option maxRecDepth 100000 in
theorem impl_leg.calls (k : Nat) (a0 : Int) (a1 : Int) (a2 : Int) (a3 : Int) (r : List (S39)) (w : World) (h : impl_leg.f k a0 a1 a2 a3 = some r) :
 Calls Try.prog 13 #[.int .i64 a0, .int .i64 a1, .int .i64 a2, .int .i64 a3] w fun e w' => ∃ v0_ : Value, e = .returned (v0_) ∧ Kd.R k39 39 w' w.heap.size (fun _ => True) v0_ r ∧ Below w.heap.size w w' := by
 have hu39 := Try.underlying39
 have HB := zA (Below.refl w.heap.size w)
 have H : (if a0 > a2 then (impl_leg.j0 k a0 a1 a2 a3 true) else (if a0 = a2 then (impl_leg.j0 k a0 a1 a2 a3 (decide (a1 > a3))) else (impl_leg.j0 k a0 a1 a2 a3 false))) = some r := h
 clear h
 have HC5 := zA H
 clear H
 go_enter Try.func13, Try.ntmps13
 go_upto_region 1 with (fail)
 go_cut [9] (fun v9 wc => ∃ (kq : Nat) (x9_4 : Bool), v9 = .bool x9_4 ∧ Aside0 (impl_leg.j0 kq a0 a1 a2 a3 x9_4 = some r) ∧ Aside0 (kq ≤ k) ∧ Aside0 (Below w.heap.size w wc))
 case first =>
  have H := HC5.out
  clear HC5
  by_cases c6 : a0 > a2
  ·rw [if_pos c6] at H
   have c6b0 : decide (a2 < a0) = true := decide_eq_true c6
   clear c6
   (first | rw [c6b0] | (simp only [i64_w, i32_w]; rw [c6b0]) | skip)
   have H' := zA H
   clear H
   go_wp2
   go_meet
   case rel => exact ⟨_, (true), zi, H', ⟨by first | omega | exact Nat.le_refl _⟩, ⟨zs0 HB⟩⟩
  rw [if_neg c6] at H
  have c6b0 : decide (a2 < a0) = false := decide_eq_false c6
  clear c6
  (first | rw [c6b0] | (simp only [i64_w, i32_w]; rw [c6b0]) | skip)
  by_cases c7 : a0 = a2
  rotate_left
  ·rw [if_neg c7] at H
   have c7b0 : (a0 == a2) = false := beq_eq_false_iff_ne.mpr c7
   have c7b1 : (a0 != a2) = true := bne_iff_ne.mpr c7
   have H' := zA H
   clear H
   go_wp2
   go_meet
   case rel => exact ⟨_, (false), zi, H', ⟨by first | omega | exact Nat.le_refl _⟩, ⟨zs0 HB⟩⟩
  rw [if_pos c7] at H
  have c7b0 : (a0 == a2) = true := beq_iff_eq.mpr c7
  have c7b1 : (a0 != a2) = false := bne_eq_false_iff_eq.mpr c7
  clear c7
  have H' := zA H
  clear H
  go_wp2
  go_meet
  case rel => exact ⟨_, (decide (a1 > a3)), zi, H', ⟨by first | omega | exact Nat.le_refl _⟩, ⟨zs0 HB⟩⟩
 case rest =>
  clear HC5
  try clear c1
  try clear p2
  try clear c6
  try clear c6b0
  try clear c7
  try clear c7b0
  try clear c7b1
  obtain ⟨kq, x9_4, rfl, HA, HJ4, HB⟩ := hcut
  cases kq with
  | zero => exact absurd HA.out (by simp [impl_leg.j0])
  | succ kj4 =>
   have H := HA.out
   clear HA
   simp only [impl_leg.j0] at H
   have HC8 := zA H
   clear H
   go_upto_if 26 with (fail)
   go_cut [0, 1, 2, 3] (fun v0 v1 v2 v3 wc => ∃ (kq : Nat) (x0_7 : Int) (x1_7 : Int) (x2_7 : Int) (x3_7 : Int), v0 = .int .i64 x0_7 ∧ v1 = .int .i64 x1_7 ∧ v2 = .int .i64 x2_7 ∧ v3 = .int .i64 x3_7 ∧ Aside0 (impl_leg.j1 kq x0_7 x1_7 x2_7 x3_7 x9_4 = some r) ∧ Aside0 (kq ≤ kj4) ∧ Aside0 (Below w.heap.size w wc))
   case first =>
    have H := HC8.out
    clear HC8
    by_cases c9 : x9_4 = true
    ·subst c9
     have H1 : (impl_leg.j1 kj4 a2 a3 a0 a1 true) = some r := by rw [if_pos rfl] at H; exact H
     clear H
     have H := H1
     clear H1
     have H' := zA H
     clear H
     go_wp2
     go_meet
     case rel => exact ⟨_, (a2), (a3), (a0), (a1), zi, zi, zi, zi, H', ⟨by have := HJ4.out; first | omega | exact Nat.le_refl _⟩, ⟨zs0 HB⟩⟩
    replace c9 := Bool.eq_false_iff.mpr c9
    subst c9
    have H1 : (impl_leg.j1 kj4 a0 a1 a2 a3 false) = some r := by rw [if_neg (show ¬ (false = true) by decide)] at H; exact H
    clear H
    have H := H1
    clear H1
    have H' := zA H
    clear H
    go_wp2
    go_meet
    case rel => exact ⟨_, (a0), (a1), (a2), (a3), zi, zi, zi, zi, H', ⟨by have := HJ4.out; first | omega | exact Nat.le_refl _⟩, ⟨zs0 HB⟩⟩
   case rest =>
    clear HC8
    try clear c1
    try clear p2
    try clear c6
    try clear c6b0
    try clear c7
    try clear c7b0
    try clear c7b1
    try clear c9
    try clear p2
    obtain ⟨kq, x0_7, x1_7, x2_7, x3_7, rfl, rfl, rfl, rfl, HA, HJ7, HB⟩ := hcut
    cases kq with
    | zero => exact absurd HA.out (by simp [impl_leg.j1])
    | succ kj7 =>
     have H := HA.out
     clear HA
     simp only [impl_leg.j1] at H
     replace H := zbd H; obtain ⟨t134, A10, H⟩ := H
     replace H := Option.bind_eq_some_iff.mp H
     obtain ⟨t135, A110, H⟩ := H
     replace H : (impl_leg.l0 kj7 x0_7 x1_7 x2_7 x3_7 x9_4 (mx t134 t135) ([] : List (S39)) 0) = some r := H
     have A11 := zA A110
     clear A110
     obtain ⟨ji12, hji12⟩ : ∃ j_ : Int, (mx t134 t135) = j_ := ⟨_, rfl⟩
     first | rw [hji12] at H | simp only [hji12] at H
     (try rw [hji12] at A10)
     (try rw [hji12] at A11)
     have hji12_ : (if t134 < t135 then t135 else t134) = ji12 := hji12
     have H' := zA H
     clear H
     go_wp2_with (first | ((with_reducible refine gate_callee (f := 17) rfl ?_); refine zgl (N := some 33) Try.func17 #[.int .i64 x0_7, .int .i64 x2_7] ?_; (with_reducible refine (impl_dist.calls x0_7 x2_7 t134 _ A10.out).mono ?_); rintro e w' ⟨rfl, ⟨nd, rfl⟩⟩; refine ⟨_, rfl, ?_⟩) | ((with_reducible refine gate_callee (f := 17) rfl ?_); refine zgl (N := some 36) Try.func17 #[.int .i64 x1_7, .int .i64 x3_7] ?_; (with_reducible refine (impl_dist.calls x1_7 x3_7 t135 _ A11.out).mono ?_); rintro e w' ⟨rfl, ⟨nd, rfl⟩⟩; refine ⟨_, rfl, ?_⟩))
     go_loopg [11, 12] kj7 (fun kq v11 v12 w' => ∃ (x11_3 : List (S39)) (x12_3 : Int), v12 = .int .i64 x12_3 ∧ Aside0 (impl_leg.l0 kq x0_7 x1_7 x2_7 x3_7 x9_4 ji12 x11_3 x12_3 = some r) ∧ Aside0 (kq ≤ kj7) ∧ Aside0 (Kd.R k39 39 w' w.heap.size (fun _ => True) v11 x11_3) ∧ Aside0 (Below w.heap.size w w'))
     case atStart => exact ⟨(([] : List (S39))), (0), zi, H', ⟨Nat.le_refl _⟩, ⟨by first | exact Kd.R_nil _ _ _ _ _ | exact Kd.N_nil _ _ _ _ _ | exact Kd.V_nil _ _ _ _ _ | exact Kd.Q_nil _ _ _ _ _ | exact Kd.S_nil _ _ _ _ _⟩, ⟨zs0 HB⟩⟩
     case round =>
      clear H'
      try clear c1
      try clear p2
      try clear c6
      try clear c6b0
      try clear c7
      try clear c7b0
      try clear c7b1
      try clear c9
      try clear p2
      obtain ⟨x11_3, x12_3, rfl, HA, HK3, HO_11, HB⟩ := hrel
      cases gk with
      | zero => exact absurd HA.out (by simp [impl_leg.l0])
      | succ k3 =>
       have H := HA.out
       clear HA
       simp only [impl_leg.l0] at H
       by_cases c13 : x12_3 ≤ ji12
       rotate_left
       ·rw [if_neg c13] at H
        have c13b0 : decide (x12_3 ≤ ji12) = false := decide_eq_false c13
        clear c13
        by_cases c26 : x9_4 = true
        rotate_left
        ·replace c26 := Bool.eq_false_iff.mpr c26
         subst c26
         have H1 : (some x11_3) = some r := by rw [if_neg (show ¬ (false = true) by decide)] at H; exact H
         clear H
         have H := H1
         clear H1
         obtain rfl := Option.some.inj H
         go_wp2
         go_ret
         exact ⟨_, by first | rfl | (simp [errW_none, errW_some] <;> rfl) | (simp only [← hji12]; first | rfl | (simp [errW_none, errW_some] <;> rfl)) | (simp [*, errW_none, errW_some] <;> rfl), zr HO_11, zs0 HB⟩
        subst c26
        have H1 : ((slices_Reverse_2_int_2_int.f k3 x11_3).bind fun t136 => (some t136)) = some r := by rw [if_pos rfl] at H; exact H
        clear H
        have H := H1
        clear H1
        replace H := zbd H; obtain ⟨t136, A27, H⟩ := H
        obtain rfl := Option.some.inj H
        obtain ⟨Ao28, co28, eo28⟩ := Kd.R_slice HO_11.out
        subst eo28
        go_wp2_with (first | ((with_reducible refine gate_callee (f := 19) rfl ?_); refine zgl (N := some 83) Try.func19 #[.slice Ao28 x11_3.length co28] ?_; (with_reducible refine (slices_Reverse_2_int_2_int.calls k3 (fun k_ => some k_ = (.slice Ao28 x11_3.length co28 : Value).ownBlock) (.slice Ao28 x11_3.length co28) x11_3 t136 w _ ?side1 ?side2 A27.out).mono ?_); (case side1 => repeat (first | (with_reducible first | exact HB.out | apply below_alloc | apply pw_below_drewN | apply below_drew1) | exact HB.out)); (case side2 => exact Kd.R_tight rfl HO_11.out); rintro e w29 ⟨rfl, hy0, hb, hkp⟩; refine ⟨_, rfl, ?_⟩; replace HO_11 := zA (Kd.R_reok rfl hy0 (fun k_ e_ => HO_11.out.1 k_ e_)); replace HB := zA (hb); (try clear hb); (try clear hkp); (try clear hy0)))
        go_ret
        exact ⟨_, by first | rfl | (simp [errW_none, errW_some] <;> rfl) | (simp only [← hji12]; first | rfl | (simp [errW_none, errW_some] <;> rfl)) | (simp [*, errW_none, errW_some] <;> rfl), zr HO_11, zs0 HB⟩
       rw [if_pos c13] at H
       have c13b0 : decide (x12_3 ≤ ji12) = true := decide_eq_true c13
       clear c13
       by_cases c14 : ji12 = 0
       rotate_left
       ·rw [if_neg c14] at H
        have c14b0 : (ji12 == 0) = false := beq_eq_false_iff_ne.mpr c14
        have c14b1 : (ji12 != 0) = true := bne_iff_ne.mpr c14
        replace H := zbd H; obtain ⟨t141, A22, H⟩ := H
        replace H := Option.bind_eq_some_iff.mp H
        obtain ⟨t142, A230, H⟩ := H
        replace H : (if x11_3.length < 8796093022208 then (impl_leg.l0 k3 x0_7 x1_7 x2_7 x3_7 x9_4 ji12 (x11_3 ++ [(⟨wrap64 (x0_7 + t141), wrap64 (x1_7 + t142)⟩ : S39)]) (wrap64 (x12_3 + 1))) else (none)) = some r := H
        have A23 := zA A230
        clear A230
        by_cases c24 : x11_3.length < 8796093022208
        rotate_left
        ·rw [if_neg c24] at H
         exact absurd H (by simp)
        rw [if_pos c24] at H
        have LMc24 := zA c24
        clear c24
        obtain ⟨y143, hy143⟩ : ∃ y_ : List (S39), y_ = (x11_3 ++ [(⟨wrap64 (x0_7 + t141), wrap64 (x1_7 + t142)⟩ : S39)]) := ⟨_, rfl⟩
        replace H : (impl_leg.l0 k3 x0_7 x1_7 x2_7 x3_7 x9_4 ji12 y143 (wrap64 (x12_3 + 1))) = some r := by first | (rw [hy143]; with_reducible exact H) | (have H2_ := (Option.bind_some _ _).symm.trans H; rw [hy143]; with_reducible exact H2_) | (have H2_ := (Option.bind_some _ _).symm.trans H; with_reducible exact H2_) | with_reducible exact H | (rw [hy143]; exact H) | exact H
        have Ny143 := zA hy143
        clear hy143
        have H' := zA H
        clear H
        go_wp2_with (first | ((with_reducible refine gate_callee (f := 18) rfl ?_); refine goesL_ (some 63) rfl rfl Try.func18 (by kernel_rfl) rfl #[.int .i64 (wrap64 ((wrap64 ((wrap64 (2 * x12_3)) * (wrap64 (x2_7 - x0_7)))) + ji12)), .int .i64 (wrap64 (2 * ji12))] rfl (by (try simp only [List.map_toArray, List.map_cons, List.map_nil]); first | done | (simp only [hji12]; rfl) | rfl | (simp only [List.length_drop, List.length_take]; rfl)) ?_; (with_reducible refine (impl_floorDiv.calls (wrap64 ((wrap64 ((wrap64 (2 * x12_3)) * (wrap64 (x2_7 - x0_7)))) + ji12)) (wrap64 (2 * ji12)) t141 _ A22.out).mono ?_); rintro e w' ⟨rfl, ⟨nd, rfl⟩⟩; refine ⟨_, rfl, ?_⟩) | ((with_reducible refine gate_callee (f := 18) rfl ?_); refine goesL_ (some 76) rfl rfl Try.func18 (by kernel_rfl) rfl #[.int .i64 (wrap64 ((wrap64 ((wrap64 (2 * x12_3)) * (wrap64 (x3_7 - x1_7)))) + ji12)), .int .i64 (wrap64 (2 * ji12))] rfl (by (try simp only [List.map_toArray, List.map_cons, List.map_nil]); first | done | (simp only [hji12]; rfl) | rfl | (simp only [List.length_drop, List.length_take]; rfl)) ?_; (with_reducible refine (impl_floorDiv.calls (wrap64 ((wrap64 ((wrap64 (2 * x12_3)) * (wrap64 (x3_7 - x1_7)))) + ji12)) (wrap64 (2 * ji12)) t142 _ A23.out).mono ?_); rintro e w' ⟨rfl, ⟨nd, rfl⟩⟩; refine ⟨_, rfl, ?_⟩) | ((with_reducible refine gate_builtin (b := .append) (xs := #[.tmp 51, .tmp 79]) rfl ?_); at_builtin; refine Kd.R_append k39 (w0 := w) w.heap.size rfl (.tmp 51) (.tmp 79) 37 39 (.agg #[(.int .i64 0), (.int .i64 0)]) 16 rfl Try.underlying37 info39 rfl (by decide) (by omega) u11 x11_3 (⟨wrap64 (x0_7 + t141), wrap64 (x1_7 + t142)⟩ : S39) [.int .i64 (wrap64 (x0_7 + t141)), .int .i64 (wrap64 (x1_7 + t142))] (fun _ => True) (fun _ => False) rfl rfl ?aP (fun _ hk => hk.elim) ?aF ?aO ?aB ?aS ?aL ?_; (case aP => exact k39_mkM _ _ _ (⟨wrap64 (x0_7 + t141), wrap64 (x1_7 + t142)⟩ : S39)); (case aB => exact (zs0 HB)); (case aF => exact (fun _ _ => trivial)); (case aO => exact (zr HO_11)); (case aS => exact (below_size (zs0 HB))); (case aL => have := LMc24.out; omega); intro v144 w25 ho hb hg hat; rw [← Ny143.out] at ho; have HO145 := zA (ho); replace HB := zA (hb); clear HO_11; clear ho hb hg hat))
        go_roundg k3
        case measure => have := HJ4.out; have := HJ7.out; have := HK3.out; omega
        case rel => exact ⟨(y143), (wrap64 (x12_3 + 1)), zi, H', ⟨by have := HJ4.out; have := HJ7.out; have := HK3.out; omega⟩, ⟨zr HO145⟩, ⟨zs0 HB⟩⟩
       rw [if_pos c14] at H
       have c14b0 : (ji12 == 0) = true := beq_iff_eq.mpr c14
       have c14b1 : (ji12 != 0) = false := bne_eq_false_iff_eq.mpr c14
       clear c14
       by_cases c15 : x11_3.length < 8796093022208
       rotate_left
       ·rw [if_neg c15] at H
        exact absurd H (by simp)
       rw [if_pos c15] at H
       have LMc15 := zA c15
       clear c15
       obtain ⟨y137, hy137⟩ : ∃ y_ : List (S39), y_ = (x11_3 ++ [(⟨x0_7, x1_7⟩ : S39)]) := ⟨_, rfl⟩
       replace H : (if x9_4 = true then ((slices_Reverse_2_int_2_int.f k3 y137).bind fun t140 => (some t140)) else (some y137)) = some r := by first | (rw [hy137]; with_reducible exact H) | (have H2_ := (Option.bind_some _ _).symm.trans H; rw [hy137]; with_reducible exact H2_) | (have H2_ := (Option.bind_some _ _).symm.trans H; with_reducible exact H2_) | with_reducible exact H | (rw [hy137]; exact H) | exact H
       have Ny137 := zA hy137
       clear hy137
       by_cases c16 : x9_4 = true
       rotate_left
       ·replace c16 := Bool.eq_false_iff.mpr c16
        subst c16
        have H1 : (some y137) = some r := by rw [if_neg (show ¬ (false = true) by decide)] at H; exact H
        clear H
        have H := H1
        clear H1
        obtain rfl := Option.some.inj H
        go_wp2_with (first | ((with_reducible refine gate_builtin (b := .append) (xs := #[.tmp 45, .tmp 49]) rfl ?_); at_builtin; refine Kd.R_append k39 (w0 := w) w.heap.size rfl (.tmp 45) (.tmp 49) 37 39 (.agg #[(.int .i64 0), (.int .i64 0)]) 16 rfl Try.underlying37 info39 rfl (by decide) (by omega) u11 x11_3 (⟨x0_7, x1_7⟩ : S39) [.int .i64 x0_7, .int .i64 x1_7] (fun _ => True) (fun _ => False) rfl rfl ?aP (fun _ hk => hk.elim) ?aF ?aO ?aB ?aS ?aL ?_; (case aP => exact k39_mkM _ _ _ (⟨x0_7, x1_7⟩ : S39)); (case aB => exact (zs0 HB)); (case aF => exact (fun _ _ => trivial)); (case aO => exact (zr HO_11)); (case aS => exact (below_size (zs0 HB))); (case aL => have := LMc15.out; omega); intro v138 w21 ho hb hg hat; rw [← Ny137.out] at ho; have HO139 := zA (ho); replace HB := zA (hb); clear HO_11; clear ho hb hg hat))
        go_ret
        exact ⟨_, by first | rfl | (simp [errW_none, errW_some] <;> rfl) | (simp only [← hji12]; first | rfl | (simp [errW_none, errW_some] <;> rfl)) | (simp [*, errW_none, errW_some] <;> rfl), zr HO139, zs0 HB⟩
       subst c16
       have H1 : ((slices_Reverse_2_int_2_int.f k3 y137).bind fun t140 => (some t140)) = some r := by rw [if_pos rfl] at H; exact H
       clear H
       have H := H1
       clear H1
       replace H := zbd H; obtain ⟨t140, A17, H⟩ := H
       obtain rfl := Option.some.inj H
       go_wp2_with (first | ((with_reducible refine gate_builtin (b := .append) (xs := #[.tmp 45, .tmp 49]) rfl ?_); at_builtin; refine Kd.R_append k39 (w0 := w) w.heap.size rfl (.tmp 45) (.tmp 49) 37 39 (.agg #[(.int .i64 0), (.int .i64 0)]) 16 rfl Try.underlying37 info39 rfl (by decide) (by omega) u11 x11_3 (⟨x0_7, x1_7⟩ : S39) [.int .i64 x0_7, .int .i64 x1_7] (fun _ => True) (fun _ => False) rfl rfl ?aP (fun _ hk => hk.elim) ?aF ?aO ?aB ?aS ?aL ?_; (case aP => exact k39_mkM _ _ _ (⟨x0_7, x1_7⟩ : S39)); (case aB => exact (zs0 HB)); (case aF => exact (fun _ _ => trivial)); (case aO => exact (zr HO_11)); (case aS => exact (below_size (zs0 HB))); (case aL => have := LMc15.out; omega); intro v138 w18 ho hb hg hat; rw [← Ny137.out] at ho; have HO139 := zA (ho); replace HB := zA (hb); clear HO_11; clear ho hb hg hat; obtain ⟨Ao19, co19, eo19⟩ := Kd.R_slice HO139.out; subst eo19) | ((with_reducible refine gate_callee (f := 19) rfl ?_); refine zgl (N := some 83) Try.func19 #[.slice Ao19 y137.length co19] ?_; (with_reducible refine (slices_Reverse_2_int_2_int.calls k3 (fun k_ => some k_ = (.slice Ao19 y137.length co19 : Value).ownBlock) (.slice Ao19 y137.length co19) y137 t140 w _ ?side1 ?side2 A17.out).mono ?_); (case side1 => repeat (first | (with_reducible first | exact HB.out | apply below_alloc | apply pw_below_drewN | apply below_drew1) | exact HB.out)); (case side2 => exact Kd.R_tight rfl HO139.out); rintro e w20 ⟨rfl, hy0, hb, hkp⟩; refine ⟨_, rfl, ?_⟩; replace HO139 := zA (Kd.R_reok rfl hy0 (fun k_ e_ => HO139.out.1 k_ e_)); replace HB := zA (hb); (try clear hb); (try clear hkp); (try clear hy0)))
       go_ret
       exact ⟨_, by first | rfl | (simp [errW_none, errW_some] <;> rfl) | (simp only [← hji12]; first | rfl | (simp [errW_none, errW_some] <;> rfl)) | (simp [*, errW_none, errW_some] <;> rfl), zr HO139, zs0 HB⟩
mutual
def impl_SkyLeg.l0 : Nat → List Int → Int → Int → Int → Int → Int → Int → Option ((List (S24)))
 | 0, _, _, _, _, _, _, _ => none
 | k + 1, x18, x19, x20, x147000, x147001, x148000, x148001 => if x20 < x19 then (if 0 ≤ x20 then (if x20 < (x18.length : Int) then ((impl_within.f (rd x18 x20) 0 15).bind fun t152 => (if t152 = true then (impl_SkyLeg.l0 k x18 x19 (wrap64 (x20 + 1)) x147000 x147001 x148000 x148001) else (some ([] : List (S24))))) else (none)) else (none)) else ((impl_leg.f k x147000 x147001 x148000 x148001).bind fun t153 => (impl_SkyLeg.l1 k ([] : List (S24)) t153 (t153.length : Int) 0))
def impl_SkyLeg.l1 : Nat → List (S24) → List (S39) → Int → Int → Option ((List (S24)))
 | 0, _, _, _, _ => none
 | k + 1, x7, x36, x37, x38 => if x38 < x37 then (if 0 ≤ x38 then (if x38 < (x36.length : Int) then (if x7.length < 8796093022208 then (impl_SkyLeg.l1 k (x7 ++ [(⟨(rd_T39 x36 x38).f0, (rd_T39 x36 x38).f1⟩ : S24)]) x36 x37 (wrap64 (x38 + 1))) else (none)) else (none)) else (none)) else (some x7)
end
def impl_SkyLeg.f (k : Nat) (a0_0 : Int) (a0_1 : Int) (a1_0 : Int) (a1_1 : Int) : Option ((List (S24))) := (some (([a0_0, a0_1, a1_0, a1_1] : List Int) : List Int)).bind fun y148 => (impl_SkyLeg.l0 k y148 (y148.length : Int) 0 a0_0 a0_1 a1_0 a1_1)
set_option maxHeartbeats 8000000 in
set_option maxRecDepth 100000 in
theorem impl_SkyLeg.calls (k : Nat) (a0_0 : Int) (a0_1 : Int) (a1_0 : Int) (a1_1 : Int) (r : List (S24)) (w : World) (h : impl_SkyLeg.f k a0_0 a0_1 a1_0 a1_1 = some r) :
 Calls Try.prog 5 #[.agg #[.int .i64 a0_0, .int .i64 a0_1], .agg #[.int .i64 a1_0, .int .i64 a1_1]] w fun e w' => ∃ v0_ : Value, e = .returned (v0_) ∧ Kd.R k24 24 w' w.heap.size (fun _ => True) v0_ r ∧ Below w.heap.size w w' := by
 have hu24 := Try.underlying24
 have hu39 := Try.underlying39
 have HB := zA (Below.refl w.heap.size w)
 have H : ((some (([a0_0, a0_1, a1_0, a1_1] : List Int) : List Int)).bind fun y148 => (impl_SkyLeg.l0 k y148 (y148.length : Int) 0 a0_0 a0_1 a1_0 a1_1)) = some r := h
 clear h
 obtain ⟨y148, hy148⟩ : ∃ y_ : List Int, y_ = (([a0_0, a0_1, a1_0, a1_1] : List Int)) := ⟨_, rfl⟩
 replace H : (impl_SkyLeg.l0 k y148 (y148.length : Int) 0 a0_0 a0_1 a1_0 a1_1) = some r := by first | (rw [hy148]; with_reducible exact H) | (have H2_ := (Option.bind_some _ _).symm.trans H; rw [hy148]; with_reducible exact H2_) | (have H2_ := (Option.bind_some _ _).symm.trans H; with_reducible exact H2_) | with_reducible exact H | (rw [hy148]; exact H) | exact H
 have Ny148 := zA hy148
 clear hy148
 have H' := zA H
 clear H
 go_enter Try.func5, Try.ntmps5
 go_wp2_with (first | ((with_reducible refine gate_dst (N := 2) rfl ?_); refine zbx 2 #[.int .i64 a0_0, .int .i64 a0_1] 24 ?_; intro gb146 hg w3 hbox hb; have BK146 := zA hbox; have GW146 := zgs hg (zs0 HB); have GE146 := zgs hg (zs0 HB); replace HB := zE (zs0 HB) hb; clear hb hbox hg) | ((with_reducible refine gate_dst (N := 3) rfl ?_); refine zbx 3 #[.int .i64 a1_0, .int .i64 a1_1] 24 ?_; intro gb147 hg w4 hbox hb; have BK147 := zA hbox; have GW147 := zgs hg (zs1 HB GE146); have GE147 := zgs hg (zs1 HB GE146); have NB146_147 := zne hg BK146; have NB147_146 := znf hg BK146; replace BK146 := zb BK146 hb; replace HB := zE (zs1 HB GE146) hb; clear hb hbox hg; have hnb5 := NB146_147.out; have hnc5 := NB147_146.out; obtain ⟨hcz6_0, hcz6_1⟩ := zd2 BK146; obtain ⟨hfz6_0, hfz6_1⟩ := zn2 BK146; obtain ⟨hcz7_0, hcz7_1⟩ := zd2 BK147; obtain ⟨hfz7_0, hfz7_1⟩ := zn2 BK147) | ((with_reducible refine gate_dst (N := 18) rfl ?_); refine Kd.R_lit (Kd.int .i64) _ 3 ?hg (N := 18) ?hd (xs := ([a0_0, a0_1, a1_0, a1_1] : List Int)) (inner := [.int .i64 a0_0, .int .i64 a0_1, .int .i64 a1_0, .int .i64 a1_1]) (ok := fun _ => True) (okp := fun _ => True) ?hr ?hp (fun _ hk => hk) trivial (Below.refl _ _) (Nat.le_refl _) (by simp) ?_; (case hd => rfl); (case hg => rfl); (case hr => first | (go_simp; done) | (go_simp; rfl)); (case hp => exact (Reps.one (show Kd.M (Kd.int .i64) _ _ _ a0_0 [.int .i64 a0_0] from rfl) (Reps.one (show Kd.M (Kd.int .i64) _ _ _ a0_1 [.int .i64 a0_1] from rfl) (Reps.one (show Kd.M (Kd.int .i64) _ _ _ a1_0 [.int .i64 a1_0] from rfl) (Reps.one (show Kd.M (Kd.int .i64) _ _ _ a1_1 [.int .i64 a1_1] from rfl) (Reps.none _ _)))))); intro v149 w8 ho9 hb hg_ hnew_; clear hg_ hnew_; (first | rw [← Ny148.out] at ho9 | (simp only [Int.reduceToNat] at ho9; rw [← Ny148.out] at ho9)); have HO150 := zA (Kd.R_lower ho9 (below_size (zs2 HB GE146 GE147))); replace BK146 := zb BK146 hb; replace BK147 := zb BK147 hb; replace HB := zE (zs2 HB GE146 GE147) hb; clear hb ho9; obtain ⟨Ao10, co10, eo10⟩ := Kd.R_slice HO150.out; subst eo10))
 go_loopg [20] k (fun kq v20 w' => ∃ (x20_1 : Int), v20 = .int .i64 x20_1 ∧ Aside0 (impl_SkyLeg.l0 kq y148 (y148.length : Int) x20_1 a0_0 a0_1 a1_0 a1_1 = some r) ∧ Aside0 (kq ≤ k) ∧ Aside0 (Kd.R (Kd.int .i64) 3 w' w.heap.size (fun _ => True) (.slice Ao10 y148.length co10) y148) ∧ Aside0 (w'.heap[gb146]? = some (.cells #[.int .i64 a0_0, .int .i64 a0_1] 24 (0, 0))) ∧ Aside0 (w'.heap[gb147]? = some (.cells #[.int .i64 a1_0, .int .i64 a1_1] 24 (0, 0))) ∧ Aside0 (Below w.heap.size w w'))
 case atStart => exact ⟨(0), zi, H', ⟨Nat.le_refl _⟩, ⟨zr HO150⟩, ⟨zh BK146⟩, ⟨zh BK147⟩, ⟨zs2 HB GE146 GE147⟩⟩
 case round =>
  clear H'
  try clear p2
  try clear c5
  try clear hcz6_0 hcz6_1
  try clear hcz7_0 hcz7_1
  try clear hfz6_0 hfz6_1
  try clear hfz7_0 hfz7_1
  obtain ⟨x20_1, rfl, HA, HK1, HO_18, BK146, BK147, HB⟩ := hrel
  cases gk with
  | zero => exact absurd HA.out (by simp [impl_SkyLeg.l0])
  | succ k1 =>
   have H := HA.out
   clear HA
   simp only [impl_SkyLeg.l0] at H
   by_cases c11 : x20_1 < (y148.length : Int)
   ·rw [if_pos c11] at H
    have c11b0 : decide (x20_1 < (y148.length : Int)) = true := decide_eq_true c11
    clear c11
    by_cases c12 : 0 ≤ x20_1
    rotate_left
    ·rw [if_neg c12] at H
     exact absurd H (by simp)
    rw [if_pos c12] at H
    have c12b0 : decide (0 ≤ x20_1) = true := decide_eq_true c12
    clear c12
    by_cases c13 : x20_1 < (y148.length : Int)
    rotate_left
    ·rw [if_neg c13] at H
     exact absurd H (by simp)
    rw [if_pos c13] at H
    have c13b0 : decide (x20_1 < (y148.length : Int)) = true := decide_eq_true c13
    clear c13
    replace H := zbd H; obtain ⟨t152, A14, H⟩ := H
    by_cases c15 : t152 = true
    rotate_left
    ·replace c15 := Bool.eq_false_iff.mpr c15
     subst c15
     have H1 : (some ([] : List (S24))) = some r := by rw [if_neg (show ¬ (false = true) by decide)] at H; exact H
     clear H
     have H := H1
     clear H1
     obtain rfl := Option.some.inj H
     have p151 : 0 ≤ (x20_1 : Int) := za
     have q151 : x20_1 < (y148.length : Int) := za
     obtain ⟨ad151, e151, hx151_0⟩ := Kd.at_int (Kd.R_reads' HO_18.out).2.2 x20_1 p151 q151
     cases e151
     replace p151 := eq_true p151
     replace q151 := eq_true q151
     go_wp2_with (first | ((with_reducible refine gate_callee (f := 12) rfl ?_); refine zgl (N := some 25) Try.func12 #[.int .i64 (rd y148 x20_1), .int .i64 0, .int .i64 15] ?_; (with_reducible refine (impl_within.calls (rd y148 x20_1) 0 15 false _ A14.out).mono ?_); rintro e w' ⟨rfl, ⟨nd, rfl⟩⟩; refine ⟨_, rfl, ?_⟩))
     go_ret
     exact ⟨_, ze, by first | exact Kd.R_nil _ _ _ _ _ | exact Kd.N_nil _ _ _ _ _ | exact Kd.V_nil _ _ _ _ _ | exact Kd.Q_nil _ _ _ _ _ | exact Kd.S_nil _ _ _ _ _, zs2 HB GE146 GE147⟩
    subst c15
    have H1 : (impl_SkyLeg.l0 k1 y148 (y148.length : Int) (wrap64 (x20_1 + 1)) a0_0 a0_1 a1_0 a1_1) = some r := by rw [if_pos rfl] at H; exact H
    clear H
    have H := H1
    clear H1
    have H' := zA H
    clear H
    have p151 : 0 ≤ (x20_1 : Int) := za
    have q151 : x20_1 < (y148.length : Int) := za
    obtain ⟨ad151, e151, hx151_0⟩ := Kd.at_int (Kd.R_reads' HO_18.out).2.2 x20_1 p151 q151
    cases e151
    replace p151 := eq_true p151
    replace q151 := eq_true q151
    go_wp2_with (first | ((with_reducible refine gate_callee (f := 12) rfl ?_); refine zgl (N := some 25) Try.func12 #[.int .i64 (rd y148 x20_1), .int .i64 0, .int .i64 15] ?_; (with_reducible refine (impl_within.calls (rd y148 x20_1) 0 15 true _ A14.out).mono ?_); rintro e w' ⟨rfl, ⟨nd, rfl⟩⟩; refine ⟨_, rfl, ?_⟩))
    go_roundg k1
    case measure => have := HK1.out; omega
    case rel => exact ⟨(wrap64 (x20_1 + 1)), zi, H', ⟨by have := HK1.out; omega⟩, ⟨zr HO_18⟩, ⟨zh BK146⟩, ⟨zh BK147⟩, ⟨zs2 HB GE146 GE147⟩⟩
   rw [if_neg c11] at H
   have c11b0 : decide (x20_1 < (y148.length : Int)) = false := decide_eq_false c11
   clear c11
   replace H := zbd H; obtain ⟨t153, A16, H⟩ := H
   have H' := zA H
   clear H
   have hnb17 := NB146_147.out
   have hnc17 := NB147_146.out
   obtain ⟨hcz18_0, hcz18_1⟩ := zd2 BK146
   obtain ⟨hfz18_0, hfz18_1⟩ := zn2 BK146
   obtain ⟨hcz19_0, hcz19_1⟩ := zd2 BK147
   obtain ⟨hfz19_0, hfz19_1⟩ := zn2 BK147
   go_wp2_with (first | ((with_reducible refine gate_callee (f := 13) rfl ?_); refine zgl (N := some 36) Try.func13 #[.int .i64 a0_0, .int .i64 a0_1, .int .i64 a1_0, .int .i64 a1_1] ?_; (with_reducible refine (impl_leg.calls k1 a0_0 a0_1 a1_0 a1_1 t153 _ A16.out).mono ?_); rintro e w20 ⟨v154, rfl, ho0, hb⟩; refine ⟨_, rfl, ?_⟩; have HO155 := zA (Kd.R_lower ho0 (below_size (zs2 HB GE146 GE147))); replace HO_18 := zA (Kd.R_below (zr HO_18) hb); replace BK146 := zb BK146 hb; replace BK147 := zb BK147 hb; replace HB := zE (zs2 HB GE146 GE147) hb; (try clear hb); (try clear hb2); (try clear hk); (try clear hi); (try clear ho0); obtain ⟨Ao21, co21, eo21⟩ := Kd.R_slice HO155.out; subst eo21))
   go_loopg [7, 38] k1 (fun kq v7 v38 w' => ∃ (x7_2 : List (S24)) (x38_2 : Int), v38 = .int .i64 x38_2 ∧ Aside0 (impl_SkyLeg.l1 kq x7_2 t153 (t153.length : Int) x38_2 = some r) ∧ Aside0 (kq ≤ k1) ∧ Aside0 (Kd.R k24 24 w' w.heap.size (fun k_ => k_ ≠ gb146 ∧ k_ ≠ gb147) v7 x7_2) ∧ Aside0 (Kd.R k39 39 w' w.heap.size (fun _ => True) (.slice Ao21 t153.length co21) t153) ∧ Aside0 (w'.heap[gb146]? = some (.cells #[.int .i64 a0_0, .int .i64 a0_1] 24 (0, 0))) ∧ Aside0 (w'.heap[gb147]? = some (.cells #[.int .i64 a1_0, .int .i64 a1_1] 24 (0, 0))) ∧ Aside0 (Below w.heap.size w w'))
   case atStart => exact ⟨(([] : List (S24))), (0), zi, H', ⟨Nat.le_refl _⟩, ⟨by first | exact Kd.R_nil _ _ _ _ _ | exact Kd.N_nil _ _ _ _ _ | exact Kd.V_nil _ _ _ _ _ | exact Kd.Q_nil _ _ _ _ _ | exact Kd.S_nil _ _ _ _ _⟩, ⟨zr HO155⟩, ⟨zh BK146⟩, ⟨zh BK147⟩, ⟨zs2 HB GE146 GE147⟩⟩
   case round =>
    clear H'
    try clear c1
    try clear p1
    try clear q1
    try clear hx1
    try clear p2
    try clear c5
    try clear p6
    try clear c11
    try clear c11b0
    try clear c12
    try clear c12b0
    try clear c13
    try clear c13b0
    try clear c15
    try clear p15
    try clear q15
    try clear hx15
    try clear c17
    try clear hcz18_0 hcz18_1
    try clear hcz19_0 hcz19_1
    try clear hcz6_0 hcz6_1
    try clear hcz7_0 hcz7_1
    try clear hfz18_0 hfz18_1
    try clear hfz19_0 hfz19_1
    try clear hfz6_0 hfz6_1
    try clear hfz7_0 hfz7_1
    try clear hx151_0
    try clear p151
    try clear p2
    try clear q151
    obtain ⟨x7_2, x38_2, rfl, HA, HK2, HO_7, HO_36, BK146, BK147, HB⟩ := hrel
    cases gk with
    | zero => exact absurd HA.out (by simp [impl_SkyLeg.l1])
    | succ k2 =>
     have H := HA.out
     clear HA
     simp only [impl_SkyLeg.l1] at H
     by_cases c22 : x38_2 < (t153.length : Int)
     rotate_left
     ·rw [if_neg c22] at H
      have c22b0 : decide (x38_2 < (t153.length : Int)) = false := decide_eq_false c22
      clear c22
      obtain rfl := Option.some.inj H
      go_wp2
      go_ret
      exact ⟨_, ze, by (with_reducible repeat (first | apply Kd.R_alloc | apply Kd.R_drewN | apply Kd.R_drew)); exact Kd.R_mono HO_7.out (fun _ hk => trivial), zs2 HB GE146 GE147⟩
     rw [if_pos c22] at H
     have c22b0 : decide (x38_2 < (t153.length : Int)) = true := decide_eq_true c22
     clear c22
     by_cases c23 : 0 ≤ x38_2
     rotate_left
     ·rw [if_neg c23] at H
      exact absurd H (by simp)
     rw [if_pos c23] at H
     have c23b0 : decide (0 ≤ x38_2) = true := decide_eq_true c23
     clear c23
     by_cases c24 : x38_2 < (t153.length : Int)
     rotate_left
     ·rw [if_neg c24] at H
      exact absurd H (by simp)
     rw [if_pos c24] at H
     have c24b0 : decide (x38_2 < (t153.length : Int)) = true := decide_eq_true c24
     clear c24
     by_cases c25 : x7_2.length < 8796093022208
     rotate_left
     ·rw [if_neg c25] at H
      exact absurd H (by simp)
     rw [if_pos c25] at H
     have LMc25 := zA c25
     clear c25
     obtain ⟨y158, hy158⟩ : ∃ y_ : List (S24), y_ = (x7_2 ++ [(⟨(rd_T39 t153 x38_2).f0, (rd_T39 t153 x38_2).f1⟩ : S24)]) := ⟨_, rfl⟩
     replace H : (impl_SkyLeg.l1 k2 y158 t153 (t153.length : Int) (wrap64 (x38_2 + 1))) = some r := by first | (rw [hy158]; with_reducible exact H) | (have H2_ := (Option.bind_some _ _).symm.trans H; rw [hy158]; with_reducible exact H2_) | (have H2_ := (Option.bind_some _ _).symm.trans H; with_reducible exact H2_) | with_reducible exact H | (rw [hy158]; exact H) | exact H
     have Ny158 := zA hy158
     clear hy158
     have H' := zA H
     clear H
     have p156 : 0 ≤ (x38_2 : Int) := za
     have q156 : x38_2 < (t153.length : Int) := za
     obtain ⟨ad156, e156, hx156_0, hx156_1⟩ := at_T39 (Kd.R_reads' HO_36.out).2.2 x38_2 p156 q156
     cases e156
     replace p156 := eq_true p156
     replace q156 := eq_true q156
     go_wp2_with (first | ((with_reducible refine gate_dst (N := 9) rfl ?_); refine zbx 9 #[.int .i64 0, .int .i64 0] 39 ?_; intro gb157 hg w26 hbox hb; have BK157 := zA hbox; have GW157 := zgs hg (zs2 HB GE146 GE147); have GE157 := zgs hg (zs2 HB GE146 GE147); have NB146_157 := zne hg BK146; have NB157_146 := znf hg BK146; have NB147_157 := zne hg BK147; have NB157_147 := znf hg BK147; replace HO_7 := zA (Kd.R_below (zr HO_7) hb); replace HO_36 := zA (Kd.R_below (Kd.R_elderB (zr HO_36) gb157 (Nat.le_of_eq hg.symm)) hb); replace BK146 := zb BK146 hb; replace BK147 := zb BK147 hb; replace HB := zE (zs2 HB GE146 GE147) hb; clear hb hbox hg; have hnb27 := NB157_146.out; have hnc27 := NB146_157.out; have hnb28 := NB157_147.out; have hnc28 := NB147_157.out; obtain ⟨hcz29_0, hcz29_1⟩ := zd2 BK157; obtain ⟨hfz29_0, hfz29_1⟩ := zn2 BK157) | ((with_reducible refine gate_builtin (b := .append) (xs := #[.tmp 42, .tmp 48]) rfl ?_); at_builtin; refine Kd.R_append k24 (w0 := w) w.heap.size rfl (.tmp 42) (.tmp 48) 27 24 (.agg #[(.int .i64 0), (.int .i64 0)]) 16 rfl Try.underlying27 info24 rfl (by decide) (by omega) u7 x7_2 (⟨(rd_T39 t153 x38_2).f0, (rd_T39 t153 x38_2).f1⟩ : S24) [.int .i64 ((rd_T39 t153 x38_2).f0), .int .i64 ((rd_T39 t153 x38_2).f1)] (fun k_ => k_ ≠ gb146 ∧ k_ ≠ gb147) (fun _ => False) rfl (by first | (go_simp; done) | (go_simp; rfl)) ?aP (fun _ hk => hk.elim) ?aF ?aO ?aB ?aS ?aL ?_; (case aP => exact k24_mkM _ _ _ (⟨(rd_T39 t153 x38_2).f0, (rd_T39 t153 x38_2).f1⟩ : S24)); (case aB => exact (zs3 HB GE146 GE147 GE157)); (case aF => exact (fun k_ hk => ⟨Kd.freshB (g := gb146) (o := .cells #[.int .i64 a0_0, .int .i64 a0_1] 24 (0, 0)) (zpf BK146 NB146_157) k_ hk, Kd.freshB (g := gb147) (o := .cells #[.int .i64 a1_0, .int .i64 a1_1] 24 (0, 0)) (zpf BK147 NB147_157) k_ hk⟩)); (case aO => exact (zRf HO_7 BK157 (fun _ hk => ⟨hk.1.1, hk.1.2⟩))); (case aS => exact (below_size (zs3 HB GE146 GE147 GE157))); (case aL => have := LMc25.out; omega); intro v159 w30 ho hb hg hat; rw [← Ny158.out] at ho; have HO160 := zA (ho); replace HO_36 := zA (Kd.R_over' (by (with_reducible repeat (first | apply Kd.R_alloc | apply Kd.R_drewN | apply Kd.R_drew)); exact (Kd.R_mono (Kd.R_far (p := ⟨gb157, 1, none⟩) (Kd.R_far (p := ⟨gb157, 0, none⟩) (Kd.R_mono HO_36.out (fun k_ hk => (⟨hk, hk.2⟩ : _ ∧ k_ ≠ gb157))) (fun _ hk => hk.2) (.int .i64 ((rd_T39 t153 x38_2).f0))) (fun _ hk => hk.2) (.int .i64 ((rd_T39 t153 x38_2).f1))) (fun _ h_ => h_.1))) (Kd.R_typed (zRf HO_7 BK157 (fun _ h_ => h_.1))) (by decide) hg); replace BK146 := zA (blk_grown (g := gb146) (o := .cells #[.int .i64 a0_0, .int .i64 a0_1] 24 (0, 0)) (zpf BK146 NB146_157) hg (Kd.R_away HO_7.out (fun _ hk => hk.1))); replace BK147 := zA (blk_grown (g := gb147) (o := .cells #[.int .i64 a1_0, .int .i64 a1_1] 24 (0, 0)) (zpf BK147 NB147_157) hg (Kd.R_away HO_7.out (fun _ hk => hk.2))); replace BK157 := zA (blk_grown (g := gb157) (o := .cells #[.int .i64 ((rd_T39 t153 x38_2).f0), .int .i64 ((rd_T39 t153 x38_2).f1)] 39 (0, 0)) (zpb BK157) hg (Kd.R_ne HO_7.out BK157.out (by decide))); replace HB := zA (hb); clear HO_7; clear ho hb hg hat))
     go_roundg k2
     case measure => have := HK1.out; have := HK2.out; omega
     case rel => exact ⟨(y158), (wrap64 (x38_2 + 1)), zi, H', ⟨by have := HK1.out; have := HK2.out; omega⟩, ⟨zr HO160⟩, ⟨by (with_reducible repeat (first | apply Kd.R_alloc | apply Kd.R_drewN | apply Kd.R_drew)); exact Kd.R_mono HO_36.out (fun _ hk => trivial)⟩, ⟨zh BK146⟩, ⟨zh BK147⟩, ⟨zs3 HB GE146 GE147 GE157⟩⟩
end Go.Proofs.Ytaeichaofhcheaa.QFnSkyLegs
