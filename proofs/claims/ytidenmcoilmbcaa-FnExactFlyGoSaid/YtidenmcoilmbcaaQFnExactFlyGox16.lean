/- The walk of what the law FnExactFlyGo reaches: laid by a program of this session (ownprint.py). -/
import Derived.Test.YtidenmcoilmbcaaQFnExactFlyGox0
import Derived.Test.YtidenmcoilmbcaaQFnExactFlyGox14
import Derived.Test.YtidenmcoilmbcaaQFnExactFlyGox15
namespace Go.Proofs.Ytidenmcoilmbcaa.QFnExactFlyGo
open Go.RowKit Go.Proofs.YtidenmcoilmbcaaW.PrintWords Go.Proofs.YtidenmcoilmbcaaW.PrintLast Go.Proofs.YtidenmcoilmbcaaW.PrintMore Go.Proofs.Ytidenmcoilmbcaa.Z
attribute [local go_sem] max2_int min2_int max_two min_two max_three min_three max_four min_four zdn   -- for this text's walks alone
set_option linter.unusedVariables false
set_option linter.unusedSimpArgs false
def impl_FlyGo.l0 : Nat → List Int → List Int → Int → Int → Int → List (S88) → Int → Int → Option (List Int × Bool)
 | 0, _, _, _, _, _, _, _, _ => none
 | k + 1, x2, x8, x9, x350000, x350001, x350002, x350003, x350004 => if (x8.length : Int) ≤ (x350002.length : Int) then ((impl_FlyNext.f k x350000 x350001 x350002 x350003 x350004 x8).bind fun bt354 => (if bt354.2.2 = true then (if x9 < (x2.length : Int) then (if 0 ≤ x9 then (if x8.length < 17592186044416 then (impl_FlyGo.l0 k x2 (x8 ++ [mn (mx (rd x2 x9) bt354.1) bt354.2.1]) (wrap64 (x9 + 1)) x350000 x350001 x350002 x350003 x350004) else (none)) else (none)) else (if x8.length < 17592186044416 then (impl_FlyGo.l0 k x2 (x8 ++ [bt354.1]) (wrap64 (x9 + 1)) x350000 x350001 x350002 x350003 x350004) else (none))) else (some (([] : List Int), false)))) else ((impl_FlyLawful.f k x350000 x350001 x350002 x350003 x350004 x8).bind fun t353 => (if t353 = true then (some (x8, true)) else (some (([] : List Int), false))))
def impl_FlyGo.f (k : Nat) (a0_0 : Int) (a0_1 : Int) (l0_2 : List (S88)) (a0_3 : Int) (a0_4 : Int) (l1 : List Int) (l2 : List Int) : Option (List Int × Bool) := if ([] : List Int).length + l1.length < 17592186044416 then (impl_FlyGo.l0 k l2 (([] : List Int) ++ l1) 0 a0_0 a0_1 l0_2 a0_3 a0_4) else (none)
set_option maxHeartbeats 8000000 in
set_option maxRecDepth 100000 in
theorem impl_FlyGo.calls (k : Nat) (a0_0 : Int) (a0_1 : Int) (A0_2 : Option Addr) (c0_2 : Nat) (l0_2 : List (S88)) (a0_3 : Int) (a0_4 : Int) (A1 : Option Addr) (c1 : Nat) (l1 : List Int) (A2 : Option Addr) (c2 : Nat) (l2 : List Int) (r1 : List Int) (r2 : Bool) (w : World) (hr0_2 : Kd.C k88 w A0_2 l0_2.length l0_2) (hc0_2 : l0_2.length ≤ c0_2) (hr1 : Kd.C (Kd.int .i64) w A1 l1.length l1) (hc1 : l1.length ≤ c1) (hr2 : Kd.C (Kd.int .i64) w A2 l2.length l2) (hc2 : l2.length ≤ c2) (h : impl_FlyGo.f k a0_0 a0_1 l0_2 a0_3 a0_4 l1 l2 = some (r1, r2)) :
 Calls Try.prog 19 #[.agg #[.int .i64 a0_0, .int .i64 a0_1, .slice A0_2 l0_2.length c0_2, .int .i64 a0_3, .int .i64 a0_4], .slice A1 l1.length c1, .slice A2 l2.length c2] w fun e w' => ∃ v0_ : Value, e = .returned (.tuple #[v0_, .bool r2]) ∧ Kd.R (Kd.int .i64) 3 w' w.heap.size (fun _ => True) v0_ r1 ∧ Below w.heap.size w w' := by
 have hu34 := Try.underlying34
 have hu46 := Try.underlying46
 have HR0_2 := zA hr0_2
 have HC0_2 := zA hc0_2
 clear hr0_2 hc0_2
 have HR1 := zA hr1
 have HC1 := zA hc1
 clear hr1 hc1
 have HR2 := zA hr2
 have HC2 := zA hc2
 clear hr2 hc2
 have HB := zA (Below.refl w.heap.size w)
 have H : (if ([] : List Int).length + l1.length < 17592186044416 then (impl_FlyGo.l0 k l2 (([] : List Int) ++ l1) 0 a0_0 a0_1 l0_2 a0_3 a0_4) else (none)) = some (r1, r2) := h
 clear h
 by_cases c4 : ([] : List Int).length + l1.length < 17592186044416
 rotate_left
 ·rw [if_neg c4] at H
  exact absurd H (by simp)
 rw [if_pos c4] at H
 have LMc4 := zA c4
 clear c4
 obtain ⟨y350, hy350⟩ : ∃ y_ : List Int, y_ = (([] : List Int) ++ l1) := ⟨_, rfl⟩
 replace H : (impl_FlyGo.l0 k l2 y350 0 a0_0 a0_1 l0_2 a0_3 a0_4) = some (r1, r2) := by first | (rw [hy350]; with_reducible exact H) | (have H2_ := (Option.bind_some _ _).symm.trans H; rw [hy350]; with_reducible exact H2_) | (have H2_ := (Option.bind_some _ _).symm.trans H; with_reducible exact H2_) | with_reducible exact H | (rw [hy350]; exact H) | exact H
 have Ny350 := zA hy350
 clear hy350
 have H' := zA H
 clear H
 go_enter Try.func19, Try.ntmps19
 go_wp2_with (first | ((with_reducible refine gate_dst (N := 3) rfl ?_); refine zbx 3 #[.int .i64 a0_0, .int .i64 a0_1, .slice A0_2 l0_2.length c0_2, .int .i64 a0_3, .int .i64 a0_4] 34 ?_; intro gb349 hg w5 hbox hb; have BK349 := zA hbox; have GW349 := zgs hg (zs0 HB); have GE349 := zgs hg (zs0 HB); replace HB := zE (zs0 HB) hb; clear hb hbox hg) | ((with_reducible refine gate_builtin (b := .append) (xs := #[.const (.slice none 0 0), .tmp 13]) rfl ?_); at_builtin; refine Kd.R_append_rows (Kd.int .i64) (w0 := w) w.heap.size rfl (.const (.slice none 0 0)) (.tmp 13) 27 3 (.int .i64 0) 8 rfl Try.underlying27 info3 rfl (by decide) (by omega) (.slice none 0 0) ([] : List Int) l1 _ _ _ (fun _ => True) (fun _ => False) rfl rfl ?aO ?aR (fun _ _ h => h) (fun _ h => h.elim) ?aF ?aB ?aS ?aL ?_; (case aR => repeat (first | exact (Kd.C_below HR1.out HB.out) | (with_reducible refine Kd.C_alloc ?_ _) | (with_reducible refine Kd.C_drewN ?_ _) | (with_reducible refine Kd.C_drew ?_))); (case aB => exact (zs1 HB GE349)); (case aF => exact (fun _ _ => trivial)); (case aO => exact ((Kd.R_nil _ _ _ _ (fun _ => True)))); (case aS => exact (below_size (zs1 HB GE349))); (case aL => have := LMc4.out; omega); intro v351 w6 ho hb hg hat; rw [← Ny350.out] at ho; have HO352 := zA (ho); replace BK349 := zA (blk_grown (g := gb349) (o := .cells #[.int .i64 a0_0, .int .i64 a0_1, .slice A0_2 l0_2.length c0_2, .int .i64 a0_3, .int .i64 a0_4] 34 (0, 0)) (zh BK349) hg (by simp [Value.ownBlock])); replace HB := zA (hb); clear ho hb hg hat))
 repeat (go_quiet (first | ((with_reducible refine gate_dst (N := 3) rfl ?_); refine zbx 3 #[.int .i64 a0_0, .int .i64 a0_1, .slice A0_2 l0_2.length c0_2, .int .i64 a0_3, .int .i64 a0_4] 34 ?_; intro gb349 hg w5 hbox hb; have BK349 := zA hbox; have GW349 := zgs hg (zs0 HB); have GE349 := zgs hg (zs0 HB); replace HB := zE (zs0 HB) hb; clear hb hbox hg) | ((with_reducible refine gate_builtin (b := .append) (xs := #[.const (.slice none 0 0), .tmp 13]) rfl ?_); at_builtin; refine Kd.R_append_rows (Kd.int .i64) (w0 := w) w.heap.size rfl (.const (.slice none 0 0)) (.tmp 13) 27 3 (.int .i64 0) 8 rfl Try.underlying27 info3 rfl (by decide) (by omega) (.slice none 0 0) ([] : List Int) l1 _ _ _ (fun _ => True) (fun _ => False) rfl rfl ?aO ?aR (fun _ _ h => h) (fun _ h => h.elim) ?aF ?aB ?aS ?aL ?_; (case aR => repeat (first | exact (Kd.C_below HR1.out HB.out) | (with_reducible refine Kd.C_alloc ?_ _) | (with_reducible refine Kd.C_drewN ?_ _) | (with_reducible refine Kd.C_drew ?_))); (case aB => exact (zs1 HB GE349)); (case aF => exact (fun _ _ => trivial)); (case aO => exact ((Kd.R_nil _ _ _ _ (fun _ => True)))); (case aS => exact (below_size (zs1 HB GE349))); (case aL => have := LMc4.out; omega); intro v351 w6 ho hb hg hat; rw [← Ny350.out] at ho; have HO352 := zA (ho); replace BK349 := zA (blk_grown (g := gb349) (o := .cells #[.int .i64 a0_0, .int .i64 a0_1, .slice A0_2 l0_2.length c0_2, .int .i64 a0_3, .int .i64 a0_4] 34 (0, 0)) (zh BK349) hg (by simp [Value.ownBlock])); replace HB := zA (hb); clear ho hb hg hat)); try go_wp2_with (first | ((with_reducible refine gate_dst (N := 3) rfl ?_); refine zbx 3 #[.int .i64 a0_0, .int .i64 a0_1, .slice A0_2 l0_2.length c0_2, .int .i64 a0_3, .int .i64 a0_4] 34 ?_; intro gb349 hg w5 hbox hb; have BK349 := zA hbox; have GW349 := zgs hg (zs0 HB); have GE349 := zgs hg (zs0 HB); replace HB := zE (zs0 HB) hb; clear hb hbox hg) | ((with_reducible refine gate_builtin (b := .append) (xs := #[.const (.slice none 0 0), .tmp 13]) rfl ?_); at_builtin; refine Kd.R_append_rows (Kd.int .i64) (w0 := w) w.heap.size rfl (.const (.slice none 0 0)) (.tmp 13) 27 3 (.int .i64 0) 8 rfl Try.underlying27 info3 rfl (by decide) (by omega) (.slice none 0 0) ([] : List Int) l1 _ _ _ (fun _ => True) (fun _ => False) rfl rfl ?aO ?aR (fun _ _ h => h) (fun _ h => h.elim) ?aF ?aB ?aS ?aL ?_; (case aR => repeat (first | exact (Kd.C_below HR1.out HB.out) | (with_reducible refine Kd.C_alloc ?_ _) | (with_reducible refine Kd.C_drewN ?_ _) | (with_reducible refine Kd.C_drew ?_))); (case aB => exact (zs1 HB GE349)); (case aF => exact (fun _ _ => trivial)); (case aO => exact ((Kd.R_nil _ _ _ _ (fun _ => True)))); (case aS => exact (below_size (zs1 HB GE349))); (case aL => have := LMc4.out; omega); intro v351 w6 ho hb hg hat; rw [← Ny350.out] at ho; have HO352 := zA (ho); replace BK349 := zA (blk_grown (g := gb349) (o := .cells #[.int .i64 a0_0, .int .i64 a0_1, .slice A0_2 l0_2.length c0_2, .int .i64 a0_3, .int .i64 a0_4] 34 (0, 0)) (zh BK349) hg (by simp [Value.ownBlock])); replace HB := zA (hb); clear ho hb hg hat)))
 go_loopg [8, 9] k (fun kq v8 v9 w' => ∃ (x8_1 : List Int) (x9_1 : Int), v9 = .int .i64 x9_1 ∧ Aside0 (impl_FlyGo.l0 kq l2 x8_1 x9_1 a0_0 a0_1 l0_2 a0_3 a0_4 = some (r1, r2)) ∧ Aside0 (kq ≤ k) ∧ Aside0 (Kd.R (Kd.int .i64) 3 w' w.heap.size (fun _ => True) v8 x8_1) ∧ Aside0 (w'.heap[gb349]? = some (.cells #[.int .i64 a0_0, .int .i64 a0_1, (.slice A0_2 l0_2.length c0_2), .int .i64 a0_3, .int .i64 a0_4] 34 (0, 0))) ∧ Aside0 (Below w.heap.size w w'))
 case atStart => exact ⟨(y350), (0), zi, H', ⟨Nat.le_refl _⟩, ⟨zr HO352⟩, ⟨zh BK349⟩, ⟨zs1 HB GE349⟩⟩
 case round =>
  clear H'
  try clear c1
  try clear c2
  try clear p2
  try clear c4
  obtain ⟨x8_1, x9_1, rfl, HA, HK1, HO_8, BK349, HB⟩ := hrel
  cases gk with
  | zero => exact absurd HA.out (by simp [impl_FlyGo.l0])
  | succ k1 =>
   have H := HA.out
   clear HA
   simp only [impl_FlyGo.l0] at H
   by_cases c7 : (x8_1.length : Int) ≤ (l0_2.length : Int)
   rotate_left
   ·rw [if_neg c7] at H
    have c7b0 : decide ((x8_1.length : Int) ≤ (l0_2.length : Int)) = false := decide_eq_false c7
    have c7b1 : decide (x8_1.length ≤ l0_2.length) = false := decide_eq_false (fun h => c7 (Int.ofNat_le.mpr h))
    clear c7
    replace H := zbd H; obtain ⟨t353, A36, H⟩ := H
    by_cases c37 : t353 = true
    ·subst c37
     have H1 : (some (x8_1, true)) = some (r1, r2) := by rw [if_pos rfl] at H; exact H
     clear H
     have H := H1
     clear H1
     simp only [Option.some.injEq, Prod.mk.injEq] at H
     obtain ⟨rfl, rfl⟩ := H
     obtain ⟨Ao38, co38, eo38⟩ := Kd.R_slice HO_8.out
     subst eo38
     obtain ⟨hcz39_0, hcz39_1, hcz39_2, hcz39_3, hcz39_4⟩ := zd5 BK349
     obtain ⟨hfz39_0, hfz39_1, hfz39_2, hfz39_3, hfz39_4⟩ := zn5 BK349
     go_wp2_with (first | (go_at_call 28; (with_reducible refine (impl_FlyLawful.calls k1 a0_0 a0_1 _ _ l0_2 a0_3 a0_4 _ _ x8_1 true _ ?side1 ?side2 ?side3 ?side4 A36.out).mono ?_); (case side1 => exact zC HR0_2 HB); (case side2 => exact HC0_2.out); (case side3 => repeat (first | exact (Kd.R_reads' HO_8.out).2.2 | (with_reducible refine Kd.C_alloc ?_ _) | (with_reducible refine Kd.C_drewN ?_ _) | (with_reducible refine Kd.C_drew ?_))); (case side4 => exact (Kd.R_reads' HO_8.out).2.1); rintro e w40 ⟨rfl, hb⟩; replace HO_8 := zA (Kd.R_below (zr HO_8) hb); replace BK349 := zb BK349 hb; replace HB := zE (zs1 HB GE349) hb; (try clear hb); (try clear hb2); (try clear hk); (try clear hi)))
     repeat (go_quiet (first | (go_at_call 28; (with_reducible refine (impl_FlyLawful.calls k1 a0_0 a0_1 _ _ l0_2 a0_3 a0_4 _ _ x8_1 true _ ?side1 ?side2 ?side3 ?side4 A36.out).mono ?_); (case side1 => exact zC HR0_2 HB); (case side2 => exact HC0_2.out); (case side3 => repeat (first | exact (Kd.R_reads' HO_8.out).2.2 | (with_reducible refine Kd.C_alloc ?_ _) | (with_reducible refine Kd.C_drewN ?_ _) | (with_reducible refine Kd.C_drew ?_))); (case side4 => exact (Kd.R_reads' HO_8.out).2.1); rintro e w40 ⟨rfl, hb⟩; replace HO_8 := zA (Kd.R_below (zr HO_8) hb); replace BK349 := zb BK349 hb; replace HB := zE (zs1 HB GE349) hb; (try clear hb); (try clear hb2); (try clear hk); (try clear hi))); try go_wp2_with (first | (go_at_call 28; (with_reducible refine (impl_FlyLawful.calls k1 a0_0 a0_1 _ _ l0_2 a0_3 a0_4 _ _ x8_1 true _ ?side1 ?side2 ?side3 ?side4 A36.out).mono ?_); (case side1 => exact zC HR0_2 HB); (case side2 => exact HC0_2.out); (case side3 => repeat (first | exact (Kd.R_reads' HO_8.out).2.2 | (with_reducible refine Kd.C_alloc ?_ _) | (with_reducible refine Kd.C_drewN ?_ _) | (with_reducible refine Kd.C_drew ?_))); (case side4 => exact (Kd.R_reads' HO_8.out).2.1); rintro e w40 ⟨rfl, hb⟩; replace HO_8 := zA (Kd.R_below (zr HO_8) hb); replace BK349 := zb BK349 hb; replace HB := zE (zs1 HB GE349) hb; (try clear hb); (try clear hb2); (try clear hk); (try clear hi))))
     go_ret2
     exact ⟨_, ze, zr HO_8, zs1 HB GE349⟩
    replace c37 := Bool.eq_false_iff.mpr c37
    subst c37
    have H1 : (some (([] : List Int), false)) = some (r1, r2) := by rw [if_neg (show ¬ (false = true) by decide)] at H; exact H
    clear H
    have H := H1
    clear H1
    simp only [Option.some.injEq, Prod.mk.injEq] at H
    obtain ⟨rfl, rfl⟩ := H
    obtain ⟨Ao41, co41, eo41⟩ := Kd.R_slice HO_8.out
    subst eo41
    obtain ⟨hcz42_0, hcz42_1, hcz42_2, hcz42_3, hcz42_4⟩ := zd5 BK349
    obtain ⟨hfz42_0, hfz42_1, hfz42_2, hfz42_3, hfz42_4⟩ := zn5 BK349
    go_wp2_with (first | (go_at_call 28; (with_reducible refine (impl_FlyLawful.calls k1 a0_0 a0_1 _ _ l0_2 a0_3 a0_4 _ _ x8_1 false _ ?side1 ?side2 ?side3 ?side4 A36.out).mono ?_); (case side1 => exact zC HR0_2 HB); (case side2 => exact HC0_2.out); (case side3 => repeat (first | exact (Kd.R_reads' HO_8.out).2.2 | (with_reducible refine Kd.C_alloc ?_ _) | (with_reducible refine Kd.C_drewN ?_ _) | (with_reducible refine Kd.C_drew ?_))); (case side4 => exact (Kd.R_reads' HO_8.out).2.1); rintro e w43 ⟨rfl, hb⟩; replace HO_8 := zA (Kd.R_below (zr HO_8) hb); replace BK349 := zb BK349 hb; replace HB := zE (zs1 HB GE349) hb; (try clear hb); (try clear hb2); (try clear hk); (try clear hi)))
    repeat (go_quiet (first | (go_at_call 28; (with_reducible refine (impl_FlyLawful.calls k1 a0_0 a0_1 _ _ l0_2 a0_3 a0_4 _ _ x8_1 false _ ?side1 ?side2 ?side3 ?side4 A36.out).mono ?_); (case side1 => exact zC HR0_2 HB); (case side2 => exact HC0_2.out); (case side3 => repeat (first | exact (Kd.R_reads' HO_8.out).2.2 | (with_reducible refine Kd.C_alloc ?_ _) | (with_reducible refine Kd.C_drewN ?_ _) | (with_reducible refine Kd.C_drew ?_))); (case side4 => exact (Kd.R_reads' HO_8.out).2.1); rintro e w43 ⟨rfl, hb⟩; replace HO_8 := zA (Kd.R_below (zr HO_8) hb); replace BK349 := zb BK349 hb; replace HB := zE (zs1 HB GE349) hb; (try clear hb); (try clear hb2); (try clear hk); (try clear hi))); try go_wp2_with (first | (go_at_call 28; (with_reducible refine (impl_FlyLawful.calls k1 a0_0 a0_1 _ _ l0_2 a0_3 a0_4 _ _ x8_1 false _ ?side1 ?side2 ?side3 ?side4 A36.out).mono ?_); (case side1 => exact zC HR0_2 HB); (case side2 => exact HC0_2.out); (case side3 => repeat (first | exact (Kd.R_reads' HO_8.out).2.2 | (with_reducible refine Kd.C_alloc ?_ _) | (with_reducible refine Kd.C_drewN ?_ _) | (with_reducible refine Kd.C_drew ?_))); (case side4 => exact (Kd.R_reads' HO_8.out).2.1); rintro e w43 ⟨rfl, hb⟩; replace HO_8 := zA (Kd.R_below (zr HO_8) hb); replace BK349 := zb BK349 hb; replace HB := zE (zs1 HB GE349) hb; (try clear hb); (try clear hb2); (try clear hk); (try clear hi))))
    go_ret2
    exact ⟨_, ze, by first | exact Kd.R_nil _ _ _ _ _ | exact Kd.N_nil _ _ _ _ _ | exact Kd.V_nil _ _ _ _ _ | exact Kd.Q_nil _ _ _ _ _ | exact Kd.S_nil _ _ _ _ _, zs1 HB GE349⟩
   rw [if_pos c7] at H
   have c7b0 : decide ((x8_1.length : Int) ≤ (l0_2.length : Int)) = true := decide_eq_true c7
   have c7b1 : decide (x8_1.length ≤ l0_2.length) = true := decide_eq_true (Int.ofNat_le.mp c7)
   clear c7
   replace H := Option.bind_eq_some_iff.mp H
   obtain ⟨⟨t354, t355, t356⟩, A80, H⟩ := H
   replace H : (if t356 = true then (if x9_1 < (l2.length : Int) then (if 0 ≤ x9_1 then (if x8_1.length < 17592186044416 then (impl_FlyGo.l0 k1 l2 (x8_1 ++ [mn (mx (rd l2 x9_1) t354) t355]) (wrap64 (x9_1 + 1)) a0_0 a0_1 l0_2 a0_3 a0_4) else (none)) else (none)) else (if x8_1.length < 17592186044416 then (impl_FlyGo.l0 k1 l2 (x8_1 ++ [t354]) (wrap64 (x9_1 + 1)) a0_0 a0_1 l0_2 a0_3 a0_4) else (none))) else (some (([] : List Int), false))) = some (r1, r2) := H
   have A8 := zA A80
   clear A80
   by_cases c9 : t356 = true
   rotate_left
   ·replace c9 := Bool.eq_false_iff.mpr c9
    subst c9
    have H1 : (some (([] : List Int), false)) = some (r1, r2) := by rw [if_neg (show ¬ (false = true) by decide)] at H; exact H
    clear H
    have H := H1
    clear H1
    simp only [Option.some.injEq, Prod.mk.injEq] at H
    obtain ⟨rfl, rfl⟩ := H
    obtain ⟨Ao30, co30, eo30⟩ := Kd.R_slice HO_8.out
    subst eo30
    obtain ⟨hcz31_0, hcz31_1, hcz31_2, hcz31_3, hcz31_4⟩ := zd5 BK349
    obtain ⟨hfz31_0, hfz31_1, hfz31_2, hfz31_3, hfz31_4⟩ := zn5 BK349
    go_wp2_with (first | (go_at_call 26; (with_reducible refine (impl_FlyNext.calls k1 a0_0 a0_1 _ _ l0_2 a0_3 a0_4 _ _ x8_1 t354 t355 false _ ?side1 ?side2 ?side3 ?side4 A8.out).mono ?_); (case side1 => exact zC HR0_2 HB); (case side2 => exact HC0_2.out); (case side3 => repeat (first | exact (Kd.R_reads' HO_8.out).2.2 | (with_reducible refine Kd.C_alloc ?_ _) | (with_reducible refine Kd.C_drewN ?_ _) | (with_reducible refine Kd.C_drew ?_))); (case side4 => exact (Kd.R_reads' HO_8.out).2.1); rintro e w32 ⟨rfl, hb⟩; replace HO_8 := zA (Kd.R_below (zr HO_8) hb); replace BK349 := zb BK349 hb; replace HB := zE (zs1 HB GE349) hb; (try clear hb); (try clear hb2); (try clear hk); (try clear hi)) | ((with_reducible refine gate_dst (N := 10) rfl ?_); refine zbx 10 #[.int .i64 0, .int .i64 0] 46 ?_; intro gb357 hg w33 hbox hb; have BK357 := zA hbox; have GW357 := zgs hg (zs1 HB GE349); have GE357 := zgs hg (zs1 HB GE349); have NB349_357 := zne hg BK349; have NB357_349 := znf hg BK349; replace HO_8 := zA (Kd.R_below (zr HO_8) hb); replace BK349 := zb BK349 hb; replace HB := zE (zs1 HB GE349) hb; clear hb hbox hg; have hnb34 := NB357_349.out; have hnc34 := NB349_357.out; obtain ⟨hcz35_0, hcz35_1⟩ := zd2 BK357; obtain ⟨hfz35_0, hfz35_1⟩ := zn2 BK357))
    repeat (go_quiet (first | (go_at_call 26; (with_reducible refine (impl_FlyNext.calls k1 a0_0 a0_1 _ _ l0_2 a0_3 a0_4 _ _ x8_1 t354 t355 false _ ?side1 ?side2 ?side3 ?side4 A8.out).mono ?_); (case side1 => exact zC HR0_2 HB); (case side2 => exact HC0_2.out); (case side3 => repeat (first | exact (Kd.R_reads' HO_8.out).2.2 | (with_reducible refine Kd.C_alloc ?_ _) | (with_reducible refine Kd.C_drewN ?_ _) | (with_reducible refine Kd.C_drew ?_))); (case side4 => exact (Kd.R_reads' HO_8.out).2.1); rintro e w32 ⟨rfl, hb⟩; replace HO_8 := zA (Kd.R_below (zr HO_8) hb); replace BK349 := zb BK349 hb; replace HB := zE (zs1 HB GE349) hb; (try clear hb); (try clear hb2); (try clear hk); (try clear hi)) | ((with_reducible refine gate_dst (N := 10) rfl ?_); refine zbx 10 #[.int .i64 0, .int .i64 0] 46 ?_; intro gb357 hg w33 hbox hb; have BK357 := zA hbox; have GW357 := zgs hg (zs1 HB GE349); have GE357 := zgs hg (zs1 HB GE349); have NB349_357 := zne hg BK349; have NB357_349 := znf hg BK349; replace HO_8 := zA (Kd.R_below (zr HO_8) hb); replace BK349 := zb BK349 hb; replace HB := zE (zs1 HB GE349) hb; clear hb hbox hg; have hnb34 := NB357_349.out; have hnc34 := NB349_357.out; obtain ⟨hcz35_0, hcz35_1⟩ := zd2 BK357; obtain ⟨hfz35_0, hfz35_1⟩ := zn2 BK357)); try go_wp2_with (first | (go_at_call 26; (with_reducible refine (impl_FlyNext.calls k1 a0_0 a0_1 _ _ l0_2 a0_3 a0_4 _ _ x8_1 t354 t355 false _ ?side1 ?side2 ?side3 ?side4 A8.out).mono ?_); (case side1 => exact zC HR0_2 HB); (case side2 => exact HC0_2.out); (case side3 => repeat (first | exact (Kd.R_reads' HO_8.out).2.2 | (with_reducible refine Kd.C_alloc ?_ _) | (with_reducible refine Kd.C_drewN ?_ _) | (with_reducible refine Kd.C_drew ?_))); (case side4 => exact (Kd.R_reads' HO_8.out).2.1); rintro e w32 ⟨rfl, hb⟩; replace HO_8 := zA (Kd.R_below (zr HO_8) hb); replace BK349 := zb BK349 hb; replace HB := zE (zs1 HB GE349) hb; (try clear hb); (try clear hb2); (try clear hk); (try clear hi)) | ((with_reducible refine gate_dst (N := 10) rfl ?_); refine zbx 10 #[.int .i64 0, .int .i64 0] 46 ?_; intro gb357 hg w33 hbox hb; have BK357 := zA hbox; have GW357 := zgs hg (zs1 HB GE349); have GE357 := zgs hg (zs1 HB GE349); have NB349_357 := zne hg BK349; have NB357_349 := znf hg BK349; replace HO_8 := zA (Kd.R_below (zr HO_8) hb); replace BK349 := zb BK349 hb; replace HB := zE (zs1 HB GE349) hb; clear hb hbox hg; have hnb34 := NB357_349.out; have hnc34 := NB349_357.out; obtain ⟨hcz35_0, hcz35_1⟩ := zd2 BK357; obtain ⟨hfz35_0, hfz35_1⟩ := zn2 BK357)))
    go_ret2
    exact ⟨_, ze, by first | exact Kd.R_nil _ _ _ _ _ | exact Kd.N_nil _ _ _ _ _ | exact Kd.V_nil _ _ _ _ _ | exact Kd.Q_nil _ _ _ _ _ | exact Kd.S_nil _ _ _ _ _, zs2 HB GE349 GE357⟩
   subst c9
   have H1 : (if x9_1 < (l2.length : Int) then (if 0 ≤ x9_1 then (if x8_1.length < 17592186044416 then (impl_FlyGo.l0 k1 l2 (x8_1 ++ [mn (mx (rd l2 x9_1) t354) t355]) (wrap64 (x9_1 + 1)) a0_0 a0_1 l0_2 a0_3 a0_4) else (none)) else (none)) else (if x8_1.length < 17592186044416 then (impl_FlyGo.l0 k1 l2 (x8_1 ++ [t354]) (wrap64 (x9_1 + 1)) a0_0 a0_1 l0_2 a0_3 a0_4) else (none))) = some (r1, r2) := by rw [if_pos rfl] at H; exact H
   clear H
   have H := H1
   clear H1
   by_cases c10 : x9_1 < (l2.length : Int)
   rotate_left
   ·rw [if_neg c10] at H
    have c10b0 : decide (x9_1 < (l2.length : Int)) = false := decide_eq_false c10
    clear c10
    by_cases c22 : x8_1.length < 17592186044416
    rotate_left
    ·rw [if_neg c22] at H
     exact absurd H (by simp)
    rw [if_pos c22] at H
    have LMc22 := zA c22
    clear c22
    obtain ⟨y362, hy362⟩ : ∃ y_ : List Int, y_ = (x8_1 ++ [t354]) := ⟨_, rfl⟩
    replace H : (impl_FlyGo.l0 k1 l2 y362 (wrap64 (x9_1 + 1)) a0_0 a0_1 l0_2 a0_3 a0_4) = some (r1, r2) := by first | (rw [hy362]; with_reducible exact H) | (have H2_ := (Option.bind_some _ _).symm.trans H; rw [hy362]; with_reducible exact H2_) | (have H2_ := (Option.bind_some _ _).symm.trans H; with_reducible exact H2_) | with_reducible exact H | (rw [hy362]; exact H) | exact H
    have Ny362 := zA hy362
    clear hy362
    have H' := zA H
    clear H
    obtain ⟨Ao23, co23, eo23⟩ := Kd.R_slice HO_8.out
    subst eo23
    obtain ⟨hcz24_0, hcz24_1, hcz24_2, hcz24_3, hcz24_4⟩ := zd5 BK349
    obtain ⟨hfz24_0, hfz24_1, hfz24_2, hfz24_3, hfz24_4⟩ := zn5 BK349
    go_wp2_with (first | (go_at_call 26; (with_reducible refine (impl_FlyNext.calls k1 a0_0 a0_1 _ _ l0_2 a0_3 a0_4 _ _ x8_1 t354 t355 true _ ?side1 ?side2 ?side3 ?side4 A8.out).mono ?_); (case side1 => exact zC HR0_2 HB); (case side2 => exact HC0_2.out); (case side3 => repeat (first | exact (Kd.R_reads' HO_8.out).2.2 | (with_reducible refine Kd.C_alloc ?_ _) | (with_reducible refine Kd.C_drewN ?_ _) | (with_reducible refine Kd.C_drew ?_))); (case side4 => exact (Kd.R_reads' HO_8.out).2.1); rintro e w25 ⟨rfl, hb⟩; replace HO_8 := zA (Kd.R_below (zr HO_8) hb); replace BK349 := zb BK349 hb; replace HB := zE (zs1 HB GE349) hb; (try clear hb); (try clear hb2); (try clear hk); (try clear hi)) | ((with_reducible refine gate_dst (N := 10) rfl ?_); refine zbx 10 #[.int .i64 0, .int .i64 0] 46 ?_; intro gb357 hg w26 hbox hb; have BK357 := zA hbox; have GW357 := zgs hg (zs1 HB GE349); have GE357 := zgs hg (zs1 HB GE349); have NB349_357 := zne hg BK349; have NB357_349 := znf hg BK349; replace HO_8 := zA (Kd.R_below (zr HO_8) hb); replace BK349 := zb BK349 hb; replace HB := zE (zs1 HB GE349) hb; clear hb hbox hg; have hnb27 := NB357_349.out; have hnc27 := NB349_357.out; obtain ⟨hcz28_0, hcz28_1⟩ := zd2 BK357; obtain ⟨hfz28_0, hfz28_1⟩ := zn2 BK357) | ((with_reducible refine gate_builtin (b := .append) (xs := #[.tmp 47, .tmp 49]) rfl ?_); at_builtin; refine Kd.R_append (Kd.int .i64) (w0 := w) w.heap.size rfl (.tmp 47) (.tmp 49) 27 3 (.int .i64 0) 8 rfl Try.underlying27 info3 rfl (by decide) (by omega) (.slice Ao23 x8_1.length co23) x8_1 t354 [.int .i64 t354] (fun _ => True) (fun _ => False) rfl (by first | (go_simp; done) | (go_simp; rfl)) ?aP (fun _ hk => hk.elim) ?aF ?aO ?aB ?aS ?aL ?_; (case aP => exact rfl); (case aB => exact (zs2 HB GE349 GE357)); (case aF => exact (fun _ _ => trivial)); (case aO => exact (zRf HO_8 BK357 (fun _ hk => trivial))); (case aS => exact (below_size (zs2 HB GE349 GE357))); (case aL => have := LMc22.out; omega); intro v363 w29 ho hb hg hat; rw [← Ny362.out] at ho; have HO364 := zA (ho); replace BK349 := zA (blk_grown (g := gb349) (o := .cells #[.int .i64 a0_0, .int .i64 a0_1, .slice A0_2 l0_2.length c0_2, .int .i64 a0_3, .int .i64 a0_4] 34 (0, 0)) (zpf BK349 NB349_357) hg (Kd.R_ne HO_8.out BK349.out (by decide))); replace BK357 := zA (blk_grown (g := gb357) (o := .cells #[.int .i64 t354, .int .i64 t355] 46 (0, 0)) (zpb BK357) hg (Kd.R_ne HO_8.out BK357.out (by decide))); replace HB := zA (hb); clear HO_8; clear ho hb hg hat))
    repeat (go_quiet (first | (go_at_call 26; (with_reducible refine (impl_FlyNext.calls k1 a0_0 a0_1 _ _ l0_2 a0_3 a0_4 _ _ x8_1 t354 t355 true _ ?side1 ?side2 ?side3 ?side4 A8.out).mono ?_); (case side1 => exact zC HR0_2 HB); (case side2 => exact HC0_2.out); (case side3 => repeat (first | exact (Kd.R_reads' HO_8.out).2.2 | (with_reducible refine Kd.C_alloc ?_ _) | (with_reducible refine Kd.C_drewN ?_ _) | (with_reducible refine Kd.C_drew ?_))); (case side4 => exact (Kd.R_reads' HO_8.out).2.1); rintro e w25 ⟨rfl, hb⟩; replace HO_8 := zA (Kd.R_below (zr HO_8) hb); replace BK349 := zb BK349 hb; replace HB := zE (zs1 HB GE349) hb; (try clear hb); (try clear hb2); (try clear hk); (try clear hi)) | ((with_reducible refine gate_dst (N := 10) rfl ?_); refine zbx 10 #[.int .i64 0, .int .i64 0] 46 ?_; intro gb357 hg w26 hbox hb; have BK357 := zA hbox; have GW357 := zgs hg (zs1 HB GE349); have GE357 := zgs hg (zs1 HB GE349); have NB349_357 := zne hg BK349; have NB357_349 := znf hg BK349; replace HO_8 := zA (Kd.R_below (zr HO_8) hb); replace BK349 := zb BK349 hb; replace HB := zE (zs1 HB GE349) hb; clear hb hbox hg; have hnb27 := NB357_349.out; have hnc27 := NB349_357.out; obtain ⟨hcz28_0, hcz28_1⟩ := zd2 BK357; obtain ⟨hfz28_0, hfz28_1⟩ := zn2 BK357) | ((with_reducible refine gate_builtin (b := .append) (xs := #[.tmp 47, .tmp 49]) rfl ?_); at_builtin; refine Kd.R_append (Kd.int .i64) (w0 := w) w.heap.size rfl (.tmp 47) (.tmp 49) 27 3 (.int .i64 0) 8 rfl Try.underlying27 info3 rfl (by decide) (by omega) (.slice Ao23 x8_1.length co23) x8_1 t354 [.int .i64 t354] (fun _ => True) (fun _ => False) rfl (by first | (go_simp; done) | (go_simp; rfl)) ?aP (fun _ hk => hk.elim) ?aF ?aO ?aB ?aS ?aL ?_; (case aP => exact rfl); (case aB => exact (zs2 HB GE349 GE357)); (case aF => exact (fun _ _ => trivial)); (case aO => exact (zRf HO_8 BK357 (fun _ hk => trivial))); (case aS => exact (below_size (zs2 HB GE349 GE357))); (case aL => have := LMc22.out; omega); intro v363 w29 ho hb hg hat; rw [← Ny362.out] at ho; have HO364 := zA (ho); replace BK349 := zA (blk_grown (g := gb349) (o := .cells #[.int .i64 a0_0, .int .i64 a0_1, .slice A0_2 l0_2.length c0_2, .int .i64 a0_3, .int .i64 a0_4] 34 (0, 0)) (zpf BK349 NB349_357) hg (Kd.R_ne HO_8.out BK349.out (by decide))); replace BK357 := zA (blk_grown (g := gb357) (o := .cells #[.int .i64 t354, .int .i64 t355] 46 (0, 0)) (zpb BK357) hg (Kd.R_ne HO_8.out BK357.out (by decide))); replace HB := zA (hb); clear HO_8; clear ho hb hg hat)); try go_wp2_with (first | (go_at_call 26; (with_reducible refine (impl_FlyNext.calls k1 a0_0 a0_1 _ _ l0_2 a0_3 a0_4 _ _ x8_1 t354 t355 true _ ?side1 ?side2 ?side3 ?side4 A8.out).mono ?_); (case side1 => exact zC HR0_2 HB); (case side2 => exact HC0_2.out); (case side3 => repeat (first | exact (Kd.R_reads' HO_8.out).2.2 | (with_reducible refine Kd.C_alloc ?_ _) | (with_reducible refine Kd.C_drewN ?_ _) | (with_reducible refine Kd.C_drew ?_))); (case side4 => exact (Kd.R_reads' HO_8.out).2.1); rintro e w25 ⟨rfl, hb⟩; replace HO_8 := zA (Kd.R_below (zr HO_8) hb); replace BK349 := zb BK349 hb; replace HB := zE (zs1 HB GE349) hb; (try clear hb); (try clear hb2); (try clear hk); (try clear hi)) | ((with_reducible refine gate_dst (N := 10) rfl ?_); refine zbx 10 #[.int .i64 0, .int .i64 0] 46 ?_; intro gb357 hg w26 hbox hb; have BK357 := zA hbox; have GW357 := zgs hg (zs1 HB GE349); have GE357 := zgs hg (zs1 HB GE349); have NB349_357 := zne hg BK349; have NB357_349 := znf hg BK349; replace HO_8 := zA (Kd.R_below (zr HO_8) hb); replace BK349 := zb BK349 hb; replace HB := zE (zs1 HB GE349) hb; clear hb hbox hg; have hnb27 := NB357_349.out; have hnc27 := NB349_357.out; obtain ⟨hcz28_0, hcz28_1⟩ := zd2 BK357; obtain ⟨hfz28_0, hfz28_1⟩ := zn2 BK357) | ((with_reducible refine gate_builtin (b := .append) (xs := #[.tmp 47, .tmp 49]) rfl ?_); at_builtin; refine Kd.R_append (Kd.int .i64) (w0 := w) w.heap.size rfl (.tmp 47) (.tmp 49) 27 3 (.int .i64 0) 8 rfl Try.underlying27 info3 rfl (by decide) (by omega) (.slice Ao23 x8_1.length co23) x8_1 t354 [.int .i64 t354] (fun _ => True) (fun _ => False) rfl (by first | (go_simp; done) | (go_simp; rfl)) ?aP (fun _ hk => hk.elim) ?aF ?aO ?aB ?aS ?aL ?_; (case aP => exact rfl); (case aB => exact (zs2 HB GE349 GE357)); (case aF => exact (fun _ _ => trivial)); (case aO => exact (zRf HO_8 BK357 (fun _ hk => trivial))); (case aS => exact (below_size (zs2 HB GE349 GE357))); (case aL => have := LMc22.out; omega); intro v363 w29 ho hb hg hat; rw [← Ny362.out] at ho; have HO364 := zA (ho); replace BK349 := zA (blk_grown (g := gb349) (o := .cells #[.int .i64 a0_0, .int .i64 a0_1, .slice A0_2 l0_2.length c0_2, .int .i64 a0_3, .int .i64 a0_4] 34 (0, 0)) (zpf BK349 NB349_357) hg (Kd.R_ne HO_8.out BK349.out (by decide))); replace BK357 := zA (blk_grown (g := gb357) (o := .cells #[.int .i64 t354, .int .i64 t355] 46 (0, 0)) (zpb BK357) hg (Kd.R_ne HO_8.out BK357.out (by decide))); replace HB := zA (hb); clear HO_8; clear ho hb hg hat)))
    go_roundg k1
    case measure => have := HK1.out; omega
    case rel => exact ⟨(y362), (wrap64 (x9_1 + 1)), zi, H', ⟨by have := HK1.out; omega⟩, ⟨zr HO364⟩, ⟨zh BK349⟩, ⟨zs2 HB GE349 GE357⟩⟩
   rw [if_pos c10] at H
   have c10b0 : decide (x9_1 < (l2.length : Int)) = true := decide_eq_true c10
   clear c10
   by_cases c11 : 0 ≤ x9_1
   rotate_left
   ·rw [if_neg c11] at H
    exact absurd H (by simp)
   rw [if_pos c11] at H
   have c11b0 : decide (0 ≤ x9_1) = true := decide_eq_true c11
   clear c11
   obtain ⟨ji12, hji12⟩ : ∃ j_ : Int, (mx (rd l2 x9_1) t354) = j_ := ⟨_, rfl⟩
   first | rw [hji12] at H | simp only [hji12] at H
   (try rw [hji12] at A8)
   have hji12_ : (if (rd l2 x9_1) < t354 then t354 else (rd l2 x9_1)) = ji12 := hji12
   obtain ⟨ji13, hji13⟩ : ∃ j_ : Int, (mn (ji12) t355) = j_ := ⟨_, rfl⟩
   first | rw [hji13] at H | simp only [hji13] at H
   (try rw [hji13] at A8)
   have hji13_ : (if t355 < (ji12) then t355 else (ji12)) = ji13 := hji13
   by_cases c14 : x8_1.length < 17592186044416
   rotate_left
   ·rw [if_neg c14] at H
    exact absurd H (by simp)
   rw [if_pos c14] at H
   have LMc14 := zA c14
   clear c14
   obtain ⟨y359, hy359⟩ : ∃ y_ : List Int, y_ = (x8_1 ++ [ji13]) := ⟨_, rfl⟩
   replace H : (impl_FlyGo.l0 k1 l2 y359 (wrap64 (x9_1 + 1)) a0_0 a0_1 l0_2 a0_3 a0_4) = some (r1, r2) := by first | (rw [hy359]; with_reducible exact H) | (have H2_ := (Option.bind_some _ _).symm.trans H; rw [hy359]; with_reducible exact H2_) | (have H2_ := (Option.bind_some _ _).symm.trans H; with_reducible exact H2_) | with_reducible exact H | (rw [hy359]; exact H) | exact H
   have Ny359 := zA hy359
   clear hy359
   have H' := zA H
   clear H
   obtain ⟨Ao15, co15, eo15⟩ := Kd.R_slice HO_8.out
   subst eo15
   obtain ⟨hcz16_0, hcz16_1, hcz16_2, hcz16_3, hcz16_4⟩ := zd5 BK349
   obtain ⟨hfz16_0, hfz16_1, hfz16_2, hfz16_3, hfz16_4⟩ := zn5 BK349
   go_wp2_with (first | (go_at_call 26; (with_reducible refine (impl_FlyNext.calls k1 a0_0 a0_1 _ _ l0_2 a0_3 a0_4 _ _ x8_1 t354 t355 true _ ?side1 ?side2 ?side3 ?side4 A8.out).mono ?_); (case side1 => exact zC HR0_2 HB); (case side2 => exact HC0_2.out); (case side3 => repeat (first | exact (Kd.R_reads' HO_8.out).2.2 | (with_reducible refine Kd.C_alloc ?_ _) | (with_reducible refine Kd.C_drewN ?_ _) | (with_reducible refine Kd.C_drew ?_))); (case side4 => exact (Kd.R_reads' HO_8.out).2.1); rintro e w17 ⟨rfl, hb⟩; replace HO_8 := zA (Kd.R_below (zr HO_8) hb); replace BK349 := zb BK349 hb; replace HB := zE (zs1 HB GE349) hb; (try clear hb); (try clear hb2); (try clear hk); (try clear hi)) | ((with_reducible refine gate_dst (N := 10) rfl ?_); refine zbx 10 #[.int .i64 0, .int .i64 0] 46 ?_; intro gb357 hg w18 hbox hb; have BK357 := zA hbox; have GW357 := zgs hg (zs1 HB GE349); have GE357 := zgs hg (zs1 HB GE349); have NB349_357 := zne hg BK349; have NB357_349 := znf hg BK349; replace HO_8 := zA (Kd.R_below (zr HO_8) hb); replace BK349 := zb BK349 hb; replace HB := zE (zs1 HB GE349) hb; clear hb hbox hg; have hnb19 := NB357_349.out; have hnc19 := NB349_357.out; obtain ⟨hcz20_0, hcz20_1⟩ := zd2 BK357; obtain ⟨hfz20_0, hfz20_1⟩ := zn2 BK357; have p358 : 0 ≤ (x9_1 : Int) := za; have q358 : x9_1 < (l2.length : Int) := za; obtain ⟨ad358, e358, hx358_0⟩ := Kd.at_int HR2.out x9_1 p358 q358; cases e358; have hn358_0 : ad358.block ≠ gb357 := Nat.ne_of_lt (Nat.lt_of_lt_of_le (by have := World.block_lt_of_cell? _ _ hx358_0; first | rwa [add_block] at this | exact this) GW357.out); have hn358_1 : ad358.block ≠ gb357 := Nat.ne_of_lt (Nat.lt_of_lt_of_le (by have := World.block_lt_of_cell? _ _ hx358_0; first | rwa [add_block] at this | exact this) GW357.out); replace hx358_0 := zx HB hx358_0; replace hx358_0 := (cell_far (p := ⟨gb357, 0, none⟩) (by first | (rw [add_block]; exact hn358_0) | (show (Addr.add _ _).block ≠ _; rw [add_block]; exact hn358_0) | exact hn358_0) (.int .i64 t354)).trans hx358_0; replace hx358_0 := (cell_far (p := ⟨gb357, 1, none⟩) (by first | (rw [add_block]; exact hn358_1) | (show (Addr.add _ _).block ≠ _; rw [add_block]; exact hn358_1) | exact hn358_1) (.int .i64 t355)).trans hx358_0; (try have hy358_0 := fun (n_ : Nat) => (show ((((w18.drewN n_).setCell ⟨gb357, 0, none⟩ (.int .i64 t354)).setCell ⟨gb357, 1, none⟩ (.int .i64 t355))).cell? _ = some _ from hx358_0)); clear hn358_0; clear hn358_1; replace p358 := eq_true p358; replace q358 := eq_true q358) | ((with_reducible refine gate_builtin (b := .append) (xs := #[.tmp 47, .tmp 49]) rfl ?_); at_builtin; refine Kd.R_append (Kd.int .i64) (w0 := w) w.heap.size rfl (.tmp 47) (.tmp 49) 27 3 (.int .i64 0) 8 rfl Try.underlying27 info3 rfl (by decide) (by omega) (.slice Ao15 x8_1.length co15) x8_1 ji13 [.int .i64 ji13] (fun _ => True) (fun _ => False) rfl (by first | (go_simp; done) | (go_simp; rfl)) ?aP (fun _ hk => hk.elim) ?aF ?aO ?aB ?aS ?aL ?_; (case aP => exact rfl); (case aB => exact (zs2 HB GE349 GE357)); (case aF => exact (fun _ _ => trivial)); (case aO => exact (zRf HO_8 BK357 (fun _ hk => trivial))); (case aS => exact (below_size (zs2 HB GE349 GE357))); (case aL => have := LMc14.out; omega); intro v360 w21 ho hb hg hat; rw [← Ny359.out] at ho; have HO361 := zA (ho); replace BK349 := zA (blk_grown (g := gb349) (o := .cells #[.int .i64 a0_0, .int .i64 a0_1, .slice A0_2 l0_2.length c0_2, .int .i64 a0_3, .int .i64 a0_4] 34 (0, 0)) (zpf BK349 NB349_357) hg (Kd.R_ne HO_8.out BK349.out (by decide))); replace BK357 := zA (blk_grown (g := gb357) (o := .cells #[.int .i64 t354, .int .i64 t355] 46 (0, 0)) (zpb BK357) hg (Kd.R_ne HO_8.out BK357.out (by decide))); replace HB := zA (hb); clear HO_8; clear ho hb hg hat))
   repeat (go_quiet (first | (go_at_call 26; (with_reducible refine (impl_FlyNext.calls k1 a0_0 a0_1 _ _ l0_2 a0_3 a0_4 _ _ x8_1 t354 t355 true _ ?side1 ?side2 ?side3 ?side4 A8.out).mono ?_); (case side1 => exact zC HR0_2 HB); (case side2 => exact HC0_2.out); (case side3 => repeat (first | exact (Kd.R_reads' HO_8.out).2.2 | (with_reducible refine Kd.C_alloc ?_ _) | (with_reducible refine Kd.C_drewN ?_ _) | (with_reducible refine Kd.C_drew ?_))); (case side4 => exact (Kd.R_reads' HO_8.out).2.1); rintro e w17 ⟨rfl, hb⟩; replace HO_8 := zA (Kd.R_below (zr HO_8) hb); replace BK349 := zb BK349 hb; replace HB := zE (zs1 HB GE349) hb; (try clear hb); (try clear hb2); (try clear hk); (try clear hi)) | ((with_reducible refine gate_dst (N := 10) rfl ?_); refine zbx 10 #[.int .i64 0, .int .i64 0] 46 ?_; intro gb357 hg w18 hbox hb; have BK357 := zA hbox; have GW357 := zgs hg (zs1 HB GE349); have GE357 := zgs hg (zs1 HB GE349); have NB349_357 := zne hg BK349; have NB357_349 := znf hg BK349; replace HO_8 := zA (Kd.R_below (zr HO_8) hb); replace BK349 := zb BK349 hb; replace HB := zE (zs1 HB GE349) hb; clear hb hbox hg; have hnb19 := NB357_349.out; have hnc19 := NB349_357.out; obtain ⟨hcz20_0, hcz20_1⟩ := zd2 BK357; obtain ⟨hfz20_0, hfz20_1⟩ := zn2 BK357; have p358 : 0 ≤ (x9_1 : Int) := za; have q358 : x9_1 < (l2.length : Int) := za; obtain ⟨ad358, e358, hx358_0⟩ := Kd.at_int HR2.out x9_1 p358 q358; cases e358; have hn358_0 : ad358.block ≠ gb357 := Nat.ne_of_lt (Nat.lt_of_lt_of_le (by have := World.block_lt_of_cell? _ _ hx358_0; first | rwa [add_block] at this | exact this) GW357.out); have hn358_1 : ad358.block ≠ gb357 := Nat.ne_of_lt (Nat.lt_of_lt_of_le (by have := World.block_lt_of_cell? _ _ hx358_0; first | rwa [add_block] at this | exact this) GW357.out); replace hx358_0 := zx HB hx358_0; replace hx358_0 := (cell_far (p := ⟨gb357, 0, none⟩) (by first | (rw [add_block]; exact hn358_0) | (show (Addr.add _ _).block ≠ _; rw [add_block]; exact hn358_0) | exact hn358_0) (.int .i64 t354)).trans hx358_0; replace hx358_0 := (cell_far (p := ⟨gb357, 1, none⟩) (by first | (rw [add_block]; exact hn358_1) | (show (Addr.add _ _).block ≠ _; rw [add_block]; exact hn358_1) | exact hn358_1) (.int .i64 t355)).trans hx358_0; (try have hy358_0 := fun (n_ : Nat) => (show ((((w18.drewN n_).setCell ⟨gb357, 0, none⟩ (.int .i64 t354)).setCell ⟨gb357, 1, none⟩ (.int .i64 t355))).cell? _ = some _ from hx358_0)); clear hn358_0; clear hn358_1; replace p358 := eq_true p358; replace q358 := eq_true q358) | ((with_reducible refine gate_builtin (b := .append) (xs := #[.tmp 47, .tmp 49]) rfl ?_); at_builtin; refine Kd.R_append (Kd.int .i64) (w0 := w) w.heap.size rfl (.tmp 47) (.tmp 49) 27 3 (.int .i64 0) 8 rfl Try.underlying27 info3 rfl (by decide) (by omega) (.slice Ao15 x8_1.length co15) x8_1 ji13 [.int .i64 ji13] (fun _ => True) (fun _ => False) rfl (by first | (go_simp; done) | (go_simp; rfl)) ?aP (fun _ hk => hk.elim) ?aF ?aO ?aB ?aS ?aL ?_; (case aP => exact rfl); (case aB => exact (zs2 HB GE349 GE357)); (case aF => exact (fun _ _ => trivial)); (case aO => exact (zRf HO_8 BK357 (fun _ hk => trivial))); (case aS => exact (below_size (zs2 HB GE349 GE357))); (case aL => have := LMc14.out; omega); intro v360 w21 ho hb hg hat; rw [← Ny359.out] at ho; have HO361 := zA (ho); replace BK349 := zA (blk_grown (g := gb349) (o := .cells #[.int .i64 a0_0, .int .i64 a0_1, .slice A0_2 l0_2.length c0_2, .int .i64 a0_3, .int .i64 a0_4] 34 (0, 0)) (zpf BK349 NB349_357) hg (Kd.R_ne HO_8.out BK349.out (by decide))); replace BK357 := zA (blk_grown (g := gb357) (o := .cells #[.int .i64 t354, .int .i64 t355] 46 (0, 0)) (zpb BK357) hg (Kd.R_ne HO_8.out BK357.out (by decide))); replace HB := zA (hb); clear HO_8; clear ho hb hg hat)); try go_wp2_with (first | (go_at_call 26; (with_reducible refine (impl_FlyNext.calls k1 a0_0 a0_1 _ _ l0_2 a0_3 a0_4 _ _ x8_1 t354 t355 true _ ?side1 ?side2 ?side3 ?side4 A8.out).mono ?_); (case side1 => exact zC HR0_2 HB); (case side2 => exact HC0_2.out); (case side3 => repeat (first | exact (Kd.R_reads' HO_8.out).2.2 | (with_reducible refine Kd.C_alloc ?_ _) | (with_reducible refine Kd.C_drewN ?_ _) | (with_reducible refine Kd.C_drew ?_))); (case side4 => exact (Kd.R_reads' HO_8.out).2.1); rintro e w17 ⟨rfl, hb⟩; replace HO_8 := zA (Kd.R_below (zr HO_8) hb); replace BK349 := zb BK349 hb; replace HB := zE (zs1 HB GE349) hb; (try clear hb); (try clear hb2); (try clear hk); (try clear hi)) | ((with_reducible refine gate_dst (N := 10) rfl ?_); refine zbx 10 #[.int .i64 0, .int .i64 0] 46 ?_; intro gb357 hg w18 hbox hb; have BK357 := zA hbox; have GW357 := zgs hg (zs1 HB GE349); have GE357 := zgs hg (zs1 HB GE349); have NB349_357 := zne hg BK349; have NB357_349 := znf hg BK349; replace HO_8 := zA (Kd.R_below (zr HO_8) hb); replace BK349 := zb BK349 hb; replace HB := zE (zs1 HB GE349) hb; clear hb hbox hg; have hnb19 := NB357_349.out; have hnc19 := NB349_357.out; obtain ⟨hcz20_0, hcz20_1⟩ := zd2 BK357; obtain ⟨hfz20_0, hfz20_1⟩ := zn2 BK357; have p358 : 0 ≤ (x9_1 : Int) := za; have q358 : x9_1 < (l2.length : Int) := za; obtain ⟨ad358, e358, hx358_0⟩ := Kd.at_int HR2.out x9_1 p358 q358; cases e358; have hn358_0 : ad358.block ≠ gb357 := Nat.ne_of_lt (Nat.lt_of_lt_of_le (by have := World.block_lt_of_cell? _ _ hx358_0; first | rwa [add_block] at this | exact this) GW357.out); have hn358_1 : ad358.block ≠ gb357 := Nat.ne_of_lt (Nat.lt_of_lt_of_le (by have := World.block_lt_of_cell? _ _ hx358_0; first | rwa [add_block] at this | exact this) GW357.out); replace hx358_0 := zx HB hx358_0; replace hx358_0 := (cell_far (p := ⟨gb357, 0, none⟩) (by first | (rw [add_block]; exact hn358_0) | (show (Addr.add _ _).block ≠ _; rw [add_block]; exact hn358_0) | exact hn358_0) (.int .i64 t354)).trans hx358_0; replace hx358_0 := (cell_far (p := ⟨gb357, 1, none⟩) (by first | (rw [add_block]; exact hn358_1) | (show (Addr.add _ _).block ≠ _; rw [add_block]; exact hn358_1) | exact hn358_1) (.int .i64 t355)).trans hx358_0; (try have hy358_0 := fun (n_ : Nat) => (show ((((w18.drewN n_).setCell ⟨gb357, 0, none⟩ (.int .i64 t354)).setCell ⟨gb357, 1, none⟩ (.int .i64 t355))).cell? _ = some _ from hx358_0)); clear hn358_0; clear hn358_1; replace p358 := eq_true p358; replace q358 := eq_true q358) | ((with_reducible refine gate_builtin (b := .append) (xs := #[.tmp 47, .tmp 49]) rfl ?_); at_builtin; refine Kd.R_append (Kd.int .i64) (w0 := w) w.heap.size rfl (.tmp 47) (.tmp 49) 27 3 (.int .i64 0) 8 rfl Try.underlying27 info3 rfl (by decide) (by omega) (.slice Ao15 x8_1.length co15) x8_1 ji13 [.int .i64 ji13] (fun _ => True) (fun _ => False) rfl (by first | (go_simp; done) | (go_simp; rfl)) ?aP (fun _ hk => hk.elim) ?aF ?aO ?aB ?aS ?aL ?_; (case aP => exact rfl); (case aB => exact (zs2 HB GE349 GE357)); (case aF => exact (fun _ _ => trivial)); (case aO => exact (zRf HO_8 BK357 (fun _ hk => trivial))); (case aS => exact (below_size (zs2 HB GE349 GE357))); (case aL => have := LMc14.out; omega); intro v360 w21 ho hb hg hat; rw [← Ny359.out] at ho; have HO361 := zA (ho); replace BK349 := zA (blk_grown (g := gb349) (o := .cells #[.int .i64 a0_0, .int .i64 a0_1, .slice A0_2 l0_2.length c0_2, .int .i64 a0_3, .int .i64 a0_4] 34 (0, 0)) (zpf BK349 NB349_357) hg (Kd.R_ne HO_8.out BK349.out (by decide))); replace BK357 := zA (blk_grown (g := gb357) (o := .cells #[.int .i64 t354, .int .i64 t355] 46 (0, 0)) (zpb BK357) hg (Kd.R_ne HO_8.out BK357.out (by decide))); replace HB := zA (hb); clear HO_8; clear ho hb hg hat)))
   go_roundg k1
   case measure => have := HK1.out; omega
   case rel => exact ⟨(y359), (wrap64 (x9_1 + 1)), zi, H', ⟨by have := HK1.out; omega⟩, ⟨zr HO361⟩, ⟨zh BK349⟩, ⟨zs2 HB GE349 GE357⟩⟩
def laws_eqIntS.l0 : Nat → List Int → List Int → Int → Option (Bool)
 | 0, _, _, _ => none
 | k + 1, x0, x1, x5 => if x5 < (x0.length : Int) then (if 0 ≤ x5 then (if x5 < (x1.length : Int) then (if (rd x0 x5) = (rd x1 x5) then (laws_eqIntS.l0 k x0 x1 (wrap64 (x5 + 1))) else (some false)) else (none)) else (none)) else (some true)
def laws_eqIntS.f (k : Nat) (l0 : List Int) (l1 : List Int) : Option (Bool) := if (l0.length : Int) = (l1.length : Int) then (laws_eqIntS.l0 k l0 l1 0) else (some false)
set_option maxHeartbeats 8000000 in
set_option maxRecDepth 100000 in
theorem laws_eqIntS.calls (k : Nat) (A0 : Option Addr) (c0 : Nat) (l0 : List Int) (A1 : Option Addr) (c1 : Nat) (l1 : List Int) (r : Bool) (w : World) (hr0 : Kd.C (Kd.int .i64) w A0 l0.length l0) (hc0 : l0.length ≤ c0) (hr1 : Kd.C (Kd.int .i64) w A1 l1.length l1) (hc1 : l1.length ≤ c1) (h : laws_eqIntS.f k l0 l1 = some r) :
 Calls Try.prog 20 #[.slice A0 l0.length c0, .slice A1 l1.length c1] w fun e w' => e = .returned (.bool r) ∧ Drawn0 w w' := by
 have HR0 := zA hr0
 have HC0 := zA hc0
 clear hr0 hc0
 have HR1 := zA hr1
 have HC1 := zA hc1
 clear hr1 hc1
 have H : (if (l0.length : Int) = (l1.length : Int) then (laws_eqIntS.l0 k l0 l1 0) else (some false)) = some r := h
 clear h
 by_cases c3 : (l0.length : Int) = (l1.length : Int)
 rotate_left
 ·rw [if_neg c3] at H
  have c3b0 : ((l0.length : Int) == (l1.length : Int)) = false := beq_eq_false_iff_ne.mpr c3
  have c3b1 : ((l0.length : Int) != (l1.length : Int)) = true := bne_iff_ne.mpr c3
  have c3b2 : (l0.length == l1.length) = false := by first | simpa using c3 | (simp at c3 ⊢; omega)
  obtain rfl := Option.some.inj H
  go_enter Try.func20, Try.ntmps20
  go_wp2
  repeat (go_quiet (fail); try go_wp2)
  go_ret
  exact ⟨by first | rfl | (simp; done) | (simp [*]; done), by repeat (first | exact Drawn0.refl _ | apply Drawn0.step)⟩
 rw [if_pos c3] at H
 have c3b0 : ((l0.length : Int) == (l1.length : Int)) = true := beq_iff_eq.mpr c3
 have c3b1 : ((l0.length : Int) != (l1.length : Int)) = false := bne_eq_false_iff_eq.mpr c3
 have c3b2 : (l0.length == l1.length) = true := by first | simpa using c3 | (simp at c3 ⊢; omega)
 clear c3
 have H' := zA H
 clear H
 go_enter Try.func20, Try.ntmps20
 go_wp2
 repeat (go_quiet (fail); try go_wp2)
 go_loopg [5] k (fun kq v5 w' => ∃ (x5_1 : Int), v5 = .int .i64 x5_1 ∧ Aside0 (laws_eqIntS.l0 kq l0 l1 x5_1 = some r) ∧ Aside0 (kq ≤ k) ∧ Drawn0 w w')
 case atStart => exact ⟨(0), zi, H', ⟨Nat.le_refl _⟩, by repeat (first | exact Drawn0.refl _ | apply Drawn0.step)⟩
 case round =>
  clear H'
  try clear c1
  try clear c2
  try clear p2
  try clear c3
  try clear c3b0
  try clear c3b1
  try clear c3b2
  obtain ⟨x5_1, rfl, HA, HK1, ⟨m1, rfl⟩⟩ := hrel
  cases gk with
  | zero => exact absurd HA.out (by simp [laws_eqIntS.l0])
  | succ k1 =>
   have H := HA.out
   clear HA
   simp only [laws_eqIntS.l0] at H
   by_cases c4 : x5_1 < (l0.length : Int)
   rotate_left
   ·rw [if_neg c4] at H
    have c4b0 : decide (x5_1 < (l0.length : Int)) = false := decide_eq_false c4
    clear c4
    obtain rfl := Option.some.inj H
    go_wp2
    repeat (go_quiet (fail); try go_wp2)
    go_ret
    exact ⟨by first | rfl | (simp; done) | (simp [*]; done), by repeat (first | exact Drawn0.refl _ | apply Drawn0.step)⟩
   rw [if_pos c4] at H
   have c4b0 : decide (x5_1 < (l0.length : Int)) = true := decide_eq_true c4
   clear c4
   by_cases c5 : 0 ≤ x5_1
   rotate_left
   ·rw [if_neg c5] at H
    exact absurd H (by simp)
   rw [if_pos c5] at H
   have c5b0 : decide (0 ≤ x5_1) = true := decide_eq_true c5
   clear c5
   by_cases c6 : x5_1 < (l1.length : Int)
   rotate_left
   ·rw [if_neg c6] at H
    exact absurd H (by simp)
   rw [if_pos c6] at H
   have c6b0 : decide (x5_1 < (l1.length : Int)) = true := decide_eq_true c6
   clear c6
   by_cases c7 : (rd l0 x5_1) = (rd l1 x5_1)
   rotate_left
   ·rw [if_neg c7] at H
    have c7b0 : ((rd l0 x5_1) == (rd l1 x5_1)) = false := beq_eq_false_iff_ne.mpr c7
    have c7b1 : ((rd l0 x5_1) != (rd l1 x5_1)) = true := bne_iff_ne.mpr c7
    obtain rfl := Option.some.inj H
    have p365 : 0 ≤ (x5_1 : Int) := za
    have q365 : x5_1 < (l0.length : Int) := za
    obtain ⟨ad365, e365, hx365_0⟩ := Kd.at_int HR0.out x5_1 p365 q365
    cases e365
    replace p365 := eq_true p365
    replace q365 := eq_true q365
    have p366 : 0 ≤ (x5_1 : Int) := za
    have q366 : x5_1 < (l1.length : Int) := za
    obtain ⟨ad366, e366, hx366_0⟩ := Kd.at_int HR1.out x5_1 p366 q366
    cases e366
    replace p366 := eq_true p366
    replace q366 := eq_true q366
    go_wp2
    repeat (go_quiet (fail); try go_wp2)
    go_ret
    exact ⟨by first | rfl | (simp; done) | (simp [*]; done), by repeat (first | exact Drawn0.refl _ | apply Drawn0.step)⟩
   rw [if_pos c7] at H
   have c7b0 : ((rd l0 x5_1) == (rd l1 x5_1)) = true := beq_iff_eq.mpr c7
   have c7b1 : ((rd l0 x5_1) != (rd l1 x5_1)) = false := bne_eq_false_iff_eq.mpr c7
   clear c7
   have H' := zA H
   clear H
   have p365 : 0 ≤ (x5_1 : Int) := za
   have q365 : x5_1 < (l0.length : Int) := za
   obtain ⟨ad365, e365, hx365_0⟩ := Kd.at_int HR0.out x5_1 p365 q365
   cases e365
   replace p365 := eq_true p365
   replace q365 := eq_true q365
   have p366 : 0 ≤ (x5_1 : Int) := za
   have q366 : x5_1 < (l1.length : Int) := za
   obtain ⟨ad366, e366, hx366_0⟩ := Kd.at_int HR1.out x5_1 p366 q366
   cases e366
   replace p366 := eq_true p366
   replace q366 := eq_true q366
   go_wp2
   repeat (go_quiet (fail); try go_wp2)
   go_roundg k1
   case measure => have := HK1.out; omega
   case rel => exact ⟨(wrap64 (x5_1 + 1)), zi, H', ⟨by have := HK1.out; omega⟩, by repeat (first | exact Drawn0.refl _ | apply Drawn0.step)⟩
def laws_eqFlyKind.f (a0_0 : Int) (a0_1 : Int) (a1_0 : Int) (a1_1 : Int) : Option (Bool) := if a0_0 = a1_0 then (if a0_1 = a1_1 then (some true) else (some false)) else (some false)
set_option maxHeartbeats 8000000 in
set_option maxRecDepth 100000 in
theorem laws_eqFlyKind.calls (a0_0 : Int) (a0_1 : Int) (a1_0 : Int) (a1_1 : Int) (r : Bool) (w : World) (h : laws_eqFlyKind.f a0_0 a0_1 a1_0 a1_1 = some r) :
 Calls Try.prog 57 #[.agg #[.int .i64 a0_0, .int .i64 a0_1], .agg #[.int .i64 a1_0, .int .i64 a1_1]] w fun e w' => e = .returned (.bool r) ∧ Below w.heap.size w w' := by
 have hu31 := Try.underlying31
 have HB := zA (Below.refl w.heap.size w)
 have H : (if a0_0 = a1_0 then (if a0_1 = a1_1 then (some true) else (some false)) else (some false)) = some r := h
 clear h
 by_cases c3 : a0_0 = a1_0
 rotate_left
 ·rw [if_neg c3] at H
  have c3b0 : (a0_0 == a1_0) = false := beq_eq_false_iff_ne.mpr c3
  have c3b1 : (a0_0 != a1_0) = true := bne_iff_ne.mpr c3
  obtain rfl := Option.some.inj H
  go_enter Try.func57, Try.ntmps57
  go_wp2_with (first | ((with_reducible refine gate_dst (N := 2) rfl ?_); refine zbx 2 #[.int .i64 a0_0, .int .i64 a0_1] 31 ?_; intro gb367 hg w15 hbox hb; have BK367 := zA hbox; have GW367 := zgs hg (zs0 HB); have GE367 := zgs hg (zs0 HB); replace HB := zE (zs0 HB) hb; clear hb hbox hg) | ((with_reducible refine gate_dst (N := 3) rfl ?_); refine zbx 3 #[.int .i64 a1_0, .int .i64 a1_1] 31 ?_; intro gb368 hg w16 hbox hb; have BK368 := zA hbox; have GW368 := zgs hg (zs1 HB GE367); have GE368 := zgs hg (zs1 HB GE367); have NB367_368 := zne hg BK367; have NB368_367 := znf hg BK367; replace BK367 := zb BK367 hb; replace HB := zE (zs1 HB GE367) hb; clear hb hbox hg; have hnb17 := NB367_368.out; have hnc17 := NB368_367.out; obtain ⟨hcz18_0, hcz18_1⟩ := zd2 BK367; obtain ⟨hfz18_0, hfz18_1⟩ := zn2 BK367; obtain ⟨hcz19_0, hcz19_1⟩ := zd2 BK368; obtain ⟨hfz19_0, hfz19_1⟩ := zn2 BK368))
  go_ret
  exact ⟨ze, zs2 HB GE367 GE368⟩
 rw [if_pos c3] at H
 have c3b0 : (a0_0 == a1_0) = true := beq_iff_eq.mpr c3
 have c3b1 : (a0_0 != a1_0) = false := bne_eq_false_iff_eq.mpr c3
 clear c3
 by_cases c4 : a0_1 = a1_1
 ·rw [if_pos c4] at H
  have c4b0 : (a0_1 == a1_1) = true := beq_iff_eq.mpr c4
  have c4b1 : (a0_1 != a1_1) = false := bne_eq_false_iff_eq.mpr c4
  clear c4
  obtain rfl := Option.some.inj H
  go_enter Try.func57, Try.ntmps57
  go_wp2_with (first | ((with_reducible refine gate_dst (N := 2) rfl ?_); refine zbx 2 #[.int .i64 a0_0, .int .i64 a0_1] 31 ?_; intro gb367 hg w5 hbox hb; have BK367 := zA hbox; have GW367 := zgs hg (zs0 HB); have GE367 := zgs hg (zs0 HB); replace HB := zE (zs0 HB) hb; clear hb hbox hg) | ((with_reducible refine gate_dst (N := 3) rfl ?_); refine zbx 3 #[.int .i64 a1_0, .int .i64 a1_1] 31 ?_; intro gb368 hg w6 hbox hb; have BK368 := zA hbox; have GW368 := zgs hg (zs1 HB GE367); have GE368 := zgs hg (zs1 HB GE367); have NB367_368 := zne hg BK367; have NB368_367 := znf hg BK367; replace BK367 := zb BK367 hb; replace HB := zE (zs1 HB GE367) hb; clear hb hbox hg; have hnb7 := NB367_368.out; have hnc7 := NB368_367.out; obtain ⟨hcz8_0, hcz8_1⟩ := zd2 BK367; obtain ⟨hfz8_0, hfz8_1⟩ := zn2 BK367; obtain ⟨hcz9_0, hcz9_1⟩ := zd2 BK368; obtain ⟨hfz9_0, hfz9_1⟩ := zn2 BK368))
  go_ret
  exact ⟨ze, zs2 HB GE367 GE368⟩
 rw [if_neg c4] at H
 have c4b0 : (a0_1 == a1_1) = false := beq_eq_false_iff_ne.mpr c4
 have c4b1 : (a0_1 != a1_1) = true := bne_iff_ne.mpr c4
 obtain rfl := Option.some.inj H
 go_enter Try.func57, Try.ntmps57
 go_wp2_with (first | ((with_reducible refine gate_dst (N := 2) rfl ?_); refine zbx 2 #[.int .i64 a0_0, .int .i64 a0_1] 31 ?_; intro gb367 hg w10 hbox hb; have BK367 := zA hbox; have GW367 := zgs hg (zs0 HB); have GE367 := zgs hg (zs0 HB); replace HB := zE (zs0 HB) hb; clear hb hbox hg) | ((with_reducible refine gate_dst (N := 3) rfl ?_); refine zbx 3 #[.int .i64 a1_0, .int .i64 a1_1] 31 ?_; intro gb368 hg w11 hbox hb; have BK368 := zA hbox; have GW368 := zgs hg (zs1 HB GE367); have GE368 := zgs hg (zs1 HB GE367); have NB367_368 := zne hg BK367; have NB368_367 := znf hg BK367; replace BK367 := zb BK367 hb; replace HB := zE (zs1 HB GE367) hb; clear hb hbox hg; have hnb12 := NB367_368.out; have hnc12 := NB368_367.out; obtain ⟨hcz13_0, hcz13_1⟩ := zd2 BK367; obtain ⟨hfz13_0, hfz13_1⟩ := zn2 BK367; obtain ⟨hcz14_0, hcz14_1⟩ := zd2 BK368; obtain ⟨hfz14_0, hfz14_1⟩ := zn2 BK368))
 go_ret
 exact ⟨ze, zs2 HB GE367 GE368⟩
def laws_eqFlyStep.f (a0_0 : Int) (a0_1 : Int) (a0_2 : Int) (a0_3 : Int) (a0_4 : Int) (a0_5 : Int) (a0_6 : Bool) (a1_0 : Int) (a1_1 : Int) (a1_2 : Int) (a1_3 : Int) (a1_4 : Int) (a1_5 : Int) (a1_6 : Bool) : Option (Bool) := if a0_0 = a1_0 then (if a0_1 = a1_1 then (if a0_2 = a1_2 then (if a0_3 = a1_3 then (if a0_4 = a1_4 then (if a0_5 = a1_5 then (if (a0_6 != a1_6) = true then (some false) else (some true)) else (some false)) else (some false)) else (some false)) else (some false)) else (some false)) else (some false)
set_option maxHeartbeats 8000000 in
set_option maxRecDepth 100000 in
theorem laws_eqFlyStep.calls (a0_0 : Int) (a0_1 : Int) (a0_2 : Int) (a0_3 : Int) (a0_4 : Int) (a0_5 : Int) (a0_6 : Bool) (a1_0 : Int) (a1_1 : Int) (a1_2 : Int) (a1_3 : Int) (a1_4 : Int) (a1_5 : Int) (a1_6 : Bool) (r : Bool) (w : World) (h : laws_eqFlyStep.f a0_0 a0_1 a0_2 a0_3 a0_4 a0_5 a0_6 a1_0 a1_1 a1_2 a1_3 a1_4 a1_5 a1_6 = some r) :
 Calls Try.prog 90 #[.agg #[.int .i64 a0_0, .int .i64 a0_1, .int .i64 a0_2, .int .i64 a0_3, .int .i64 a0_4, .int .i64 a0_5, .bool a0_6], .agg #[.int .i64 a1_0, .int .i64 a1_1, .int .i64 a1_2, .int .i64 a1_3, .int .i64 a1_4, .int .i64 a1_5, .bool a1_6]] w fun e w' => e = .returned (.bool r) ∧ Below w.heap.size w w' := by
 have hu88 := Try.underlying88
 have HB := zA (Below.refl w.heap.size w)
 have H : (if a0_0 = a1_0 then (if a0_1 = a1_1 then (if a0_2 = a1_2 then (if a0_3 = a1_3 then (if a0_4 = a1_4 then (if a0_5 = a1_5 then (if (a0_6 != a1_6) = true then (some false) else (some true)) else (some false)) else (some false)) else (some false)) else (some false)) else (some false)) else (some false)) = some r := h
 clear h
 by_cases c3 : a0_0 = a1_0
 rotate_left
 ·rw [if_neg c3] at H
  have c3b0 : (a0_0 == a1_0) = false := beq_eq_false_iff_ne.mpr c3
  have c3b1 : (a0_0 != a1_0) = true := bne_iff_ne.mpr c3
  obtain rfl := Option.some.inj H
  go_enter Try.func90, Try.ntmps90
  go_wp2_with (first | ((with_reducible refine gate_dst (N := 2) rfl ?_); refine zbx 2 #[.int .i64 a0_0, .int .i64 a0_1, .int .i64 a0_2, .int .i64 a0_3, .int .i64 a0_4, .int .i64 a0_5, .bool a0_6] 88 ?_; intro gb369 hg w45 hbox hb; have BK369 := zA hbox; have GW369 := zgs hg (zs0 HB); have GE369 := zgs hg (zs0 HB); replace HB := zE (zs0 HB) hb; clear hb hbox hg) | ((with_reducible refine gate_dst (N := 3) rfl ?_); refine zbx 3 #[.int .i64 a1_0, .int .i64 a1_1, .int .i64 a1_2, .int .i64 a1_3, .int .i64 a1_4, .int .i64 a1_5, .bool a1_6] 88 ?_; intro gb370 hg w46 hbox hb; have BK370 := zA hbox; have GW370 := zgs hg (zs1 HB GE369); have GE370 := zgs hg (zs1 HB GE369); have NB369_370 := zne hg BK369; have NB370_369 := znf hg BK369; replace BK369 := zb BK369 hb; replace HB := zE (zs1 HB GE369) hb; clear hb hbox hg; have hnb47 := NB369_370.out; have hnc47 := NB370_369.out; obtain ⟨hcz48_0, hcz48_1, hcz48_2, hcz48_3, hcz48_4, hcz48_5, hcz48_6⟩ := zd7 BK369; obtain ⟨hfz48_0, hfz48_1, hfz48_2, hfz48_3, hfz48_4, hfz48_5, hfz48_6⟩ := zn7 BK369; obtain ⟨hcz49_0, hcz49_1, hcz49_2, hcz49_3, hcz49_4, hcz49_5, hcz49_6⟩ := zd7 BK370; obtain ⟨hfz49_0, hfz49_1, hfz49_2, hfz49_3, hfz49_4, hfz49_5, hfz49_6⟩ := zn7 BK370))
  go_ret
  exact ⟨ze, zs2 HB GE369 GE370⟩
 rw [if_pos c3] at H
 have c3b0 : (a0_0 == a1_0) = true := beq_iff_eq.mpr c3
 have c3b1 : (a0_0 != a1_0) = false := bne_eq_false_iff_eq.mpr c3
 clear c3
 by_cases c4 : a0_1 = a1_1
 rotate_left
 ·rw [if_neg c4] at H
  have c4b0 : (a0_1 == a1_1) = false := beq_eq_false_iff_ne.mpr c4
  have c4b1 : (a0_1 != a1_1) = true := bne_iff_ne.mpr c4
  obtain rfl := Option.some.inj H
  go_enter Try.func90, Try.ntmps90
  go_wp2_with (first | ((with_reducible refine gate_dst (N := 2) rfl ?_); refine zbx 2 #[.int .i64 a0_0, .int .i64 a0_1, .int .i64 a0_2, .int .i64 a0_3, .int .i64 a0_4, .int .i64 a0_5, .bool a0_6] 88 ?_; intro gb369 hg w40 hbox hb; have BK369 := zA hbox; have GW369 := zgs hg (zs0 HB); have GE369 := zgs hg (zs0 HB); replace HB := zE (zs0 HB) hb; clear hb hbox hg) | ((with_reducible refine gate_dst (N := 3) rfl ?_); refine zbx 3 #[.int .i64 a1_0, .int .i64 a1_1, .int .i64 a1_2, .int .i64 a1_3, .int .i64 a1_4, .int .i64 a1_5, .bool a1_6] 88 ?_; intro gb370 hg w41 hbox hb; have BK370 := zA hbox; have GW370 := zgs hg (zs1 HB GE369); have GE370 := zgs hg (zs1 HB GE369); have NB369_370 := zne hg BK369; have NB370_369 := znf hg BK369; replace BK369 := zb BK369 hb; replace HB := zE (zs1 HB GE369) hb; clear hb hbox hg; have hnb42 := NB369_370.out; have hnc42 := NB370_369.out; obtain ⟨hcz43_0, hcz43_1, hcz43_2, hcz43_3, hcz43_4, hcz43_5, hcz43_6⟩ := zd7 BK369; obtain ⟨hfz43_0, hfz43_1, hfz43_2, hfz43_3, hfz43_4, hfz43_5, hfz43_6⟩ := zn7 BK369; obtain ⟨hcz44_0, hcz44_1, hcz44_2, hcz44_3, hcz44_4, hcz44_5, hcz44_6⟩ := zd7 BK370; obtain ⟨hfz44_0, hfz44_1, hfz44_2, hfz44_3, hfz44_4, hfz44_5, hfz44_6⟩ := zn7 BK370))
  go_ret
  exact ⟨ze, zs2 HB GE369 GE370⟩
 rw [if_pos c4] at H
 have c4b0 : (a0_1 == a1_1) = true := beq_iff_eq.mpr c4
 have c4b1 : (a0_1 != a1_1) = false := bne_eq_false_iff_eq.mpr c4
 clear c4
 by_cases c5 : a0_2 = a1_2
 rotate_left
 ·rw [if_neg c5] at H
  have c5b0 : (a0_2 == a1_2) = false := beq_eq_false_iff_ne.mpr c5
  have c5b1 : (a0_2 != a1_2) = true := bne_iff_ne.mpr c5
  obtain rfl := Option.some.inj H
  go_enter Try.func90, Try.ntmps90
  go_wp2_with (first | ((with_reducible refine gate_dst (N := 2) rfl ?_); refine zbx 2 #[.int .i64 a0_0, .int .i64 a0_1, .int .i64 a0_2, .int .i64 a0_3, .int .i64 a0_4, .int .i64 a0_5, .bool a0_6] 88 ?_; intro gb369 hg w35 hbox hb; have BK369 := zA hbox; have GW369 := zgs hg (zs0 HB); have GE369 := zgs hg (zs0 HB); replace HB := zE (zs0 HB) hb; clear hb hbox hg) | ((with_reducible refine gate_dst (N := 3) rfl ?_); refine zbx 3 #[.int .i64 a1_0, .int .i64 a1_1, .int .i64 a1_2, .int .i64 a1_3, .int .i64 a1_4, .int .i64 a1_5, .bool a1_6] 88 ?_; intro gb370 hg w36 hbox hb; have BK370 := zA hbox; have GW370 := zgs hg (zs1 HB GE369); have GE370 := zgs hg (zs1 HB GE369); have NB369_370 := zne hg BK369; have NB370_369 := znf hg BK369; replace BK369 := zb BK369 hb; replace HB := zE (zs1 HB GE369) hb; clear hb hbox hg; have hnb37 := NB369_370.out; have hnc37 := NB370_369.out; obtain ⟨hcz38_0, hcz38_1, hcz38_2, hcz38_3, hcz38_4, hcz38_5, hcz38_6⟩ := zd7 BK369; obtain ⟨hfz38_0, hfz38_1, hfz38_2, hfz38_3, hfz38_4, hfz38_5, hfz38_6⟩ := zn7 BK369; obtain ⟨hcz39_0, hcz39_1, hcz39_2, hcz39_3, hcz39_4, hcz39_5, hcz39_6⟩ := zd7 BK370; obtain ⟨hfz39_0, hfz39_1, hfz39_2, hfz39_3, hfz39_4, hfz39_5, hfz39_6⟩ := zn7 BK370))
  go_ret
  exact ⟨ze, zs2 HB GE369 GE370⟩
 rw [if_pos c5] at H
 have c5b0 : (a0_2 == a1_2) = true := beq_iff_eq.mpr c5
 have c5b1 : (a0_2 != a1_2) = false := bne_eq_false_iff_eq.mpr c5
 clear c5
 by_cases c6 : a0_3 = a1_3
 rotate_left
 ·rw [if_neg c6] at H
  have c6b0 : (a0_3 == a1_3) = false := beq_eq_false_iff_ne.mpr c6
  have c6b1 : (a0_3 != a1_3) = true := bne_iff_ne.mpr c6
  obtain rfl := Option.some.inj H
  go_enter Try.func90, Try.ntmps90
  go_wp2_with (first | ((with_reducible refine gate_dst (N := 2) rfl ?_); refine zbx 2 #[.int .i64 a0_0, .int .i64 a0_1, .int .i64 a0_2, .int .i64 a0_3, .int .i64 a0_4, .int .i64 a0_5, .bool a0_6] 88 ?_; intro gb369 hg w30 hbox hb; have BK369 := zA hbox; have GW369 := zgs hg (zs0 HB); have GE369 := zgs hg (zs0 HB); replace HB := zE (zs0 HB) hb; clear hb hbox hg) | ((with_reducible refine gate_dst (N := 3) rfl ?_); refine zbx 3 #[.int .i64 a1_0, .int .i64 a1_1, .int .i64 a1_2, .int .i64 a1_3, .int .i64 a1_4, .int .i64 a1_5, .bool a1_6] 88 ?_; intro gb370 hg w31 hbox hb; have BK370 := zA hbox; have GW370 := zgs hg (zs1 HB GE369); have GE370 := zgs hg (zs1 HB GE369); have NB369_370 := zne hg BK369; have NB370_369 := znf hg BK369; replace BK369 := zb BK369 hb; replace HB := zE (zs1 HB GE369) hb; clear hb hbox hg; have hnb32 := NB369_370.out; have hnc32 := NB370_369.out; obtain ⟨hcz33_0, hcz33_1, hcz33_2, hcz33_3, hcz33_4, hcz33_5, hcz33_6⟩ := zd7 BK369; obtain ⟨hfz33_0, hfz33_1, hfz33_2, hfz33_3, hfz33_4, hfz33_5, hfz33_6⟩ := zn7 BK369; obtain ⟨hcz34_0, hcz34_1, hcz34_2, hcz34_3, hcz34_4, hcz34_5, hcz34_6⟩ := zd7 BK370; obtain ⟨hfz34_0, hfz34_1, hfz34_2, hfz34_3, hfz34_4, hfz34_5, hfz34_6⟩ := zn7 BK370))
  go_ret
  exact ⟨ze, zs2 HB GE369 GE370⟩
 rw [if_pos c6] at H
 have c6b0 : (a0_3 == a1_3) = true := beq_iff_eq.mpr c6
 have c6b1 : (a0_3 != a1_3) = false := bne_eq_false_iff_eq.mpr c6
 clear c6
 by_cases c7 : a0_4 = a1_4
 rotate_left
 ·rw [if_neg c7] at H
  have c7b0 : (a0_4 == a1_4) = false := beq_eq_false_iff_ne.mpr c7
  have c7b1 : (a0_4 != a1_4) = true := bne_iff_ne.mpr c7
  obtain rfl := Option.some.inj H
  go_enter Try.func90, Try.ntmps90
  go_wp2_with (first | ((with_reducible refine gate_dst (N := 2) rfl ?_); refine zbx 2 #[.int .i64 a0_0, .int .i64 a0_1, .int .i64 a0_2, .int .i64 a0_3, .int .i64 a0_4, .int .i64 a0_5, .bool a0_6] 88 ?_; intro gb369 hg w25 hbox hb; have BK369 := zA hbox; have GW369 := zgs hg (zs0 HB); have GE369 := zgs hg (zs0 HB); replace HB := zE (zs0 HB) hb; clear hb hbox hg) | ((with_reducible refine gate_dst (N := 3) rfl ?_); refine zbx 3 #[.int .i64 a1_0, .int .i64 a1_1, .int .i64 a1_2, .int .i64 a1_3, .int .i64 a1_4, .int .i64 a1_5, .bool a1_6] 88 ?_; intro gb370 hg w26 hbox hb; have BK370 := zA hbox; have GW370 := zgs hg (zs1 HB GE369); have GE370 := zgs hg (zs1 HB GE369); have NB369_370 := zne hg BK369; have NB370_369 := znf hg BK369; replace BK369 := zb BK369 hb; replace HB := zE (zs1 HB GE369) hb; clear hb hbox hg; have hnb27 := NB369_370.out; have hnc27 := NB370_369.out; obtain ⟨hcz28_0, hcz28_1, hcz28_2, hcz28_3, hcz28_4, hcz28_5, hcz28_6⟩ := zd7 BK369; obtain ⟨hfz28_0, hfz28_1, hfz28_2, hfz28_3, hfz28_4, hfz28_5, hfz28_6⟩ := zn7 BK369; obtain ⟨hcz29_0, hcz29_1, hcz29_2, hcz29_3, hcz29_4, hcz29_5, hcz29_6⟩ := zd7 BK370; obtain ⟨hfz29_0, hfz29_1, hfz29_2, hfz29_3, hfz29_4, hfz29_5, hfz29_6⟩ := zn7 BK370))
  go_ret
  exact ⟨ze, zs2 HB GE369 GE370⟩
 rw [if_pos c7] at H
 have c7b0 : (a0_4 == a1_4) = true := beq_iff_eq.mpr c7
 have c7b1 : (a0_4 != a1_4) = false := bne_eq_false_iff_eq.mpr c7
 clear c7
 by_cases c8 : a0_5 = a1_5
 rotate_left
 ·rw [if_neg c8] at H
  have c8b0 : (a0_5 == a1_5) = false := beq_eq_false_iff_ne.mpr c8
  have c8b1 : (a0_5 != a1_5) = true := bne_iff_ne.mpr c8
  obtain rfl := Option.some.inj H
  go_enter Try.func90, Try.ntmps90
  go_wp2_with (first | ((with_reducible refine gate_dst (N := 2) rfl ?_); refine zbx 2 #[.int .i64 a0_0, .int .i64 a0_1, .int .i64 a0_2, .int .i64 a0_3, .int .i64 a0_4, .int .i64 a0_5, .bool a0_6] 88 ?_; intro gb369 hg w20 hbox hb; have BK369 := zA hbox; have GW369 := zgs hg (zs0 HB); have GE369 := zgs hg (zs0 HB); replace HB := zE (zs0 HB) hb; clear hb hbox hg) | ((with_reducible refine gate_dst (N := 3) rfl ?_); refine zbx 3 #[.int .i64 a1_0, .int .i64 a1_1, .int .i64 a1_2, .int .i64 a1_3, .int .i64 a1_4, .int .i64 a1_5, .bool a1_6] 88 ?_; intro gb370 hg w21 hbox hb; have BK370 := zA hbox; have GW370 := zgs hg (zs1 HB GE369); have GE370 := zgs hg (zs1 HB GE369); have NB369_370 := zne hg BK369; have NB370_369 := znf hg BK369; replace BK369 := zb BK369 hb; replace HB := zE (zs1 HB GE369) hb; clear hb hbox hg; have hnb22 := NB369_370.out; have hnc22 := NB370_369.out; obtain ⟨hcz23_0, hcz23_1, hcz23_2, hcz23_3, hcz23_4, hcz23_5, hcz23_6⟩ := zd7 BK369; obtain ⟨hfz23_0, hfz23_1, hfz23_2, hfz23_3, hfz23_4, hfz23_5, hfz23_6⟩ := zn7 BK369; obtain ⟨hcz24_0, hcz24_1, hcz24_2, hcz24_3, hcz24_4, hcz24_5, hcz24_6⟩ := zd7 BK370; obtain ⟨hfz24_0, hfz24_1, hfz24_2, hfz24_3, hfz24_4, hfz24_5, hfz24_6⟩ := zn7 BK370))
  go_ret
  exact ⟨ze, zs2 HB GE369 GE370⟩
 rw [if_pos c8] at H
 have c8b0 : (a0_5 == a1_5) = true := beq_iff_eq.mpr c8
 have c8b1 : (a0_5 != a1_5) = false := bne_eq_false_iff_eq.mpr c8
 clear c8
 by_cases c9 : (a0_6 != a1_6) = true
 rotate_left
 ·rw [if_neg c9] at H
  have c9b0 : (a0_6 != a1_6) = false := by simpa using c9
  (try (have c9b1 : decide (a0_6 = a1_6) = true := by simpa using c9))
  (try (have c9b2 : (a0_6 == a1_6) = true := by simpa using c9))
  clear c9
  obtain rfl := Option.some.inj H
  go_enter Try.func90, Try.ntmps90
  go_wp2_with (first | ((with_reducible refine gate_dst (N := 2) rfl ?_); refine zbx 2 #[.int .i64 a0_0, .int .i64 a0_1, .int .i64 a0_2, .int .i64 a0_3, .int .i64 a0_4, .int .i64 a0_5, .bool a0_6] 88 ?_; intro gb369 hg w15 hbox hb; have BK369 := zA hbox; have GW369 := zgs hg (zs0 HB); have GE369 := zgs hg (zs0 HB); replace HB := zE (zs0 HB) hb; clear hb hbox hg) | ((with_reducible refine gate_dst (N := 3) rfl ?_); refine zbx 3 #[.int .i64 a1_0, .int .i64 a1_1, .int .i64 a1_2, .int .i64 a1_3, .int .i64 a1_4, .int .i64 a1_5, .bool a1_6] 88 ?_; intro gb370 hg w16 hbox hb; have BK370 := zA hbox; have GW370 := zgs hg (zs1 HB GE369); have GE370 := zgs hg (zs1 HB GE369); have NB369_370 := zne hg BK369; have NB370_369 := znf hg BK369; replace BK369 := zb BK369 hb; replace HB := zE (zs1 HB GE369) hb; clear hb hbox hg; have hnb17 := NB369_370.out; have hnc17 := NB370_369.out; obtain ⟨hcz18_0, hcz18_1, hcz18_2, hcz18_3, hcz18_4, hcz18_5, hcz18_6⟩ := zd7 BK369; obtain ⟨hfz18_0, hfz18_1, hfz18_2, hfz18_3, hfz18_4, hfz18_5, hfz18_6⟩ := zn7 BK369; obtain ⟨hcz19_0, hcz19_1, hcz19_2, hcz19_3, hcz19_4, hcz19_5, hcz19_6⟩ := zd7 BK370; obtain ⟨hfz19_0, hfz19_1, hfz19_2, hfz19_3, hfz19_4, hfz19_5, hfz19_6⟩ := zn7 BK370))
  go_ret
  exact ⟨ze, zs2 HB GE369 GE370⟩
 rw [if_pos c9] at H
 have c9b0 : (a0_6 != a1_6) = true := c9
 (try (have c9b1 : decide (a0_6 = a1_6) = false := by simpa using c9))
 (try (have c9b2 : (a0_6 == a1_6) = false := by simpa using c9))
 (try (have c9b3 : ¬ (a0_6 = a1_6) := by simpa using c9))
 clear c9
 obtain rfl := Option.some.inj H
 go_enter Try.func90, Try.ntmps90
 go_wp2_with (first | ((with_reducible refine gate_dst (N := 2) rfl ?_); refine zbx 2 #[.int .i64 a0_0, .int .i64 a0_1, .int .i64 a0_2, .int .i64 a0_3, .int .i64 a0_4, .int .i64 a0_5, .bool a0_6] 88 ?_; intro gb369 hg w10 hbox hb; have BK369 := zA hbox; have GW369 := zgs hg (zs0 HB); have GE369 := zgs hg (zs0 HB); replace HB := zE (zs0 HB) hb; clear hb hbox hg) | ((with_reducible refine gate_dst (N := 3) rfl ?_); refine zbx 3 #[.int .i64 a1_0, .int .i64 a1_1, .int .i64 a1_2, .int .i64 a1_3, .int .i64 a1_4, .int .i64 a1_5, .bool a1_6] 88 ?_; intro gb370 hg w11 hbox hb; have BK370 := zA hbox; have GW370 := zgs hg (zs1 HB GE369); have GE370 := zgs hg (zs1 HB GE369); have NB369_370 := zne hg BK369; have NB370_369 := znf hg BK369; replace BK369 := zb BK369 hb; replace HB := zE (zs1 HB GE369) hb; clear hb hbox hg; have hnb12 := NB369_370.out; have hnc12 := NB370_369.out; obtain ⟨hcz13_0, hcz13_1, hcz13_2, hcz13_3, hcz13_4, hcz13_5, hcz13_6⟩ := zd7 BK369; obtain ⟨hfz13_0, hfz13_1, hfz13_2, hfz13_3, hfz13_4, hfz13_5, hfz13_6⟩ := zn7 BK369; obtain ⟨hcz14_0, hcz14_1, hcz14_2, hcz14_3, hcz14_4, hcz14_5, hcz14_6⟩ := zd7 BK370; obtain ⟨hfz14_0, hfz14_1, hfz14_2, hfz14_3, hfz14_4, hfz14_5, hfz14_6⟩ := zn7 BK370))
 go_ret
 exact ⟨ze, zs2 HB GE369 GE370⟩
end Go.Proofs.Ytidenmcoilmbcaa.QFnExactFlyGo
