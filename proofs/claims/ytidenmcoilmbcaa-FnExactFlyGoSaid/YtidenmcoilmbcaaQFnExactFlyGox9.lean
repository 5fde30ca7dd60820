/- The walk of what the law FnExactFlyGo reaches: laid by a program of this session (ownprint.py). -/
import Derived.Test.YtidenmcoilmbcaaQFnExactFlyGox0
import Derived.Test.YtidenmcoilmbcaaQFnExactFlyGox2
import Derived.Test.YtidenmcoilmbcaaQFnExactFlyGox3
import Derived.Test.YtidenmcoilmbcaaQFnExactFlyGox7
import Derived.Test.YtidenmcoilmbcaaQFnExactFlyGox8
namespace Go.Proofs.Ytidenmcoilmbcaa.QFnExactFlyGo
open Go.RowKit Go.Proofs.YtidenmcoilmbcaaW.PrintWords Go.Proofs.YtidenmcoilmbcaaW.PrintLast Go.Proofs.YtidenmcoilmbcaaW.PrintMore Go.Proofs.Ytidenmcoilmbcaa.Z
attribute [local go_sem] max2_int min2_int max_two min_two max_three min_three max_four min_four zdn   -- for this text's walks alone
set_option linter.unusedVariables false
set_option linter.unusedSimpArgs false
mutual
def spec_FlyGo.j0 : Nat → List Int → List Int → Bool → Int → Int → List (S88) → Int → Int → Option (List Int × Bool)
 | 0, _, _, _, _, _, _, _, _ => none
 | k + 1, x2, x8, x27, x223000, x223001, x223002, x223003, x223004 => if x27 = true then (some ((([] : List Int)), false)) else (spec_FlyGo.l0 k x2 x8 0 x223000 x223001 x223002 x223003 x223004)
def spec_FlyGo.l0 : Nat → List Int → List Int → Int → Int → Int → List (S88) → Int → Int → Option (List Int × Bool)
 | 0, _, _, _, _, _, _, _, _ => none
 | k + 1, x2, x8, x9, x223000, x223001, x223002, x223003, x223004 => if (x8.length : Int) ≤ (x223002.length : Int) then ((spec_FlyNext.f k x223000 x223001 x223002 x223003 x223004 x8).bind fun bt237 => (if bt237.2.2 = true then (if x9 < (x2.length : Int) then (if 0 ≤ x9 then ((spec_l21Max.f bt237.1 (rd x2 x9)).bind fun t245 => ((spec_l21Min.f t245 bt237.2.1).bind fun t246 => (if x8.length < 17592186044416 then (spec_FlyGo.l0 k x2 (x8 ++ [t246]) (wrap64 (x9 + 1)) x223000 x223001 x223002 x223003 x223004) else (none)))) else (none)) else (if x8.length < 17592186044416 then (spec_FlyGo.l0 k x2 (x8 ++ [bt237.1]) (wrap64 (x9 + 1)) x223000 x223001 x223002 x223003 x223004) else (none))) else (some ((([] : List Int)), false)))) else ((spec_FlyLawful.f k x223000 x223001 x223002 x223003 x223004 x8).bind fun t233 => (if t233 = true then (some (x8, true)) else (some ((([] : List Int)), false))))
end
def spec_FlyGo.f (k : Nat) (a0_0 : Int) (a0_1 : Int) (l0_2 : List (S88)) (a0_3 : Int) (a0_4 : Int) (l1 : List Int) (l2 : List Int) : Option (List Int × Bool) := (some (([] : List Int) : List Int)).bind fun y223 => (if y223.length + l1.length < 17592186044416 then ((some (y223 ++ l1 : List Int)).bind fun y226 => ((spec_FlyPathOk.f k a0_0 a0_1 l0_2 a0_3 a0_4).bind fun t229 => (if t229 = true then (spec_FlyGo.j0 k l2 y226 (decide ((l1.length : Int) > (wrap64 ((l0_2.length : Int) + 1)))) a0_0 a0_1 l0_2 a0_3 a0_4) else (spec_FlyGo.j0 k l2 y226 true a0_0 a0_1 l0_2 a0_3 a0_4)))) else (none))
set_option maxHeartbeats 8000000 in
set_option maxRecDepth 100000 in
theorem spec_FlyGo.calls (k : Nat) (a0_0 : Int) (a0_1 : Int) (A0_2 : Option Addr) (c0_2 : Nat) (l0_2 : List (S88)) (a0_3 : Int) (a0_4 : Int) (A1 : Option Addr) (c1 : Nat) (l1 : List Int) (A2 : Option Addr) (c2 : Nat) (l2 : List Int) (r1 : List Int) (r2 : Bool) (w : World) (hr0_2 : Kd.C k88 w A0_2 l0_2.length l0_2) (hc0_2 : l0_2.length ≤ c0_2) (hr1 : Kd.C (Kd.int .i64) w A1 l1.length l1) (hc1 : l1.length ≤ c1) (hr2 : Kd.C (Kd.int .i64) w A2 l2.length l2) (hc2 : l2.length ≤ c2) (h : spec_FlyGo.f k a0_0 a0_1 l0_2 a0_3 a0_4 l1 l2 = some (r1, r2)) :
 Calls Try.prog 16 #[.agg #[.int .i64 a0_0, .int .i64 a0_1, .slice A0_2 l0_2.length c0_2, .int .i64 a0_3, .int .i64 a0_4], .slice A1 l1.length c1, .slice A2 l2.length c2] w fun e w' => ∃ v0_ : Value, e = .returned (.tuple #[v0_, .bool r2]) ∧ Kd.R (Kd.int .i64) 3 w' w.heap.size (fun _ => True) v0_ r1 ∧ Below w.heap.size w w' := by
 have hu34 := Try.underlying34
 have hu46 := Try.underlying46
 have HR0_2 := zA hr0_2
 have HC0_2 := zA hc0_2
 clear hr0_2 hc0_2
 have HR1 := zA hr1
 have HC1 := zA hc1
 clear hr1 hc1
 have HR2 := zA hr2
 have HC2 := zA hc2
 clear hr2 hc2
 have HB := zA (Below.refl w.heap.size w)
 have H : ((some (([] : List Int) : List Int)).bind fun y223 => (if y223.length + l1.length < 17592186044416 then ((some (y223 ++ l1 : List Int)).bind fun y226 => ((spec_FlyPathOk.f k a0_0 a0_1 l0_2 a0_3 a0_4).bind fun t229 => (if t229 = true then (spec_FlyGo.j0 k l2 y226 (decide ((l1.length : Int) > (wrap64 ((l0_2.length : Int) + 1)))) a0_0 a0_1 l0_2 a0_3 a0_4) else (spec_FlyGo.j0 k l2 y226 true a0_0 a0_1 l0_2 a0_3 a0_4)))) else (none))) = some (r1, r2) := h
 clear h
 obtain ⟨y223, hy223⟩ : ∃ y_ : List Int, y_ = (([] : List Int)) := ⟨_, rfl⟩
 replace H : (if y223.length + l1.length < 17592186044416 then ((some (y223 ++ l1 : List Int)).bind fun y226 => ((spec_FlyPathOk.f k a0_0 a0_1 l0_2 a0_3 a0_4).bind fun t229 => (if t229 = true then (spec_FlyGo.j0 k l2 y226 (decide ((l1.length : Int) > (wrap64 ((l0_2.length : Int) + 1)))) a0_0 a0_1 l0_2 a0_3 a0_4) else (spec_FlyGo.j0 k l2 y226 true a0_0 a0_1 l0_2 a0_3 a0_4)))) else (none)) = some (r1, r2) := by first | (rw [hy223]; with_reducible exact H) | (have H2_ := (Option.bind_some _ _).symm.trans H; rw [hy223]; with_reducible exact H2_) | (have H2_ := (Option.bind_some _ _).symm.trans H; with_reducible exact H2_) | with_reducible exact H | (rw [hy223]; exact H) | exact H
 have Ny223 := zA hy223
 clear hy223
 by_cases c4 : y223.length + l1.length < 17592186044416
 rotate_left
 ·rw [if_neg c4] at H
  exact absurd H (by simp)
 rw [if_pos c4] at H
 have LMc4 := zA c4
 clear c4
 obtain ⟨y226, hy226⟩ : ∃ y_ : List Int, y_ = (y223 ++ l1) := ⟨_, rfl⟩
 replace H : ((spec_FlyPathOk.f k a0_0 a0_1 l0_2 a0_3 a0_4).bind fun t229 => (if t229 = true then (spec_FlyGo.j0 k l2 y226 (decide ((l1.length : Int) > (wrap64 ((l0_2.length : Int) + 1)))) a0_0 a0_1 l0_2 a0_3 a0_4) else (spec_FlyGo.j0 k l2 y226 true a0_0 a0_1 l0_2 a0_3 a0_4))) = some (r1, r2) := by first | (rw [hy226]; with_reducible exact H) | (have H2_ := (Option.bind_some _ _).symm.trans H; rw [hy226]; with_reducible exact H2_) | (have H2_ := (Option.bind_some _ _).symm.trans H; with_reducible exact H2_) | with_reducible exact H | (rw [hy226]; exact H) | exact H
 have Ny226 := zA hy226
 clear hy226
 have HC5 := zA H
 clear H
 go_enter Try.func16, Try.ntmps16
 go_upto_region 2 with (first | ((with_reducible refine gate_dst (N := 3) rfl ?_); (try (refine gate_guard (by rfl) ?_; dsimp only)); refine zbx 3 #[.int .i64 a0_0, .int .i64 a0_1, .slice A0_2 l0_2.length c0_2, .int .i64 a0_3, .int .i64 a0_4] 34 ?_; intro gb222 hg w6 hbox hb; have BK222 := zA hbox; have GW222 := zgs hg (zs0 HB); have GE222 := zgs hg (zs0 HB); replace HB := zE (zs0 HB) hb; clear hb hbox hg) | ((with_reducible refine gate_dst (N := 13) rfl ?_); (try (refine gate_guard (by rfl) ?_; dsimp only)); refine Kd.R_lit (Kd.int .i64) _ 3 ?hg (N := 13) ?hd (xs := ([] : List Int)) (inner := []) (ok := fun _ => True) (okp := fun _ => True) ?hr ?hp (fun _ hk => hk) trivial (Below.refl _ _) (Nat.le_refl _) (by simp) ?_; (case hd => rfl); (case hg => rfl); (case hr => first | (go_simp; done) | (go_simp; rfl)); (case hp => exact (Reps.none _ _)); intro v224 w7 ho8 hb hg_ hnew_; clear hg_ hnew_; (first | rw [← Ny223.out] at ho8 | (simp only [Int.reduceToNat] at ho8; rw [← Ny223.out] at ho8)); have HO225 := zA (Kd.R_lower ho8 (below_size (zs1 HB GE222))); replace BK222 := zb BK222 hb; replace HB := zE (zs1 HB GE222) hb; clear hb ho8) | ((with_reducible refine gate_builtin (b := .append) (xs := #[.tmp 13, .tmp 14]) rfl ?_); (try (refine gate_guard (by rfl) ?_; dsimp only)); at_builtin; refine Kd.R_append_rows (Kd.int .i64) (w0 := w) w.heap.size rfl (.tmp 13) (.tmp 14) 27 3 (.int .i64 0) 8 rfl Try.underlying27 info3 rfl (by decide) (by omega) v224 y223 l1 _ _ _ (fun _ => True) (fun _ => False) rfl rfl ?aO ?aR (fun _ _ h => h) (fun _ h => h.elim) ?aF ?aB ?aS ?aL ?_; (case aR => repeat (first | exact (Kd.C_below HR1.out HB.out) | (with_reducible refine Kd.C_alloc ?_ _) | (with_reducible refine Kd.C_drewN ?_ _) | (with_reducible refine Kd.C_drew ?_))); (case aB => exact (zs1 HB GE222)); (case aF => exact (fun _ _ => trivial)); (case aO => exact (zr HO225)); (case aS => exact (below_size (zs1 HB GE222))); (case aL => have := LMc4.out; omega); intro v227 w9 ho hb hg hat; rw [← Ny226.out] at ho; have HO228 := zA (ho); replace BK222 := zA (blk_grown (g := gb222) (o := .cells #[.int .i64 a0_0, .int .i64 a0_1, .slice A0_2 l0_2.length c0_2, .int .i64 a0_3, .int .i64 a0_4] 34 (0, 0)) (zh BK222) hg (Kd.R_ne HO225.out BK222.out (by decide))); replace HB := zA (hb); clear HO225; clear ho hb hg hat))
 repeat (go_quiet (first | ((with_reducible refine gate_dst (N := 3) rfl ?_); (try (refine gate_guard (by rfl) ?_; dsimp only)); refine zbx 3 #[.int .i64 a0_0, .int .i64 a0_1, .slice A0_2 l0_2.length c0_2, .int .i64 a0_3, .int .i64 a0_4] 34 ?_; intro gb222 hg w6 hbox hb; have BK222 := zA hbox; have GW222 := zgs hg (zs0 HB); have GE222 := zgs hg (zs0 HB); replace HB := zE (zs0 HB) hb; clear hb hbox hg) | ((with_reducible refine gate_dst (N := 13) rfl ?_); (try (refine gate_guard (by rfl) ?_; dsimp only)); refine Kd.R_lit (Kd.int .i64) _ 3 ?hg (N := 13) ?hd (xs := ([] : List Int)) (inner := []) (ok := fun _ => True) (okp := fun _ => True) ?hr ?hp (fun _ hk => hk) trivial (Below.refl _ _) (Nat.le_refl _) (by simp) ?_; (case hd => rfl); (case hg => rfl); (case hr => first | (go_simp; done) | (go_simp; rfl)); (case hp => exact (Reps.none _ _)); intro v224 w7 ho8 hb hg_ hnew_; clear hg_ hnew_; (first | rw [← Ny223.out] at ho8 | (simp only [Int.reduceToNat] at ho8; rw [← Ny223.out] at ho8)); have HO225 := zA (Kd.R_lower ho8 (below_size (zs1 HB GE222))); replace BK222 := zb BK222 hb; replace HB := zE (zs1 HB GE222) hb; clear hb ho8) | ((with_reducible refine gate_builtin (b := .append) (xs := #[.tmp 13, .tmp 14]) rfl ?_); (try (refine gate_guard (by rfl) ?_; dsimp only)); at_builtin; refine Kd.R_append_rows (Kd.int .i64) (w0 := w) w.heap.size rfl (.tmp 13) (.tmp 14) 27 3 (.int .i64 0) 8 rfl Try.underlying27 info3 rfl (by decide) (by omega) v224 y223 l1 _ _ _ (fun _ => True) (fun _ => False) rfl rfl ?aO ?aR (fun _ _ h => h) (fun _ h => h.elim) ?aF ?aB ?aS ?aL ?_; (case aR => repeat (first | exact (Kd.C_below HR1.out HB.out) | (with_reducible refine Kd.C_alloc ?_ _) | (with_reducible refine Kd.C_drewN ?_ _) | (with_reducible refine Kd.C_drew ?_))); (case aB => exact (zs1 HB GE222)); (case aF => exact (fun _ _ => trivial)); (case aO => exact (zr HO225)); (case aS => exact (below_size (zs1 HB GE222))); (case aL => have := LMc4.out; omega); intro v227 w9 ho hb hg hat; rw [← Ny226.out] at ho; have HO228 := zA (ho); replace BK222 := zA (blk_grown (g := gb222) (o := .cells #[.int .i64 a0_0, .int .i64 a0_1, .slice A0_2 l0_2.length c0_2, .int .i64 a0_3, .int .i64 a0_4] 34 (0, 0)) (zh BK222) hg (Kd.R_ne HO225.out BK222.out (by decide))); replace HB := zA (hb); clear HO225; clear ho hb hg hat)); go_upto_region 2 with (first | ((with_reducible refine gate_dst (N := 3) rfl ?_); (try (refine gate_guard (by rfl) ?_; dsimp only)); refine zbx 3 #[.int .i64 a0_0, .int .i64 a0_1, .slice A0_2 l0_2.length c0_2, .int .i64 a0_3, .int .i64 a0_4] 34 ?_; intro gb222 hg w6 hbox hb; have BK222 := zA hbox; have GW222 := zgs hg (zs0 HB); have GE222 := zgs hg (zs0 HB); replace HB := zE (zs0 HB) hb; clear hb hbox hg) | ((with_reducible refine gate_dst (N := 13) rfl ?_); (try (refine gate_guard (by rfl) ?_; dsimp only)); refine Kd.R_lit (Kd.int .i64) _ 3 ?hg (N := 13) ?hd (xs := ([] : List Int)) (inner := []) (ok := fun _ => True) (okp := fun _ => True) ?hr ?hp (fun _ hk => hk) trivial (Below.refl _ _) (Nat.le_refl _) (by simp) ?_; (case hd => rfl); (case hg => rfl); (case hr => first | (go_simp; done) | (go_simp; rfl)); (case hp => exact (Reps.none _ _)); intro v224 w7 ho8 hb hg_ hnew_; clear hg_ hnew_; (first | rw [← Ny223.out] at ho8 | (simp only [Int.reduceToNat] at ho8; rw [← Ny223.out] at ho8)); have HO225 := zA (Kd.R_lower ho8 (below_size (zs1 HB GE222))); replace BK222 := zb BK222 hb; replace HB := zE (zs1 HB GE222) hb; clear hb ho8) | ((with_reducible refine gate_builtin (b := .append) (xs := #[.tmp 13, .tmp 14]) rfl ?_); (try (refine gate_guard (by rfl) ?_; dsimp only)); at_builtin; refine Kd.R_append_rows (Kd.int .i64) (w0 := w) w.heap.size rfl (.tmp 13) (.tmp 14) 27 3 (.int .i64 0) 8 rfl Try.underlying27 info3 rfl (by decide) (by omega) v224 y223 l1 _ _ _ (fun _ => True) (fun _ => False) rfl rfl ?aO ?aR (fun _ _ h => h) (fun _ h => h.elim) ?aF ?aB ?aS ?aL ?_; (case aR => repeat (first | exact (Kd.C_below HR1.out HB.out) | (with_reducible refine Kd.C_alloc ?_ _) | (with_reducible refine Kd.C_drewN ?_ _) | (with_reducible refine Kd.C_drew ?_))); (case aB => exact (zs1 HB GE222)); (case aF => exact (fun _ _ => trivial)); (case aO => exact (zr HO225)); (case aS => exact (below_size (zs1 HB GE222))); (case aL => have := LMc4.out; omega); intro v227 w9 ho hb hg hat; rw [← Ny226.out] at ho; have HO228 := zA (ho); replace BK222 := zA (blk_grown (g := gb222) (o := .cells #[.int .i64 a0_0, .int .i64 a0_1, .slice A0_2 l0_2.length c0_2, .int .i64 a0_3, .int .i64 a0_4] 34 (0, 0)) (zh BK222) hg (Kd.R_ne HO225.out BK222.out (by decide))); replace HB := zA (hb); clear HO225; clear ho hb hg hat)))
 (try simp only [Act.put, List.setIfInBounds_toArray, List.set_cons_zero, List.set_cons_succ])
 go_cut [27] (fun v27 wc => ∃ (kq : Nat) (x27_4 : Bool), v27 = .bool x27_4 ∧ Aside0 (spec_FlyGo.j0 kq l2 y226 x27_4 a0_0 a0_1 l0_2 a0_3 a0_4 = some (r1, r2)) ∧ Aside0 (kq ≤ k) ∧ Aside0 (Kd.R (Kd.int .i64) 3 wc w.heap.size (fun _ => True) v227 y226) ∧ Aside0 (wc.heap[gb222]? = some (.cells #[.int .i64 a0_0, .int .i64 a0_1, (.slice A0_2 l0_2.length c0_2), .int .i64 a0_3, .int .i64 a0_4] 34 (0, 0))) ∧ Aside0 (Below w.heap.size w wc))
 case first =>
  have H := HC5.out
  clear HC5
  replace H := zbd H; obtain ⟨t229, A10, H⟩ := H
  by_cases c11 : t229 = true
  rotate_left
  ·replace c11 := Bool.eq_false_iff.mpr c11
   subst c11
   have H1 : (spec_FlyGo.j0 k l2 y226 true a0_0 a0_1 l0_2 a0_3 a0_4) = some (r1, r2) := by rw [if_neg (show ¬ (false = true) by decide)] at H; exact H
   clear H
   have H := H1
   clear H1
   have H' := zA H
   clear H
   obtain ⟨hcz15_0, hcz15_1, hcz15_2, hcz15_3, hcz15_4⟩ := zd5 BK222
   obtain ⟨hfz15_0, hfz15_1, hfz15_2, hfz15_3, hfz15_4⟩ := zn5 BK222
   go_wp2_with (first | (go_at_call 32; (with_reducible refine (spec_FlyPathOk.calls k a0_0 a0_1 _ _ l0_2 a0_3 a0_4 false _ ?side1 ?side2 A10.out).mono ?_); (case side1 => exact zC HR0_2 HB); (case side2 => exact HC0_2.out); rintro e w16 ⟨rfl, hb⟩; replace HO228 := zA (Kd.R_below (zr HO228) hb); replace BK222 := zb BK222 hb; replace HB := zE (zs1 HB GE222) hb; (try clear hb); (try clear hb2); (try clear hk); (try clear hi)))
   repeat (go_quiet (first | (go_at_call 32; (with_reducible refine (spec_FlyPathOk.calls k a0_0 a0_1 _ _ l0_2 a0_3 a0_4 false _ ?side1 ?side2 A10.out).mono ?_); (case side1 => exact zC HR0_2 HB); (case side2 => exact HC0_2.out); rintro e w16 ⟨rfl, hb⟩; replace HO228 := zA (Kd.R_below (zr HO228) hb); replace BK222 := zb BK222 hb; replace HB := zE (zs1 HB GE222) hb; (try clear hb); (try clear hb2); (try clear hk); (try clear hi))); try go_wp2_with (first | (go_at_call 32; (with_reducible refine (spec_FlyPathOk.calls k a0_0 a0_1 _ _ l0_2 a0_3 a0_4 false _ ?side1 ?side2 A10.out).mono ?_); (case side1 => exact zC HR0_2 HB); (case side2 => exact HC0_2.out); rintro e w16 ⟨rfl, hb⟩; replace HO228 := zA (Kd.R_below (zr HO228) hb); replace BK222 := zb BK222 hb; replace HB := zE (zs1 HB GE222) hb; (try clear hb); (try clear hb2); (try clear hk); (try clear hi))))
   go_meet
   case rel => exact ⟨_, (true), zi, H', ⟨by first | omega | exact Nat.le_refl _⟩, ⟨zr HO228⟩, ⟨zh BK222⟩, ⟨zs1 HB GE222⟩⟩
  subst c11
  have H1 : (spec_FlyGo.j0 k l2 y226 (decide ((l1.length : Int) > (wrap64 ((l0_2.length : Int) + 1)))) a0_0 a0_1 l0_2 a0_3 a0_4) = some (r1, r2) := by rw [if_pos rfl] at H; exact H
  clear H
  have H := H1
  clear H1
  have H' := zA H
  clear H
  obtain ⟨hcz12_0, hcz12_1, hcz12_2, hcz12_3, hcz12_4⟩ := zd5 BK222
  obtain ⟨hfz12_0, hfz12_1, hfz12_2, hfz12_3, hfz12_4⟩ := zn5 BK222
  go_wp2_with (first | (go_at_call 32; (with_reducible refine (spec_FlyPathOk.calls k a0_0 a0_1 _ _ l0_2 a0_3 a0_4 true _ ?side1 ?side2 A10.out).mono ?_); (case side1 => exact zC HR0_2 HB); (case side2 => exact HC0_2.out); rintro e w13 ⟨rfl, hb⟩; replace HO228 := zA (Kd.R_below (zr HO228) hb); replace BK222 := zb BK222 hb; replace HB := zE (zs1 HB GE222) hb; (try clear hb); (try clear hb2); (try clear hk); (try clear hi); obtain ⟨hcz14_0, hcz14_1, hcz14_2, hcz14_3, hcz14_4⟩ := zd5 BK222; obtain ⟨hfz14_0, hfz14_1, hfz14_2, hfz14_3, hfz14_4⟩ := zn5 BK222))
  repeat (go_quiet (first | (go_at_call 32; (with_reducible refine (spec_FlyPathOk.calls k a0_0 a0_1 _ _ l0_2 a0_3 a0_4 true _ ?side1 ?side2 A10.out).mono ?_); (case side1 => exact zC HR0_2 HB); (case side2 => exact HC0_2.out); rintro e w13 ⟨rfl, hb⟩; replace HO228 := zA (Kd.R_below (zr HO228) hb); replace BK222 := zb BK222 hb; replace HB := zE (zs1 HB GE222) hb; (try clear hb); (try clear hb2); (try clear hk); (try clear hi); obtain ⟨hcz14_0, hcz14_1, hcz14_2, hcz14_3, hcz14_4⟩ := zd5 BK222; obtain ⟨hfz14_0, hfz14_1, hfz14_2, hfz14_3, hfz14_4⟩ := zn5 BK222)); try go_wp2_with (first | (go_at_call 32; (with_reducible refine (spec_FlyPathOk.calls k a0_0 a0_1 _ _ l0_2 a0_3 a0_4 true _ ?side1 ?side2 A10.out).mono ?_); (case side1 => exact zC HR0_2 HB); (case side2 => exact HC0_2.out); rintro e w13 ⟨rfl, hb⟩; replace HO228 := zA (Kd.R_below (zr HO228) hb); replace BK222 := zb BK222 hb; replace HB := zE (zs1 HB GE222) hb; (try clear hb); (try clear hb2); (try clear hk); (try clear hi); obtain ⟨hcz14_0, hcz14_1, hcz14_2, hcz14_3, hcz14_4⟩ := zd5 BK222; obtain ⟨hfz14_0, hfz14_1, hfz14_2, hfz14_3, hfz14_4⟩ := zn5 BK222)))
  go_meet
  case rel => exact ⟨_, (decide ((l1.length : Int) > (wrap64 ((l0_2.length : Int) + 1)))), zi, H', ⟨by first | omega | exact Nat.le_refl _⟩, ⟨zr HO228⟩, ⟨zh BK222⟩, ⟨zs1 HB GE222⟩⟩
 case rest =>
  clear HC5
  try clear c1
  try clear c2
  try clear p2
  try clear c4
  try clear p6
  try clear c11
  try clear c16
  try clear hcz12_0 hcz12_1 hcz12_2 hcz12_3 hcz12_4
  try clear hcz14_0 hcz14_1 hcz14_2 hcz14_3 hcz14_4
  try clear hcz15_0 hcz15_1 hcz15_2 hcz15_3 hcz15_4
  try clear hfz12_0 hfz12_1 hfz12_2 hfz12_3 hfz12_4
  try clear hfz14_0 hfz14_1 hfz14_2 hfz14_3 hfz14_4
  try clear hfz15_0 hfz15_1 hfz15_2 hfz15_3 hfz15_4
  obtain ⟨kq, x27_4, rfl, HA, HJ4, HO_8, BK222, HB⟩ := hcut
  cases kq with
  | zero => exact absurd HA.out (by simp [spec_FlyGo.j0])
  | succ kj4 =>
   have H := HA.out
   clear HA
   simp only [spec_FlyGo.j0] at H
   by_cases c17 : x27_4 = true
   ·subst c17
    have H1 : (some ((([] : List Int)), false)) = some (r1, r2) := by rw [if_pos rfl] at H; exact H
    clear H
    have H := H1
    clear H1
    obtain ⟨y230, hy230⟩ : ∃ y_ : List Int, y_ = (([] : List Int)) := ⟨_, rfl⟩
    replace H : (some (y230, false)) = some (r1, r2) := by first | (rw [hy230]; with_reducible exact H) | (have H2_ := (Option.bind_some _ _).symm.trans H; rw [hy230]; with_reducible exact H2_) | (have H2_ := (Option.bind_some _ _).symm.trans H; with_reducible exact H2_) | with_reducible exact H | (rw [hy230]; exact H) | exact H
    have Ny230 := zA hy230
    clear hy230
    simp only [Option.some.injEq, Prod.mk.injEq] at H
    obtain ⟨rfl, rfl⟩ := H
    go_wp2_with (first | ((with_reducible refine gate_dst (N := 28) rfl ?_); (try (refine gate_guard (by rfl) ?_; dsimp only)); refine Kd.R_lit (Kd.int .i64) _ 3 ?hg (N := 28) ?hd (xs := ([] : List Int)) (inner := []) (ok := fun _ => True) (okp := fun _ => True) ?hr ?hp (fun _ hk => hk) trivial (Below.refl _ _) (Nat.le_refl _) (by simp) ?_; (case hd => rfl); (case hg => rfl); (case hr => first | (go_simp; done) | (go_simp; rfl)); (case hp => exact (Reps.none _ _)); intro v231 w18 ho19 hb hg_ hnew_; clear hg_ hnew_; (first | rw [← Ny230.out] at ho19 | (simp only [Int.reduceToNat] at ho19; rw [← Ny230.out] at ho19)); have HO232 := zA (Kd.R_lower (Kd.R_new' ho19 (Kd.R_lt (zr HO_8))) (below_size (zs1 HB GE222))); replace HO_8 := zA (Kd.R_elder' (zr HO_8) (Kd.R_base ho19) hb); replace BK222 := zb BK222 hb; replace HB := zE (zs1 HB GE222) hb; clear hb ho19))
    repeat (go_quiet (first | ((with_reducible refine gate_dst (N := 28) rfl ?_); (try (refine gate_guard (by rfl) ?_; dsimp only)); refine Kd.R_lit (Kd.int .i64) _ 3 ?hg (N := 28) ?hd (xs := ([] : List Int)) (inner := []) (ok := fun _ => True) (okp := fun _ => True) ?hr ?hp (fun _ hk => hk) trivial (Below.refl _ _) (Nat.le_refl _) (by simp) ?_; (case hd => rfl); (case hg => rfl); (case hr => first | (go_simp; done) | (go_simp; rfl)); (case hp => exact (Reps.none _ _)); intro v231 w18 ho19 hb hg_ hnew_; clear hg_ hnew_; (first | rw [← Ny230.out] at ho19 | (simp only [Int.reduceToNat] at ho19; rw [← Ny230.out] at ho19)); have HO232 := zA (Kd.R_lower (Kd.R_new' ho19 (Kd.R_lt (zr HO_8))) (below_size (zs1 HB GE222))); replace HO_8 := zA (Kd.R_elder' (zr HO_8) (Kd.R_base ho19) hb); replace BK222 := zb BK222 hb; replace HB := zE (zs1 HB GE222) hb; clear hb ho19)); try go_wp2_with (first | ((with_reducible refine gate_dst (N := 28) rfl ?_); (try (refine gate_guard (by rfl) ?_; dsimp only)); refine Kd.R_lit (Kd.int .i64) _ 3 ?hg (N := 28) ?hd (xs := ([] : List Int)) (inner := []) (ok := fun _ => True) (okp := fun _ => True) ?hr ?hp (fun _ hk => hk) trivial (Below.refl _ _) (Nat.le_refl _) (by simp) ?_; (case hd => rfl); (case hg => rfl); (case hr => first | (go_simp; done) | (go_simp; rfl)); (case hp => exact (Reps.none _ _)); intro v231 w18 ho19 hb hg_ hnew_; clear hg_ hnew_; (first | rw [← Ny230.out] at ho19 | (simp only [Int.reduceToNat] at ho19; rw [← Ny230.out] at ho19)); have HO232 := zA (Kd.R_lower (Kd.R_new' ho19 (Kd.R_lt (zr HO_8))) (below_size (zs1 HB GE222))); replace HO_8 := zA (Kd.R_elder' (zr HO_8) (Kd.R_base ho19) hb); replace BK222 := zb BK222 hb; replace HB := zE (zs1 HB GE222) hb; clear hb ho19)))
    go_ret2
    exact ⟨_, ze, by (with_reducible repeat (first | apply Kd.R_alloc | apply Kd.R_drewN | apply Kd.R_drew)); exact Kd.R_mono HO232.out (fun _ hk => trivial), zs1 HB GE222⟩
   replace c17 := Bool.eq_false_iff.mpr c17
   subst c17
   have H1 : (spec_FlyGo.l0 kj4 l2 y226 0 a0_0 a0_1 l0_2 a0_3 a0_4) = some (r1, r2) := by rw [if_neg (show ¬ (false = true) by decide)] at H; exact H
   clear H
   have H := H1
   clear H1
   have H' := zA H
   clear H
   go_wp2
   repeat (go_quiet (fail); try go_wp2)
   go_loopg [8, 9] kj4 (fun kq v8 v9 w' => ∃ (x8_2 : List Int) (x9_2 : Int), v9 = .int .i64 x9_2 ∧ Aside0 (spec_FlyGo.l0 kq l2 x8_2 x9_2 a0_0 a0_1 l0_2 a0_3 a0_4 = some (r1, r2)) ∧ Aside0 (kq ≤ kj4) ∧ Aside0 (Kd.R (Kd.int .i64) 3 w' w.heap.size (fun _ => True) v8 x8_2) ∧ Aside0 (w'.heap[gb222]? = some (.cells #[.int .i64 a0_0, .int .i64 a0_1, (.slice A0_2 l0_2.length c0_2), .int .i64 a0_3, .int .i64 a0_4] 34 (0, 0))) ∧ Aside0 (Below w.heap.size w w'))
   case atStart => exact ⟨(y226), (0), zi, H', ⟨Nat.le_refl _⟩, ⟨zr HO_8⟩, ⟨zh BK222⟩, ⟨zs1 HB GE222⟩⟩
   case round =>
    clear H'
    try clear c1
    try clear c2
    try clear p2
    try clear c4
    try clear p6
    try clear c11
    try clear c16
    try clear c17
    try clear hcz12_0 hcz12_1 hcz12_2 hcz12_3 hcz12_4
    try clear hcz14_0 hcz14_1 hcz14_2 hcz14_3 hcz14_4
    try clear hcz15_0 hcz15_1 hcz15_2 hcz15_3 hcz15_4
    try clear hfz12_0 hfz12_1 hfz12_2 hfz12_3 hfz12_4
    try clear hfz14_0 hfz14_1 hfz14_2 hfz14_3 hfz14_4
    try clear hfz15_0 hfz15_1 hfz15_2 hfz15_3 hfz15_4
    try clear p2
    try clear p6
    obtain ⟨x8_2, x9_2, rfl, HA, HK2, HO_8, BK222, HB⟩ := hrel
    cases gk with
    | zero => exact absurd HA.out (by simp [spec_FlyGo.l0])
    | succ k2 =>
     have H := HA.out
     clear HA
     simp only [spec_FlyGo.l0] at H
     by_cases c20 : (x8_2.length : Int) ≤ (l0_2.length : Int)
     rotate_left
     ·rw [if_neg c20] at H
      have c20b0 : decide ((x8_2.length : Int) ≤ (l0_2.length : Int)) = false := decide_eq_false c20
      have c20b1 : decide (x8_2.length ≤ l0_2.length) = false := decide_eq_false (fun h => c20 (Int.ofNat_le.mpr h))
      clear c20
      replace H := zbd H; obtain ⟨t233, A51, H⟩ := H
      by_cases c52 : t233 = true
      ·subst c52
       have H1 : (some (x8_2, true)) = some (r1, r2) := by rw [if_pos rfl] at H; exact H
       clear H
       have H := H1
       clear H1
       simp only [Option.some.injEq, Prod.mk.injEq] at H
       obtain ⟨rfl, rfl⟩ := H
       obtain ⟨Ao53, co53, eo53⟩ := Kd.R_slice HO_8.out
       subst eo53
       obtain ⟨hcz54_0, hcz54_1, hcz54_2, hcz54_3, hcz54_4⟩ := zd5 BK222
       obtain ⟨hfz54_0, hfz54_1, hfz54_2, hfz54_3, hfz54_4⟩ := zn5 BK222
       go_wp2_with (first | (go_at_call 34; (with_reducible refine (spec_FlyLawful.calls k2 a0_0 a0_1 _ _ l0_2 a0_3 a0_4 _ _ x8_2 true _ ?side1 ?side2 ?side3 ?side4 A51.out).mono ?_); (case side1 => exact zC HR0_2 HB); (case side2 => exact HC0_2.out); (case side3 => repeat (first | exact (Kd.R_reads' HO_8.out).2.2 | (with_reducible refine Kd.C_alloc ?_ _) | (with_reducible refine Kd.C_drewN ?_ _) | (with_reducible refine Kd.C_drew ?_))); (case side4 => exact (Kd.R_reads' HO_8.out).2.1); rintro e w55 ⟨rfl, hb⟩; replace HO_8 := zA (Kd.R_below (zr HO_8) hb); replace BK222 := zb BK222 hb; replace HB := zE (zs1 HB GE222) hb; (try clear hb); (try clear hb2); (try clear hk); (try clear hi)))
       repeat (go_quiet (first | (go_at_call 34; (with_reducible refine (spec_FlyLawful.calls k2 a0_0 a0_1 _ _ l0_2 a0_3 a0_4 _ _ x8_2 true _ ?side1 ?side2 ?side3 ?side4 A51.out).mono ?_); (case side1 => exact zC HR0_2 HB); (case side2 => exact HC0_2.out); (case side3 => repeat (first | exact (Kd.R_reads' HO_8.out).2.2 | (with_reducible refine Kd.C_alloc ?_ _) | (with_reducible refine Kd.C_drewN ?_ _) | (with_reducible refine Kd.C_drew ?_))); (case side4 => exact (Kd.R_reads' HO_8.out).2.1); rintro e w55 ⟨rfl, hb⟩; replace HO_8 := zA (Kd.R_below (zr HO_8) hb); replace BK222 := zb BK222 hb; replace HB := zE (zs1 HB GE222) hb; (try clear hb); (try clear hb2); (try clear hk); (try clear hi))); try go_wp2_with (first | (go_at_call 34; (with_reducible refine (spec_FlyLawful.calls k2 a0_0 a0_1 _ _ l0_2 a0_3 a0_4 _ _ x8_2 true _ ?side1 ?side2 ?side3 ?side4 A51.out).mono ?_); (case side1 => exact zC HR0_2 HB); (case side2 => exact HC0_2.out); (case side3 => repeat (first | exact (Kd.R_reads' HO_8.out).2.2 | (with_reducible refine Kd.C_alloc ?_ _) | (with_reducible refine Kd.C_drewN ?_ _) | (with_reducible refine Kd.C_drew ?_))); (case side4 => exact (Kd.R_reads' HO_8.out).2.1); rintro e w55 ⟨rfl, hb⟩; replace HO_8 := zA (Kd.R_below (zr HO_8) hb); replace BK222 := zb BK222 hb; replace HB := zE (zs1 HB GE222) hb; (try clear hb); (try clear hb2); (try clear hk); (try clear hi))))
       go_ret2
       exact ⟨_, ze, zr HO_8, zs1 HB GE222⟩
      replace c52 := Bool.eq_false_iff.mpr c52
      subst c52
      have H1 : (some ((([] : List Int)), false)) = some (r1, r2) := by rw [if_neg (show ¬ (false = true) by decide)] at H; exact H
      clear H
      have H := H1
      clear H1
      obtain ⟨y234, hy234⟩ : ∃ y_ : List Int, y_ = (([] : List Int)) := ⟨_, rfl⟩
      replace H : (some (y234, false)) = some (r1, r2) := by first | (rw [hy234]; with_reducible exact H) | (have H2_ := (Option.bind_some _ _).symm.trans H; rw [hy234]; with_reducible exact H2_) | (have H2_ := (Option.bind_some _ _).symm.trans H; with_reducible exact H2_) | with_reducible exact H | (rw [hy234]; exact H) | exact H
      have Ny234 := zA hy234
      clear hy234
      simp only [Option.some.injEq, Prod.mk.injEq] at H
      obtain ⟨rfl, rfl⟩ := H
      obtain ⟨Ao56, co56, eo56⟩ := Kd.R_slice HO_8.out
      subst eo56
      obtain ⟨hcz57_0, hcz57_1, hcz57_2, hcz57_3, hcz57_4⟩ := zd5 BK222
      obtain ⟨hfz57_0, hfz57_1, hfz57_2, hfz57_3, hfz57_4⟩ := zn5 BK222
      go_wp2_with (first | (go_at_call 34; (with_reducible refine (spec_FlyLawful.calls k2 a0_0 a0_1 _ _ l0_2 a0_3 a0_4 _ _ x8_2 false _ ?side1 ?side2 ?side3 ?side4 A51.out).mono ?_); (case side1 => exact zC HR0_2 HB); (case side2 => exact HC0_2.out); (case side3 => repeat (first | exact (Kd.R_reads' HO_8.out).2.2 | (with_reducible refine Kd.C_alloc ?_ _) | (with_reducible refine Kd.C_drewN ?_ _) | (with_reducible refine Kd.C_drew ?_))); (case side4 => exact (Kd.R_reads' HO_8.out).2.1); rintro e w58 ⟨rfl, hb⟩; replace HO_8 := zA (Kd.R_below (zr HO_8) hb); replace BK222 := zb BK222 hb; replace HB := zE (zs1 HB GE222) hb; (try clear hb); (try clear hb2); (try clear hk); (try clear hi)) | ((with_reducible refine gate_dst (N := 70) rfl ?_); (try (refine gate_guard (by rfl) ?_; dsimp only)); refine Kd.R_lit (Kd.int .i64) _ 3 ?hg (N := 70) ?hd (xs := ([] : List Int)) (inner := []) (ok := fun _ => True) (okp := fun _ => True) ?hr ?hp (fun _ hk => hk) trivial (Below.refl _ _) (Nat.le_refl _) (by simp) ?_; (case hd => rfl); (case hg => rfl); (case hr => first | (go_simp; done) | (go_simp; rfl)); (case hp => exact (Reps.none _ _)); intro v235 w59 ho60 hb hg_ hnew_; clear hg_ hnew_; (first | rw [← Ny234.out] at ho60 | (simp only [Int.reduceToNat] at ho60; rw [← Ny234.out] at ho60)); have HO236 := zA (Kd.R_lower (Kd.R_new' ho60 (Kd.R_lt (zr HO_8))) (below_size (zs1 HB GE222))); replace HO_8 := zA (Kd.R_elder' (zr HO_8) (Kd.R_base ho60) hb); replace BK222 := zb BK222 hb; replace HB := zE (zs1 HB GE222) hb; clear hb ho60))
      repeat (go_quiet (first | (go_at_call 34; (with_reducible refine (spec_FlyLawful.calls k2 a0_0 a0_1 _ _ l0_2 a0_3 a0_4 _ _ x8_2 false _ ?side1 ?side2 ?side3 ?side4 A51.out).mono ?_); (case side1 => exact zC HR0_2 HB); (case side2 => exact HC0_2.out); (case side3 => repeat (first | exact (Kd.R_reads' HO_8.out).2.2 | (with_reducible refine Kd.C_alloc ?_ _) | (with_reducible refine Kd.C_drewN ?_ _) | (with_reducible refine Kd.C_drew ?_))); (case side4 => exact (Kd.R_reads' HO_8.out).2.1); rintro e w58 ⟨rfl, hb⟩; replace HO_8 := zA (Kd.R_below (zr HO_8) hb); replace BK222 := zb BK222 hb; replace HB := zE (zs1 HB GE222) hb; (try clear hb); (try clear hb2); (try clear hk); (try clear hi)) | ((with_reducible refine gate_dst (N := 70) rfl ?_); (try (refine gate_guard (by rfl) ?_; dsimp only)); refine Kd.R_lit (Kd.int .i64) _ 3 ?hg (N := 70) ?hd (xs := ([] : List Int)) (inner := []) (ok := fun _ => True) (okp := fun _ => True) ?hr ?hp (fun _ hk => hk) trivial (Below.refl _ _) (Nat.le_refl _) (by simp) ?_; (case hd => rfl); (case hg => rfl); (case hr => first | (go_simp; done) | (go_simp; rfl)); (case hp => exact (Reps.none _ _)); intro v235 w59 ho60 hb hg_ hnew_; clear hg_ hnew_; (first | rw [← Ny234.out] at ho60 | (simp only [Int.reduceToNat] at ho60; rw [← Ny234.out] at ho60)); have HO236 := zA (Kd.R_lower (Kd.R_new' ho60 (Kd.R_lt (zr HO_8))) (below_size (zs1 HB GE222))); replace HO_8 := zA (Kd.R_elder' (zr HO_8) (Kd.R_base ho60) hb); replace BK222 := zb BK222 hb; replace HB := zE (zs1 HB GE222) hb; clear hb ho60)); try go_wp2_with (first | (go_at_call 34; (with_reducible refine (spec_FlyLawful.calls k2 a0_0 a0_1 _ _ l0_2 a0_3 a0_4 _ _ x8_2 false _ ?side1 ?side2 ?side3 ?side4 A51.out).mono ?_); (case side1 => exact zC HR0_2 HB); (case side2 => exact HC0_2.out); (case side3 => repeat (first | exact (Kd.R_reads' HO_8.out).2.2 | (with_reducible refine Kd.C_alloc ?_ _) | (with_reducible refine Kd.C_drewN ?_ _) | (with_reducible refine Kd.C_drew ?_))); (case side4 => exact (Kd.R_reads' HO_8.out).2.1); rintro e w58 ⟨rfl, hb⟩; replace HO_8 := zA (Kd.R_below (zr HO_8) hb); replace BK222 := zb BK222 hb; replace HB := zE (zs1 HB GE222) hb; (try clear hb); (try clear hb2); (try clear hk); (try clear hi)) | ((with_reducible refine gate_dst (N := 70) rfl ?_); (try (refine gate_guard (by rfl) ?_; dsimp only)); refine Kd.R_lit (Kd.int .i64) _ 3 ?hg (N := 70) ?hd (xs := ([] : List Int)) (inner := []) (ok := fun _ => True) (okp := fun _ => True) ?hr ?hp (fun _ hk => hk) trivial (Below.refl _ _) (Nat.le_refl _) (by simp) ?_; (case hd => rfl); (case hg => rfl); (case hr => first | (go_simp; done) | (go_simp; rfl)); (case hp => exact (Reps.none _ _)); intro v235 w59 ho60 hb hg_ hnew_; clear hg_ hnew_; (first | rw [← Ny234.out] at ho60 | (simp only [Int.reduceToNat] at ho60; rw [← Ny234.out] at ho60)); have HO236 := zA (Kd.R_lower (Kd.R_new' ho60 (Kd.R_lt (zr HO_8))) (below_size (zs1 HB GE222))); replace HO_8 := zA (Kd.R_elder' (zr HO_8) (Kd.R_base ho60) hb); replace BK222 := zb BK222 hb; replace HB := zE (zs1 HB GE222) hb; clear hb ho60)))
      go_ret2
      exact ⟨_, ze, by (with_reducible repeat (first | apply Kd.R_alloc | apply Kd.R_drewN | apply Kd.R_drew)); exact Kd.R_mono HO236.out (fun _ hk => trivial), zs1 HB GE222⟩
     rw [if_pos c20] at H
     have c20b0 : decide ((x8_2.length : Int) ≤ (l0_2.length : Int)) = true := decide_eq_true c20
     have c20b1 : decide (x8_2.length ≤ l0_2.length) = true := decide_eq_true (Int.ofNat_le.mp c20)
     clear c20
     replace H := Option.bind_eq_some_iff.mp H
     obtain ⟨⟨t237, t238, t239⟩, A210, H⟩ := H
     replace H : (if t239 = true then (if x9_2 < (l2.length : Int) then (if 0 ≤ x9_2 then ((spec_l21Max.f t237 (rd l2 x9_2)).bind fun t245 => ((spec_l21Min.f t245 t238).bind fun t246 => (if x8_2.length < 17592186044416 then (spec_FlyGo.l0 k2 l2 (x8_2 ++ [t246]) (wrap64 (x9_2 + 1)) a0_0 a0_1 l0_2 a0_3 a0_4) else (none)))) else (none)) else (if x8_2.length < 17592186044416 then (spec_FlyGo.l0 k2 l2 (x8_2 ++ [t237]) (wrap64 (x9_2 + 1)) a0_0 a0_1 l0_2 a0_3 a0_4) else (none))) else (some ((([] : List Int)), false))) = some (r1, r2) := H
     have A21 := zA A210
     clear A210
     by_cases c22 : t239 = true
     rotate_left
     ·replace c22 := Bool.eq_false_iff.mpr c22
      subst c22
      have H1 : (some ((([] : List Int)), false)) = some (r1, r2) := by rw [if_neg (show ¬ (false = true) by decide)] at H; exact H
      clear H
      have H := H1
      clear H1
      obtain ⟨y241, hy241⟩ : ∃ y_ : List Int, y_ = (([] : List Int)) := ⟨_, rfl⟩
      replace H : (some (y241, false)) = some (r1, r2) := by first | (rw [hy241]; with_reducible exact H) | (have H2_ := (Option.bind_some _ _).symm.trans H; rw [hy241]; with_reducible exact H2_) | (have H2_ := (Option.bind_some _ _).symm.trans H; with_reducible exact H2_) | with_reducible exact H | (rw [hy241]; exact H) | exact H
      have Ny241 := zA hy241
      clear hy241
      simp only [Option.some.injEq, Prod.mk.injEq] at H
      obtain ⟨rfl, rfl⟩ := H
      obtain ⟨Ao43, co43, eo43⟩ := Kd.R_slice HO_8.out
      subst eo43
      obtain ⟨hcz44_0, hcz44_1, hcz44_2, hcz44_3, hcz44_4⟩ := zd5 BK222
      obtain ⟨hfz44_0, hfz44_1, hfz44_2, hfz44_3, hfz44_4⟩ := zn5 BK222
      go_wp2_with (first | (go_at_call 27; (with_reducible refine (spec_FlyNext.calls k2 a0_0 a0_1 _ _ l0_2 a0_3 a0_4 _ _ x8_2 t237 t238 false _ ?side1 ?side2 ?side3 ?side4 A21.out).mono ?_); (case side1 => exact zC HR0_2 HB); (case side2 => exact HC0_2.out); (case side3 => repeat (first | exact (Kd.R_reads' HO_8.out).2.2 | (with_reducible refine Kd.C_alloc ?_ _) | (with_reducible refine Kd.C_drewN ?_ _) | (with_reducible refine Kd.C_drew ?_))); (case side4 => exact (Kd.R_reads' HO_8.out).2.1); rintro e w45 ⟨rfl, hb⟩; replace HO_8 := zA (Kd.R_below (zr HO_8) hb); replace BK222 := zb BK222 hb; replace HB := zE (zs1 HB GE222) hb; (try clear hb); (try clear hb2); (try clear hk); (try clear hi)) | ((with_reducible refine gate_dst (N := 10) rfl ?_); (try (refine gate_guard (by rfl) ?_; dsimp only)); refine zbx 10 #[.int .i64 0, .int .i64 0] 46 ?_; intro gb240 hg w46 hbox hb; have BK240 := zA hbox; have GW240 := zgs hg (zs1 HB GE222); have GE240 := zgs hg (zs1 HB GE222); have NB222_240 := zne hg BK222; have NB240_222 := znf hg BK222; replace HO_8 := zA (Kd.R_below (zr HO_8) hb); replace BK222 := zb BK222 hb; replace HB := zE (zs1 HB GE222) hb; clear hb hbox hg; have hnb47 := NB240_222.out; have hnc47 := NB222_240.out; obtain ⟨hcz48_0, hcz48_1⟩ := zd2 BK240; obtain ⟨hfz48_0, hfz48_1⟩ := zn2 BK240) | ((with_reducible refine gate_dst (N := 45) rfl ?_); (try (refine gate_guard (by rfl) ?_; dsimp only)); refine Kd.R_lit (Kd.int .i64) _ 3 ?hg (N := 45) ?hd (xs := ([] : List Int)) (inner := []) (ok := fun _ => True) (okp := fun _ => True) ?hr ?hp (fun _ hk => hk) trivial (Below.refl _ _) (Nat.le_refl _) (by simp) ?_; (case hd => rfl); (case hg => rfl); (case hr => first | (go_simp; done) | (go_simp; rfl)); (case hp => exact (Reps.none _ _)); intro v242 w49 ho50 hb hg_ hnew_; clear hg_ hnew_; (first | rw [← Ny241.out] at ho50 | (simp only [Int.reduceToNat] at ho50; rw [← Ny241.out] at ho50)); have HO243 := zA (Kd.R_lower (Kd.R_new' ho50 (Kd.R_lt (zRf HO_8 BK240 (fun _ h_ => h_.1)))) (below_size (zs2 HB GE222 GE240))); replace HO_8 := zA (Kd.R_elder' (zRf HO_8 BK240 (fun _ h_ => h_.1)) (Kd.R_base ho50) hb); replace BK222 := zA (blk_below (g := gb222) (o := .cells #[.int .i64 a0_0, .int .i64 a0_1, .slice A0_2 l0_2.length c0_2, .int .i64 a0_3, .int .i64 a0_4] 34 (0, 0)) (zpf BK222 NB222_240) hb); replace BK240 := zA (blk_below (g := gb240) (o := .cells #[.int .i64 t237, .int .i64 t238] 46 (0, 0)) (zpb BK240) hb); replace HB := zE (zs2 HB GE222 GE240) hb; clear hb ho50))
      repeat (go_quiet (first | (go_at_call 27; (with_reducible refine (spec_FlyNext.calls k2 a0_0 a0_1 _ _ l0_2 a0_3 a0_4 _ _ x8_2 t237 t238 false _ ?side1 ?side2 ?side3 ?side4 A21.out).mono ?_); (case side1 => exact zC HR0_2 HB); (case side2 => exact HC0_2.out); (case side3 => repeat (first | exact (Kd.R_reads' HO_8.out).2.2 | (with_reducible refine Kd.C_alloc ?_ _) | (with_reducible refine Kd.C_drewN ?_ _) | (with_reducible refine Kd.C_drew ?_))); (case side4 => exact (Kd.R_reads' HO_8.out).2.1); rintro e w45 ⟨rfl, hb⟩; replace HO_8 := zA (Kd.R_below (zr HO_8) hb); replace BK222 := zb BK222 hb; replace HB := zE (zs1 HB GE222) hb; (try clear hb); (try clear hb2); (try clear hk); (try clear hi)) | ((with_reducible refine gate_dst (N := 10) rfl ?_); (try (refine gate_guard (by rfl) ?_; dsimp only)); refine zbx 10 #[.int .i64 0, .int .i64 0] 46 ?_; intro gb240 hg w46 hbox hb; have BK240 := zA hbox; have GW240 := zgs hg (zs1 HB GE222); have GE240 := zgs hg (zs1 HB GE222); have NB222_240 := zne hg BK222; have NB240_222 := znf hg BK222; replace HO_8 := zA (Kd.R_below (zr HO_8) hb); replace BK222 := zb BK222 hb; replace HB := zE (zs1 HB GE222) hb; clear hb hbox hg; have hnb47 := NB240_222.out; have hnc47 := NB222_240.out; obtain ⟨hcz48_0, hcz48_1⟩ := zd2 BK240; obtain ⟨hfz48_0, hfz48_1⟩ := zn2 BK240) | ((with_reducible refine gate_dst (N := 45) rfl ?_); (try (refine gate_guard (by rfl) ?_; dsimp only)); refine Kd.R_lit (Kd.int .i64) _ 3 ?hg (N := 45) ?hd (xs := ([] : List Int)) (inner := []) (ok := fun _ => True) (okp := fun _ => True) ?hr ?hp (fun _ hk => hk) trivial (Below.refl _ _) (Nat.le_refl _) (by simp) ?_; (case hd => rfl); (case hg => rfl); (case hr => first | (go_simp; done) | (go_simp; rfl)); (case hp => exact (Reps.none _ _)); intro v242 w49 ho50 hb hg_ hnew_; clear hg_ hnew_; (first | rw [← Ny241.out] at ho50 | (simp only [Int.reduceToNat] at ho50; rw [← Ny241.out] at ho50)); have HO243 := zA (Kd.R_lower (Kd.R_new' ho50 (Kd.R_lt (zRf HO_8 BK240 (fun _ h_ => h_.1)))) (below_size (zs2 HB GE222 GE240))); replace HO_8 := zA (Kd.R_elder' (zRf HO_8 BK240 (fun _ h_ => h_.1)) (Kd.R_base ho50) hb); replace BK222 := zA (blk_below (g := gb222) (o := .cells #[.int .i64 a0_0, .int .i64 a0_1, .slice A0_2 l0_2.length c0_2, .int .i64 a0_3, .int .i64 a0_4] 34 (0, 0)) (zpf BK222 NB222_240) hb); replace BK240 := zA (blk_below (g := gb240) (o := .cells #[.int .i64 t237, .int .i64 t238] 46 (0, 0)) (zpb BK240) hb); replace HB := zE (zs2 HB GE222 GE240) hb; clear hb ho50)); try go_wp2_with (first | (go_at_call 27; (with_reducible refine (spec_FlyNext.calls k2 a0_0 a0_1 _ _ l0_2 a0_3 a0_4 _ _ x8_2 t237 t238 false _ ?side1 ?side2 ?side3 ?side4 A21.out).mono ?_); (case side1 => exact zC HR0_2 HB); (case side2 => exact HC0_2.out); (case side3 => repeat (first | exact (Kd.R_reads' HO_8.out).2.2 | (with_reducible refine Kd.C_alloc ?_ _) | (with_reducible refine Kd.C_drewN ?_ _) | (with_reducible refine Kd.C_drew ?_))); (case side4 => exact (Kd.R_reads' HO_8.out).2.1); rintro e w45 ⟨rfl, hb⟩; replace HO_8 := zA (Kd.R_below (zr HO_8) hb); replace BK222 := zb BK222 hb; replace HB := zE (zs1 HB GE222) hb; (try clear hb); (try clear hb2); (try clear hk); (try clear hi)) | ((with_reducible refine gate_dst (N := 10) rfl ?_); (try (refine gate_guard (by rfl) ?_; dsimp only)); refine zbx 10 #[.int .i64 0, .int .i64 0] 46 ?_; intro gb240 hg w46 hbox hb; have BK240 := zA hbox; have GW240 := zgs hg (zs1 HB GE222); have GE240 := zgs hg (zs1 HB GE222); have NB222_240 := zne hg BK222; have NB240_222 := znf hg BK222; replace HO_8 := zA (Kd.R_below (zr HO_8) hb); replace BK222 := zb BK222 hb; replace HB := zE (zs1 HB GE222) hb; clear hb hbox hg; have hnb47 := NB240_222.out; have hnc47 := NB222_240.out; obtain ⟨hcz48_0, hcz48_1⟩ := zd2 BK240; obtain ⟨hfz48_0, hfz48_1⟩ := zn2 BK240) | ((with_reducible refine gate_dst (N := 45) rfl ?_); (try (refine gate_guard (by rfl) ?_; dsimp only)); refine Kd.R_lit (Kd.int .i64) _ 3 ?hg (N := 45) ?hd (xs := ([] : List Int)) (inner := []) (ok := fun _ => True) (okp := fun _ => True) ?hr ?hp (fun _ hk => hk) trivial (Below.refl _ _) (Nat.le_refl _) (by simp) ?_; (case hd => rfl); (case hg => rfl); (case hr => first | (go_simp; done) | (go_simp; rfl)); (case hp => exact (Reps.none _ _)); intro v242 w49 ho50 hb hg_ hnew_; clear hg_ hnew_; (first | rw [← Ny241.out] at ho50 | (simp only [Int.reduceToNat] at ho50; rw [← Ny241.out] at ho50)); have HO243 := zA (Kd.R_lower (Kd.R_new' ho50 (Kd.R_lt (zRf HO_8 BK240 (fun _ h_ => h_.1)))) (below_size (zs2 HB GE222 GE240))); replace HO_8 := zA (Kd.R_elder' (zRf HO_8 BK240 (fun _ h_ => h_.1)) (Kd.R_base ho50) hb); replace BK222 := zA (blk_below (g := gb222) (o := .cells #[.int .i64 a0_0, .int .i64 a0_1, .slice A0_2 l0_2.length c0_2, .int .i64 a0_3, .int .i64 a0_4] 34 (0, 0)) (zpf BK222 NB222_240) hb); replace BK240 := zA (blk_below (g := gb240) (o := .cells #[.int .i64 t237, .int .i64 t238] 46 (0, 0)) (zpb BK240) hb); replace HB := zE (zs2 HB GE222 GE240) hb; clear hb ho50)))
      go_ret2
      exact ⟨_, ze, by (with_reducible repeat (first | apply Kd.R_alloc | apply Kd.R_drewN | apply Kd.R_drew)); exact Kd.R_mono HO243.out (fun _ hk => trivial), zs2 HB GE222 GE240⟩
     subst c22
     have H1 : (if x9_2 < (l2.length : Int) then (if 0 ≤ x9_2 then ((spec_l21Max.f t237 (rd l2 x9_2)).bind fun t245 => ((spec_l21Min.f t245 t238).bind fun t246 => (if x8_2.length < 17592186044416 then (spec_FlyGo.l0 k2 l2 (x8_2 ++ [t246]) (wrap64 (x9_2 + 1)) a0_0 a0_1 l0_2 a0_3 a0_4) else (none)))) else (none)) else (if x8_2.length < 17592186044416 then (spec_FlyGo.l0 k2 l2 (x8_2 ++ [t237]) (wrap64 (x9_2 + 1)) a0_0 a0_1 l0_2 a0_3 a0_4) else (none))) = some (r1, r2) := by rw [if_pos rfl] at H; exact H
     clear H
     have H := H1
     clear H1
     by_cases c23 : x9_2 < (l2.length : Int)
     rotate_left
     ·rw [if_neg c23] at H
      have c23b0 : decide (x9_2 < (l2.length : Int)) = false := decide_eq_false c23
      clear c23
      by_cases c35 : x8_2.length < 17592186044416
      rotate_left
      ·rw [if_neg c35] at H
       exact absurd H (by simp)
      rw [if_pos c35] at H
      have LMc35 := zA c35
      clear c35
      obtain ⟨y250, hy250⟩ : ∃ y_ : List Int, y_ = (x8_2 ++ [t237]) := ⟨_, rfl⟩
      replace H : (spec_FlyGo.l0 k2 l2 y250 (wrap64 (x9_2 + 1)) a0_0 a0_1 l0_2 a0_3 a0_4) = some (r1, r2) := by first | (rw [hy250]; with_reducible exact H) | (have H2_ := (Option.bind_some _ _).symm.trans H; rw [hy250]; with_reducible exact H2_) | (have H2_ := (Option.bind_some _ _).symm.trans H; with_reducible exact H2_) | with_reducible exact H | (rw [hy250]; exact H) | exact H
      have Ny250 := zA hy250
      clear hy250
      have H' := zA H
      clear H
      obtain ⟨Ao36, co36, eo36⟩ := Kd.R_slice HO_8.out
      subst eo36
      obtain ⟨hcz37_0, hcz37_1, hcz37_2, hcz37_3, hcz37_4⟩ := zd5 BK222
      obtain ⟨hfz37_0, hfz37_1, hfz37_2, hfz37_3, hfz37_4⟩ := zn5 BK222
      go_wp2_with (first | (go_at_call 27; (with_reducible refine (spec_FlyNext.calls k2 a0_0 a0_1 _ _ l0_2 a0_3 a0_4 _ _ x8_2 t237 t238 true _ ?side1 ?side2 ?side3 ?side4 A21.out).mono ?_); (case side1 => exact zC HR0_2 HB); (case side2 => exact HC0_2.out); (case side3 => repeat (first | exact (Kd.R_reads' HO_8.out).2.2 | (with_reducible refine Kd.C_alloc ?_ _) | (with_reducible refine Kd.C_drewN ?_ _) | (with_reducible refine Kd.C_drew ?_))); (case side4 => exact (Kd.R_reads' HO_8.out).2.1); rintro e w38 ⟨rfl, hb⟩; replace HO_8 := zA (Kd.R_below (zr HO_8) hb); replace BK222 := zb BK222 hb; replace HB := zE (zs1 HB GE222) hb; (try clear hb); (try clear hb2); (try clear hk); (try clear hi)) | ((with_reducible refine gate_dst (N := 10) rfl ?_); (try (refine gate_guard (by rfl) ?_; dsimp only)); refine zbx 10 #[.int .i64 0, .int .i64 0] 46 ?_; intro gb240 hg w39 hbox hb; have BK240 := zA hbox; have GW240 := zgs hg (zs1 HB GE222); have GE240 := zgs hg (zs1 HB GE222); have NB222_240 := zne hg BK222; have NB240_222 := znf hg BK222; replace HO_8 := zA (Kd.R_below (zr HO_8) hb); replace BK222 := zb BK222 hb; replace HB := zE (zs1 HB GE222) hb; clear hb hbox hg; have hnb40 := NB240_222.out; have hnc40 := NB222_240.out; obtain ⟨hcz41_0, hcz41_1⟩ := zd2 BK240; obtain ⟨hfz41_0, hfz41_1⟩ := zn2 BK240) | ((with_reducible refine gate_builtin (b := .append) (xs := #[.tmp 62, .tmp 64]) rfl ?_); (try (refine gate_guard (by rfl) ?_; dsimp only)); at_builtin; refine Kd.R_append (Kd.int .i64) (w0 := w) w.heap.size rfl (.tmp 62) (.tmp 64) 27 3 (.int .i64 0) 8 rfl Try.underlying27 info3 rfl (by decide) (by omega) (.slice Ao36 x8_2.length co36) x8_2 t237 [.int .i64 t237] (fun _ => True) (fun _ => False) rfl (by first | (go_simp; done) | (go_simp; rfl)) ?aP (fun _ hk => hk.elim) ?aF ?aO ?aB ?aS ?aL ?_; (case aP => exact rfl); (case aB => exact (zs2 HB GE222 GE240)); (case aF => exact (fun _ _ => trivial)); (case aO => exact (zRf HO_8 BK240 (fun _ hk => trivial))); (case aS => exact (below_size (zs2 HB GE222 GE240))); (case aL => have := LMc35.out; omega); intro v251 w42 ho hb hg hat; rw [← Ny250.out] at ho; have HO252 := zA (ho); replace BK222 := zA (blk_grown (g := gb222) (o := .cells #[.int .i64 a0_0, .int .i64 a0_1, .slice A0_2 l0_2.length c0_2, .int .i64 a0_3, .int .i64 a0_4] 34 (0, 0)) (zpf BK222 NB222_240) hg (Kd.R_ne HO_8.out BK222.out (by decide))); replace BK240 := zA (blk_grown (g := gb240) (o := .cells #[.int .i64 t237, .int .i64 t238] 46 (0, 0)) (zpb BK240) hg (Kd.R_ne HO_8.out BK240.out (by decide))); replace HB := zA (hb); clear HO_8; clear ho hb hg hat))
      repeat (go_quiet (first | (go_at_call 27; (with_reducible refine (spec_FlyNext.calls k2 a0_0 a0_1 _ _ l0_2 a0_3 a0_4 _ _ x8_2 t237 t238 true _ ?side1 ?side2 ?side3 ?side4 A21.out).mono ?_); (case side1 => exact zC HR0_2 HB); (case side2 => exact HC0_2.out); (case side3 => repeat (first | exact (Kd.R_reads' HO_8.out).2.2 | (with_reducible refine Kd.C_alloc ?_ _) | (with_reducible refine Kd.C_drewN ?_ _) | (with_reducible refine Kd.C_drew ?_))); (case side4 => exact (Kd.R_reads' HO_8.out).2.1); rintro e w38 ⟨rfl, hb⟩; replace HO_8 := zA (Kd.R_below (zr HO_8) hb); replace BK222 := zb BK222 hb; replace HB := zE (zs1 HB GE222) hb; (try clear hb); (try clear hb2); (try clear hk); (try clear hi)) | ((with_reducible refine gate_dst (N := 10) rfl ?_); (try (refine gate_guard (by rfl) ?_; dsimp only)); refine zbx 10 #[.int .i64 0, .int .i64 0] 46 ?_; intro gb240 hg w39 hbox hb; have BK240 := zA hbox; have GW240 := zgs hg (zs1 HB GE222); have GE240 := zgs hg (zs1 HB GE222); have NB222_240 := zne hg BK222; have NB240_222 := znf hg BK222; replace HO_8 := zA (Kd.R_below (zr HO_8) hb); replace BK222 := zb BK222 hb; replace HB := zE (zs1 HB GE222) hb; clear hb hbox hg; have hnb40 := NB240_222.out; have hnc40 := NB222_240.out; obtain ⟨hcz41_0, hcz41_1⟩ := zd2 BK240; obtain ⟨hfz41_0, hfz41_1⟩ := zn2 BK240) | ((with_reducible refine gate_builtin (b := .append) (xs := #[.tmp 62, .tmp 64]) rfl ?_); (try (refine gate_guard (by rfl) ?_; dsimp only)); at_builtin; refine Kd.R_append (Kd.int .i64) (w0 := w) w.heap.size rfl (.tmp 62) (.tmp 64) 27 3 (.int .i64 0) 8 rfl Try.underlying27 info3 rfl (by decide) (by omega) (.slice Ao36 x8_2.length co36) x8_2 t237 [.int .i64 t237] (fun _ => True) (fun _ => False) rfl (by first | (go_simp; done) | (go_simp; rfl)) ?aP (fun _ hk => hk.elim) ?aF ?aO ?aB ?aS ?aL ?_; (case aP => exact rfl); (case aB => exact (zs2 HB GE222 GE240)); (case aF => exact (fun _ _ => trivial)); (case aO => exact (zRf HO_8 BK240 (fun _ hk => trivial))); (case aS => exact (below_size (zs2 HB GE222 GE240))); (case aL => have := LMc35.out; omega); intro v251 w42 ho hb hg hat; rw [← Ny250.out] at ho; have HO252 := zA (ho); replace BK222 := zA (blk_grown (g := gb222) (o := .cells #[.int .i64 a0_0, .int .i64 a0_1, .slice A0_2 l0_2.length c0_2, .int .i64 a0_3, .int .i64 a0_4] 34 (0, 0)) (zpf BK222 NB222_240) hg (Kd.R_ne HO_8.out BK222.out (by decide))); replace BK240 := zA (blk_grown (g := gb240) (o := .cells #[.int .i64 t237, .int .i64 t238] 46 (0, 0)) (zpb BK240) hg (Kd.R_ne HO_8.out BK240.out (by decide))); replace HB := zA (hb); clear HO_8; clear ho hb hg hat)); try go_wp2_with (first | (go_at_call 27; (with_reducible refine (spec_FlyNext.calls k2 a0_0 a0_1 _ _ l0_2 a0_3 a0_4 _ _ x8_2 t237 t238 true _ ?side1 ?side2 ?side3 ?side4 A21.out).mono ?_); (case side1 => exact zC HR0_2 HB); (case side2 => exact HC0_2.out); (case side3 => repeat (first | exact (Kd.R_reads' HO_8.out).2.2 | (with_reducible refine Kd.C_alloc ?_ _) | (with_reducible refine Kd.C_drewN ?_ _) | (with_reducible refine Kd.C_drew ?_))); (case side4 => exact (Kd.R_reads' HO_8.out).2.1); rintro e w38 ⟨rfl, hb⟩; replace HO_8 := zA (Kd.R_below (zr HO_8) hb); replace BK222 := zb BK222 hb; replace HB := zE (zs1 HB GE222) hb; (try clear hb); (try clear hb2); (try clear hk); (try clear hi)) | ((with_reducible refine gate_dst (N := 10) rfl ?_); (try (refine gate_guard (by rfl) ?_; dsimp only)); refine zbx 10 #[.int .i64 0, .int .i64 0] 46 ?_; intro gb240 hg w39 hbox hb; have BK240 := zA hbox; have GW240 := zgs hg (zs1 HB GE222); have GE240 := zgs hg (zs1 HB GE222); have NB222_240 := zne hg BK222; have NB240_222 := znf hg BK222; replace HO_8 := zA (Kd.R_below (zr HO_8) hb); replace BK222 := zb BK222 hb; replace HB := zE (zs1 HB GE222) hb; clear hb hbox hg; have hnb40 := NB240_222.out; have hnc40 := NB222_240.out; obtain ⟨hcz41_0, hcz41_1⟩ := zd2 BK240; obtain ⟨hfz41_0, hfz41_1⟩ := zn2 BK240) | ((with_reducible refine gate_builtin (b := .append) (xs := #[.tmp 62, .tmp 64]) rfl ?_); (try (refine gate_guard (by rfl) ?_; dsimp only)); at_builtin; refine Kd.R_append (Kd.int .i64) (w0 := w) w.heap.size rfl (.tmp 62) (.tmp 64) 27 3 (.int .i64 0) 8 rfl Try.underlying27 info3 rfl (by decide) (by omega) (.slice Ao36 x8_2.length co36) x8_2 t237 [.int .i64 t237] (fun _ => True) (fun _ => False) rfl (by first | (go_simp; done) | (go_simp; rfl)) ?aP (fun _ hk => hk.elim) ?aF ?aO ?aB ?aS ?aL ?_; (case aP => exact rfl); (case aB => exact (zs2 HB GE222 GE240)); (case aF => exact (fun _ _ => trivial)); (case aO => exact (zRf HO_8 BK240 (fun _ hk => trivial))); (case aS => exact (below_size (zs2 HB GE222 GE240))); (case aL => have := LMc35.out; omega); intro v251 w42 ho hb hg hat; rw [← Ny250.out] at ho; have HO252 := zA (ho); replace BK222 := zA (blk_grown (g := gb222) (o := .cells #[.int .i64 a0_0, .int .i64 a0_1, .slice A0_2 l0_2.length c0_2, .int .i64 a0_3, .int .i64 a0_4] 34 (0, 0)) (zpf BK222 NB222_240) hg (Kd.R_ne HO_8.out BK222.out (by decide))); replace BK240 := zA (blk_grown (g := gb240) (o := .cells #[.int .i64 t237, .int .i64 t238] 46 (0, 0)) (zpb BK240) hg (Kd.R_ne HO_8.out BK240.out (by decide))); replace HB := zA (hb); clear HO_8; clear ho hb hg hat)))
      go_roundg k2
      case measure => have := HJ4.out; have := HK2.out; omega
      case rel => exact ⟨(y250), (wrap64 (x9_2 + 1)), zi, H', ⟨by have := HJ4.out; have := HK2.out; omega⟩, ⟨zr HO252⟩, ⟨zh BK222⟩, ⟨zs2 HB GE222 GE240⟩⟩
     rw [if_pos c23] at H
     have c23b0 : decide (x9_2 < (l2.length : Int)) = true := decide_eq_true c23
     clear c23
     by_cases c24 : 0 ≤ x9_2
     rotate_left
     ·rw [if_neg c24] at H
      exact absurd H (by simp)
     rw [if_pos c24] at H
     have c24b0 : decide (0 ≤ x9_2) = true := decide_eq_true c24
     clear c24
     replace H := zbd H; obtain ⟨t245, A25, H⟩ := H
     replace H := Option.bind_eq_some_iff.mp H
     obtain ⟨t246, A260, H⟩ := H
     replace H : (if x8_2.length < 17592186044416 then (spec_FlyGo.l0 k2 l2 (x8_2 ++ [t246]) (wrap64 (x9_2 + 1)) a0_0 a0_1 l0_2 a0_3 a0_4) else (none)) = some (r1, r2) := H
     have A26 := zA A260
     clear A260
     by_cases c27 : x8_2.length < 17592186044416
     rotate_left
     ·rw [if_neg c27] at H
      exact absurd H (by simp)
     rw [if_pos c27] at H
     have LMc27 := zA c27
     clear c27
     obtain ⟨y247, hy247⟩ : ∃ y_ : List Int, y_ = (x8_2 ++ [t246]) := ⟨_, rfl⟩
     replace H : (spec_FlyGo.l0 k2 l2 y247 (wrap64 (x9_2 + 1)) a0_0 a0_1 l0_2 a0_3 a0_4) = some (r1, r2) := by first | (rw [hy247]; with_reducible exact H) | (have H2_ := (Option.bind_some _ _).symm.trans H; rw [hy247]; with_reducible exact H2_) | (have H2_ := (Option.bind_some _ _).symm.trans H; with_reducible exact H2_) | with_reducible exact H | (rw [hy247]; exact H) | exact H
     have Ny247 := zA hy247
     clear hy247
     have H' := zA H
     clear H
     obtain ⟨Ao28, co28, eo28⟩ := Kd.R_slice HO_8.out
     subst eo28
     obtain ⟨hcz29_0, hcz29_1, hcz29_2, hcz29_3, hcz29_4⟩ := zd5 BK222
     obtain ⟨hfz29_0, hfz29_1, hfz29_2, hfz29_3, hfz29_4⟩ := zn5 BK222
     go_wp2_with (first | (go_at_call 27; (with_reducible refine (spec_FlyNext.calls k2 a0_0 a0_1 _ _ l0_2 a0_3 a0_4 _ _ x8_2 t237 t238 true _ ?side1 ?side2 ?side3 ?side4 A21.out).mono ?_); (case side1 => exact zC HR0_2 HB); (case side2 => exact HC0_2.out); (case side3 => repeat (first | exact (Kd.R_reads' HO_8.out).2.2 | (with_reducible refine Kd.C_alloc ?_ _) | (with_reducible refine Kd.C_drewN ?_ _) | (with_reducible refine Kd.C_drew ?_))); (case side4 => exact (Kd.R_reads' HO_8.out).2.1); rintro e w30 ⟨rfl, hb⟩; replace HO_8 := zA (Kd.R_below (zr HO_8) hb); replace BK222 := zb BK222 hb; replace HB := zE (zs1 HB GE222) hb; (try clear hb); (try clear hb2); (try clear hk); (try clear hi)) | ((with_reducible refine gate_dst (N := 10) rfl ?_); (try (refine gate_guard (by rfl) ?_; dsimp only)); refine zbx 10 #[.int .i64 0, .int .i64 0] 46 ?_; intro gb240 hg w31 hbox hb; have BK240 := zA hbox; have GW240 := zgs hg (zs1 HB GE222); have GE240 := zgs hg (zs1 HB GE222); have NB222_240 := zne hg BK222; have NB240_222 := znf hg BK222; replace HO_8 := zA (Kd.R_below (zr HO_8) hb); replace BK222 := zb BK222 hb; replace HB := zE (zs1 HB GE222) hb; clear hb hbox hg; have hnb32 := NB240_222.out; have hnc32 := NB222_240.out; obtain ⟨hcz33_0, hcz33_1⟩ := zd2 BK240; obtain ⟨hfz33_0, hfz33_1⟩ := zn2 BK240; have p244 : 0 ≤ (x9_2 : Int) := za; have q244 : x9_2 < (l2.length : Int) := za; obtain ⟨ad244, e244, hx244_0⟩ := Kd.at_int HR2.out x9_2 p244 q244; cases e244; have hn244_0 : ad244.block ≠ gb240 := Nat.ne_of_lt (Nat.lt_of_lt_of_le (by have := World.block_lt_of_cell? _ _ hx244_0; first | rwa [add_block] at this | exact this) GW240.out); have hn244_1 : ad244.block ≠ gb240 := Nat.ne_of_lt (Nat.lt_of_lt_of_le (by have := World.block_lt_of_cell? _ _ hx244_0; first | rwa [add_block] at this | exact this) GW240.out); replace hx244_0 := zx HB hx244_0; replace hx244_0 := (cell_far (p := ⟨gb240, 0, none⟩) (by first | (rw [add_block]; exact hn244_0) | (show (Addr.add _ _).block ≠ _; rw [add_block]; exact hn244_0) | exact hn244_0) (.int .i64 t237)).trans hx244_0; replace hx244_0 := (cell_far (p := ⟨gb240, 1, none⟩) (by first | (rw [add_block]; exact hn244_1) | (show (Addr.add _ _).block ≠ _; rw [add_block]; exact hn244_1) | exact hn244_1) (.int .i64 t238)).trans hx244_0; (try have hy244_0 := fun (n_ : Nat) => (show ((((w31.drewN n_).setCell ⟨gb240, 0, none⟩ (.int .i64 t237)).setCell ⟨gb240, 1, none⟩ (.int .i64 t238))).cell? _ = some _ from hx244_0)); clear hn244_0; clear hn244_1; replace p244 := eq_true p244; replace q244 := eq_true q244) | (go_at_call 54; (with_reducible refine (spec_l21Max.calls t237 (rd l2 x9_2) t245 _ A25.out).mono ?_); rintro e w' ⟨rfl, ⟨nd, rfl⟩⟩; (try first | exact ⟨rfl, _, World.drewN_drewN _ _ _⟩ | exact ⟨rfl, _, Eq.trans (World.drewN_drewN _ _ _) (congrArg (World.drewN _) (Nat.add_assoc _ _ _))⟩)) | (go_at_call 53; (with_reducible refine (spec_l21Min.calls t245 t238 t246 _ A26.out).mono ?_); rintro e w' ⟨rfl, ⟨nd, rfl⟩⟩; (try first | exact ⟨rfl, _, World.drewN_drewN _ _ _⟩ | exact ⟨rfl, _, Eq.trans (World.drewN_drewN _ _ _) (congrArg (World.drewN _) (Nat.add_assoc _ _ _))⟩)) | ((with_reducible refine gate_builtin (b := .append) (xs := #[.tmp 62, .tmp 64]) rfl ?_); (try (refine gate_guard (by rfl) ?_; dsimp only)); at_builtin; refine Kd.R_append (Kd.int .i64) (w0 := w) w.heap.size rfl (.tmp 62) (.tmp 64) 27 3 (.int .i64 0) 8 rfl Try.underlying27 info3 rfl (by decide) (by omega) (.slice Ao28 x8_2.length co28) x8_2 t246 [.int .i64 t246] (fun _ => True) (fun _ => False) rfl (by first | (go_simp; done) | (go_simp; rfl)) ?aP (fun _ hk => hk.elim) ?aF ?aO ?aB ?aS ?aL ?_; (case aP => exact rfl); (case aB => exact (zs2 HB GE222 GE240)); (case aF => exact (fun _ _ => trivial)); (case aO => exact (zRf HO_8 BK240 (fun _ hk => trivial))); (case aS => exact (below_size (zs2 HB GE222 GE240))); (case aL => have := LMc27.out; omega); intro v248 w34 ho hb hg hat; rw [← Ny247.out] at ho; have HO249 := zA (ho); replace BK222 := zA (blk_grown (g := gb222) (o := .cells #[.int .i64 a0_0, .int .i64 a0_1, .slice A0_2 l0_2.length c0_2, .int .i64 a0_3, .int .i64 a0_4] 34 (0, 0)) (zpf BK222 NB222_240) hg (Kd.R_ne HO_8.out BK222.out (by decide))); replace BK240 := zA (blk_grown (g := gb240) (o := .cells #[.int .i64 t237, .int .i64 t238] 46 (0, 0)) (zpb BK240) hg (Kd.R_ne HO_8.out BK240.out (by decide))); replace HB := zA (hb); clear HO_8; clear ho hb hg hat))
     repeat (go_quiet (first | (go_at_call 27; (with_reducible refine (spec_FlyNext.calls k2 a0_0 a0_1 _ _ l0_2 a0_3 a0_4 _ _ x8_2 t237 t238 true _ ?side1 ?side2 ?side3 ?side4 A21.out).mono ?_); (case side1 => exact zC HR0_2 HB); (case side2 => exact HC0_2.out); (case side3 => repeat (first | exact (Kd.R_reads' HO_8.out).2.2 | (with_reducible refine Kd.C_alloc ?_ _) | (with_reducible refine Kd.C_drewN ?_ _) | (with_reducible refine Kd.C_drew ?_))); (case side4 => exact (Kd.R_reads' HO_8.out).2.1); rintro e w30 ⟨rfl, hb⟩; replace HO_8 := zA (Kd.R_below (zr HO_8) hb); replace BK222 := zb BK222 hb; replace HB := zE (zs1 HB GE222) hb; (try clear hb); (try clear hb2); (try clear hk); (try clear hi)) | ((with_reducible refine gate_dst (N := 10) rfl ?_); (try (refine gate_guard (by rfl) ?_; dsimp only)); refine zbx 10 #[.int .i64 0, .int .i64 0] 46 ?_; intro gb240 hg w31 hbox hb; have BK240 := zA hbox; have GW240 := zgs hg (zs1 HB GE222); have GE240 := zgs hg (zs1 HB GE222); have NB222_240 := zne hg BK222; have NB240_222 := znf hg BK222; replace HO_8 := zA (Kd.R_below (zr HO_8) hb); replace BK222 := zb BK222 hb; replace HB := zE (zs1 HB GE222) hb; clear hb hbox hg; have hnb32 := NB240_222.out; have hnc32 := NB222_240.out; obtain ⟨hcz33_0, hcz33_1⟩ := zd2 BK240; obtain ⟨hfz33_0, hfz33_1⟩ := zn2 BK240; have p244 : 0 ≤ (x9_2 : Int) := za; have q244 : x9_2 < (l2.length : Int) := za; obtain ⟨ad244, e244, hx244_0⟩ := Kd.at_int HR2.out x9_2 p244 q244; cases e244; have hn244_0 : ad244.block ≠ gb240 := Nat.ne_of_lt (Nat.lt_of_lt_of_le (by have := World.block_lt_of_cell? _ _ hx244_0; first | rwa [add_block] at this | exact this) GW240.out); have hn244_1 : ad244.block ≠ gb240 := Nat.ne_of_lt (Nat.lt_of_lt_of_le (by have := World.block_lt_of_cell? _ _ hx244_0; first | rwa [add_block] at this | exact this) GW240.out); replace hx244_0 := zx HB hx244_0; replace hx244_0 := (cell_far (p := ⟨gb240, 0, none⟩) (by first | (rw [add_block]; exact hn244_0) | (show (Addr.add _ _).block ≠ _; rw [add_block]; exact hn244_0) | exact hn244_0) (.int .i64 t237)).trans hx244_0; replace hx244_0 := (cell_far (p := ⟨gb240, 1, none⟩) (by first | (rw [add_block]; exact hn244_1) | (show (Addr.add _ _).block ≠ _; rw [add_block]; exact hn244_1) | exact hn244_1) (.int .i64 t238)).trans hx244_0; (try have hy244_0 := fun (n_ : Nat) => (show ((((w31.drewN n_).setCell ⟨gb240, 0, none⟩ (.int .i64 t237)).setCell ⟨gb240, 1, none⟩ (.int .i64 t238))).cell? _ = some _ from hx244_0)); clear hn244_0; clear hn244_1; replace p244 := eq_true p244; replace q244 := eq_true q244) | (go_at_call 54; (with_reducible refine (spec_l21Max.calls t237 (rd l2 x9_2) t245 _ A25.out).mono ?_); rintro e w' ⟨rfl, ⟨nd, rfl⟩⟩; (try first | exact ⟨rfl, _, World.drewN_drewN _ _ _⟩ | exact ⟨rfl, _, Eq.trans (World.drewN_drewN _ _ _) (congrArg (World.drewN _) (Nat.add_assoc _ _ _))⟩)) | (go_at_call 53; (with_reducible refine (spec_l21Min.calls t245 t238 t246 _ A26.out).mono ?_); rintro e w' ⟨rfl, ⟨nd, rfl⟩⟩; (try first | exact ⟨rfl, _, World.drewN_drewN _ _ _⟩ | exact ⟨rfl, _, Eq.trans (World.drewN_drewN _ _ _) (congrArg (World.drewN _) (Nat.add_assoc _ _ _))⟩)) | ((with_reducible refine gate_builtin (b := .append) (xs := #[.tmp 62, .tmp 64]) rfl ?_); (try (refine gate_guard (by rfl) ?_; dsimp only)); at_builtin; refine Kd.R_append (Kd.int .i64) (w0 := w) w.heap.size rfl (.tmp 62) (.tmp 64) 27 3 (.int .i64 0) 8 rfl Try.underlying27 info3 rfl (by decide) (by omega) (.slice Ao28 x8_2.length co28) x8_2 t246 [.int .i64 t246] (fun _ => True) (fun _ => False) rfl (by first | (go_simp; done) | (go_simp; rfl)) ?aP (fun _ hk => hk.elim) ?aF ?aO ?aB ?aS ?aL ?_; (case aP => exact rfl); (case aB => exact (zs2 HB GE222 GE240)); (case aF => exact (fun _ _ => trivial)); (case aO => exact (zRf HO_8 BK240 (fun _ hk => trivial))); (case aS => exact (below_size (zs2 HB GE222 GE240))); (case aL => have := LMc27.out; omega); intro v248 w34 ho hb hg hat; rw [← Ny247.out] at ho; have HO249 := zA (ho); replace BK222 := zA (blk_grown (g := gb222) (o := .cells #[.int .i64 a0_0, .int .i64 a0_1, .slice A0_2 l0_2.length c0_2, .int .i64 a0_3, .int .i64 a0_4] 34 (0, 0)) (zpf BK222 NB222_240) hg (Kd.R_ne HO_8.out BK222.out (by decide))); replace BK240 := zA (blk_grown (g := gb240) (o := .cells #[.int .i64 t237, .int .i64 t238] 46 (0, 0)) (zpb BK240) hg (Kd.R_ne HO_8.out BK240.out (by decide))); replace HB := zA (hb); clear HO_8; clear ho hb hg hat)); try go_wp2_with (first | (go_at_call 27; (with_reducible refine (spec_FlyNext.calls k2 a0_0 a0_1 _ _ l0_2 a0_3 a0_4 _ _ x8_2 t237 t238 true _ ?side1 ?side2 ?side3 ?side4 A21.out).mono ?_); (case side1 => exact zC HR0_2 HB); (case side2 => exact HC0_2.out); (case side3 => repeat (first | exact (Kd.R_reads' HO_8.out).2.2 | (with_reducible refine Kd.C_alloc ?_ _) | (with_reducible refine Kd.C_drewN ?_ _) | (with_reducible refine Kd.C_drew ?_))); (case side4 => exact (Kd.R_reads' HO_8.out).2.1); rintro e w30 ⟨rfl, hb⟩; replace HO_8 := zA (Kd.R_below (zr HO_8) hb); replace BK222 := zb BK222 hb; replace HB := zE (zs1 HB GE222) hb; (try clear hb); (try clear hb2); (try clear hk); (try clear hi)) | ((with_reducible refine gate_dst (N := 10) rfl ?_); (try (refine gate_guard (by rfl) ?_; dsimp only)); refine zbx 10 #[.int .i64 0, .int .i64 0] 46 ?_; intro gb240 hg w31 hbox hb; have BK240 := zA hbox; have GW240 := zgs hg (zs1 HB GE222); have GE240 := zgs hg (zs1 HB GE222); have NB222_240 := zne hg BK222; have NB240_222 := znf hg BK222; replace HO_8 := zA (Kd.R_below (zr HO_8) hb); replace BK222 := zb BK222 hb; replace HB := zE (zs1 HB GE222) hb; clear hb hbox hg; have hnb32 := NB240_222.out; have hnc32 := NB222_240.out; obtain ⟨hcz33_0, hcz33_1⟩ := zd2 BK240; obtain ⟨hfz33_0, hfz33_1⟩ := zn2 BK240; have p244 : 0 ≤ (x9_2 : Int) := za; have q244 : x9_2 < (l2.length : Int) := za; obtain ⟨ad244, e244, hx244_0⟩ := Kd.at_int HR2.out x9_2 p244 q244; cases e244; have hn244_0 : ad244.block ≠ gb240 := Nat.ne_of_lt (Nat.lt_of_lt_of_le (by have := World.block_lt_of_cell? _ _ hx244_0; first | rwa [add_block] at this | exact this) GW240.out); have hn244_1 : ad244.block ≠ gb240 := Nat.ne_of_lt (Nat.lt_of_lt_of_le (by have := World.block_lt_of_cell? _ _ hx244_0; first | rwa [add_block] at this | exact this) GW240.out); replace hx244_0 := zx HB hx244_0; replace hx244_0 := (cell_far (p := ⟨gb240, 0, none⟩) (by first | (rw [add_block]; exact hn244_0) | (show (Addr.add _ _).block ≠ _; rw [add_block]; exact hn244_0) | exact hn244_0) (.int .i64 t237)).trans hx244_0; replace hx244_0 := (cell_far (p := ⟨gb240, 1, none⟩) (by first | (rw [add_block]; exact hn244_1) | (show (Addr.add _ _).block ≠ _; rw [add_block]; exact hn244_1) | exact hn244_1) (.int .i64 t238)).trans hx244_0; (try have hy244_0 := fun (n_ : Nat) => (show ((((w31.drewN n_).setCell ⟨gb240, 0, none⟩ (.int .i64 t237)).setCell ⟨gb240, 1, none⟩ (.int .i64 t238))).cell? _ = some _ from hx244_0)); clear hn244_0; clear hn244_1; replace p244 := eq_true p244; replace q244 := eq_true q244) | (go_at_call 54; (with_reducible refine (spec_l21Max.calls t237 (rd l2 x9_2) t245 _ A25.out).mono ?_); rintro e w' ⟨rfl, ⟨nd, rfl⟩⟩; (try first | exact ⟨rfl, _, World.drewN_drewN _ _ _⟩ | exact ⟨rfl, _, Eq.trans (World.drewN_drewN _ _ _) (congrArg (World.drewN _) (Nat.add_assoc _ _ _))⟩)) | (go_at_call 53; (with_reducible refine (spec_l21Min.calls t245 t238 t246 _ A26.out).mono ?_); rintro e w' ⟨rfl, ⟨nd, rfl⟩⟩; (try first | exact ⟨rfl, _, World.drewN_drewN _ _ _⟩ | exact ⟨rfl, _, Eq.trans (World.drewN_drewN _ _ _) (congrArg (World.drewN _) (Nat.add_assoc _ _ _))⟩)) | ((with_reducible refine gate_builtin (b := .append) (xs := #[.tmp 62, .tmp 64]) rfl ?_); (try (refine gate_guard (by rfl) ?_; dsimp only)); at_builtin; refine Kd.R_append (Kd.int .i64) (w0 := w) w.heap.size rfl (.tmp 62) (.tmp 64) 27 3 (.int .i64 0) 8 rfl Try.underlying27 info3 rfl (by decide) (by omega) (.slice Ao28 x8_2.length co28) x8_2 t246 [.int .i64 t246] (fun _ => True) (fun _ => False) rfl (by first | (go_simp; done) | (go_simp; rfl)) ?aP (fun _ hk => hk.elim) ?aF ?aO ?aB ?aS ?aL ?_; (case aP => exact rfl); (case aB => exact (zs2 HB GE222 GE240)); (case aF => exact (fun _ _ => trivial)); (case aO => exact (zRf HO_8 BK240 (fun _ hk => trivial))); (case aS => exact (below_size (zs2 HB GE222 GE240))); (case aL => have := LMc27.out; omega); intro v248 w34 ho hb hg hat; rw [← Ny247.out] at ho; have HO249 := zA (ho); replace BK222 := zA (blk_grown (g := gb222) (o := .cells #[.int .i64 a0_0, .int .i64 a0_1, .slice A0_2 l0_2.length c0_2, .int .i64 a0_3, .int .i64 a0_4] 34 (0, 0)) (zpf BK222 NB222_240) hg (Kd.R_ne HO_8.out BK222.out (by decide))); replace BK240 := zA (blk_grown (g := gb240) (o := .cells #[.int .i64 t237, .int .i64 t238] 46 (0, 0)) (zpb BK240) hg (Kd.R_ne HO_8.out BK240.out (by decide))); replace HB := zA (hb); clear HO_8; clear ho hb hg hat)))
     go_roundg k2
     case measure => have := HJ4.out; have := HK2.out; omega
     case rel => exact ⟨(y247), (wrap64 (x9_2 + 1)), zi, H', ⟨by have := HJ4.out; have := HK2.out; omega⟩, ⟨zr HO249⟩, ⟨zh BK222⟩, ⟨zs2 HB GE222 GE240⟩⟩
def laws_toFlyKind.f (a0_0 : Int) (a0_1 : Int) : Option (Int × Int) := some (a0_0, a0_1)
set_option maxHeartbeats 8000000 in
set_option maxRecDepth 100000 in
theorem laws_toFlyKind.calls (a0_0 : Int) (a0_1 : Int) (r1 : Int) (r2 : Int) (w : World) (h : laws_toFlyKind.f a0_0 a0_1 = some (r1, r2)) :
 Calls Try.prog 55 #[.agg #[.int .i64 a0_0, .int .i64 a0_1]] w fun e w' => e = .returned (.agg #[.int .i64 r1, .int .i64 r2]) ∧ Below w.heap.size w w' := by
 have hu23 := Try.underlying23
 have hu31 := Try.underlying31
 have HB := zA (Below.refl w.heap.size w)
 have H : (some (a0_0, a0_1)) = some (r1, r2) := h
 clear h
 simp only [Option.some.injEq, Prod.mk.injEq] at H
 obtain ⟨rfl, rfl⟩ := H
 go_enter Try.func55, Try.ntmps55
 go_wp2_with (first | ((with_reducible refine gate_dst (N := 1) rfl ?_); refine zbx 1 #[.int .i64 a0_0, .int .i64 a0_1] 23 ?_; intro gb253 hg w2 hbox hb; have BK253 := zA hbox; have GW253 := zgs hg (zs0 HB); have GE253 := zgs hg (zs0 HB); replace HB := zE (zs0 HB) hb; clear hb hbox hg) | ((with_reducible refine gate_dst (N := 2) rfl ?_); refine zbx 2 #[.int .i64 0, .int .i64 0] 31 ?_; intro gb254 hg w3 hbox hb; have BK254 := zA hbox; have GW254 := zgs hg (zs1 HB GE253); have GE254 := zgs hg (zs1 HB GE253); have NB253_254 := zne hg BK253; have NB254_253 := znf hg BK253; replace BK253 := zb BK253 hb; replace HB := zE (zs1 HB GE253) hb; clear hb hbox hg) | ((with_reducible refine gate_dst (N := 3) rfl ?_); refine zbx 3 #[.int .i64 0, .int .i64 0] 31 ?_; intro gb255 hg w4 hbox hb; have BK255 := zA hbox; have GW255 := zgs hg (zs2 HB GE253 GE254); have GE255 := zgs hg (zs2 HB GE253 GE254); have NB253_255 := zne hg BK253; have NB255_253 := znf hg BK253; have NB254_255 := zne hg BK254; have NB255_254 := znf hg BK254; replace BK253 := zb BK253 hb; replace BK254 := zb BK254 hb; replace HB := zE (zs2 HB GE253 GE254) hb; clear hb hbox hg; have hnb5 := NB253_254.out; have hnc5 := NB254_253.out; have hnb6 := NB253_255.out; have hnc6 := NB255_253.out; obtain ⟨hcz7_0, hcz7_1⟩ := zd2 BK253; obtain ⟨hfz7_0, hfz7_1⟩ := zn2 BK253; have hnb8 := NB255_254.out; have hnc8 := NB254_255.out; obtain ⟨hcz9_0, hcz9_1⟩ := zd2 BK255; obtain ⟨hfz9_0, hfz9_1⟩ := zn2 BK255; obtain ⟨hcz10_0, hcz10_1⟩ := zd2 BK254; obtain ⟨hfz10_0, hfz10_1⟩ := zn2 BK254))
 refine bodyPost_ret (results_cell_row rfl _ _ gb254 31 #[.int .i64 a0_0, .int .i64 a0_1] (0, 0) _ rfl ?hz Try.underlying31 rfl (by kernel_rfl)) rfl ?_; (case hz => exact zpf BK254 NB254_255)
 exact ⟨ze, zs3 HB GE253 GE254 GE255⟩
def laws_toFlyStep.f (a0_0 : Int) (a0_1 : Int) (a0_2 : Int) (a0_3 : Int) (a0_4 : Int) (a0_5 : Int) (a0_6 : Bool) : Option (Int × Int × Int × Int × Int × Int × Bool) := some (a0_0, a0_1, a0_2, a0_3, a0_4, a0_5, a0_6)
set_option maxHeartbeats 8000000 in
set_option maxRecDepth 100000 in
theorem laws_toFlyStep.calls (a0_0 : Int) (a0_1 : Int) (a0_2 : Int) (a0_3 : Int) (a0_4 : Int) (a0_5 : Int) (a0_6 : Bool) (r1 : Int) (r2 : Int) (r3 : Int) (r4 : Int) (r5 : Int) (r6 : Int) (r7 : Bool) (w : World) (h : laws_toFlyStep.f a0_0 a0_1 a0_2 a0_3 a0_4 a0_5 a0_6 = some (r1, r2, r3, r4, r5, r6, r7)) :
 Calls Try.prog 89 #[.agg #[.int .i64 a0_0, .int .i64 a0_1, .int .i64 a0_2, .int .i64 a0_3, .int .i64 a0_4, .int .i64 a0_5, .bool a0_6]] w fun e w' => e = .returned (.agg #[.int .i64 r1, .int .i64 r2, .int .i64 r3, .int .i64 r4, .int .i64 r5, .int .i64 r6, .bool r7]) ∧ Below w.heap.size w w' := by
 have hu104 := Try.underlying104
 have hu88 := Try.underlying88
 have HB := zA (Below.refl w.heap.size w)
 have H : (some (a0_0, a0_1, a0_2, a0_3, a0_4, a0_5, a0_6)) = some (r1, r2, r3, r4, r5, r6, r7) := h
 clear h
 simp only [Option.some.injEq, Prod.mk.injEq] at H
 obtain ⟨rfl, rfl, rfl, rfl, rfl, rfl, rfl⟩ := H
 go_enter Try.func89, Try.ntmps89
 go_wp2_with (first | ((with_reducible refine gate_dst (N := 1) rfl ?_); refine zbx 1 #[.int .i64 a0_0, .int .i64 a0_1, .int .i64 a0_2, .int .i64 a0_3, .int .i64 a0_4, .int .i64 a0_5, .bool a0_6] 104 ?_; intro gb256 hg w2 hbox hb; have BK256 := zA hbox; have GW256 := zgs hg (zs0 HB); have GE256 := zgs hg (zs0 HB); replace HB := zE (zs0 HB) hb; clear hb hbox hg) | ((with_reducible refine gate_dst (N := 2) rfl ?_); refine zbx 2 #[.int .i64 0, .int .i64 0, .int .i64 0, .int .i64 0, .int .i64 0, .int .i64 0, .bool false] 88 ?_; intro gb257 hg w3 hbox hb; have BK257 := zA hbox; have GW257 := zgs hg (zs1 HB GE256); have GE257 := zgs hg (zs1 HB GE256); have NB256_257 := zne hg BK256; have NB257_256 := znf hg BK256; replace BK256 := zb BK256 hb; replace HB := zE (zs1 HB GE256) hb; clear hb hbox hg) | ((with_reducible refine gate_dst (N := 3) rfl ?_); refine zbx 3 #[.int .i64 0, .int .i64 0, .int .i64 0, .int .i64 0, .int .i64 0, .int .i64 0, .bool false] 88 ?_; intro gb258 hg w4 hbox hb; have BK258 := zA hbox; have GW258 := zgs hg (zs2 HB GE256 GE257); have GE258 := zgs hg (zs2 HB GE256 GE257); have NB256_258 := zne hg BK256; have NB258_256 := znf hg BK256; have NB257_258 := zne hg BK257; have NB258_257 := znf hg BK257; replace BK256 := zb BK256 hb; replace BK257 := zb BK257 hb; replace HB := zE (zs2 HB GE256 GE257) hb; clear hb hbox hg; have hnb5 := NB256_257.out; have hnc5 := NB257_256.out; have hnb6 := NB256_258.out; have hnc6 := NB258_256.out; obtain ⟨hcz7_0, hcz7_1, hcz7_2, hcz7_3, hcz7_4, hcz7_5, hcz7_6⟩ := zd7 BK256; obtain ⟨hfz7_0, hfz7_1, hfz7_2, hfz7_3, hfz7_4, hfz7_5, hfz7_6⟩ := zn7 BK256; have hnb8 := NB258_257.out; have hnc8 := NB257_258.out; obtain ⟨hcz9_0, hcz9_1, hcz9_2, hcz9_3, hcz9_4, hcz9_5, hcz9_6⟩ := zd7 BK258; obtain ⟨hfz9_0, hfz9_1, hfz9_2, hfz9_3, hfz9_4, hfz9_5, hfz9_6⟩ := zn7 BK258; obtain ⟨hcz10_0, hcz10_1, hcz10_2, hcz10_3, hcz10_4, hcz10_5, hcz10_6⟩ := zd7 BK257; obtain ⟨hfz10_0, hfz10_1, hfz10_2, hfz10_3, hfz10_4, hfz10_5, hfz10_6⟩ := zn7 BK257))
 refine bodyPost_ret (results_cell_row rfl _ _ gb257 88 #[.int .i64 a0_0, .int .i64 a0_1, .int .i64 a0_2, .int .i64 a0_3, .int .i64 a0_4, .int .i64 a0_5, .bool a0_6] (0, 0) _ rfl ?hz Try.underlying88 rfl (by kernel_rfl)) rfl ?_; (case hz => exact zpf BK257 NB257_258)
 exact ⟨ze, zs3 HB GE256 GE257 GE258⟩
def laws_toFlyStepS.l0 : Nat → List (S104) → List (S88) → Int → Option ((List (S88)))
 | 0, _, _, _ => none
 | k + 1, x0, x3, x4 => if x4 < (x0.length : Int) then (if 0 ≤ x4 then ((laws_toFlyStep.f ((rd_T104 x0 x4).f0) ((rd_T104 x0 x4).f1) ((rd_T104 x0 x4).f2) ((rd_T104 x0 x4).f3) ((rd_T104 x0 x4).f4) ((rd_T104 x0 x4).f5) ((rd_T104 x0 x4).f6)).bind fun bt263 => (if x4 < (x3.length : Int) then (laws_toFlyStepS.l0 k x0 (x3.set (x4 : Int).toNat (⟨bt263.1, bt263.2.1, bt263.2.2.1, bt263.2.2.2.1, bt263.2.2.2.2.1, bt263.2.2.2.2.2.1, bt263.2.2.2.2.2.2⟩ : S88)) (wrap64 (x4 + 1))) else (none))) else (none)) else (some x3)
def laws_toFlyStepS.f (k : Nat) (l0 : List (S104)) : Option ((List (S88))) := if 0 ≤ (l0.length : Int) then (if ((l0.length : Int) : Int).toNat ≤ 5026338869833 then (laws_toFlyStepS.l0 k l0 (List.replicate ((l0.length : Int) : Int).toNat z88) 0) else (none)) else (none)
set_option maxHeartbeats 8000000 in
set_option maxRecDepth 100000 in
theorem laws_toFlyStepS.calls (k : Nat) (A0 : Option Addr) (c0 : Nat) (l0 : List (S104)) (r : List (S88)) (w : World) (hr0 : Kd.C k104 w A0 l0.length l0) (hc0 : l0.length ≤ c0) (h : laws_toFlyStepS.f k l0 = some r) :
 Calls Try.prog 56 #[.slice A0 l0.length c0] w fun e w' => ∃ v0_ : Value, e = .returned (v0_) ∧ Kd.R k88 88 w' w.heap.size (fun _ => True) v0_ r ∧ Below w.heap.size w w' := by
 have hu104 := Try.underlying104
 have hu88 := Try.underlying88
 have HR0 := zA hr0
 have HC0 := zA hc0
 clear hr0 hc0
 have HB := zA (Below.refl w.heap.size w)
 have H : (if 0 ≤ (l0.length : Int) then (if ((l0.length : Int) : Int).toNat ≤ 5026338869833 then (laws_toFlyStepS.l0 k l0 (List.replicate ((l0.length : Int) : Int).toNat z88) 0) else (none)) else (none)) = some r := h
 clear h
 by_cases c2 : 0 ≤ (l0.length : Int)
 rotate_left
 ·rw [if_neg c2] at H
  exact absurd H (by simp)
 rw [if_pos c2] at H
 have c2b0 := eq_true c2
 have c2b1 : decide (0 ≤ (l0.length : Int)) = true := decide_eq_true c2
 clear c2
 by_cases c3 : ((l0.length : Int) : Int).toNat ≤ 5026338869833
 rotate_left
 ·rw [if_neg c3] at H
  exact absurd H (by simp)
 rw [if_pos c3] at H
 have c3b0 := eq_true c3
 have c3b1 : decide (((l0.length : Int) : Int).toNat ≤ 5026338869833) = true := decide_eq_true c3
 clear c3
 obtain ⟨y259, hy259⟩ : ∃ y_ : List (S88), y_ = (List.replicate ((l0.length : Int) : Int).toNat z88) := ⟨_, rfl⟩
 replace H : (laws_toFlyStepS.l0 k l0 y259 0) = some r := by first | (rw [hy259]; with_reducible exact H) | (have H2_ := (Option.bind_some _ _).symm.trans H; rw [hy259]; with_reducible exact H2_) | (have H2_ := (Option.bind_some _ _).symm.trans H; with_reducible exact H2_) | with_reducible exact H | (rw [hy259]; exact H) | exact H
 have Ny259 := zA hy259
 clear hy259
 have H' := zA H
 clear H
 go_enter Try.func56, Try.ntmps56
 go_wp2_with (first | ((with_reducible refine gate_dst (N := 7) rfl ?_); refine Kd.R_make k88 _ 88 rfl (N := 7) rfl 32 _ _ rfl (l0.length : Int) rfl rfl Try.underlying32 (.agg #[(.int .i64 0), (.int .i64 0), (.int .i64 0), (.int .i64 0), (.int .i64 0), (.int .i64 0), (.bool false)]) 56 info88 rfl (by decide) (by omega) z88 (ok := fun _ => True) (okp := fun _ => True) (k88_mkM _ _ _ z88 ) (fun _ hk => hk) trivial (za) (Nat.le_trans (Nat.mul_le_mul_right _ (za : (l0.length : Int).toNat ≤ 5026338869833)) (by omega)) (Below.refl _ _) (Nat.le_refl _) ?_; intro v260 w4 ho5 hb hg_ hnew_; clear hg_ hnew_; (first | rw [← Ny259.out] at ho5 | (simp only [Int.reduceToNat] at ho5; rw [← Ny259.out] at ho5)); have HO261 := zA (Kd.R_lower ho5 (below_size (zs0 HB))); replace HB := zE (zs0 HB) hb; clear hb ho5))
 go_loopg [4] k (fun kq v4 w' => ∃ (x3_1 : List (S88)) (x4_1 : Int), v4 = .int .i64 x4_1 ∧ Aside0 (laws_toFlyStepS.l0 kq l0 x3_1 x4_1 = some r) ∧ Aside0 (kq ≤ k) ∧ Aside0 (Kd.R k88 88 w' w.heap.size (fun _ => True) v260 x3_1) ∧ Aside0 (Below w.heap.size w w'))
 case atStart => exact ⟨(y259), (0), zi, H', ⟨Nat.le_refl _⟩, ⟨zr HO261⟩, ⟨zs0 HB⟩⟩
 case round =>
  clear H'
  try clear c2
  try clear c2b0
  try clear c2b1
  try clear p2
  try clear c3
  try clear c3b0
  try clear c3b1
  try clear c5
  obtain ⟨x3_1, x4_1, rfl, HA, HK1, HO_3, HB⟩ := hrel
  cases gk with
  | zero => exact absurd HA.out (by simp [laws_toFlyStepS.l0])
  | succ k1 =>
   have H := HA.out
   clear HA
   simp only [laws_toFlyStepS.l0] at H
   by_cases c6 : x4_1 < (l0.length : Int)
   rotate_left
   ·rw [if_neg c6] at H
    have c6b0 : decide (x4_1 < (l0.length : Int)) = false := decide_eq_false c6
    clear c6
    obtain rfl := Option.some.inj H
    go_wp2
    go_ret
    exact ⟨_, ze, zr HO_3, zs0 HB⟩
   rw [if_pos c6] at H
   have c6b0 : decide (x4_1 < (l0.length : Int)) = true := decide_eq_true c6
   clear c6
   by_cases c7 : 0 ≤ x4_1
   rotate_left
   ·rw [if_neg c7] at H
    exact absurd H (by simp)
   rw [if_pos c7] at H
   have c7b0 : decide (0 ≤ x4_1) = true := decide_eq_true c7
   clear c7
   replace H := Option.bind_eq_some_iff.mp H
   obtain ⟨⟨t263, t264, t265, t266, t267, t268, t269⟩, A80, H⟩ := H
   replace H : (if x4_1 < (x3_1.length : Int) then (laws_toFlyStepS.l0 k1 l0 (x3_1.set (x4_1 : Int).toNat (⟨t263, t264, t265, t266, t267, t268, t269⟩ : S88)) (wrap64 (x4_1 + 1))) else (none)) = some r := H
   have A8 := zA A80
   clear A80
   by_cases c9 : x4_1 < (x3_1.length : Int)
   rotate_left
   ·rw [if_neg c9] at H
    exact absurd H (by simp)
   rw [if_pos c9] at H
   have c9b0 : decide (x4_1 < (x3_1.length : Int)) = true := decide_eq_true c9
   clear c9
   obtain ⟨y270, hy270⟩ : ∃ y_ : List (S88), y_ = (x3_1.set (x4_1 : Int).toNat (⟨t263, t264, t265, t266, t267, t268, t269⟩ : S88)) := ⟨_, rfl⟩
   replace H : (laws_toFlyStepS.l0 k1 l0 y270 (wrap64 (x4_1 + 1))) = some r := by first | (rw [hy270]; with_reducible exact H) | (have H2_ := (Option.bind_some _ _).symm.trans H; rw [hy270]; with_reducible exact H2_) | (have H2_ := (Option.bind_some _ _).symm.trans H; with_reducible exact H2_) | with_reducible exact H | (rw [hy270]; exact H) | exact H
   have Ny270 := zA hy270
   clear hy270
   have H' := zA H
   clear H
   have p262 : 0 ≤ (x4_1 : Int) := za
   have q262 : x4_1 < (l0.length : Int) := za
   obtain ⟨ad262, e262, hx262_0, hx262_1, hx262_2, hx262_3, hx262_4, hx262_5, hx262_6⟩ := at_T104 HR0.out x4_1 p262 q262
   cases e262
   replace hx262_0 := zx HB hx262_0
   replace hx262_1 := zx HB hx262_1
   replace hx262_2 := zx HB hx262_2
   replace hx262_3 := zx HB hx262_3
   replace hx262_4 := zx HB hx262_4
   replace hx262_5 := zx HB hx262_5
   replace hx262_6 := zx HB hx262_6
   replace p262 := eq_true p262
   replace q262 := eq_true q262
   go_wp2_with (first | ((with_reducible refine gate_callee (f := 89) rfl ?_); refine zgl (N := some 20) Try.func89 #[.agg #[.int .i64 ((rd_T104 l0 x4_1).f0), .int .i64 ((rd_T104 l0 x4_1).f1), .int .i64 ((rd_T104 l0 x4_1).f2), .int .i64 ((rd_T104 l0 x4_1).f3), .int .i64 ((rd_T104 l0 x4_1).f4), .int .i64 ((rd_T104 l0 x4_1).f5), .bool ((rd_T104 l0 x4_1).f6)]] ?_; (with_reducible refine (laws_toFlyStep.calls ((rd_T104 l0 x4_1).f0) ((rd_T104 l0 x4_1).f1) ((rd_T104 l0 x4_1).f2) ((rd_T104 l0 x4_1).f3) ((rd_T104 l0 x4_1).f4) ((rd_T104 l0 x4_1).f5) ((rd_T104 l0 x4_1).f6) t263 t264 t265 t266 t267 t268 t269 _ A8.out).mono ?_); rintro e w11 ⟨rfl, hb⟩; refine ⟨_, rfl, ?_⟩; replace HO_3 := zA (Kd.R_below (zr HO_3) hb); replace HB := zE (zs0 HB) hb; (try clear hb); (try clear hb2); (try clear hk); (try clear hi); have p10 : 0 ≤ (x4_1 : Int) := za; have q10 : (x4_1 : Int) < ((x3_1.length : Int) : Int) := za; obtain ⟨go10, co10, eo10, gb10, gl10, cl10, HG10⟩ := Kd.R_form HO_3.out (by omega); (first | cases eo10 | (injection eo10 with ea_ en_ ec_; (first | subst ea_ | (injection ea_ with ea_; subst ea_)); subst ec_; clear en_)); have GB10 := zA gb10; have GG10 := zA HG10; clear gb10 gl10 HG10; obtain ⟨ce10, hcl10, hM10, hcc10, hfr10⟩ := Kd.R_elem HO_3.out z88 (x4_1 : Int) p10 q10; obtain rfl := k88_openM hM10; have hx10_0 : w11.cell? ⟨go10, (x4_1 : Int).toNat * 7, none⟩ = some (.int .i64 ((rd_T88 x3_1 x4_1).f0)) := hcc10 0 _ rfl; have hx10_1 : w11.cell? ⟨go10, (x4_1 : Int).toNat * 7 + 1, none⟩ = some (.int .i64 ((rd_T88 x3_1 x4_1).f1)) := hcc10 1 _ rfl; have hx10_2 : w11.cell? ⟨go10, (x4_1 : Int).toNat * 7 + 2, none⟩ = some (.int .i64 ((rd_T88 x3_1 x4_1).f2)) := hcc10 2 _ rfl; have hx10_3 : w11.cell? ⟨go10, (x4_1 : Int).toNat * 7 + 3, none⟩ = some (.int .i64 ((rd_T88 x3_1 x4_1).f3)) := hcc10 3 _ rfl; have hx10_4 : w11.cell? ⟨go10, (x4_1 : Int).toNat * 7 + 4, none⟩ = some (.int .i64 ((rd_T88 x3_1 x4_1).f4)) := hcc10 4 _ rfl; have hx10_5 : w11.cell? ⟨go10, (x4_1 : Int).toNat * 7 + 5, none⟩ = some (.int .i64 ((rd_T88 x3_1 x4_1).f5)) := hcc10 5 _ rfl; have hx10_6 : w11.cell? ⟨go10, (x4_1 : Int).toNat * 7 + 6, none⟩ = some (.bool ((rd_T88 x3_1 x4_1).f6)) := hcc10 6 _ rfl; have hf10_0 : w11.frozen? ⟨go10, (x4_1 : Int).toNat * 7, none⟩ = false := hfr10 0; have hf10_1 : w11.frozen? ⟨go10, (x4_1 : Int).toNat * 7 + 1, none⟩ = false := hfr10 1; have hf10_2 : w11.frozen? ⟨go10, (x4_1 : Int).toNat * 7 + 2, none⟩ = false := hfr10 2; have hf10_3 : w11.frozen? ⟨go10, (x4_1 : Int).toNat * 7 + 3, none⟩ = false := hfr10 3; have hf10_4 : w11.frozen? ⟨go10, (x4_1 : Int).toNat * 7 + 4, none⟩ = false := hfr10 4; have hf10_5 : w11.frozen? ⟨go10, (x4_1 : Int).toNat * 7 + 5, none⟩ = false := hfr10 5; have hf10_6 : w11.frozen? ⟨go10, (x4_1 : Int).toNat * 7 + 6, none⟩ = false := hfr10 6; clear hcl10 hcc10 hfr10 hM10; replace p10 := eq_true p10; replace q10 := eq_true q10; have HX12 := zA (show Kd.R k88 88 w11 w.heap.size (fun _ => True) (.slice (some ⟨go10, 0, none⟩) x3_1.length co10) x3_1 from (zr HO_3)); obtain ⟨ce12, hcl12, hM12, hcc12, hfr12⟩ := Kd.R_elem HX12.out z88 (x4_1 : Int) (za) (by have h_ : (x4_1 : Int) < ((x3_1.length : Int) : Int) := za; first | exact h_ | (have e_ := (Kd.R_reads' HO_3.out).1; omega) | simpa using h_); obtain rfl := k88_openM hM12; have HP12 := Kd.R_seg HX12.out (x4_1 : Int) (za) (by have h_ : (x4_1 : Int) < ((x3_1.length : Int) : Int) := za; first | exact h_ | (have e_ := (Kd.R_reads' HO_3.out).1; omega) | simpa using h_) (seg := [.int .i64 t263, .int .i64 t264, .int .i64 t265, .int .i64 t266, .int .i64 t267, .int .i64 t268, .bool t269]) (j := 0) hcl12 hcc12 (show 7 ≤ 7 from by decide) (x' := (⟨t263, t264, t265, t266, t267, t268, t269⟩ : S88)) (k88_mkM _ _ _ (⟨t263, t264, t265, t266, t267, t268, t269⟩ : S88) ) (fun _ hk => hk); have hx12_0 := hcc12 0 _ rfl; (try simp only [show (k88).sz = 7 from rfl, Nat.mul_one, Nat.add_zero] at hx12_0); have hf12_0 := hfr12 0; (try simp only [show (k88).sz = 7 from rfl, Nat.mul_one, Nat.add_zero] at hf12_0); have hx12_1 := hcc12 1 _ rfl; (try simp only [show (k88).sz = 7 from rfl, Nat.mul_one, Nat.add_zero] at hx12_1); have hf12_1 := hfr12 1; (try simp only [show (k88).sz = 7 from rfl, Nat.mul_one, Nat.add_zero] at hf12_1); have hx12_2 := hcc12 2 _ rfl; (try simp only [show (k88).sz = 7 from rfl, Nat.mul_one, Nat.add_zero] at hx12_2); have hf12_2 := hfr12 2; (try simp only [show (k88).sz = 7 from rfl, Nat.mul_one, Nat.add_zero] at hf12_2); have hx12_3 := hcc12 3 _ rfl; (try simp only [show (k88).sz = 7 from rfl, Nat.mul_one, Nat.add_zero] at hx12_3); have hf12_3 := hfr12 3; (try simp only [show (k88).sz = 7 from rfl, Nat.mul_one, Nat.add_zero] at hf12_3); have hx12_4 := hcc12 4 _ rfl; (try simp only [show (k88).sz = 7 from rfl, Nat.mul_one, Nat.add_zero] at hx12_4); have hf12_4 := hfr12 4; (try simp only [show (k88).sz = 7 from rfl, Nat.mul_one, Nat.add_zero] at hf12_4); have hx12_5 := hcc12 5 _ rfl; (try simp only [show (k88).sz = 7 from rfl, Nat.mul_one, Nat.add_zero] at hx12_5); have hf12_5 := hfr12 5; (try simp only [show (k88).sz = 7 from rfl, Nat.mul_one, Nat.add_zero] at hf12_5); have hx12_6 := hcc12 6 _ rfl; (try simp only [show (k88).sz = 7 from rfl, Nat.mul_one, Nat.add_zero] at hx12_6); have hf12_6 := hfr12 6; (try simp only [show (k88).sz = 7 from rfl, Nat.mul_one, Nat.add_zero] at hf12_6); clear hcl12 hcc12 hfr12 hM12) | ((with_reducible refine gate_store (t := 88) (p := 21) rfl ?_); refine store_event (t := 88) (p := 21) (v := ?vo_w13) (w1 := (((((((w11.setCell ⟨go10, (x4_1 : Int).toNat * 7, none⟩ (.int .i64 t263)).setCell ⟨go10, (x4_1 : Int).toNat * 7 + 1, none⟩ (.int .i64 t264)).setCell ⟨go10, (x4_1 : Int).toNat * 7 + 2, none⟩ (.int .i64 t265)).setCell ⟨go10, (x4_1 : Int).toNat * 7 + 3, none⟩ (.int .i64 t266)).setCell ⟨go10, (x4_1 : Int).toNat * 7 + 4, none⟩ (.int .i64 t267)).setCell ⟨go10, (x4_1 : Int).toNat * 7 + 5, none⟩ (.int .i64 t268)).setCell ⟨go10, (x4_1 : Int).toNat * 7 + 6, none⟩ (.bool t269))) ?hg ?ho ?hn ?hr ?_; (case ho => rfl); (case hg => rfl); (case hn => rfl); (case hr => first | (go_simp; done) | (go_simp; rfl)); intro w13 hw; have hg : w11.grownBy w13 (some go10) := (by rw [hw]; exact HP12.2); have hp_ : Kd.R k88 88 w13 w.heap.size (fun _ => True) (.slice (some ⟨go10, 0, none⟩) x3_1.length co10) y270 := (by rw [hw, Ny270.out]; exact HP12.1); clear HP12; replace HO_3 := zA (hp_); replace HB := zA ((by rw [hw]; exact below_set (below_set (below_set (below_set (below_set (below_set (below_set (HB.out) GB10.out) GB10.out) GB10.out) GB10.out) GB10.out) GB10.out) GB10.out : Below w.heap.size w w13)); clear hg hw hp_))
   go_roundg k1
   case measure => have := HK1.out; omega
   case rel => exact ⟨(y270), (wrap64 (x4_1 + 1)), zi, H', ⟨by have := HK1.out; omega⟩, ⟨zr HO_3⟩, ⟨zs0 HB⟩⟩
def laws_toFlyPath.f (k : Nat) (a0_0 : Int) (a0_1 : Int) (l0_2 : List (S104)) (a0_3 : Int) (a0_4 : Int) : Option (Int × Int × (List (S88)) × Int × Int) := (laws_toFlyKind.f a0_0 a0_1).bind fun bt274 => ((laws_toFlyStepS.f k l0_2).bind fun t276 => (some (bt274.1, bt274.2, t276, a0_3, a0_4)))
set_option maxHeartbeats 8000000 in
set_option maxRecDepth 100000 in
theorem laws_toFlyPath.calls (k : Nat) (a0_0 : Int) (a0_1 : Int) (A0_2 : Option Addr) (c0_2 : Nat) (l0_2 : List (S104)) (a0_3 : Int) (a0_4 : Int) (r1 : Int) (r2 : Int) (r3 : List (S88)) (r4 : Int) (r5 : Int) (w : World) (hr0_2 : Kd.C k104 w A0_2 l0_2.length l0_2) (hc0_2 : l0_2.length ≤ c0_2) (h : laws_toFlyPath.f k a0_0 a0_1 l0_2 a0_3 a0_4 = some (r1, r2, r3, r4, r5)) :
 Calls Try.prog 17 #[.agg #[.int .i64 a0_0, .int .i64 a0_1, .slice A0_2 l0_2.length c0_2, .int .i64 a0_3, .int .i64 a0_4]] w fun e w' => ∃ v2_ : Value, e = .returned (.agg #[.int .i64 r1, .int .i64 r2, v2_, .int .i64 r4, .int .i64 r5]) ∧ Kd.R k88 88 w' w.heap.size (fun _ => True) v2_ r3 ∧ Below w.heap.size w w' := by
 have hu26 := Try.underlying26
 have hu34 := Try.underlying34
 have hu23 := Try.underlying23
 have hu31 := Try.underlying31
 have HR0_2 := zA hr0_2
 have HC0_2 := zA hc0_2
 clear hr0_2 hc0_2
 have HB := zA (Below.refl w.heap.size w)
 have H : ((laws_toFlyKind.f a0_0 a0_1).bind fun bt274 => ((laws_toFlyStepS.f k l0_2).bind fun t276 => (some (bt274.1, bt274.2, t276, a0_3, a0_4)))) = some (r1, r2, r3, r4, r5) := h
 clear h
 replace H := Option.bind_eq_some_iff.mp H
 obtain ⟨⟨t274, t275⟩, A20, H⟩ := H
 replace H : ((laws_toFlyStepS.f k l0_2).bind fun t276 => (some (t274, t275, t276, a0_3, a0_4))) = some (r1, r2, r3, r4, r5) := H
 have A2 := zA A20
 clear A20
 replace H := zbd H; obtain ⟨t276, A3, H⟩ := H
 simp only [Option.some.injEq, Prod.mk.injEq] at H
 obtain ⟨rfl, rfl, rfl, rfl, rfl⟩ := H
 go_enter Try.func17, Try.ntmps17
 go_wp2_with (first | ((with_reducible refine gate_dst (N := 1) rfl ?_); refine zbx 1 #[.int .i64 a0_0, .int .i64 a0_1, .slice A0_2 l0_2.length c0_2, .int .i64 a0_3, .int .i64 a0_4] 26 ?_; intro gb271 hg w4 hbox hb; have BK271 := zA hbox; have GW271 := zgs hg (zs0 HB); have GE271 := zgs hg (zs0 HB); replace HB := zE (zs0 HB) hb; clear hb hbox hg) | ((with_reducible refine gate_dst (N := 2) rfl ?_); refine zbx 2 #[.int .i64 0, .int .i64 0, .slice none 0 0, .int .i64 0, .int .i64 0] 34 ?_; intro gb272 hg w5 hbox hb; have BK272 := zA hbox; have GW272 := zgs hg (zs1 HB GE271); have GE272 := zgs hg (zs1 HB GE271); have NB271_272 := zne hg BK271; have NB272_271 := znf hg BK271; replace BK271 := zb BK271 hb; replace HB := zE (zs1 HB GE271) hb; clear hb hbox hg) | ((with_reducible refine gate_dst (N := 3) rfl ?_); refine zbx 3 #[.int .i64 0, .int .i64 0, .slice none 0 0, .int .i64 0, .int .i64 0] 34 ?_; intro gb273 hg w6 hbox hb; have BK273 := zA hbox; have GW273 := zgs hg (zs2 HB GE271 GE272); have GE273 := zgs hg (zs2 HB GE271 GE272); have NB271_273 := zne hg BK271; have NB273_271 := znf hg BK271; have NB272_273 := zne hg BK272; have NB273_272 := znf hg BK272; replace BK271 := zb BK271 hb; replace BK272 := zb BK272 hb; replace HB := zE (zs2 HB GE271 GE272) hb; clear hb hbox hg; have hnb7 := NB271_272.out; have hnc7 := NB272_271.out; have hnb8 := NB271_273.out; have hnc8 := NB273_271.out; obtain ⟨hcz9_0, hcz9_1, hcz9_2, hcz9_3, hcz9_4⟩ := zd5 BK271; obtain ⟨hfz9_0, hfz9_1, hfz9_2, hfz9_3, hfz9_4⟩ := zn5 BK271) | ((with_reducible refine gate_callee (f := 55) rfl ?_); refine zgl (N := some 6) Try.func55 #[.agg #[.int .i64 a0_0, .int .i64 a0_1]] ?_; (with_reducible refine (laws_toFlyKind.calls a0_0 a0_1 t274 t275 _ A2.out).mono ?_); rintro e w10 ⟨rfl, hb⟩; refine ⟨_, rfl, ?_⟩; replace BK271 := zb BK271 hb; replace BK272 := zb BK272 hb; replace BK273 := zb BK273 hb; replace HB := zE (zs3 HB GE271 GE272 GE273) hb; (try clear hb); (try clear hb2); (try clear hk); (try clear hi); have hnb11 := NB273_272.out; have hnc11 := NB272_273.out; obtain ⟨hcz12_0, hcz12_1, hcz12_2, hcz12_3, hcz12_4⟩ := zd5 BK273; obtain ⟨hfz12_0, hfz12_1, hfz12_2, hfz12_3, hfz12_4⟩ := zn5 BK273; obtain ⟨hcz13_0, hcz13_1, hcz13_2, hcz13_3, hcz13_4⟩ := zd5 BK271; obtain ⟨hfz13_0, hfz13_1, hfz13_2, hfz13_3, hfz13_4⟩ := zn5 BK271) | ((with_reducible refine gate_callee (f := 56) rfl ?_); refine zgl (N := some 10) Try.func56 #[.slice A0_2 l0_2.length c0_2] ?_; (with_reducible refine (laws_toFlyStepS.calls k _ _ l0_2 t276 _ ?side1 ?side2 A3.out).mono ?_); (case side1 => exact Kd.C_below HR0_2.out (zs3 HB GE271 GE272 GE273)); (case side2 => exact HC0_2.out); rintro e w14 ⟨v277, rfl, ho0, hb⟩; refine ⟨_, rfl, ?_⟩; have HO278 := zA (Kd.R_lower ho0 (below_size (zs3 HB GE271 GE272 GE273))); replace BK271 := zA (blk_below (g := gb271) (o := .cells #[.int .i64 a0_0, .int .i64 a0_1, .slice A0_2 l0_2.length c0_2, .int .i64 a0_3, .int .i64 a0_4] 26 (0, 0)) (zpf BK271 NB271_273) hb); replace BK272 := zA (blk_below (g := gb272) (o := .cells #[.int .i64 0, .int .i64 0, .slice none 0 0, .int .i64 0, .int .i64 0] 34 (0, 0)) (zpf BK272 NB272_273) hb); replace BK273 := zA (blk_below (g := gb273) (o := .cells #[.int .i64 t274, .int .i64 t275, .slice none 0 0, .int .i64 0, .int .i64 0] 34 (0, 0)) (zpb BK273) hb); replace HB := zE (zs3 HB GE271 GE272 GE273) hb; (try clear hb); (try clear hb2); (try clear hk); (try clear hi); (try clear ho0); obtain ⟨Ao15, co15, eo15⟩ := Kd.R_slice HO278.out; subst eo15; obtain ⟨hcz16_0, hcz16_1, hcz16_2, hcz16_3, hcz16_4⟩ := zd5 BK273; obtain ⟨hfz16_0, hfz16_1, hfz16_2, hfz16_3, hfz16_4⟩ := zn5 BK273; obtain ⟨hcz17_0, hcz17_1, hcz17_2, hcz17_3, hcz17_4⟩ := zd5 BK271; obtain ⟨hfz17_0, hfz17_1, hfz17_2, hfz17_3, hfz17_4⟩ := zn5 BK271; obtain ⟨hcz18_0, hcz18_1, hcz18_2, hcz18_3, hcz18_4⟩ := zd5 BK272; obtain ⟨hfz18_0, hfz18_1, hfz18_2, hfz18_3, hfz18_4⟩ := zn5 BK272))
 refine bodyPost_ret (results_cell_row rfl _ _ gb272 34 #[.int .i64 t274, .int .i64 t275, .slice Ao15 t276.length co15, .int .i64 a0_3, .int .i64 a0_4] (0, 0) _ rfl ?hz Try.underlying34 rfl (by kernel_rfl)) rfl ?_; (case hz => exact zpf BK272 NB272_273)
 exact ⟨_, ze, by (with_reducible repeat (first | apply Kd.R_alloc | apply Kd.R_drewN | apply Kd.R_drew)); exact Kd.R_mono (Kd.R_far (p := ⟨gb272, 4, none⟩) (Kd.R_far (p := ⟨gb272, 3, none⟩) (Kd.R_far (p := ⟨gb272, 2, none⟩) (Kd.R_far (p := ⟨gb272, 1, none⟩) (Kd.R_far (p := ⟨gb272, 0, none⟩) (Kd.R_far (p := ⟨gb273, 4, none⟩) (Kd.R_far (p := ⟨gb273, 3, none⟩) (Kd.R_far (p := ⟨gb273, 2, none⟩) (Kd.R_types (Kd.R_types HO278.out BK273.out (by decide)) BK272.out (by decide)) (fun _ hk => hk.1.2) (.slice Ao15 t276.length co15)) (fun _ hk => hk.1.2) (.int .i64 a0_3)) (fun _ hk => hk.1.2) (.int .i64 a0_4)) (fun _ hk => hk.2) (.int .i64 t274)) (fun _ hk => hk.2) (.int .i64 t275)) (fun _ hk => hk.2) (.slice Ao15 t276.length co15)) (fun _ hk => hk.2) (.int .i64 a0_3)) (fun _ hk => hk.2) (.int .i64 a0_4)) (fun _ hk => trivial), zs3 HB GE271 GE272 GE273⟩
end Go.Proofs.Ytidenmcoilmbcaa.QFnExactFlyGo
