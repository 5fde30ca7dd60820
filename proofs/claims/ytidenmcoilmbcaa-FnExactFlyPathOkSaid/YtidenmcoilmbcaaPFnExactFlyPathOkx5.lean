-- PRINTED BY print.sh 35421559b90ae4d0a3588c463048766b98c2df88dd9212a6774a882060cdf62d: not written by this session
import Derived.Test.YtidenmcoilmbcaaPFnExactFlyPathOkx0
import Derived.Test.YtidenmcoilmbcaaPFnExactFlyPathOkx4
namespace Go.Proofs.Ytidenmcoilmbcaa.PFnExactFlyPathOk
open Go.RowKit Go.Proofs.YtidenmcoilmbcaaW.PrintWords Go.Proofs.YtidenmcoilmbcaaW.PrintLast Go.Proofs.YtidenmcoilmbcaaW.PrintMore
attribute [local go_sem] max2_int min2_int max_two min_two max_three min_three max_four min_four   -- for this text's walks alone
set_option linter.unusedVariables false
set_option linter.unusedSimpArgs false

/-! ### impl_FlyPathOk: function 33 -/
mutual
def impl_FlyPathOk.j0 : Nat → Bool → Int → Int → List (S88) → Int → Int → Option (Bool)
  | 0, _, _, _, _, _, _ => none
  | k + 1, x24, x162000, x162001, x162002, x162003, x162004 => if x24 = true then (some false) else (impl_FlyPathOk.l0 k x162002 (x162002.length : Int) 0 x162000 x162001 x162002 x162003 x162004)
def impl_FlyPathOk.l0 : Nat → List (S88) → Int → Int → Int → Int → List (S88) → Int → Int → Option (Bool)
  | 0, _, _, _, _, _, _, _, _ => none
  | k + 1, x26, x27, x28, x162000, x162001, x162002, x162003, x162004 => if x28 < x27 then (if 0 ≤ x28 then (if x28 < (x26.length : Int) then ((impl_within.f ((rd_T88 x26 x28).f0) 0 15).bind fun t167 => (if t167 = true then ((impl_within.f ((rd_T88 x26 x28).f1) 0 15).bind fun t168 => (if t168 = true then (if 0 ≤ ((rd_T88 x26 x28).f2) then (if ((rd_T88 x26 x28).f2) ≤ ((rd_T88 x26 x28).f3) then (if (((rd_T88 x26 x28).f3) ≤ 6) then ((impl_window.f ((rd_T88 x26 x28).f4) ((rd_T88 x26 x28).f5)).bind fun t169 => (impl_FlyPathOk.j2 k x28 x26 x27 x28 (!t169) x162000 x162001 x162002 x162003 x162004 ((rd_T88 x26 x28).f0) ((rd_T88 x26 x28).f1) ((rd_T88 x26 x28).f2) ((rd_T88 x26 x28).f3) ((rd_T88 x26 x28).f4) ((rd_T88 x26 x28).f5) ((rd_T88 x26 x28).f6))) else (impl_FlyPathOk.j2 k x28 x26 x27 x28 true x162000 x162001 x162002 x162003 x162004 ((rd_T88 x26 x28).f0) ((rd_T88 x26 x28).f1) ((rd_T88 x26 x28).f2) ((rd_T88 x26 x28).f3) ((rd_T88 x26 x28).f4) ((rd_T88 x26 x28).f5) ((rd_T88 x26 x28).f6))) else (impl_FlyPathOk.j2 k x28 x26 x27 x28 true x162000 x162001 x162002 x162003 x162004 ((rd_T88 x26 x28).f0) ((rd_T88 x26 x28).f1) ((rd_T88 x26 x28).f2) ((rd_T88 x26 x28).f3) ((rd_T88 x26 x28).f4) ((rd_T88 x26 x28).f5) ((rd_T88 x26 x28).f6))) else (impl_FlyPathOk.j2 k x28 x26 x27 x28 true x162000 x162001 x162002 x162003 x162004 ((rd_T88 x26 x28).f0) ((rd_T88 x26 x28).f1) ((rd_T88 x26 x28).f2) ((rd_T88 x26 x28).f3) ((rd_T88 x26 x28).f4) ((rd_T88 x26 x28).f5) ((rd_T88 x26 x28).f6))) else (impl_FlyPathOk.j2 k x28 x26 x27 x28 true x162000 x162001 x162002 x162003 x162004 ((rd_T88 x26 x28).f0) ((rd_T88 x26 x28).f1) ((rd_T88 x26 x28).f2) ((rd_T88 x26 x28).f3) ((rd_T88 x26 x28).f4) ((rd_T88 x26 x28).f5) ((rd_T88 x26 x28).f6)))) else (impl_FlyPathOk.j2 k x28 x26 x27 x28 true x162000 x162001 x162002 x162003 x162004 ((rd_T88 x26 x28).f0) ((rd_T88 x26 x28).f1) ((rd_T88 x26 x28).f2) ((rd_T88 x26 x28).f3) ((rd_T88 x26 x28).f4) ((rd_T88 x26 x28).f5) ((rd_T88 x26 x28).f6)))) else (none)) else (none)) else (some true)
def impl_FlyPathOk.j2 : Nat → Int → List (S88) → Int → Int → Bool → Int → Int → List (S88) → Int → Int → Int → Int → Int → Int → Int → Int → Bool → Option (Bool)
  | 0, _, _, _, _, _, _, _, _, _, _, _, _, _, _, _, _, _ => none
  | k + 1, x3, x26, x27, x28, x68, x162000, x162001, x162002, x162003, x162004, x167000, x167001, x167002, x167003, x167004, x167005, x167006 => if x68 = true then (some false) else (if x3 = 0 then (impl_FlyPathOk.l0 k x26 x27 (wrap64 (x28 + 1)) x162000 x162001 x162002 x162003 x162004) else (if 0 ≤ (wrap64 (x3 - 1)) then (if (wrap64 (x3 - 1)) < (x162002.length : Int) then (if ((rd_T88 x162002 (wrap64 (x3 - 1))).f0) = x167000 then (if ((rd_T88 x162002 (wrap64 (x3 - 1))).f1) = x167001 then (some false) else ((impl_dist.f ((rd_T88 x162002 (wrap64 (x3 - 1))).f0) x167000).bind fun t172 => (if t172 > 1 then (some false) else ((impl_dist.f ((rd_T88 x162002 (wrap64 (x3 - 1))).f1) x167001).bind fun t173 => (if t173 > 1 then (some false) else (if ((rd_T88 x162002 (wrap64 (x3 - 1))).f2) > x167003 then (some false) else (if x167002 > ((rd_T88 x162002 (wrap64 (x3 - 1))).f3) then (some false) else (impl_FlyPathOk.l0 k x26 x27 (wrap64 (x28 + 1)) x162000 x162001 x162002 x162003 x162004)))))))) else ((impl_dist.f ((rd_T88 x162002 (wrap64 (x3 - 1))).f0) x167000).bind fun t174 => (if t174 > 1 then (some false) else ((impl_dist.f ((rd_T88 x162002 (wrap64 (x3 - 1))).f1) x167001).bind fun t175 => (if t175 > 1 then (some false) else (if ((rd_T88 x162002 (wrap64 (x3 - 1))).f2) > x167003 then (some false) else (if x167002 > ((rd_T88 x162002 (wrap64 (x3 - 1))).f3) then (some false) else (impl_FlyPathOk.l0 k x26 x27 (wrap64 (x28 + 1)) x162000 x162001 x162002 x162003 x162004)))))))) else (none)) else (none)))
end
def impl_FlyPathOk.f (k : Nat) (a0_0 : Int) (a0_1 : Int) (l0_2 : List (S88)) (a0_3 : Int) (a0_4 : Int) : Option (Bool) := (impl_FlyKindOk.f a0_0 a0_1).bind fun t162 => (if t162 = true then ((impl_within.f (l0_2.length : Int) 1 40).bind fun t163 => (if t163 = true then ((impl_window.f a0_3 a0_4).bind fun t164 => (impl_FlyPathOk.j0 k (!t164) a0_0 a0_1 l0_2 a0_3 a0_4)) else (impl_FlyPathOk.j0 k true a0_0 a0_1 l0_2 a0_3 a0_4))) else (impl_FlyPathOk.j0 k true a0_0 a0_1 l0_2 a0_3 a0_4))
theorem impl_FlyPathOk.mono_l : ∀ k, (∀ y0 y1 y2 y3 y4 y5, LeO (impl_FlyPathOk.j0 k y0 y1 y2 y3 y4 y5) (impl_FlyPathOk.j0 (k + 1) y0 y1 y2 y3 y4 y5)) ∧ (∀ y0 y1 y2 y3 y4 y5 y6 y7, LeO (impl_FlyPathOk.l0 k y0 y1 y2 y3 y4 y5 y6 y7) (impl_FlyPathOk.l0 (k + 1) y0 y1 y2 y3 y4 y5 y6 y7)) ∧ (∀ y0 y1 y2 y3 y4 y5 y6 y7 y8 y9 y10 y11 y12 y13 y14 y15 y16, LeO (impl_FlyPathOk.j2 k y0 y1 y2 y3 y4 y5 y6 y7 y8 y9 y10 y11 y12 y13 y14 y15 y16) (impl_FlyPathOk.j2 (k + 1) y0 y1 y2 y3 y4 y5 y6 y7 y8 y9 y10 y11 y12 y13 y14 y15 y16))
  | 0 => ⟨fun _ _ _ _ _ _ r h => by simp [impl_FlyPathOk.j0] at h, fun _ _ _ _ _ _ _ _ r h => by simp [impl_FlyPathOk.l0] at h, fun _ _ _ _ _ _ _ _ _ _ _ _ _ _ _ _ _ r h => by simp [impl_FlyPathOk.j2] at h⟩
  | k + 1 => by
    obtain ⟨ih0, ih1, ih2⟩ := impl_FlyPathOk.mono_l k
    refine ⟨?_, ?_, ?_⟩
    · intro y0 y1 y2 y3 y4 y5
      unfold impl_FlyPathOk.j0
      repeat' first
      | (with_reducible exact ih0 _ _ _ _ _ _)
      | (with_reducible exact ih1 _ _ _ _ _ _ _ _)
      | (with_reducible exact ih2 _ _ _ _ _ _ _ _ _ _ _ _ _ _ _ _ _)
      | (with_reducible exact LeO.refl _)
      | (with_reducible exact LeO.none _)
      | (with_reducible refine LeO.ite ?_ ?_)
      | (with_reducible refine LeO.bind ?_ (fun _ => ?_))
      | exact ih0 _ _ _ _ _ _
      | exact ih1 _ _ _ _ _ _ _ _
      | exact ih2 _ _ _ _ _ _ _ _ _ _ _ _ _ _ _ _ _
      | exact LeO.none _
      | refine LeO.ite ?_ ?_
      | refine LeO.bind ?_ (fun _ => ?_)
    · intro y0 y1 y2 y3 y4 y5 y6 y7
      unfold impl_FlyPathOk.l0
      repeat' first
      | (with_reducible exact ih0 _ _ _ _ _ _)
      | (with_reducible exact ih1 _ _ _ _ _ _ _ _)
      | (with_reducible exact ih2 _ _ _ _ _ _ _ _ _ _ _ _ _ _ _ _ _)
      | (with_reducible exact LeO.refl _)
      | (with_reducible exact LeO.none _)
      | (with_reducible refine LeO.ite ?_ ?_)
      | (with_reducible refine LeO.bind ?_ (fun _ => ?_))
      | exact ih0 _ _ _ _ _ _
      | exact ih1 _ _ _ _ _ _ _ _
      | exact ih2 _ _ _ _ _ _ _ _ _ _ _ _ _ _ _ _ _
      | exact LeO.none _
      | refine LeO.ite ?_ ?_
      | refine LeO.bind ?_ (fun _ => ?_)
    · intro y0 y1 y2 y3 y4 y5 y6 y7 y8 y9 y10 y11 y12 y13 y14 y15 y16
      unfold impl_FlyPathOk.j2
      repeat' first
      | (with_reducible exact ih0 _ _ _ _ _ _)
      | (with_reducible exact ih1 _ _ _ _ _ _ _ _)
      | (with_reducible exact ih2 _ _ _ _ _ _ _ _ _ _ _ _ _ _ _ _ _)
      | (with_reducible exact LeO.refl _)
      | (with_reducible exact LeO.none _)
      | (with_reducible refine LeO.ite ?_ ?_)
      | (with_reducible refine LeO.bind ?_ (fun _ => ?_))
      | exact ih0 _ _ _ _ _ _
      | exact ih1 _ _ _ _ _ _ _ _
      | exact ih2 _ _ _ _ _ _ _ _ _ _ _ _ _ _ _ _ _
      | exact LeO.none _
      | refine LeO.ite ?_ ?_
      | refine LeO.bind ?_ (fun _ => ?_)
theorem impl_FlyPathOk.mono : ∀ a0 a1 a2 a3 a4 k, LeO (impl_FlyPathOk.f k a0 a1 a2 a3 a4) (impl_FlyPathOk.f (k + 1) a0 a1 a2 a3 a4) := by
  intro a0 a1 a2 a3 a4 k
  obtain ⟨ih0, ih1, ih2⟩ := impl_FlyPathOk.mono_l k
  unfold impl_FlyPathOk.f
  repeat' first
      | (with_reducible exact ih0 _ _ _ _ _ _)
      | (with_reducible exact ih1 _ _ _ _ _ _ _ _)
      | (with_reducible exact ih2 _ _ _ _ _ _ _ _ _ _ _ _ _ _ _ _ _)
      | (with_reducible exact LeO.refl _)
      | (with_reducible exact LeO.none _)
      | (with_reducible refine LeO.ite ?_ ?_)
      | (with_reducible refine LeO.bind ?_ (fun _ => ?_))
      | exact ih0 _ _ _ _ _ _
      | exact ih1 _ _ _ _ _ _ _ _
      | exact ih2 _ _ _ _ _ _ _ _ _ _ _ _ _ _ _ _ _
      | exact LeO.none _
      | refine LeO.ite ?_ ?_
      | refine LeO.bind ?_ (fun _ => ?_)
set_option maxHeartbeats 8000000 in
set_option maxRecDepth 100000 in
theorem impl_FlyPathOk.calls (k : Nat) (a0_0 : Int) (a0_1 : Int) (A0_2 : Option Addr) (c0_2 : Nat) (l0_2 : List (S88)) (a0_3 : Int) (a0_4 : Int) (r : Bool) (w : World) (hr0_2 : Kd.C k88 w A0_2 l0_2.length l0_2) (hc0_2 : l0_2.length ≤ c0_2) (h : impl_FlyPathOk.f k a0_0 a0_1 l0_2 a0_3 a0_4 = some r) :
    Calls Try.prog 33 #[.agg #[.int .i64 a0_0, .int .i64 a0_1, .slice A0_2 l0_2.length c0_2, .int .i64 a0_3, .int .i64 a0_4]] w fun e w' => e = .returned (.bool r) ∧ Below w.heap.size w w' := by
  have hu34 := Try.underlying34
  have hu31 := Try.underlying31
  have hu88 := Try.underlying88
  have HR0_2 := Aside0.mk hr0_2
  have HC0_2 := Aside0.mk hc0_2
  clear hr0_2 hc0_2
  have HB := Aside0.mk (Below.refl w.heap.size w)
  have H : ((impl_FlyKindOk.f a0_0 a0_1).bind fun t162 => (if t162 = true then ((impl_within.f (l0_2.length : Int) 1 40).bind fun t163 => (if t163 = true then ((impl_window.f a0_3 a0_4).bind fun t164 => (impl_FlyPathOk.j0 k (!t164) a0_0 a0_1 l0_2 a0_3 a0_4)) else (impl_FlyPathOk.j0 k true a0_0 a0_1 l0_2 a0_3 a0_4))) else (impl_FlyPathOk.j0 k true a0_0 a0_1 l0_2 a0_3 a0_4))) = some r := h
  clear h
  have HC2 := Aside0.mk H
  clear H
  go_enter Try.func33, Try.ntmps33
  go_upto_region 1 with (first | ((with_reducible refine gate_dst (N := 1) rfl ?_); (try (refine gate_guard (by rfl) ?_; dsimp only)); refine box_event ?hg (N := 1) ?hd (cs := #[.int .i64 a0_0, .int .i64 a0_1, .slice A0_2 l0_2.length c0_2, .int .i64 a0_3, .int .i64 a0_4]) (t := 34) ?hr ?_; (case hd => rfl); (case hg => rfl); (case hr => first | (go_simp; done) | (go_simp; rfl)); intro gb161 hg w3 hbox hb; have n0_ := Aside0.mk (below_step (by repeat (first | (with_reducible first | exact HB.out | apply below_alloc | apply pw_below_drewN | apply below_drew1) | exact HB.out)) hb); have n1_ := Aside0.mk (hbox); have n2_ := Aside0.mk ((by rw [hg]; exact (below_size (by repeat (first | (with_reducible first | exact HB.out | apply below_alloc | apply pw_below_drewN | apply below_drew1) | exact HB.out))) : w.heap.size ≤ gb161)); have n3_ := Aside0.mk ((by rw [hg]; exact (below_size (by repeat (first | (with_reducible first | exact HB.out | apply below_alloc | apply pw_below_drewN | apply below_drew1) | exact HB.out))) : w.heap.size ≤ gb161)); clear HB; have HB := n0_; have BK161 := n1_; have GW161 := n2_; have GE161 := n3_; clear n0_ n1_ n2_ n3_; clear hb hbox hg))
  (try simp only [Act.put, List.setIfInBounds_toArray, List.set_cons_zero, List.set_cons_succ])
  go_cut [24] (fun v24 wc => ∃ (kq : Nat) (x24_1 : Bool), v24 = .bool x24_1 ∧ Aside0 (impl_FlyPathOk.j0 kq x24_1 a0_0 a0_1 l0_2 a0_3 a0_4 = some r) ∧ Aside0 (kq ≤ k) ∧ Aside0 (wc.heap[gb161]? = some (.cells #[.int .i64 a0_0, .int .i64 a0_1, (.slice A0_2 l0_2.length c0_2), .int .i64 a0_3, .int .i64 a0_4] 34 (0, 0))) ∧ Aside0 (Below w.heap.size w wc))
  case first =>
    have H := HC2.out
    clear HC2
    replace H := Option.bind_eq_some_iff.mp H
    obtain ⟨t162, A40, H⟩ := H
    replace H : (if t162 = true then ((impl_within.f (l0_2.length : Int) 1 40).bind fun t163 => (if t163 = true then ((impl_window.f a0_3 a0_4).bind fun t164 => (impl_FlyPathOk.j0 k (!t164) a0_0 a0_1 l0_2 a0_3 a0_4)) else (impl_FlyPathOk.j0 k true a0_0 a0_1 l0_2 a0_3 a0_4))) else (impl_FlyPathOk.j0 k true a0_0 a0_1 l0_2 a0_3 a0_4)) = some r := H
    have A4 := Aside0.mk A40
    clear A40
    by_cases c5 : t162 = true
    · subst c5
      have H1 : ((impl_within.f (l0_2.length : Int) 1 40).bind fun t163 => (if t163 = true then ((impl_window.f a0_3 a0_4).bind fun t164 => (impl_FlyPathOk.j0 k (!t164) a0_0 a0_1 l0_2 a0_3 a0_4)) else (impl_FlyPathOk.j0 k true a0_0 a0_1 l0_2 a0_3 a0_4))) = some r := by rw [if_pos rfl] at H; exact H
      clear H
      have H := H1
      clear H1
      replace H := Option.bind_eq_some_iff.mp H
      obtain ⟨t163, A60, H⟩ := H
      replace H : (if t163 = true then ((impl_window.f a0_3 a0_4).bind fun t164 => (impl_FlyPathOk.j0 k (!t164) a0_0 a0_1 l0_2 a0_3 a0_4)) else (impl_FlyPathOk.j0 k true a0_0 a0_1 l0_2 a0_3 a0_4)) = some r := H
      have A6 := Aside0.mk A60
      clear A60
      by_cases c7 : t163 = true
      · subst c7
        have H1 : ((impl_window.f a0_3 a0_4).bind fun t164 => (impl_FlyPathOk.j0 k (!t164) a0_0 a0_1 l0_2 a0_3 a0_4)) = some r := by rw [if_pos rfl] at H; exact H
        clear H
        have H := H1
        clear H1
        replace H := Option.bind_eq_some_iff.mp H
        obtain ⟨t164, A80, H⟩ := H
        replace H : (impl_FlyPathOk.j0 k (!t164) a0_0 a0_1 l0_2 a0_3 a0_4) = some r := H
        have A8 := Aside0.mk A80
        clear A80
        have H' := Aside0.mk H
        clear H
        have hcz9_0 : w3.cell? ⟨gb161, 0, none⟩ = some (.int .i64 a0_0) := (blk_cell BK161.out 0).trans rfl
        have hcz9_1 : w3.cell? ⟨gb161, 1, none⟩ = some (.int .i64 a0_1) := (blk_cell BK161.out 1).trans rfl
        have hcz9_2 : w3.cell? ⟨gb161, 2, none⟩ = some (.slice A0_2 l0_2.length c0_2) := (blk_cell BK161.out 2).trans rfl
        have hcz9_3 : w3.cell? ⟨gb161, 3, none⟩ = some (.int .i64 a0_3) := (blk_cell BK161.out 3).trans rfl
        have hcz9_4 : w3.cell? ⟨gb161, 4, none⟩ = some (.int .i64 a0_4) := (blk_cell BK161.out 4).trans rfl
        have hfz9_0 := blk_frozen BK161.out 0
        have hfz9_1 := blk_frozen BK161.out 1
        have hfz9_2 := blk_frozen BK161.out 2
        have hfz9_3 := blk_frozen BK161.out 3
        have hfz9_4 := blk_frozen BK161.out 4
        go_wp2_with (first | ((with_reducible refine gate_callee (f := 77) rfl ?_); refine goesL_ (some 8) rfl rfl Try.func77 (by kernel_rfl) rfl #[.agg #[.int .i64 a0_0, .int .i64 a0_1]] rfl (by (try simp only [List.map_toArray, List.map_cons, List.map_nil]); first | done | rfl | (simp only [List.length_drop, List.length_take]; rfl)) ?_; (with_reducible refine (impl_FlyKindOk.calls a0_0 a0_1 true _ A4.out).mono ?_); rintro e w10 ⟨rfl, hb⟩; refine ⟨_, rfl, ?_⟩; have n0_ := Aside0.mk (blk_below (g := gb161) (o := .cells #[.int .i64 a0_0, .int .i64 a0_1, .slice A0_2 l0_2.length c0_2, .int .i64 a0_3, .int .i64 a0_4] 34 (0, 0)) (by (with_reducible repeat (first | refine blk_drewN ?_ _ | refine blk_drew ?_ | refine blk_alloc ?_ _)); exact BK161.out) hb); have n1_ := Aside0.mk (below_step (by repeat (first | (with_reducible first | exact HB.out | apply below_alloc | apply pw_below_drewN | apply below_drew1 | refine below_set ?_ GE161.out) | exact HB.out)) hb); clear BK161; clear HB; have BK161 := n0_; have HB := n1_; clear n0_ n1_; (try clear hb); (try clear hb2); (try clear hk); (try clear hi); have hcz11_0 : w10.cell? ⟨gb161, 0, none⟩ = some (.int .i64 a0_0) := (blk_cell BK161.out 0).trans rfl; have hcz11_1 : w10.cell? ⟨gb161, 1, none⟩ = some (.int .i64 a0_1) := (blk_cell BK161.out 1).trans rfl; have hcz11_2 : w10.cell? ⟨gb161, 2, none⟩ = some (.slice A0_2 l0_2.length c0_2) := (blk_cell BK161.out 2).trans rfl; have hcz11_3 : w10.cell? ⟨gb161, 3, none⟩ = some (.int .i64 a0_3) := (blk_cell BK161.out 3).trans rfl; have hcz11_4 : w10.cell? ⟨gb161, 4, none⟩ = some (.int .i64 a0_4) := (blk_cell BK161.out 4).trans rfl; have hfz11_0 := blk_frozen BK161.out 0; have hfz11_1 := blk_frozen BK161.out 1; have hfz11_2 := blk_frozen BK161.out 2; have hfz11_3 := blk_frozen BK161.out 3; have hfz11_4 := blk_frozen BK161.out 4) | (go_at_call 68; (with_reducible refine (impl_within.calls (l0_2.length : Int) 1 40 true _ A6.out).mono ?_); rintro e w' ⟨rfl, ⟨nd, rfl⟩⟩) | (go_at_call 78; (with_reducible refine (impl_window.calls a0_3 a0_4 t164 _ A8.out).mono ?_); rintro e w' ⟨rfl, ⟨nd, rfl⟩⟩))
        go_meet
        case rel => exact ⟨_, (!t164), (by first | rfl | (simp; done) | (simp [*]; done)), H', ⟨by first | omega | exact Nat.le_refl _⟩, ⟨by (with_reducible repeat (first | refine blk_drewN ?_ _ | refine blk_drew ?_ | refine blk_alloc ?_ _)); exact BK161.out⟩, ⟨by repeat (first | (with_reducible first | exact HB.out | apply below_alloc | apply pw_below_drewN | apply below_drew1 | refine below_set ?_ GE161.out) | exact HB.out)⟩⟩
      · replace c7 := Bool.eq_false_iff.mpr c7
        subst c7
        have H1 : (impl_FlyPathOk.j0 k true a0_0 a0_1 l0_2 a0_3 a0_4) = some r := by rw [if_neg (show ¬ (false = true) by decide)] at H; exact H
        clear H
        have H := H1
        clear H1
        have H' := Aside0.mk H
        clear H
        have hcz12_0 : w3.cell? ⟨gb161, 0, none⟩ = some (.int .i64 a0_0) := (blk_cell BK161.out 0).trans rfl
        have hcz12_1 : w3.cell? ⟨gb161, 1, none⟩ = some (.int .i64 a0_1) := (blk_cell BK161.out 1).trans rfl
        have hcz12_2 : w3.cell? ⟨gb161, 2, none⟩ = some (.slice A0_2 l0_2.length c0_2) := (blk_cell BK161.out 2).trans rfl
        have hcz12_3 : w3.cell? ⟨gb161, 3, none⟩ = some (.int .i64 a0_3) := (blk_cell BK161.out 3).trans rfl
        have hcz12_4 : w3.cell? ⟨gb161, 4, none⟩ = some (.int .i64 a0_4) := (blk_cell BK161.out 4).trans rfl
        have hfz12_0 := blk_frozen BK161.out 0
        have hfz12_1 := blk_frozen BK161.out 1
        have hfz12_2 := blk_frozen BK161.out 2
        have hfz12_3 := blk_frozen BK161.out 3
        have hfz12_4 := blk_frozen BK161.out 4
        go_wp2_with (first | ((with_reducible refine gate_callee (f := 77) rfl ?_); refine goesL_ (some 8) rfl rfl Try.func77 (by kernel_rfl) rfl #[.agg #[.int .i64 a0_0, .int .i64 a0_1]] rfl (by (try simp only [List.map_toArray, List.map_cons, List.map_nil]); first | done | rfl | (simp only [List.length_drop, List.length_take]; rfl)) ?_; (with_reducible refine (impl_FlyKindOk.calls a0_0 a0_1 true _ A4.out).mono ?_); rintro e w13 ⟨rfl, hb⟩; refine ⟨_, rfl, ?_⟩; have n0_ := Aside0.mk (blk_below (g := gb161) (o := .cells #[.int .i64 a0_0, .int .i64 a0_1, .slice A0_2 l0_2.length c0_2, .int .i64 a0_3, .int .i64 a0_4] 34 (0, 0)) (by (with_reducible repeat (first | refine blk_drewN ?_ _ | refine blk_drew ?_ | refine blk_alloc ?_ _)); exact BK161.out) hb); have n1_ := Aside0.mk (below_step (by repeat (first | (with_reducible first | exact HB.out | apply below_alloc | apply pw_below_drewN | apply below_drew1 | refine below_set ?_ GE161.out) | exact HB.out)) hb); clear BK161; clear HB; have BK161 := n0_; have HB := n1_; clear n0_ n1_; (try clear hb); (try clear hb2); (try clear hk); (try clear hi); have hcz14_0 : w13.cell? ⟨gb161, 0, none⟩ = some (.int .i64 a0_0) := (blk_cell BK161.out 0).trans rfl; have hcz14_1 : w13.cell? ⟨gb161, 1, none⟩ = some (.int .i64 a0_1) := (blk_cell BK161.out 1).trans rfl; have hcz14_2 : w13.cell? ⟨gb161, 2, none⟩ = some (.slice A0_2 l0_2.length c0_2) := (blk_cell BK161.out 2).trans rfl; have hcz14_3 : w13.cell? ⟨gb161, 3, none⟩ = some (.int .i64 a0_3) := (blk_cell BK161.out 3).trans rfl; have hcz14_4 : w13.cell? ⟨gb161, 4, none⟩ = some (.int .i64 a0_4) := (blk_cell BK161.out 4).trans rfl; have hfz14_0 := blk_frozen BK161.out 0; have hfz14_1 := blk_frozen BK161.out 1; have hfz14_2 := blk_frozen BK161.out 2; have hfz14_3 := blk_frozen BK161.out 3; have hfz14_4 := blk_frozen BK161.out 4) | (go_at_call 68; (with_reducible refine (impl_within.calls (l0_2.length : Int) 1 40 false _ A6.out).mono ?_); rintro e w' ⟨rfl, ⟨nd, rfl⟩⟩))
        go_meet
        case rel => exact ⟨_, (true), (by first | rfl | (simp; done) | (simp [*]; done)), H', ⟨by first | omega | exact Nat.le_refl _⟩, ⟨by (with_reducible repeat (first | refine blk_drewN ?_ _ | refine blk_drew ?_ | refine blk_alloc ?_ _)); exact BK161.out⟩, ⟨by repeat (first | (with_reducible first | exact HB.out | apply below_alloc | apply pw_below_drewN | apply below_drew1 | refine below_set ?_ GE161.out) | exact HB.out)⟩⟩
    · replace c5 := Bool.eq_false_iff.mpr c5
      subst c5
      have H1 : (impl_FlyPathOk.j0 k true a0_0 a0_1 l0_2 a0_3 a0_4) = some r := by rw [if_neg (show ¬ (false = true) by decide)] at H; exact H
      clear H
      have H := H1
      clear H1
      have H' := Aside0.mk H
      clear H
      have hcz15_0 : w3.cell? ⟨gb161, 0, none⟩ = some (.int .i64 a0_0) := (blk_cell BK161.out 0).trans rfl
      have hcz15_1 : w3.cell? ⟨gb161, 1, none⟩ = some (.int .i64 a0_1) := (blk_cell BK161.out 1).trans rfl
      have hcz15_2 : w3.cell? ⟨gb161, 2, none⟩ = some (.slice A0_2 l0_2.length c0_2) := (blk_cell BK161.out 2).trans rfl
      have hcz15_3 : w3.cell? ⟨gb161, 3, none⟩ = some (.int .i64 a0_3) := (blk_cell BK161.out 3).trans rfl
      have hcz15_4 : w3.cell? ⟨gb161, 4, none⟩ = some (.int .i64 a0_4) := (blk_cell BK161.out 4).trans rfl
      have hfz15_0 := blk_frozen BK161.out 0
      have hfz15_1 := blk_frozen BK161.out 1
      have hfz15_2 := blk_frozen BK161.out 2
      have hfz15_3 := blk_frozen BK161.out 3
      have hfz15_4 := blk_frozen BK161.out 4
      go_wp2_with (first | ((with_reducible refine gate_callee (f := 77) rfl ?_); refine goesL_ (some 8) rfl rfl Try.func77 (by kernel_rfl) rfl #[.agg #[.int .i64 a0_0, .int .i64 a0_1]] rfl (by (try simp only [List.map_toArray, List.map_cons, List.map_nil]); first | done | rfl | (simp only [List.length_drop, List.length_take]; rfl)) ?_; (with_reducible refine (impl_FlyKindOk.calls a0_0 a0_1 false _ A4.out).mono ?_); rintro e w16 ⟨rfl, hb⟩; refine ⟨_, rfl, ?_⟩; have n0_ := Aside0.mk (blk_below (g := gb161) (o := .cells #[.int .i64 a0_0, .int .i64 a0_1, .slice A0_2 l0_2.length c0_2, .int .i64 a0_3, .int .i64 a0_4] 34 (0, 0)) (by (with_reducible repeat (first | refine blk_drewN ?_ _ | refine blk_drew ?_ | refine blk_alloc ?_ _)); exact BK161.out) hb); have n1_ := Aside0.mk (below_step (by repeat (first | (with_reducible first | exact HB.out | apply below_alloc | apply pw_below_drewN | apply below_drew1 | refine below_set ?_ GE161.out) | exact HB.out)) hb); clear BK161; clear HB; have BK161 := n0_; have HB := n1_; clear n0_ n1_; (try clear hb); (try clear hb2); (try clear hk); (try clear hi)))
      go_meet
      case rel => exact ⟨_, (true), (by first | rfl | (simp; done) | (simp [*]; done)), H', ⟨by first | omega | exact Nat.le_refl _⟩, ⟨by (with_reducible repeat (first | refine blk_drewN ?_ _ | refine blk_drew ?_ | refine blk_alloc ?_ _)); exact BK161.out⟩, ⟨by repeat (first | (with_reducible first | exact HB.out | apply below_alloc | apply pw_below_drewN | apply below_drew1 | refine below_set ?_ GE161.out) | exact HB.out)⟩⟩
  case rest =>
    clear HC2
    try clear p2
    try clear c3
    try clear c5
    try clear c7
    try clear hcz11_0
    try clear hcz11_1
    try clear hcz11_2
    try clear hcz11_3
    try clear hcz11_4
    try clear hcz12_0
    try clear hcz12_1
    try clear hcz12_2
    try clear hcz12_3
    try clear hcz12_4
    try clear hcz14_0
    try clear hcz14_1
    try clear hcz14_2
    try clear hcz14_3
    try clear hcz14_4
    try clear hcz15_0
    try clear hcz15_1
    try clear hcz15_2
    try clear hcz15_3
    try clear hcz15_4
    try clear hcz9_0
    try clear hcz9_1
    try clear hcz9_2
    try clear hcz9_3
    try clear hcz9_4
    try clear hfz11_0
    try clear hfz11_1
    try clear hfz11_2
    try clear hfz11_3
    try clear hfz11_4
    try clear hfz12_0
    try clear hfz12_1
    try clear hfz12_2
    try clear hfz12_3
    try clear hfz12_4
    try clear hfz14_0
    try clear hfz14_1
    try clear hfz14_2
    try clear hfz14_3
    try clear hfz14_4
    try clear hfz15_0
    try clear hfz15_1
    try clear hfz15_2
    try clear hfz15_3
    try clear hfz15_4
    try clear hfz9_0
    try clear hfz9_1
    try clear hfz9_2
    try clear hfz9_3
    try clear hfz9_4
    obtain ⟨kq, x24_1, rfl, HA, HJ1, BK161, HB⟩ := hcut
    cases kq with
    | zero => exact absurd HA.out (by simp [impl_FlyPathOk.j0])
    | succ kj1 =>
      have H := HA.out
      clear HA
      simp only [impl_FlyPathOk.j0] at H
      by_cases c17 : x24_1 = true
      · subst c17
        have H1 : (some false) = some r := by rw [if_pos rfl] at H; exact H
        clear H
        have H := H1
        clear H1
        obtain rfl := Option.some.inj H
        go_wp2
        go_ret
        exact ⟨by first | rfl | (simp [errW_none, errW_some] <;> rfl) | (simp [*, errW_none, errW_some] <;> rfl), by repeat (first | (with_reducible first | exact HB.out | apply below_alloc | apply pw_below_drewN | apply below_drew1 | refine below_set ?_ GE161.out) | exact HB.out)⟩
      · replace c17 := Bool.eq_false_iff.mpr c17
        subst c17
        have H1 : (impl_FlyPathOk.l0 kj1 l0_2 (l0_2.length : Int) 0 a0_0 a0_1 l0_2 a0_3 a0_4) = some r := by rw [if_neg (show ¬ (false = true) by decide)] at H; exact H
        clear H
        have H := H1
        clear H1
        have H' := Aside0.mk H
        clear H
        have hcz18_0 : wc.cell? ⟨gb161, 0, none⟩ = some (.int .i64 a0_0) := (blk_cell BK161.out 0).trans rfl
        have hcz18_1 : wc.cell? ⟨gb161, 1, none⟩ = some (.int .i64 a0_1) := (blk_cell BK161.out 1).trans rfl
        have hcz18_2 : wc.cell? ⟨gb161, 2, none⟩ = some (.slice A0_2 l0_2.length c0_2) := (blk_cell BK161.out 2).trans rfl
        have hcz18_3 : wc.cell? ⟨gb161, 3, none⟩ = some (.int .i64 a0_3) := (blk_cell BK161.out 3).trans rfl
        have hcz18_4 : wc.cell? ⟨gb161, 4, none⟩ = some (.int .i64 a0_4) := (blk_cell BK161.out 4).trans rfl
        have hfz18_0 := blk_frozen BK161.out 0
        have hfz18_1 := blk_frozen BK161.out 1
        have hfz18_2 := blk_frozen BK161.out 2
        have hfz18_3 := blk_frozen BK161.out 3
        have hfz18_4 := blk_frozen BK161.out 4
        go_wp2
        go_loopg [28] kj1 (fun kq v28 w' => ∃ (x28_2 : Int), v28 = .int .i64 x28_2 ∧ Aside0 (impl_FlyPathOk.l0 kq l0_2 (l0_2.length : Int) x28_2 a0_0 a0_1 l0_2 a0_3 a0_4 = some r) ∧ Aside0 (kq ≤ kj1) ∧ Aside0 (w'.heap[gb161]? = some (.cells #[.int .i64 a0_0, .int .i64 a0_1, (.slice A0_2 l0_2.length c0_2), .int .i64 a0_3, .int .i64 a0_4] 34 (0, 0))) ∧ Aside0 (Below w.heap.size w w'))
        case atStart => exact ⟨(0), (by first | rfl | (simp; done) | (simp [*]; done)), H', ⟨Nat.le_refl _⟩, ⟨by (with_reducible repeat (first | refine blk_drewN ?_ _ | refine blk_drew ?_ | refine blk_alloc ?_ _)); exact BK161.out⟩, ⟨by repeat (first | (with_reducible first | exact HB.out | apply below_alloc | apply pw_below_drewN | apply below_drew1 | refine below_set ?_ GE161.out) | exact HB.out)⟩⟩
        case round =>
          clear H'
          try clear c1
          try clear p2
          try clear c3
          try clear c5
          try clear c7
          try clear c17
          try clear hcz11_0
          try clear hcz11_1
          try clear hcz11_2
          try clear hcz11_3
          try clear hcz11_4
          try clear hcz12_0
          try clear hcz12_1
          try clear hcz12_2
          try clear hcz12_3
          try clear hcz12_4
          try clear hcz14_0
          try clear hcz14_1
          try clear hcz14_2
          try clear hcz14_3
          try clear hcz14_4
          try clear hcz15_0
          try clear hcz15_1
          try clear hcz15_2
          try clear hcz15_3
          try clear hcz15_4
          try clear hcz18_0
          try clear hcz18_1
          try clear hcz18_2
          try clear hcz18_3
          try clear hcz18_4
          try clear hcz9_0
          try clear hcz9_1
          try clear hcz9_2
          try clear hcz9_3
          try clear hcz9_4
          try clear hfz11_0
          try clear hfz11_1
          try clear hfz11_2
          try clear hfz11_3
          try clear hfz11_4
          try clear hfz12_0
          try clear hfz12_1
          try clear hfz12_2
          try clear hfz12_3
          try clear hfz12_4
          try clear hfz14_0
          try clear hfz14_1
          try clear hfz14_2
          try clear hfz14_3
          try clear hfz14_4
          try clear hfz15_0
          try clear hfz15_1
          try clear hfz15_2
          try clear hfz15_3
          try clear hfz15_4
          try clear hfz18_0
          try clear hfz18_1
          try clear hfz18_2
          try clear hfz18_3
          try clear hfz18_4
          try clear hfz9_0
          try clear hfz9_1
          try clear hfz9_2
          try clear hfz9_3
          try clear hfz9_4
          try clear p2
          obtain ⟨x28_2, rfl, HA, HK2, BK161, HB⟩ := hrel
          cases gk with
          | zero => exact absurd HA.out (by simp [impl_FlyPathOk.l0])
          | succ k2 =>
            have H := HA.out
            clear HA
            simp only [impl_FlyPathOk.l0] at H
            by_cases c19 : x28_2 < (l0_2.length : Int)
            · rw [if_pos c19] at H
              have c19b0 : decide (x28_2 < (l0_2.length : Int)) = true := decide_eq_true c19
              clear c19
              by_cases c20 : 0 ≤ x28_2
              · rw [if_pos c20] at H
                have c20b0 : decide (0 ≤ x28_2) = true := decide_eq_true c20
                clear c20
                by_cases c21 : x28_2 < (l0_2.length : Int)
                · rw [if_pos c21] at H
                  have c21b0 : decide (x28_2 < (l0_2.length : Int)) = true := decide_eq_true c21
                  clear c21
                  have HC22 := Aside0.mk H
                  clear H
                  have p165 : 0 ≤ (x28_2 : Int) := of_decide_eq_true (by first | (with_reducible assumption) | assumption)
                  have q165 : x28_2 < (l0_2.length : Int) := of_decide_eq_true (by first | (with_reducible assumption) | assumption)
                  obtain ⟨ad165, e165, hx165_0, hx165_1, hx165_2, hx165_3, hx165_4, hx165_5, hx165_6⟩ := at_T88 HR0_2.out x28_2 p165 q165
                  cases e165
                  replace hx165_0 := (HB.out.cell (World.block_lt_of_cell? w _ hx165_0)).trans hx165_0
                  replace hx165_1 := (HB.out.cell (World.block_lt_of_cell? w _ hx165_1)).trans hx165_1
                  replace hx165_2 := (HB.out.cell (World.block_lt_of_cell? w _ hx165_2)).trans hx165_2
                  replace hx165_3 := (HB.out.cell (World.block_lt_of_cell? w _ hx165_3)).trans hx165_3
                  replace hx165_4 := (HB.out.cell (World.block_lt_of_cell? w _ hx165_4)).trans hx165_4
                  replace hx165_5 := (HB.out.cell (World.block_lt_of_cell? w _ hx165_5)).trans hx165_5
                  replace hx165_6 := (HB.out.cell (World.block_lt_of_cell? w _ hx165_6)).trans hx165_6
                  replace p165 := eq_true p165
                  replace q165 := eq_true q165
                  go_upto_region 6 with (first | ((with_reducible refine gate_dst (N := 4) rfl ?_); (try (refine gate_guard (by rfl) ?_; dsimp only)); refine box_event ?hg (N := 4) ?hd (cs := #[.int .i64 0, .int .i64 0, .int .i64 0, .int .i64 0, .int .i64 0, .int .i64 0, .bool false]) (t := 88) ?hr ?_; (case hd => rfl); (case hg => rfl); (case hr => first | (go_simp; done) | (go_simp; rfl)); intro gb166 hg w23 hbox hb; have n0_ := Aside0.mk (blk_below (g := gb161) (o := .cells #[.int .i64 a0_0, .int .i64 a0_1, .slice (some ad165) l0_2.length c0_2, .int .i64 a0_3, .int .i64 a0_4] 34 (0, 0)) (by (with_reducible repeat (first | refine blk_drewN ?_ _ | refine blk_drew ?_ | refine blk_alloc ?_ _)); exact BK161.out) hb); have n1_ := Aside0.mk (below_step (by repeat (first | (with_reducible first | exact HB.out | apply below_alloc | apply pw_below_drewN | apply below_drew1 | refine below_set ?_ GE161.out) | exact HB.out)) hb); have n2_ := Aside0.mk (hbox); have n3_ := Aside0.mk ((by rw [hg]; exact (below_size (by repeat (first | (with_reducible first | exact HB.out | apply below_alloc | apply pw_below_drewN | apply below_drew1 | refine below_set ?_ GE161.out) | exact HB.out))) : w.heap.size ≤ gb166)); have n4_ := Aside0.mk ((by rw [hg]; exact (below_size (by repeat (first | (with_reducible first | exact HB.out | apply below_alloc | apply pw_below_drewN | apply below_drew1 | refine below_set ?_ GE161.out) | exact HB.out))) : w.heap.size ≤ gb166)); have n5_ := Aside0.mk ((by rw [hg]; exact Nat.ne_of_lt (blk_lt (g := gb161) (o := .cells #[.int .i64 a0_0, .int .i64 a0_1, .slice (some ad165) l0_2.length c0_2, .int .i64 a0_3, .int .i64 a0_4] 34 (0, 0)) (by (with_reducible repeat (first | refine blk_drewN ?_ _ | refine blk_drew ?_ | refine blk_alloc ?_ _)); exact BK161.out)) : gb161 ≠ gb166)); have n6_ := Aside0.mk ((by rw [hg]; exact Nat.ne_of_gt (blk_lt (g := gb161) (o := .cells #[.int .i64 a0_0, .int .i64 a0_1, .slice (some ad165) l0_2.length c0_2, .int .i64 a0_3, .int .i64 a0_4] 34 (0, 0)) (by (with_reducible repeat (first | refine blk_drewN ?_ _ | refine blk_drew ?_ | refine blk_alloc ?_ _)); exact BK161.out)) : gb166 ≠ gb161)); clear BK161; clear HB; have BK161 := n0_; have HB := n1_; have BK166 := n2_; have GW166 := n3_; have GE166 := n4_; have NB161_166 := n5_; have NB166_161 := n6_; clear n0_ n1_ n2_ n3_ n4_ n5_ n6_; clear hb hbox hg; have hnb24 := NB166_161.out; have hnc24 := NB161_166.out; have hcz25_0 : w23.cell? ⟨gb166, 0, none⟩ = some (.int .i64 0) := (blk_cell BK166.out 0).trans rfl; have hcz25_1 : w23.cell? ⟨gb166, 1, none⟩ = some (.int .i64 0) := (blk_cell BK166.out 1).trans rfl; have hcz25_2 : w23.cell? ⟨gb166, 2, none⟩ = some (.int .i64 0) := (blk_cell BK166.out 2).trans rfl; have hcz25_3 : w23.cell? ⟨gb166, 3, none⟩ = some (.int .i64 0) := (blk_cell BK166.out 3).trans rfl; have hcz25_4 : w23.cell? ⟨gb166, 4, none⟩ = some (.int .i64 0) := (blk_cell BK166.out 4).trans rfl; have hcz25_5 : w23.cell? ⟨gb166, 5, none⟩ = some (.int .i64 0) := (blk_cell BK166.out 5).trans rfl; have hcz25_6 : w23.cell? ⟨gb166, 6, none⟩ = some (.bool false) := (blk_cell BK166.out 6).trans rfl; have hfz25_0 := blk_frozen BK166.out 0; have hfz25_1 := blk_frozen BK166.out 1; have hfz25_2 := blk_frozen BK166.out 2; have hfz25_3 := blk_frozen BK166.out 3; have hfz25_4 := blk_frozen BK166.out 4; have hfz25_5 := blk_frozen BK166.out 5; have hfz25_6 := blk_frozen BK166.out 6))
                  (try simp only [Act.put, List.setIfInBounds_toArray, List.set_cons_zero, List.set_cons_succ])
                  go_cut [68] (fun v68 wc => ∃ (kq : Nat) (x68_21 : Bool), v68 = .bool x68_21 ∧ Aside0 (impl_FlyPathOk.j2 kq x28_2 l0_2 (l0_2.length : Int) x28_2 x68_21 a0_0 a0_1 l0_2 a0_3 a0_4 ((rd_T88 l0_2 x28_2).f0) ((rd_T88 l0_2 x28_2).f1) ((rd_T88 l0_2 x28_2).f2) ((rd_T88 l0_2 x28_2).f3) ((rd_T88 l0_2 x28_2).f4) ((rd_T88 l0_2 x28_2).f5) ((rd_T88 l0_2 x28_2).f6) = some r) ∧ Aside0 (kq ≤ k2) ∧ Aside0 (wc.heap[gb161]? = some (.cells #[.int .i64 a0_0, .int .i64 a0_1, (.slice (some ad165) l0_2.length c0_2), .int .i64 a0_3, .int .i64 a0_4] 34 (0, 0))) ∧ Aside0 (wc.heap[gb166]? = some (.cells #[.int .i64 ((rd_T88 l0_2 x28_2).f0), .int .i64 ((rd_T88 l0_2 x28_2).f1), .int .i64 ((rd_T88 l0_2 x28_2).f2), .int .i64 ((rd_T88 l0_2 x28_2).f3), .int .i64 ((rd_T88 l0_2 x28_2).f4), .int .i64 ((rd_T88 l0_2 x28_2).f5), .bool ((rd_T88 l0_2 x28_2).f6)] 88 (0, 0))) ∧ Aside0 (Below w.heap.size w wc))
                  case first =>
                    have H := HC22.out
                    clear HC22
                    replace H := Option.bind_eq_some_iff.mp H
                    obtain ⟨t167, A260, H⟩ := H
                    replace H : (if t167 = true then ((impl_within.f ((rd_T88 l0_2 x28_2).f1) 0 15).bind fun t168 => (if t168 = true then (if 0 ≤ ((rd_T88 l0_2 x28_2).f2) then (if ((rd_T88 l0_2 x28_2).f2) ≤ ((rd_T88 l0_2 x28_2).f3) then (if (((rd_T88 l0_2 x28_2).f3) ≤ 6) then ((impl_window.f ((rd_T88 l0_2 x28_2).f4) ((rd_T88 l0_2 x28_2).f5)).bind fun t169 => (impl_FlyPathOk.j2 k2 x28_2 l0_2 (l0_2.length : Int) x28_2 (!t169) a0_0 a0_1 l0_2 a0_3 a0_4 ((rd_T88 l0_2 x28_2).f0) ((rd_T88 l0_2 x28_2).f1) ((rd_T88 l0_2 x28_2).f2) ((rd_T88 l0_2 x28_2).f3) ((rd_T88 l0_2 x28_2).f4) ((rd_T88 l0_2 x28_2).f5) ((rd_T88 l0_2 x28_2).f6))) else (impl_FlyPathOk.j2 k2 x28_2 l0_2 (l0_2.length : Int) x28_2 true a0_0 a0_1 l0_2 a0_3 a0_4 ((rd_T88 l0_2 x28_2).f0) ((rd_T88 l0_2 x28_2).f1) ((rd_T88 l0_2 x28_2).f2) ((rd_T88 l0_2 x28_2).f3) ((rd_T88 l0_2 x28_2).f4) ((rd_T88 l0_2 x28_2).f5) ((rd_T88 l0_2 x28_2).f6))) else (impl_FlyPathOk.j2 k2 x28_2 l0_2 (l0_2.length : Int) x28_2 true a0_0 a0_1 l0_2 a0_3 a0_4 ((rd_T88 l0_2 x28_2).f0) ((rd_T88 l0_2 x28_2).f1) ((rd_T88 l0_2 x28_2).f2) ((rd_T88 l0_2 x28_2).f3) ((rd_T88 l0_2 x28_2).f4) ((rd_T88 l0_2 x28_2).f5) ((rd_T88 l0_2 x28_2).f6))) else (impl_FlyPathOk.j2 k2 x28_2 l0_2 (l0_2.length : Int) x28_2 true a0_0 a0_1 l0_2 a0_3 a0_4 ((rd_T88 l0_2 x28_2).f0) ((rd_T88 l0_2 x28_2).f1) ((rd_T88 l0_2 x28_2).f2) ((rd_T88 l0_2 x28_2).f3) ((rd_T88 l0_2 x28_2).f4) ((rd_T88 l0_2 x28_2).f5) ((rd_T88 l0_2 x28_2).f6))) else (impl_FlyPathOk.j2 k2 x28_2 l0_2 (l0_2.length : Int) x28_2 true a0_0 a0_1 l0_2 a0_3 a0_4 ((rd_T88 l0_2 x28_2).f0) ((rd_T88 l0_2 x28_2).f1) ((rd_T88 l0_2 x28_2).f2) ((rd_T88 l0_2 x28_2).f3) ((rd_T88 l0_2 x28_2).f4) ((rd_T88 l0_2 x28_2).f5) ((rd_T88 l0_2 x28_2).f6)))) else (impl_FlyPathOk.j2 k2 x28_2 l0_2 (l0_2.length : Int) x28_2 true a0_0 a0_1 l0_2 a0_3 a0_4 ((rd_T88 l0_2 x28_2).f0) ((rd_T88 l0_2 x28_2).f1) ((rd_T88 l0_2 x28_2).f2) ((rd_T88 l0_2 x28_2).f3) ((rd_T88 l0_2 x28_2).f4) ((rd_T88 l0_2 x28_2).f5) ((rd_T88 l0_2 x28_2).f6))) = some r := H
                    have A26 := Aside0.mk A260
                    clear A260
                    by_cases c27 : t167 = true
                    · subst c27
                      have H1 : ((impl_within.f ((rd_T88 l0_2 x28_2).f1) 0 15).bind fun t168 => (if t168 = true then (if 0 ≤ ((rd_T88 l0_2 x28_2).f2) then (if ((rd_T88 l0_2 x28_2).f2) ≤ ((rd_T88 l0_2 x28_2).f3) then (if (((rd_T88 l0_2 x28_2).f3) ≤ 6) then ((impl_window.f ((rd_T88 l0_2 x28_2).f4) ((rd_T88 l0_2 x28_2).f5)).bind fun t169 => (impl_FlyPathOk.j2 k2 x28_2 l0_2 (l0_2.length : Int) x28_2 (!t169) a0_0 a0_1 l0_2 a0_3 a0_4 ((rd_T88 l0_2 x28_2).f0) ((rd_T88 l0_2 x28_2).f1) ((rd_T88 l0_2 x28_2).f2) ((rd_T88 l0_2 x28_2).f3) ((rd_T88 l0_2 x28_2).f4) ((rd_T88 l0_2 x28_2).f5) ((rd_T88 l0_2 x28_2).f6))) else (impl_FlyPathOk.j2 k2 x28_2 l0_2 (l0_2.length : Int) x28_2 true a0_0 a0_1 l0_2 a0_3 a0_4 ((rd_T88 l0_2 x28_2).f0) ((rd_T88 l0_2 x28_2).f1) ((rd_T88 l0_2 x28_2).f2) ((rd_T88 l0_2 x28_2).f3) ((rd_T88 l0_2 x28_2).f4) ((rd_T88 l0_2 x28_2).f5) ((rd_T88 l0_2 x28_2).f6))) else (impl_FlyPathOk.j2 k2 x28_2 l0_2 (l0_2.length : Int) x28_2 true a0_0 a0_1 l0_2 a0_3 a0_4 ((rd_T88 l0_2 x28_2).f0) ((rd_T88 l0_2 x28_2).f1) ((rd_T88 l0_2 x28_2).f2) ((rd_T88 l0_2 x28_2).f3) ((rd_T88 l0_2 x28_2).f4) ((rd_T88 l0_2 x28_2).f5) ((rd_T88 l0_2 x28_2).f6))) else (impl_FlyPathOk.j2 k2 x28_2 l0_2 (l0_2.length : Int) x28_2 true a0_0 a0_1 l0_2 a0_3 a0_4 ((rd_T88 l0_2 x28_2).f0) ((rd_T88 l0_2 x28_2).f1) ((rd_T88 l0_2 x28_2).f2) ((rd_T88 l0_2 x28_2).f3) ((rd_T88 l0_2 x28_2).f4) ((rd_T88 l0_2 x28_2).f5) ((rd_T88 l0_2 x28_2).f6))) else (impl_FlyPathOk.j2 k2 x28_2 l0_2 (l0_2.length : Int) x28_2 true a0_0 a0_1 l0_2 a0_3 a0_4 ((rd_T88 l0_2 x28_2).f0) ((rd_T88 l0_2 x28_2).f1) ((rd_T88 l0_2 x28_2).f2) ((rd_T88 l0_2 x28_2).f3) ((rd_T88 l0_2 x28_2).f4) ((rd_T88 l0_2 x28_2).f5) ((rd_T88 l0_2 x28_2).f6)))) = some r := by rw [if_pos rfl] at H; exact H
                      clear H
                      have H := H1
                      clear H1
                      replace H := Option.bind_eq_some_iff.mp H
                      obtain ⟨t168, A280, H⟩ := H
                      replace H : (if t168 = true then (if 0 ≤ ((rd_T88 l0_2 x28_2).f2) then (if ((rd_T88 l0_2 x28_2).f2) ≤ ((rd_T88 l0_2 x28_2).f3) then (if (((rd_T88 l0_2 x28_2).f3) ≤ 6) then ((impl_window.f ((rd_T88 l0_2 x28_2).f4) ((rd_T88 l0_2 x28_2).f5)).bind fun t169 => (impl_FlyPathOk.j2 k2 x28_2 l0_2 (l0_2.length : Int) x28_2 (!t169) a0_0 a0_1 l0_2 a0_3 a0_4 ((rd_T88 l0_2 x28_2).f0) ((rd_T88 l0_2 x28_2).f1) ((rd_T88 l0_2 x28_2).f2) ((rd_T88 l0_2 x28_2).f3) ((rd_T88 l0_2 x28_2).f4) ((rd_T88 l0_2 x28_2).f5) ((rd_T88 l0_2 x28_2).f6))) else (impl_FlyPathOk.j2 k2 x28_2 l0_2 (l0_2.length : Int) x28_2 true a0_0 a0_1 l0_2 a0_3 a0_4 ((rd_T88 l0_2 x28_2).f0) ((rd_T88 l0_2 x28_2).f1) ((rd_T88 l0_2 x28_2).f2) ((rd_T88 l0_2 x28_2).f3) ((rd_T88 l0_2 x28_2).f4) ((rd_T88 l0_2 x28_2).f5) ((rd_T88 l0_2 x28_2).f6))) else (impl_FlyPathOk.j2 k2 x28_2 l0_2 (l0_2.length : Int) x28_2 true a0_0 a0_1 l0_2 a0_3 a0_4 ((rd_T88 l0_2 x28_2).f0) ((rd_T88 l0_2 x28_2).f1) ((rd_T88 l0_2 x28_2).f2) ((rd_T88 l0_2 x28_2).f3) ((rd_T88 l0_2 x28_2).f4) ((rd_T88 l0_2 x28_2).f5) ((rd_T88 l0_2 x28_2).f6))) else (impl_FlyPathOk.j2 k2 x28_2 l0_2 (l0_2.length : Int) x28_2 true a0_0 a0_1 l0_2 a0_3 a0_4 ((rd_T88 l0_2 x28_2).f0) ((rd_T88 l0_2 x28_2).f1) ((rd_T88 l0_2 x28_2).f2) ((rd_T88 l0_2 x28_2).f3) ((rd_T88 l0_2 x28_2).f4) ((rd_T88 l0_2 x28_2).f5) ((rd_T88 l0_2 x28_2).f6))) else (impl_FlyPathOk.j2 k2 x28_2 l0_2 (l0_2.length : Int) x28_2 true a0_0 a0_1 l0_2 a0_3 a0_4 ((rd_T88 l0_2 x28_2).f0) ((rd_T88 l0_2 x28_2).f1) ((rd_T88 l0_2 x28_2).f2) ((rd_T88 l0_2 x28_2).f3) ((rd_T88 l0_2 x28_2).f4) ((rd_T88 l0_2 x28_2).f5) ((rd_T88 l0_2 x28_2).f6))) = some r := H
                      have A28 := Aside0.mk A280
                      clear A280
                      by_cases c29 : t168 = true
                      · subst c29
                        have H1 : (if 0 ≤ ((rd_T88 l0_2 x28_2).f2) then (if ((rd_T88 l0_2 x28_2).f2) ≤ ((rd_T88 l0_2 x28_2).f3) then (if (((rd_T88 l0_2 x28_2).f3) ≤ 6) then ((impl_window.f ((rd_T88 l0_2 x28_2).f4) ((rd_T88 l0_2 x28_2).f5)).bind fun t169 => (impl_FlyPathOk.j2 k2 x28_2 l0_2 (l0_2.length : Int) x28_2 (!t169) a0_0 a0_1 l0_2 a0_3 a0_4 ((rd_T88 l0_2 x28_2).f0) ((rd_T88 l0_2 x28_2).f1) ((rd_T88 l0_2 x28_2).f2) ((rd_T88 l0_2 x28_2).f3) ((rd_T88 l0_2 x28_2).f4) ((rd_T88 l0_2 x28_2).f5) ((rd_T88 l0_2 x28_2).f6))) else (impl_FlyPathOk.j2 k2 x28_2 l0_2 (l0_2.length : Int) x28_2 true a0_0 a0_1 l0_2 a0_3 a0_4 ((rd_T88 l0_2 x28_2).f0) ((rd_T88 l0_2 x28_2).f1) ((rd_T88 l0_2 x28_2).f2) ((rd_T88 l0_2 x28_2).f3) ((rd_T88 l0_2 x28_2).f4) ((rd_T88 l0_2 x28_2).f5) ((rd_T88 l0_2 x28_2).f6))) else (impl_FlyPathOk.j2 k2 x28_2 l0_2 (l0_2.length : Int) x28_2 true a0_0 a0_1 l0_2 a0_3 a0_4 ((rd_T88 l0_2 x28_2).f0) ((rd_T88 l0_2 x28_2).f1) ((rd_T88 l0_2 x28_2).f2) ((rd_T88 l0_2 x28_2).f3) ((rd_T88 l0_2 x28_2).f4) ((rd_T88 l0_2 x28_2).f5) ((rd_T88 l0_2 x28_2).f6))) else (impl_FlyPathOk.j2 k2 x28_2 l0_2 (l0_2.length : Int) x28_2 true a0_0 a0_1 l0_2 a0_3 a0_4 ((rd_T88 l0_2 x28_2).f0) ((rd_T88 l0_2 x28_2).f1) ((rd_T88 l0_2 x28_2).f2) ((rd_T88 l0_2 x28_2).f3) ((rd_T88 l0_2 x28_2).f4) ((rd_T88 l0_2 x28_2).f5) ((rd_T88 l0_2 x28_2).f6))) = some r := by rw [if_pos rfl] at H; exact H
                        clear H
                        have H := H1
                        clear H1
                        by_cases c30 : 0 ≤ ((rd_T88 l0_2 x28_2).f2)
                        · rw [if_pos c30] at H
                          have c30b0 : decide (0 ≤ ((rd_T88 l0_2 x28_2).f2)) = true := decide_eq_true c30
                          clear c30
                          (first | rw [c30b0] | (simp only [i64_w, i32_w]; rw [c30b0]) | skip)
                          by_cases c31 : ((rd_T88 l0_2 x28_2).f2) ≤ ((rd_T88 l0_2 x28_2).f3)
                          · rw [if_pos c31] at H
                            have c31b0 : decide (((rd_T88 l0_2 x28_2).f2) ≤ ((rd_T88 l0_2 x28_2).f3)) = true := decide_eq_true c31
                            clear c31
                            by_cases c32 : (((rd_T88 l0_2 x28_2).f3) ≤ 6)
                            · rw [if_pos c32] at H
                              have c32b0 : decide (((rd_T88 l0_2 x28_2).f3) ≤ 6) = true := decide_eq_true c32
                              clear c32
                              replace H := Option.bind_eq_some_iff.mp H
                              obtain ⟨t169, A330, H⟩ := H
                              replace H : (impl_FlyPathOk.j2 k2 x28_2 l0_2 (l0_2.length : Int) x28_2 (!t169) a0_0 a0_1 l0_2 a0_3 a0_4 ((rd_T88 l0_2 x28_2).f0) ((rd_T88 l0_2 x28_2).f1) ((rd_T88 l0_2 x28_2).f2) ((rd_T88 l0_2 x28_2).f3) ((rd_T88 l0_2 x28_2).f4) ((rd_T88 l0_2 x28_2).f5) ((rd_T88 l0_2 x28_2).f6)) = some r := H
                              have A33 := Aside0.mk A330
                              clear A330
                              have H' := Aside0.mk H
                              clear H
                              have hnb34 := NB166_161.out
                              have hnc34 := NB161_166.out
                              have hcz35_0 : w23.cell? ⟨gb166, 0, none⟩ = some (.int .i64 0) := (blk_cell BK166.out 0).trans rfl
                              have hcz35_1 : w23.cell? ⟨gb166, 1, none⟩ = some (.int .i64 0) := (blk_cell BK166.out 1).trans rfl
                              have hcz35_2 : w23.cell? ⟨gb166, 2, none⟩ = some (.int .i64 0) := (blk_cell BK166.out 2).trans rfl
                              have hcz35_3 : w23.cell? ⟨gb166, 3, none⟩ = some (.int .i64 0) := (blk_cell BK166.out 3).trans rfl
                              have hcz35_4 : w23.cell? ⟨gb166, 4, none⟩ = some (.int .i64 0) := (blk_cell BK166.out 4).trans rfl
                              have hcz35_5 : w23.cell? ⟨gb166, 5, none⟩ = some (.int .i64 0) := (blk_cell BK166.out 5).trans rfl
                              have hcz35_6 : w23.cell? ⟨gb166, 6, none⟩ = some (.bool false) := (blk_cell BK166.out 6).trans rfl
                              have hfz35_0 := blk_frozen BK166.out 0
                              have hfz35_1 := blk_frozen BK166.out 1
                              have hfz35_2 := blk_frozen BK166.out 2
                              have hfz35_3 := blk_frozen BK166.out 3
                              have hfz35_4 := blk_frozen BK166.out 4
                              have hfz35_5 := blk_frozen BK166.out 5
                              have hfz35_6 := blk_frozen BK166.out 6
                              go_wp2_with (first | ((with_reducible refine gate_callee (f := 68) rfl ?_); refine goesL_ (some 35) rfl rfl Try.func68 (by kernel_rfl) rfl #[.int .i64 ((rd_T88 l0_2 x28_2).f0), .int .i64 0, .int .i64 15] rfl (by (try simp only [List.map_toArray, List.map_cons, List.map_nil]); first | done | rfl | (simp only [List.length_drop, List.length_take]; rfl)) ?_; (with_reducible refine (impl_within.calls ((rd_T88 l0_2 x28_2).f0) 0 15 true _ A26.out).mono ?_); rintro e w' ⟨rfl, ⟨nd, rfl⟩⟩; refine ⟨_, rfl, ?_⟩) | (go_at_call 68; (with_reducible refine (impl_within.calls ((rd_T88 l0_2 x28_2).f1) 0 15 true _ A28.out).mono ?_); rintro e w' ⟨rfl, ⟨nd, rfl⟩⟩) | (go_at_call 78; (with_reducible refine (impl_window.calls ((rd_T88 l0_2 x28_2).f4) ((rd_T88 l0_2 x28_2).f5) t169 _ A33.out).mono ?_); rintro e w' ⟨rfl, ⟨nd, rfl⟩⟩))
                              go_meet
                              case rel => exact ⟨_, (!t169), (by first | rfl | (simp; done) | (simp [*]; done)), H', ⟨by have := HJ1.out; have := HK2.out; first | omega | exact Nat.le_refl _⟩, ⟨by (with_reducible repeat (first | refine blk_drewN ?_ _ | refine blk_drew ?_ | refine blk_alloc ?_ _)); refine blk_far ?_ NB161_166.out _; (with_reducible repeat (first | refine blk_drewN ?_ _ | refine blk_drew ?_ | refine blk_alloc ?_ _)); refine blk_far ?_ NB161_166.out _; (with_reducible repeat (first | refine blk_drewN ?_ _ | refine blk_drew ?_ | refine blk_alloc ?_ _)); refine blk_far ?_ NB161_166.out _; (with_reducible repeat (first | refine blk_drewN ?_ _ | refine blk_drew ?_ | refine blk_alloc ?_ _)); refine blk_far ?_ NB161_166.out _; (with_reducible repeat (first | refine blk_drewN ?_ _ | refine blk_drew ?_ | refine blk_alloc ?_ _)); refine blk_far ?_ NB161_166.out _; (with_reducible repeat (first | refine blk_drewN ?_ _ | refine blk_drew ?_ | refine blk_alloc ?_ _)); refine blk_far ?_ NB161_166.out _; (with_reducible repeat (first | refine blk_drewN ?_ _ | refine blk_drew ?_ | refine blk_alloc ?_ _)); refine blk_far ?_ NB161_166.out _; (with_reducible repeat (first | refine blk_drewN ?_ _ | refine blk_drew ?_ | refine blk_alloc ?_ _)); exact BK161.out⟩, ⟨by (with_reducible repeat (first | refine blk_drewN ?_ _ | refine blk_drew ?_ | refine blk_alloc ?_ _)); refine blk_put (cs := #[.int .i64 ((rd_T88 l0_2 x28_2).f0), .int .i64 ((rd_T88 l0_2 x28_2).f1), .int .i64 ((rd_T88 l0_2 x28_2).f2), .int .i64 ((rd_T88 l0_2 x28_2).f3), .int .i64 ((rd_T88 l0_2 x28_2).f4), .int .i64 ((rd_T88 l0_2 x28_2).f5), .bool false]) ?_ 6 _ rfl; (with_reducible repeat (first | refine blk_drewN ?_ _ | refine blk_drew ?_ | refine blk_alloc ?_ _)); refine blk_put (cs := #[.int .i64 ((rd_T88 l0_2 x28_2).f0), .int .i64 ((rd_T88 l0_2 x28_2).f1), .int .i64 ((rd_T88 l0_2 x28_2).f2), .int .i64 ((rd_T88 l0_2 x28_2).f3), .int .i64 ((rd_T88 l0_2 x28_2).f4), .int .i64 0, .bool false]) ?_ 5 _ rfl; (with_reducible repeat (first | refine blk_drewN ?_ _ | refine blk_drew ?_ | refine blk_alloc ?_ _)); refine blk_put (cs := #[.int .i64 ((rd_T88 l0_2 x28_2).f0), .int .i64 ((rd_T88 l0_2 x28_2).f1), .int .i64 ((rd_T88 l0_2 x28_2).f2), .int .i64 ((rd_T88 l0_2 x28_2).f3), .int .i64 0, .int .i64 0, .bool false]) ?_ 4 _ rfl; (with_reducible repeat (first | refine blk_drewN ?_ _ | refine blk_drew ?_ | refine blk_alloc ?_ _)); refine blk_put (cs := #[.int .i64 ((rd_T88 l0_2 x28_2).f0), .int .i64 ((rd_T88 l0_2 x28_2).f1), .int .i64 ((rd_T88 l0_2 x28_2).f2), .int .i64 0, .int .i64 0, .int .i64 0, .bool false]) ?_ 3 _ rfl; (with_reducible repeat (first | refine blk_drewN ?_ _ | refine blk_drew ?_ | refine blk_alloc ?_ _)); refine blk_put (cs := #[.int .i64 ((rd_T88 l0_2 x28_2).f0), .int .i64 ((rd_T88 l0_2 x28_2).f1), .int .i64 0, .int .i64 0, .int .i64 0, .int .i64 0, .bool false]) ?_ 2 _ rfl; (with_reducible repeat (first | refine blk_drewN ?_ _ | refine blk_drew ?_ | refine blk_alloc ?_ _)); refine blk_put (cs := #[.int .i64 ((rd_T88 l0_2 x28_2).f0), .int .i64 0, .int .i64 0, .int .i64 0, .int .i64 0, .int .i64 0, .bool false]) ?_ 1 _ rfl; (with_reducible repeat (first | refine blk_drewN ?_ _ | refine blk_drew ?_ | refine blk_alloc ?_ _)); refine blk_put (cs := #[.int .i64 0, .int .i64 0, .int .i64 0, .int .i64 0, .int .i64 0, .int .i64 0, .bool false]) ?_ 0 _ rfl; (with_reducible repeat (first | refine blk_drewN ?_ _ | refine blk_drew ?_ | refine blk_alloc ?_ _)); exact BK166.out⟩, ⟨by repeat (first | (with_reducible first | exact HB.out | apply below_alloc | apply pw_below_drewN | apply below_drew1 | refine below_set ?_ GE161.out | refine below_set ?_ GE166.out) | exact HB.out)⟩⟩
                            · rw [if_neg c32] at H
                              have c32b0 : decide (((rd_T88 l0_2 x28_2).f3) ≤ 6) = false := decide_eq_false c32
                              clear c32
                              have H' := Aside0.mk H
                              clear H
                              have hnb36 := NB166_161.out
                              have hnc36 := NB161_166.out
                              have hcz37_0 : w23.cell? ⟨gb166, 0, none⟩ = some (.int .i64 0) := (blk_cell BK166.out 0).trans rfl
                              have hcz37_1 : w23.cell? ⟨gb166, 1, none⟩ = some (.int .i64 0) := (blk_cell BK166.out 1).trans rfl
                              have hcz37_2 : w23.cell? ⟨gb166, 2, none⟩ = some (.int .i64 0) := (blk_cell BK166.out 2).trans rfl
                              have hcz37_3 : w23.cell? ⟨gb166, 3, none⟩ = some (.int .i64 0) := (blk_cell BK166.out 3).trans rfl
                              have hcz37_4 : w23.cell? ⟨gb166, 4, none⟩ = some (.int .i64 0) := (blk_cell BK166.out 4).trans rfl
                              have hcz37_5 : w23.cell? ⟨gb166, 5, none⟩ = some (.int .i64 0) := (blk_cell BK166.out 5).trans rfl
                              have hcz37_6 : w23.cell? ⟨gb166, 6, none⟩ = some (.bool false) := (blk_cell BK166.out 6).trans rfl
                              have hfz37_0 := blk_frozen BK166.out 0
                              have hfz37_1 := blk_frozen BK166.out 1
                              have hfz37_2 := blk_frozen BK166.out 2
                              have hfz37_3 := blk_frozen BK166.out 3
                              have hfz37_4 := blk_frozen BK166.out 4
                              have hfz37_5 := blk_frozen BK166.out 5
                              have hfz37_6 := blk_frozen BK166.out 6
                              go_wp2_with (first | ((with_reducible refine gate_callee (f := 68) rfl ?_); refine goesL_ (some 35) rfl rfl Try.func68 (by kernel_rfl) rfl #[.int .i64 ((rd_T88 l0_2 x28_2).f0), .int .i64 0, .int .i64 15] rfl (by (try simp only [List.map_toArray, List.map_cons, List.map_nil]); first | done | rfl | (simp only [List.length_drop, List.length_take]; rfl)) ?_; (with_reducible refine (impl_within.calls ((rd_T88 l0_2 x28_2).f0) 0 15 true _ A26.out).mono ?_); rintro e w' ⟨rfl, ⟨nd, rfl⟩⟩; refine ⟨_, rfl, ?_⟩) | (go_at_call 68; (with_reducible refine (impl_within.calls ((rd_T88 l0_2 x28_2).f1) 0 15 true _ A28.out).mono ?_); rintro e w' ⟨rfl, ⟨nd, rfl⟩⟩))
                              go_meet
                              case rel => exact ⟨_, (true), (by first | rfl | (simp; done) | (simp [*]; done)), H', ⟨by have := HJ1.out; have := HK2.out; first | omega | exact Nat.le_refl _⟩, ⟨by (with_reducible repeat (first | refine blk_drewN ?_ _ | refine blk_drew ?_ | refine blk_alloc ?_ _)); refine blk_far ?_ NB161_166.out _; (with_reducible repeat (first | refine blk_drewN ?_ _ | refine blk_drew ?_ | refine blk_alloc ?_ _)); refine blk_far ?_ NB161_166.out _; (with_reducible repeat (first | refine blk_drewN ?_ _ | refine blk_drew ?_ | refine blk_alloc ?_ _)); refine blk_far ?_ NB161_166.out _; (with_reducible repeat (first | refine blk_drewN ?_ _ | refine blk_drew ?_ | refine blk_alloc ?_ _)); refine blk_far ?_ NB161_166.out _; (with_reducible repeat (first | refine blk_drewN ?_ _ | refine blk_drew ?_ | refine blk_alloc ?_ _)); refine blk_far ?_ NB161_166.out _; (with_reducible repeat (first | refine blk_drewN ?_ _ | refine blk_drew ?_ | refine blk_alloc ?_ _)); refine blk_far ?_ NB161_166.out _; (with_reducible repeat (first | refine blk_drewN ?_ _ | refine blk_drew ?_ | refine blk_alloc ?_ _)); refine blk_far ?_ NB161_166.out _; (with_reducible repeat (first | refine blk_drewN ?_ _ | refine blk_drew ?_ | refine blk_alloc ?_ _)); exact BK161.out⟩, ⟨by (with_reducible repeat (first | refine blk_drewN ?_ _ | refine blk_drew ?_ | refine blk_alloc ?_ _)); refine blk_put (cs := #[.int .i64 ((rd_T88 l0_2 x28_2).f0), .int .i64 ((rd_T88 l0_2 x28_2).f1), .int .i64 ((rd_T88 l0_2 x28_2).f2), .int .i64 ((rd_T88 l0_2 x28_2).f3), .int .i64 ((rd_T88 l0_2 x28_2).f4), .int .i64 ((rd_T88 l0_2 x28_2).f5), .bool false]) ?_ 6 _ rfl; (with_reducible repeat (first | refine blk_drewN ?_ _ | refine blk_drew ?_ | refine blk_alloc ?_ _)); refine blk_put (cs := #[.int .i64 ((rd_T88 l0_2 x28_2).f0), .int .i64 ((rd_T88 l0_2 x28_2).f1), .int .i64 ((rd_T88 l0_2 x28_2).f2), .int .i64 ((rd_T88 l0_2 x28_2).f3), .int .i64 ((rd_T88 l0_2 x28_2).f4), .int .i64 0, .bool false]) ?_ 5 _ rfl; (with_reducible repeat (first | refine blk_drewN ?_ _ | refine blk_drew ?_ | refine blk_alloc ?_ _)); refine blk_put (cs := #[.int .i64 ((rd_T88 l0_2 x28_2).f0), .int .i64 ((rd_T88 l0_2 x28_2).f1), .int .i64 ((rd_T88 l0_2 x28_2).f2), .int .i64 ((rd_T88 l0_2 x28_2).f3), .int .i64 0, .int .i64 0, .bool false]) ?_ 4 _ rfl; (with_reducible repeat (first | refine blk_drewN ?_ _ | refine blk_drew ?_ | refine blk_alloc ?_ _)); refine blk_put (cs := #[.int .i64 ((rd_T88 l0_2 x28_2).f0), .int .i64 ((rd_T88 l0_2 x28_2).f1), .int .i64 ((rd_T88 l0_2 x28_2).f2), .int .i64 0, .int .i64 0, .int .i64 0, .bool false]) ?_ 3 _ rfl; (with_reducible repeat (first | refine blk_drewN ?_ _ | refine blk_drew ?_ | refine blk_alloc ?_ _)); refine blk_put (cs := #[.int .i64 ((rd_T88 l0_2 x28_2).f0), .int .i64 ((rd_T88 l0_2 x28_2).f1), .int .i64 0, .int .i64 0, .int .i64 0, .int .i64 0, .bool false]) ?_ 2 _ rfl; (with_reducible repeat (first | refine blk_drewN ?_ _ | refine blk_drew ?_ | refine blk_alloc ?_ _)); refine blk_put (cs := #[.int .i64 ((rd_T88 l0_2 x28_2).f0), .int .i64 0, .int .i64 0, .int .i64 0, .int .i64 0, .int .i64 0, .bool false]) ?_ 1 _ rfl; (with_reducible repeat (first | refine blk_drewN ?_ _ | refine blk_drew ?_ | refine blk_alloc ?_ _)); refine blk_put (cs := #[.int .i64 0, .int .i64 0, .int .i64 0, .int .i64 0, .int .i64 0, .int .i64 0, .bool false]) ?_ 0 _ rfl; (with_reducible repeat (first | refine blk_drewN ?_ _ | refine blk_drew ?_ | refine blk_alloc ?_ _)); exact BK166.out⟩, ⟨by repeat (first | (with_reducible first | exact HB.out | apply below_alloc | apply pw_below_drewN | apply below_drew1 | refine below_set ?_ GE161.out | refine below_set ?_ GE166.out) | exact HB.out)⟩⟩
                          · rw [if_neg c31] at H
                            have c31b0 : decide (((rd_T88 l0_2 x28_2).f2) ≤ ((rd_T88 l0_2 x28_2).f3)) = false := decide_eq_false c31
                            clear c31
                            have H' := Aside0.mk H
                            clear H
                            have hnb38 := NB166_161.out
                            have hnc38 := NB161_166.out
                            have hcz39_0 : w23.cell? ⟨gb166, 0, none⟩ = some (.int .i64 0) := (blk_cell BK166.out 0).trans rfl
                            have hcz39_1 : w23.cell? ⟨gb166, 1, none⟩ = some (.int .i64 0) := (blk_cell BK166.out 1).trans rfl
                            have hcz39_2 : w23.cell? ⟨gb166, 2, none⟩ = some (.int .i64 0) := (blk_cell BK166.out 2).trans rfl
                            have hcz39_3 : w23.cell? ⟨gb166, 3, none⟩ = some (.int .i64 0) := (blk_cell BK166.out 3).trans rfl
                            have hcz39_4 : w23.cell? ⟨gb166, 4, none⟩ = some (.int .i64 0) := (blk_cell BK166.out 4).trans rfl
                            have hcz39_5 : w23.cell? ⟨gb166, 5, none⟩ = some (.int .i64 0) := (blk_cell BK166.out 5).trans rfl
                            have hcz39_6 : w23.cell? ⟨gb166, 6, none⟩ = some (.bool false) := (blk_cell BK166.out 6).trans rfl
                            have hfz39_0 := blk_frozen BK166.out 0
                            have hfz39_1 := blk_frozen BK166.out 1
                            have hfz39_2 := blk_frozen BK166.out 2
                            have hfz39_3 := blk_frozen BK166.out 3
                            have hfz39_4 := blk_frozen BK166.out 4
                            have hfz39_5 := blk_frozen BK166.out 5
                            have hfz39_6 := blk_frozen BK166.out 6
                            go_wp2_with (first | ((with_reducible refine gate_callee (f := 68) rfl ?_); refine goesL_ (some 35) rfl rfl Try.func68 (by kernel_rfl) rfl #[.int .i64 ((rd_T88 l0_2 x28_2).f0), .int .i64 0, .int .i64 15] rfl (by (try simp only [List.map_toArray, List.map_cons, List.map_nil]); first | done | rfl | (simp only [List.length_drop, List.length_take]; rfl)) ?_; (with_reducible refine (impl_within.calls ((rd_T88 l0_2 x28_2).f0) 0 15 true _ A26.out).mono ?_); rintro e w' ⟨rfl, ⟨nd, rfl⟩⟩; refine ⟨_, rfl, ?_⟩) | (go_at_call 68; (with_reducible refine (impl_within.calls ((rd_T88 l0_2 x28_2).f1) 0 15 true _ A28.out).mono ?_); rintro e w' ⟨rfl, ⟨nd, rfl⟩⟩))
                            go_meet
                            case rel => exact ⟨_, (true), (by first | rfl | (simp; done) | (simp [*]; done)), H', ⟨by have := HJ1.out; have := HK2.out; first | omega | exact Nat.le_refl _⟩, ⟨by (with_reducible repeat (first | refine blk_drewN ?_ _ | refine blk_drew ?_ | refine blk_alloc ?_ _)); refine blk_far ?_ NB161_166.out _; (with_reducible repeat (first | refine blk_drewN ?_ _ | refine blk_drew ?_ | refine blk_alloc ?_ _)); refine blk_far ?_ NB161_166.out _; (with_reducible repeat (first | refine blk_drewN ?_ _ | refine blk_drew ?_ | refine blk_alloc ?_ _)); refine blk_far ?_ NB161_166.out _; (with_reducible repeat (first | refine blk_drewN ?_ _ | refine blk_drew ?_ | refine blk_alloc ?_ _)); refine blk_far ?_ NB161_166.out _; (with_reducible repeat (first | refine blk_drewN ?_ _ | refine blk_drew ?_ | refine blk_alloc ?_ _)); refine blk_far ?_ NB161_166.out _; (with_reducible repeat (first | refine blk_drewN ?_ _ | refine blk_drew ?_ | refine blk_alloc ?_ _)); refine blk_far ?_ NB161_166.out _; (with_reducible repeat (first | refine blk_drewN ?_ _ | refine blk_drew ?_ | refine blk_alloc ?_ _)); refine blk_far ?_ NB161_166.out _; (with_reducible repeat (first | refine blk_drewN ?_ _ | refine blk_drew ?_ | refine blk_alloc ?_ _)); exact BK161.out⟩, ⟨by (with_reducible repeat (first | refine blk_drewN ?_ _ | refine blk_drew ?_ | refine blk_alloc ?_ _)); refine blk_put (cs := #[.int .i64 ((rd_T88 l0_2 x28_2).f0), .int .i64 ((rd_T88 l0_2 x28_2).f1), .int .i64 ((rd_T88 l0_2 x28_2).f2), .int .i64 ((rd_T88 l0_2 x28_2).f3), .int .i64 ((rd_T88 l0_2 x28_2).f4), .int .i64 ((rd_T88 l0_2 x28_2).f5), .bool false]) ?_ 6 _ rfl; (with_reducible repeat (first | refine blk_drewN ?_ _ | refine blk_drew ?_ | refine blk_alloc ?_ _)); refine blk_put (cs := #[.int .i64 ((rd_T88 l0_2 x28_2).f0), .int .i64 ((rd_T88 l0_2 x28_2).f1), .int .i64 ((rd_T88 l0_2 x28_2).f2), .int .i64 ((rd_T88 l0_2 x28_2).f3), .int .i64 ((rd_T88 l0_2 x28_2).f4), .int .i64 0, .bool false]) ?_ 5 _ rfl; (with_reducible repeat (first | refine blk_drewN ?_ _ | refine blk_drew ?_ | refine blk_alloc ?_ _)); refine blk_put (cs := #[.int .i64 ((rd_T88 l0_2 x28_2).f0), .int .i64 ((rd_T88 l0_2 x28_2).f1), .int .i64 ((rd_T88 l0_2 x28_2).f2), .int .i64 ((rd_T88 l0_2 x28_2).f3), .int .i64 0, .int .i64 0, .bool false]) ?_ 4 _ rfl; (with_reducible repeat (first | refine blk_drewN ?_ _ | refine blk_drew ?_ | refine blk_alloc ?_ _)); refine blk_put (cs := #[.int .i64 ((rd_T88 l0_2 x28_2).f0), .int .i64 ((rd_T88 l0_2 x28_2).f1), .int .i64 ((rd_T88 l0_2 x28_2).f2), .int .i64 0, .int .i64 0, .int .i64 0, .bool false]) ?_ 3 _ rfl; (with_reducible repeat (first | refine blk_drewN ?_ _ | refine blk_drew ?_ | refine blk_alloc ?_ _)); refine blk_put (cs := #[.int .i64 ((rd_T88 l0_2 x28_2).f0), .int .i64 ((rd_T88 l0_2 x28_2).f1), .int .i64 0, .int .i64 0, .int .i64 0, .int .i64 0, .bool false]) ?_ 2 _ rfl; (with_reducible repeat (first | refine blk_drewN ?_ _ | refine blk_drew ?_ | refine blk_alloc ?_ _)); refine blk_put (cs := #[.int .i64 ((rd_T88 l0_2 x28_2).f0), .int .i64 0, .int .i64 0, .int .i64 0, .int .i64 0, .int .i64 0, .bool false]) ?_ 1 _ rfl; (with_reducible repeat (first | refine blk_drewN ?_ _ | refine blk_drew ?_ | refine blk_alloc ?_ _)); refine blk_put (cs := #[.int .i64 0, .int .i64 0, .int .i64 0, .int .i64 0, .int .i64 0, .int .i64 0, .bool false]) ?_ 0 _ rfl; (with_reducible repeat (first | refine blk_drewN ?_ _ | refine blk_drew ?_ | refine blk_alloc ?_ _)); exact BK166.out⟩, ⟨by repeat (first | (with_reducible first | exact HB.out | apply below_alloc | apply pw_below_drewN | apply below_drew1 | refine below_set ?_ GE161.out | refine below_set ?_ GE166.out) | exact HB.out)⟩⟩
                        · rw [if_neg c30] at H
                          have c30b0 : decide (0 ≤ ((rd_T88 l0_2 x28_2).f2)) = false := decide_eq_false c30
                          clear c30
                          (first | rw [c30b0] | (simp only [i64_w, i32_w]; rw [c30b0]) | skip)
                          have H' := Aside0.mk H
                          clear H
                          have hnb40 := NB166_161.out
                          have hnc40 := NB161_166.out
                          have hcz41_0 : w23.cell? ⟨gb166, 0, none⟩ = some (.int .i64 0) := (blk_cell BK166.out 0).trans rfl
                          have hcz41_1 : w23.cell? ⟨gb166, 1, none⟩ = some (.int .i64 0) := (blk_cell BK166.out 1).trans rfl
                          have hcz41_2 : w23.cell? ⟨gb166, 2, none⟩ = some (.int .i64 0) := (blk_cell BK166.out 2).trans rfl
                          have hcz41_3 : w23.cell? ⟨gb166, 3, none⟩ = some (.int .i64 0) := (blk_cell BK166.out 3).trans rfl
                          have hcz41_4 : w23.cell? ⟨gb166, 4, none⟩ = some (.int .i64 0) := (blk_cell BK166.out 4).trans rfl
                          have hcz41_5 : w23.cell? ⟨gb166, 5, none⟩ = some (.int .i64 0) := (blk_cell BK166.out 5).trans rfl
                          have hcz41_6 : w23.cell? ⟨gb166, 6, none⟩ = some (.bool false) := (blk_cell BK166.out 6).trans rfl
                          have hfz41_0 := blk_frozen BK166.out 0
                          have hfz41_1 := blk_frozen BK166.out 1
                          have hfz41_2 := blk_frozen BK166.out 2
                          have hfz41_3 := blk_frozen BK166.out 3
                          have hfz41_4 := blk_frozen BK166.out 4
                          have hfz41_5 := blk_frozen BK166.out 5
                          have hfz41_6 := blk_frozen BK166.out 6
                          go_wp2_with (first | ((with_reducible refine gate_callee (f := 68) rfl ?_); refine goesL_ (some 35) rfl rfl Try.func68 (by kernel_rfl) rfl #[.int .i64 ((rd_T88 l0_2 x28_2).f0), .int .i64 0, .int .i64 15] rfl (by (try simp only [List.map_toArray, List.map_cons, List.map_nil]); first | done | rfl | (simp only [List.length_drop, List.length_take]; rfl)) ?_; (with_reducible refine (impl_within.calls ((rd_T88 l0_2 x28_2).f0) 0 15 true _ A26.out).mono ?_); rintro e w' ⟨rfl, ⟨nd, rfl⟩⟩; refine ⟨_, rfl, ?_⟩) | (go_at_call 68; (with_reducible refine (impl_within.calls ((rd_T88 l0_2 x28_2).f1) 0 15 true _ A28.out).mono ?_); rintro e w' ⟨rfl, ⟨nd, rfl⟩⟩))
                          go_meet
                          case rel => exact ⟨_, (true), (by first | rfl | (simp; done) | (simp [*]; done)), H', ⟨by have := HJ1.out; have := HK2.out; first | omega | exact Nat.le_refl _⟩, ⟨by (with_reducible repeat (first | refine blk_drewN ?_ _ | refine blk_drew ?_ | refine blk_alloc ?_ _)); refine blk_far ?_ NB161_166.out _; (with_reducible repeat (first | refine blk_drewN ?_ _ | refine blk_drew ?_ | refine blk_alloc ?_ _)); refine blk_far ?_ NB161_166.out _; (with_reducible repeat (first | refine blk_drewN ?_ _ | refine blk_drew ?_ | refine blk_alloc ?_ _)); refine blk_far ?_ NB161_166.out _; (with_reducible repeat (first | refine blk_drewN ?_ _ | refine blk_drew ?_ | refine blk_alloc ?_ _)); refine blk_far ?_ NB161_166.out _; (with_reducible repeat (first | refine blk_drewN ?_ _ | refine blk_drew ?_ | refine blk_alloc ?_ _)); refine blk_far ?_ NB161_166.out _; (with_reducible repeat (first | refine blk_drewN ?_ _ | refine blk_drew ?_ | refine blk_alloc ?_ _)); refine blk_far ?_ NB161_166.out _; (with_reducible repeat (first | refine blk_drewN ?_ _ | refine blk_drew ?_ | refine blk_alloc ?_ _)); refine blk_far ?_ NB161_166.out _; (with_reducible repeat (first | refine blk_drewN ?_ _ | refine blk_drew ?_ | refine blk_alloc ?_ _)); exact BK161.out⟩, ⟨by (with_reducible repeat (first | refine blk_drewN ?_ _ | refine blk_drew ?_ | refine blk_alloc ?_ _)); refine blk_put (cs := #[.int .i64 ((rd_T88 l0_2 x28_2).f0), .int .i64 ((rd_T88 l0_2 x28_2).f1), .int .i64 ((rd_T88 l0_2 x28_2).f2), .int .i64 ((rd_T88 l0_2 x28_2).f3), .int .i64 ((rd_T88 l0_2 x28_2).f4), .int .i64 ((rd_T88 l0_2 x28_2).f5), .bool false]) ?_ 6 _ rfl; (with_reducible repeat (first | refine blk_drewN ?_ _ | refine blk_drew ?_ | refine blk_alloc ?_ _)); refine blk_put (cs := #[.int .i64 ((rd_T88 l0_2 x28_2).f0), .int .i64 ((rd_T88 l0_2 x28_2).f1), .int .i64 ((rd_T88 l0_2 x28_2).f2), .int .i64 ((rd_T88 l0_2 x28_2).f3), .int .i64 ((rd_T88 l0_2 x28_2).f4), .int .i64 0, .bool false]) ?_ 5 _ rfl; (with_reducible repeat (first | refine blk_drewN ?_ _ | refine blk_drew ?_ | refine blk_alloc ?_ _)); refine blk_put (cs := #[.int .i64 ((rd_T88 l0_2 x28_2).f0), .int .i64 ((rd_T88 l0_2 x28_2).f1), .int .i64 ((rd_T88 l0_2 x28_2).f2), .int .i64 ((rd_T88 l0_2 x28_2).f3), .int .i64 0, .int .i64 0, .bool false]) ?_ 4 _ rfl; (with_reducible repeat (first | refine blk_drewN ?_ _ | refine blk_drew ?_ | refine blk_alloc ?_ _)); refine blk_put (cs := #[.int .i64 ((rd_T88 l0_2 x28_2).f0), .int .i64 ((rd_T88 l0_2 x28_2).f1), .int .i64 ((rd_T88 l0_2 x28_2).f2), .int .i64 0, .int .i64 0, .int .i64 0, .bool false]) ?_ 3 _ rfl; (with_reducible repeat (first | refine blk_drewN ?_ _ | refine blk_drew ?_ | refine blk_alloc ?_ _)); refine blk_put (cs := #[.int .i64 ((rd_T88 l0_2 x28_2).f0), .int .i64 ((rd_T88 l0_2 x28_2).f1), .int .i64 0, .int .i64 0, .int .i64 0, .int .i64 0, .bool false]) ?_ 2 _ rfl; (with_reducible repeat (first | refine blk_drewN ?_ _ | refine blk_drew ?_ | refine blk_alloc ?_ _)); refine blk_put (cs := #[.int .i64 ((rd_T88 l0_2 x28_2).f0), .int .i64 0, .int .i64 0, .int .i64 0, .int .i64 0, .int .i64 0, .bool false]) ?_ 1 _ rfl; (with_reducible repeat (first | refine blk_drewN ?_ _ | refine blk_drew ?_ | refine blk_alloc ?_ _)); refine blk_put (cs := #[.int .i64 0, .int .i64 0, .int .i64 0, .int .i64 0, .int .i64 0, .int .i64 0, .bool false]) ?_ 0 _ rfl; (with_reducible repeat (first | refine blk_drewN ?_ _ | refine blk_drew ?_ | refine blk_alloc ?_ _)); exact BK166.out⟩, ⟨by repeat (first | (with_reducible first | exact HB.out | apply below_alloc | apply pw_below_drewN | apply below_drew1 | refine below_set ?_ GE161.out | refine below_set ?_ GE166.out) | exact HB.out)⟩⟩
                      · replace c29 := Bool.eq_false_iff.mpr c29
                        subst c29
                        have H1 : (impl_FlyPathOk.j2 k2 x28_2 l0_2 (l0_2.length : Int) x28_2 true a0_0 a0_1 l0_2 a0_3 a0_4 ((rd_T88 l0_2 x28_2).f0) ((rd_T88 l0_2 x28_2).f1) ((rd_T88 l0_2 x28_2).f2) ((rd_T88 l0_2 x28_2).f3) ((rd_T88 l0_2 x28_2).f4) ((rd_T88 l0_2 x28_2).f5) ((rd_T88 l0_2 x28_2).f6)) = some r := by rw [if_neg (show ¬ (false = true) by decide)] at H; exact H
                        clear H
                        have H := H1
                        clear H1
                        have H' := Aside0.mk H
                        clear H
                        have hnb42 := NB166_161.out
                        have hnc42 := NB161_166.out
                        have hcz43_0 : w23.cell? ⟨gb166, 0, none⟩ = some (.int .i64 0) := (blk_cell BK166.out 0).trans rfl
                        have hcz43_1 : w23.cell? ⟨gb166, 1, none⟩ = some (.int .i64 0) := (blk_cell BK166.out 1).trans rfl
                        have hcz43_2 : w23.cell? ⟨gb166, 2, none⟩ = some (.int .i64 0) := (blk_cell BK166.out 2).trans rfl
                        have hcz43_3 : w23.cell? ⟨gb166, 3, none⟩ = some (.int .i64 0) := (blk_cell BK166.out 3).trans rfl
                        have hcz43_4 : w23.cell? ⟨gb166, 4, none⟩ = some (.int .i64 0) := (blk_cell BK166.out 4).trans rfl
                        have hcz43_5 : w23.cell? ⟨gb166, 5, none⟩ = some (.int .i64 0) := (blk_cell BK166.out 5).trans rfl
                        have hcz43_6 : w23.cell? ⟨gb166, 6, none⟩ = some (.bool false) := (blk_cell BK166.out 6).trans rfl
                        have hfz43_0 := blk_frozen BK166.out 0
                        have hfz43_1 := blk_frozen BK166.out 1
                        have hfz43_2 := blk_frozen BK166.out 2
                        have hfz43_3 := blk_frozen BK166.out 3
                        have hfz43_4 := blk_frozen BK166.out 4
                        have hfz43_5 := blk_frozen BK166.out 5
                        have hfz43_6 := blk_frozen BK166.out 6
                        go_wp2_with (first | ((with_reducible refine gate_callee (f := 68) rfl ?_); refine goesL_ (some 35) rfl rfl Try.func68 (by kernel_rfl) rfl #[.int .i64 ((rd_T88 l0_2 x28_2).f0), .int .i64 0, .int .i64 15] rfl (by (try simp only [List.map_toArray, List.map_cons, List.map_nil]); first | done | rfl | (simp only [List.length_drop, List.length_take]; rfl)) ?_; (with_reducible refine (impl_within.calls ((rd_T88 l0_2 x28_2).f0) 0 15 true _ A26.out).mono ?_); rintro e w' ⟨rfl, ⟨nd, rfl⟩⟩; refine ⟨_, rfl, ?_⟩) | (go_at_call 68; (with_reducible refine (impl_within.calls ((rd_T88 l0_2 x28_2).f1) 0 15 false _ A28.out).mono ?_); rintro e w' ⟨rfl, ⟨nd, rfl⟩⟩))
                        go_meet
                        case rel => exact ⟨_, (true), (by first | rfl | (simp; done) | (simp [*]; done)), H', ⟨by have := HJ1.out; have := HK2.out; first | omega | exact Nat.le_refl _⟩, ⟨by (with_reducible repeat (first | refine blk_drewN ?_ _ | refine blk_drew ?_ | refine blk_alloc ?_ _)); refine blk_far ?_ NB161_166.out _; (with_reducible repeat (first | refine blk_drewN ?_ _ | refine blk_drew ?_ | refine blk_alloc ?_ _)); refine blk_far ?_ NB161_166.out _; (with_reducible repeat (first | refine blk_drewN ?_ _ | refine blk_drew ?_ | refine blk_alloc ?_ _)); refine blk_far ?_ NB161_166.out _; (with_reducible repeat (first | refine blk_drewN ?_ _ | refine blk_drew ?_ | refine blk_alloc ?_ _)); refine blk_far ?_ NB161_166.out _; (with_reducible repeat (first | refine blk_drewN ?_ _ | refine blk_drew ?_ | refine blk_alloc ?_ _)); refine blk_far ?_ NB161_166.out _; (with_reducible repeat (first | refine blk_drewN ?_ _ | refine blk_drew ?_ | refine blk_alloc ?_ _)); refine blk_far ?_ NB161_166.out _; (with_reducible repeat (first | refine blk_drewN ?_ _ | refine blk_drew ?_ | refine blk_alloc ?_ _)); refine blk_far ?_ NB161_166.out _; (with_reducible repeat (first | refine blk_drewN ?_ _ | refine blk_drew ?_ | refine blk_alloc ?_ _)); exact BK161.out⟩, ⟨by (with_reducible repeat (first | refine blk_drewN ?_ _ | refine blk_drew ?_ | refine blk_alloc ?_ _)); refine blk_put (cs := #[.int .i64 ((rd_T88 l0_2 x28_2).f0), .int .i64 ((rd_T88 l0_2 x28_2).f1), .int .i64 ((rd_T88 l0_2 x28_2).f2), .int .i64 ((rd_T88 l0_2 x28_2).f3), .int .i64 ((rd_T88 l0_2 x28_2).f4), .int .i64 ((rd_T88 l0_2 x28_2).f5), .bool false]) ?_ 6 _ rfl; (with_reducible repeat (first | refine blk_drewN ?_ _ | refine blk_drew ?_ | refine blk_alloc ?_ _)); refine blk_put (cs := #[.int .i64 ((rd_T88 l0_2 x28_2).f0), .int .i64 ((rd_T88 l0_2 x28_2).f1), .int .i64 ((rd_T88 l0_2 x28_2).f2), .int .i64 ((rd_T88 l0_2 x28_2).f3), .int .i64 ((rd_T88 l0_2 x28_2).f4), .int .i64 0, .bool false]) ?_ 5 _ rfl; (with_reducible repeat (first | refine blk_drewN ?_ _ | refine blk_drew ?_ | refine blk_alloc ?_ _)); refine blk_put (cs := #[.int .i64 ((rd_T88 l0_2 x28_2).f0), .int .i64 ((rd_T88 l0_2 x28_2).f1), .int .i64 ((rd_T88 l0_2 x28_2).f2), .int .i64 ((rd_T88 l0_2 x28_2).f3), .int .i64 0, .int .i64 0, .bool false]) ?_ 4 _ rfl; (with_reducible repeat (first | refine blk_drewN ?_ _ | refine blk_drew ?_ | refine blk_alloc ?_ _)); refine blk_put (cs := #[.int .i64 ((rd_T88 l0_2 x28_2).f0), .int .i64 ((rd_T88 l0_2 x28_2).f1), .int .i64 ((rd_T88 l0_2 x28_2).f2), .int .i64 0, .int .i64 0, .int .i64 0, .bool false]) ?_ 3 _ rfl; (with_reducible repeat (first | refine blk_drewN ?_ _ | refine blk_drew ?_ | refine blk_alloc ?_ _)); refine blk_put (cs := #[.int .i64 ((rd_T88 l0_2 x28_2).f0), .int .i64 ((rd_T88 l0_2 x28_2).f1), .int .i64 0, .int .i64 0, .int .i64 0, .int .i64 0, .bool false]) ?_ 2 _ rfl; (with_reducible repeat (first | refine blk_drewN ?_ _ | refine blk_drew ?_ | refine blk_alloc ?_ _)); refine blk_put (cs := #[.int .i64 ((rd_T88 l0_2 x28_2).f0), .int .i64 0, .int .i64 0, .int .i64 0, .int .i64 0, .int .i64 0, .bool false]) ?_ 1 _ rfl; (with_reducible repeat (first | refine blk_drewN ?_ _ | refine blk_drew ?_ | refine blk_alloc ?_ _)); refine blk_put (cs := #[.int .i64 0, .int .i64 0, .int .i64 0, .int .i64 0, .int .i64 0, .int .i64 0, .bool false]) ?_ 0 _ rfl; (with_reducible repeat (first | refine blk_drewN ?_ _ | refine blk_drew ?_ | refine blk_alloc ?_ _)); exact BK166.out⟩, ⟨by repeat (first | (with_reducible first | exact HB.out | apply below_alloc | apply pw_below_drewN | apply below_drew1 | refine below_set ?_ GE161.out | refine below_set ?_ GE166.out) | exact HB.out)⟩⟩
                    · replace c27 := Bool.eq_false_iff.mpr c27
                      subst c27
                      have H1 : (impl_FlyPathOk.j2 k2 x28_2 l0_2 (l0_2.length : Int) x28_2 true a0_0 a0_1 l0_2 a0_3 a0_4 ((rd_T88 l0_2 x28_2).f0) ((rd_T88 l0_2 x28_2).f1) ((rd_T88 l0_2 x28_2).f2) ((rd_T88 l0_2 x28_2).f3) ((rd_T88 l0_2 x28_2).f4) ((rd_T88 l0_2 x28_2).f5) ((rd_T88 l0_2 x28_2).f6)) = some r := by rw [if_neg (show ¬ (false = true) by decide)] at H; exact H
                      clear H
                      have H := H1
                      clear H1
                      have H' := Aside0.mk H
                      clear H
                      have hnb44 := NB166_161.out
                      have hnc44 := NB161_166.out
                      have hcz45_0 : w23.cell? ⟨gb166, 0, none⟩ = some (.int .i64 0) := (blk_cell BK166.out 0).trans rfl
                      have hcz45_1 : w23.cell? ⟨gb166, 1, none⟩ = some (.int .i64 0) := (blk_cell BK166.out 1).trans rfl
                      have hcz45_2 : w23.cell? ⟨gb166, 2, none⟩ = some (.int .i64 0) := (blk_cell BK166.out 2).trans rfl
                      have hcz45_3 : w23.cell? ⟨gb166, 3, none⟩ = some (.int .i64 0) := (blk_cell BK166.out 3).trans rfl
                      have hcz45_4 : w23.cell? ⟨gb166, 4, none⟩ = some (.int .i64 0) := (blk_cell BK166.out 4).trans rfl
                      have hcz45_5 : w23.cell? ⟨gb166, 5, none⟩ = some (.int .i64 0) := (blk_cell BK166.out 5).trans rfl
                      have hcz45_6 : w23.cell? ⟨gb166, 6, none⟩ = some (.bool false) := (blk_cell BK166.out 6).trans rfl
                      have hfz45_0 := blk_frozen BK166.out 0
                      have hfz45_1 := blk_frozen BK166.out 1
                      have hfz45_2 := blk_frozen BK166.out 2
                      have hfz45_3 := blk_frozen BK166.out 3
                      have hfz45_4 := blk_frozen BK166.out 4
                      have hfz45_5 := blk_frozen BK166.out 5
                      have hfz45_6 := blk_frozen BK166.out 6
                      go_wp2_with (first | ((with_reducible refine gate_callee (f := 68) rfl ?_); refine goesL_ (some 35) rfl rfl Try.func68 (by kernel_rfl) rfl #[.int .i64 ((rd_T88 l0_2 x28_2).f0), .int .i64 0, .int .i64 15] rfl (by (try simp only [List.map_toArray, List.map_cons, List.map_nil]); first | done | rfl | (simp only [List.length_drop, List.length_take]; rfl)) ?_; (with_reducible refine (impl_within.calls ((rd_T88 l0_2 x28_2).f0) 0 15 false _ A26.out).mono ?_); rintro e w' ⟨rfl, ⟨nd, rfl⟩⟩; refine ⟨_, rfl, ?_⟩))
                      go_meet
                      case rel => exact ⟨_, (true), (by first | rfl | (simp; done) | (simp [*]; done)), H', ⟨by have := HJ1.out; have := HK2.out; first | omega | exact Nat.le_refl _⟩, ⟨by (with_reducible repeat (first | refine blk_drewN ?_ _ | refine blk_drew ?_ | refine blk_alloc ?_ _)); refine blk_far ?_ NB161_166.out _; (with_reducible repeat (first | refine blk_drewN ?_ _ | refine blk_drew ?_ | refine blk_alloc ?_ _)); refine blk_far ?_ NB161_166.out _; (with_reducible repeat (first | refine blk_drewN ?_ _ | refine blk_drew ?_ | refine blk_alloc ?_ _)); refine blk_far ?_ NB161_166.out _; (with_reducible repeat (first | refine blk_drewN ?_ _ | refine blk_drew ?_ | refine blk_alloc ?_ _)); refine blk_far ?_ NB161_166.out _; (with_reducible repeat (first | refine blk_drewN ?_ _ | refine blk_drew ?_ | refine blk_alloc ?_ _)); refine blk_far ?_ NB161_166.out _; (with_reducible repeat (first | refine blk_drewN ?_ _ | refine blk_drew ?_ | refine blk_alloc ?_ _)); refine blk_far ?_ NB161_166.out _; (with_reducible repeat (first | refine blk_drewN ?_ _ | refine blk_drew ?_ | refine blk_alloc ?_ _)); refine blk_far ?_ NB161_166.out _; (with_reducible repeat (first | refine blk_drewN ?_ _ | refine blk_drew ?_ | refine blk_alloc ?_ _)); exact BK161.out⟩, ⟨by (with_reducible repeat (first | refine blk_drewN ?_ _ | refine blk_drew ?_ | refine blk_alloc ?_ _)); refine blk_put (cs := #[.int .i64 ((rd_T88 l0_2 x28_2).f0), .int .i64 ((rd_T88 l0_2 x28_2).f1), .int .i64 ((rd_T88 l0_2 x28_2).f2), .int .i64 ((rd_T88 l0_2 x28_2).f3), .int .i64 ((rd_T88 l0_2 x28_2).f4), .int .i64 ((rd_T88 l0_2 x28_2).f5), .bool false]) ?_ 6 _ rfl; (with_reducible repeat (first | refine blk_drewN ?_ _ | refine blk_drew ?_ | refine blk_alloc ?_ _)); refine blk_put (cs := #[.int .i64 ((rd_T88 l0_2 x28_2).f0), .int .i64 ((rd_T88 l0_2 x28_2).f1), .int .i64 ((rd_T88 l0_2 x28_2).f2), .int .i64 ((rd_T88 l0_2 x28_2).f3), .int .i64 ((rd_T88 l0_2 x28_2).f4), .int .i64 0, .bool false]) ?_ 5 _ rfl; (with_reducible repeat (first | refine blk_drewN ?_ _ | refine blk_drew ?_ | refine blk_alloc ?_ _)); refine blk_put (cs := #[.int .i64 ((rd_T88 l0_2 x28_2).f0), .int .i64 ((rd_T88 l0_2 x28_2).f1), .int .i64 ((rd_T88 l0_2 x28_2).f2), .int .i64 ((rd_T88 l0_2 x28_2).f3), .int .i64 0, .int .i64 0, .bool false]) ?_ 4 _ rfl; (with_reducible repeat (first | refine blk_drewN ?_ _ | refine blk_drew ?_ | refine blk_alloc ?_ _)); refine blk_put (cs := #[.int .i64 ((rd_T88 l0_2 x28_2).f0), .int .i64 ((rd_T88 l0_2 x28_2).f1), .int .i64 ((rd_T88 l0_2 x28_2).f2), .int .i64 0, .int .i64 0, .int .i64 0, .bool false]) ?_ 3 _ rfl; (with_reducible repeat (first | refine blk_drewN ?_ _ | refine blk_drew ?_ | refine blk_alloc ?_ _)); refine blk_put (cs := #[.int .i64 ((rd_T88 l0_2 x28_2).f0), .int .i64 ((rd_T88 l0_2 x28_2).f1), .int .i64 0, .int .i64 0, .int .i64 0, .int .i64 0, .bool false]) ?_ 2 _ rfl; (with_reducible repeat (first | refine blk_drewN ?_ _ | refine blk_drew ?_ | refine blk_alloc ?_ _)); refine blk_put (cs := #[.int .i64 ((rd_T88 l0_2 x28_2).f0), .int .i64 0, .int .i64 0, .int .i64 0, .int .i64 0, .int .i64 0, .bool false]) ?_ 1 _ rfl; (with_reducible repeat (first | refine blk_drewN ?_ _ | refine blk_drew ?_ | refine blk_alloc ?_ _)); refine blk_put (cs := #[.int .i64 0, .int .i64 0, .int .i64 0, .int .i64 0, .int .i64 0, .int .i64 0, .bool false]) ?_ 0 _ rfl; (with_reducible repeat (first | refine blk_drewN ?_ _ | refine blk_drew ?_ | refine blk_alloc ?_ _)); exact BK166.out⟩, ⟨by repeat (first | (with_reducible first | exact HB.out | apply below_alloc | apply pw_below_drewN | apply below_drew1 | refine below_set ?_ GE161.out | refine below_set ?_ GE166.out) | exact HB.out)⟩⟩
                  case rest =>
                    clear HC22
                    try clear c1
                    try clear p1
                    try clear q1
                    try clear hx1
                    try clear c2
                    try clear p2
                    try clear c3
                    try clear c4
                    try clear c5
                    try clear c6
                    try clear c7
                    try clear p16
                    try clear q16
                    try clear hx16
                    try clear c17
                    try clear c19
                    try clear c19b0
                    try clear c20
                    try clear c20b0
                    try clear c21
                    try clear c21b0
                    try clear c24
                    try clear c27
                    try clear c29
                    try clear c30
                    try clear c30b0
                    try clear c31
                    try clear c31b0
                    try clear c32
                    try clear c32b0
                    try clear c33
                    try clear c34
                    try clear c36
                    try clear c38
                    try clear c40
                    try clear c42
                    try clear c44
                    try clear hcz11_0
                    try clear hcz11_1
                    try clear hcz11_2
                    try clear hcz11_3
                    try clear hcz11_4
                    try clear hcz12_0
                    try clear hcz12_1
                    try clear hcz12_2
                    try clear hcz12_3
                    try clear hcz12_4
                    try clear hcz14_0
                    try clear hcz14_1
                    try clear hcz14_2
                    try clear hcz14_3
                    try clear hcz14_4
                    try clear hcz15_0
                    try clear hcz15_1
                    try clear hcz15_2
                    try clear hcz15_3
                    try clear hcz15_4
                    try clear hcz18_0
                    try clear hcz18_1
                    try clear hcz18_2
                    try clear hcz18_3
                    try clear hcz18_4
                    try clear hcz25_0
                    try clear hcz25_1
                    try clear hcz25_2
                    try clear hcz25_3
                    try clear hcz25_4
                    try clear hcz25_5
                    try clear hcz25_6
                    try clear hcz35_0
                    try clear hcz35_1
                    try clear hcz35_2
                    try clear hcz35_3
                    try clear hcz35_4
                    try clear hcz35_5
                    try clear hcz35_6
                    try clear hcz37_0
                    try clear hcz37_1
                    try clear hcz37_2
                    try clear hcz37_3
                    try clear hcz37_4
                    try clear hcz37_5
                    try clear hcz37_6
                    try clear hcz39_0
                    try clear hcz39_1
                    try clear hcz39_2
                    try clear hcz39_3
                    try clear hcz39_4
                    try clear hcz39_5
                    try clear hcz39_6
                    try clear hcz41_0
                    try clear hcz41_1
                    try clear hcz41_2
                    try clear hcz41_3
                    try clear hcz41_4
                    try clear hcz41_5
                    try clear hcz41_6
                    try clear hcz43_0
                    try clear hcz43_1
                    try clear hcz43_2
                    try clear hcz43_3
                    try clear hcz43_4
                    try clear hcz43_5
                    try clear hcz43_6
                    try clear hcz45_0
                    try clear hcz45_1
                    try clear hcz45_2
                    try clear hcz45_3
                    try clear hcz45_4
                    try clear hcz45_5
                    try clear hcz45_6
                    try clear hcz9_0
                    try clear hcz9_1
                    try clear hcz9_2
                    try clear hcz9_3
                    try clear hcz9_4
                    try clear hfz11_0
                    try clear hfz11_1
                    try clear hfz11_2
                    try clear hfz11_3
                    try clear hfz11_4
                    try clear hfz12_0
                    try clear hfz12_1
                    try clear hfz12_2
                    try clear hfz12_3
                    try clear hfz12_4
                    try clear hfz14_0
                    try clear hfz14_1
                    try clear hfz14_2
                    try clear hfz14_3
                    try clear hfz14_4
                    try clear hfz15_0
                    try clear hfz15_1
                    try clear hfz15_2
                    try clear hfz15_3
                    try clear hfz15_4
                    try clear hfz18_0
                    try clear hfz18_1
                    try clear hfz18_2
                    try clear hfz18_3
                    try clear hfz18_4
                    try clear hfz25_0
                    try clear hfz25_1
                    try clear hfz25_2
                    try clear hfz25_3
                    try clear hfz25_4
                    try clear hfz25_5
                    try clear hfz25_6
                    try clear hfz35_0
                    try clear hfz35_1
                    try clear hfz35_2
                    try clear hfz35_3
                    try clear hfz35_4
                    try clear hfz35_5
                    try clear hfz35_6
                    try clear hfz37_0
                    try clear hfz37_1
                    try clear hfz37_2
                    try clear hfz37_3
                    try clear hfz37_4
                    try clear hfz37_5
                    try clear hfz37_6
                    try clear hfz39_0
                    try clear hfz39_1
                    try clear hfz39_2
                    try clear hfz39_3
                    try clear hfz39_4
                    try clear hfz39_5
                    try clear hfz39_6
                    try clear hfz41_0
                    try clear hfz41_1
                    try clear hfz41_2
                    try clear hfz41_3
                    try clear hfz41_4
                    try clear hfz41_5
                    try clear hfz41_6
                    try clear hfz43_0
                    try clear hfz43_1
                    try clear hfz43_2
                    try clear hfz43_3
                    try clear hfz43_4
                    try clear hfz43_5
                    try clear hfz43_6
                    try clear hfz45_0
                    try clear hfz45_1
                    try clear hfz45_2
                    try clear hfz45_3
                    try clear hfz45_4
                    try clear hfz45_5
                    try clear hfz45_6
                    try clear hfz9_0
                    try clear hfz9_1
                    try clear hfz9_2
                    try clear hfz9_3
                    try clear hfz9_4
                    try clear hx165_0
                    try clear hx165_1
                    try clear hx165_2
                    try clear hx165_3
                    try clear hx165_4
                    try clear hx165_5
                    try clear hx165_6
                    try clear p165
                    try clear p2
                    try clear q165
                    obtain ⟨kq, x68_21, rfl, HA, HJ21, BK161, BK166, HB⟩ := hcut
                    cases kq with
                    | zero => exact absurd HA.out (by simp [impl_FlyPathOk.j2])
                    | succ kj21 =>
                      have H := HA.out
                      clear HA
                      simp only [impl_FlyPathOk.j2] at H
                      by_cases c46 : x68_21 = true
                      · subst c46
                        have H1 : (some false) = some r := by rw [if_pos rfl] at H; exact H
                        clear H
                        have H := H1
                        clear H1
                        obtain rfl := Option.some.inj H
                        go_wp2
                        go_ret
                        exact ⟨by first | rfl | (simp [errW_none, errW_some] <;> rfl) | (simp [*, errW_none, errW_some] <;> rfl), by repeat (first | (with_reducible first | exact HB.out | apply below_alloc | apply pw_below_drewN | apply below_drew1 | refine below_set ?_ GE161.out | refine below_set ?_ GE166.out) | exact HB.out)⟩
                      · replace c46 := Bool.eq_false_iff.mpr c46
                        subst c46
                        have H1 : (if x28_2 = 0 then (impl_FlyPathOk.l0 kj21 l0_2 (l0_2.length : Int) (wrap64 (x28_2 + 1)) a0_0 a0_1 l0_2 a0_3 a0_4) else (if 0 ≤ (wrap64 (x28_2 - 1)) then (if (wrap64 (x28_2 - 1)) < (l0_2.length : Int) then (if ((rd_T88 l0_2 (wrap64 (x28_2 - 1))).f0) = ((rd_T88 l0_2 x28_2).f0) then (if ((rd_T88 l0_2 (wrap64 (x28_2 - 1))).f1) = ((rd_T88 l0_2 x28_2).f1) then (some false) else ((impl_dist.f ((rd_T88 l0_2 (wrap64 (x28_2 - 1))).f0) ((rd_T88 l0_2 x28_2).f0)).bind fun t172 => (if t172 > 1 then (some false) else ((impl_dist.f ((rd_T88 l0_2 (wrap64 (x28_2 - 1))).f1) ((rd_T88 l0_2 x28_2).f1)).bind fun t173 => (if t173 > 1 then (some false) else (if ((rd_T88 l0_2 (wrap64 (x28_2 - 1))).f2) > ((rd_T88 l0_2 x28_2).f3) then (some false) else (if ((rd_T88 l0_2 x28_2).f2) > ((rd_T88 l0_2 (wrap64 (x28_2 - 1))).f3) then (some false) else (impl_FlyPathOk.l0 kj21 l0_2 (l0_2.length : Int) (wrap64 (x28_2 + 1)) a0_0 a0_1 l0_2 a0_3 a0_4)))))))) else ((impl_dist.f ((rd_T88 l0_2 (wrap64 (x28_2 - 1))).f0) ((rd_T88 l0_2 x28_2).f0)).bind fun t174 => (if t174 > 1 then (some false) else ((impl_dist.f ((rd_T88 l0_2 (wrap64 (x28_2 - 1))).f1) ((rd_T88 l0_2 x28_2).f1)).bind fun t175 => (if t175 > 1 then (some false) else (if ((rd_T88 l0_2 (wrap64 (x28_2 - 1))).f2) > ((rd_T88 l0_2 x28_2).f3) then (some false) else (if ((rd_T88 l0_2 x28_2).f2) > ((rd_T88 l0_2 (wrap64 (x28_2 - 1))).f3) then (some false) else (impl_FlyPathOk.l0 kj21 l0_2 (l0_2.length : Int) (wrap64 (x28_2 + 1)) a0_0 a0_1 l0_2 a0_3 a0_4)))))))) else (none)) else (none))) = some r := by rw [if_neg (show ¬ (false = true) by decide)] at H; exact H
                        clear H
                        have H := H1
                        clear H1
                        by_cases c47 : x28_2 = 0
                        · rw [if_pos c47] at H
                          have c47b0 : (x28_2 == 0) = true := beq_iff_eq.mpr c47
                          have c47b1 : (x28_2 != 0) = false := bne_eq_false_iff_eq.mpr c47
                          clear c47
                          have H' := Aside0.mk H
                          clear H
                          go_wp2
                          go_roundg kj21
                          case measure => have := HJ1.out; have := HK2.out; have := HJ21.out; omega
                          case rel => exact ⟨(wrap64 (x28_2 + 1)), (by first | rfl | (simp; done) | (simp [*]; done)), H', ⟨by have := HJ1.out; have := HK2.out; have := HJ21.out; omega⟩, ⟨by (with_reducible repeat (first | refine blk_drewN ?_ _ | refine blk_drew ?_ | refine blk_alloc ?_ _)); exact BK161.out⟩, ⟨by repeat (first | (with_reducible first | exact HB.out | apply below_alloc | apply pw_below_drewN | apply below_drew1 | refine below_set ?_ GE161.out | refine below_set ?_ GE166.out) | exact HB.out)⟩⟩
                        · rw [if_neg c47] at H
                          have c47b0 : (x28_2 == 0) = false := beq_eq_false_iff_ne.mpr c47
                          have c47b1 : (x28_2 != 0) = true := bne_iff_ne.mpr c47
                          obtain ⟨ji48, hji48⟩ : ∃ j_ : Int, (wrap64 (x28_2 - 1)) = j_ := ⟨_, rfl⟩
                          replace H : (if 0 ≤ (ji48) then (if (ji48) < (l0_2.length : Int) then (if ((rd_T88 l0_2 (ji48)).f0) = ((rd_T88 l0_2 x28_2).f0) then (if ((rd_T88 l0_2 (ji48)).f1) = ((rd_T88 l0_2 x28_2).f1) then (some false) else ((impl_dist.f ((rd_T88 l0_2 (ji48)).f0) ((rd_T88 l0_2 x28_2).f0)).bind fun t172 => (if t172 > 1 then (some false) else ((impl_dist.f ((rd_T88 l0_2 (ji48)).f1) ((rd_T88 l0_2 x28_2).f1)).bind fun t173 => (if t173 > 1 then (some false) else (if ((rd_T88 l0_2 (ji48)).f2) > ((rd_T88 l0_2 x28_2).f3) then (some false) else (if ((rd_T88 l0_2 x28_2).f2) > ((rd_T88 l0_2 (ji48)).f3) then (some false) else (impl_FlyPathOk.l0 kj21 l0_2 (l0_2.length : Int) (wrap64 (x28_2 + 1)) a0_0 a0_1 l0_2 a0_3 a0_4)))))))) else ((impl_dist.f ((rd_T88 l0_2 (ji48)).f0) ((rd_T88 l0_2 x28_2).f0)).bind fun t174 => (if t174 > 1 then (some false) else ((impl_dist.f ((rd_T88 l0_2 (ji48)).f1) ((rd_T88 l0_2 x28_2).f1)).bind fun t175 => (if t175 > 1 then (some false) else (if ((rd_T88 l0_2 (ji48)).f2) > ((rd_T88 l0_2 x28_2).f3) then (some false) else (if ((rd_T88 l0_2 x28_2).f2) > ((rd_T88 l0_2 (ji48)).f3) then (some false) else (impl_FlyPathOk.l0 kj21 l0_2 (l0_2.length : Int) (wrap64 (x28_2 + 1)) a0_0 a0_1 l0_2 a0_3 a0_4)))))))) else (none)) else (none)) = some r := by first | (rw [hji48] at H; exact H) | (simp only [hji48] at H ⊢; exact H)
                          have hji48w : (IntKind.i64.wrap (x28_2 - 1)) = ji48 := (i64_w _).trans hji48
                          by_cases c49 : 0 ≤ (ji48)
                          · rw [if_pos c49] at H
                            have c49b0 : decide (0 ≤ (ji48)) = true := decide_eq_true c49
                            clear c49
                            by_cases c50 : (ji48) < (l0_2.length : Int)
                            · rw [if_pos c50] at H
                              have c50b0 : decide ((ji48) < (l0_2.length : Int)) = true := decide_eq_true c50
                              clear c50
                              by_cases c51 : ((rd_T88 l0_2 (ji48)).f0) = ((rd_T88 l0_2 x28_2).f0)
                              · rw [if_pos c51] at H
                                have c51b0 : (((rd_T88 l0_2 (ji48)).f0) == ((rd_T88 l0_2 x28_2).f0)) = true := beq_iff_eq.mpr c51
                                have c51b1 : (((rd_T88 l0_2 (ji48)).f0) != ((rd_T88 l0_2 x28_2).f0)) = false := bne_eq_false_iff_eq.mpr c51
                                clear c51
                                by_cases c52 : ((rd_T88 l0_2 (ji48)).f1) = ((rd_T88 l0_2 x28_2).f1)
                                · rw [if_pos c52] at H
                                  have c52b0 : (((rd_T88 l0_2 (ji48)).f1) == ((rd_T88 l0_2 x28_2).f1)) = true := beq_iff_eq.mpr c52
                                  have c52b1 : (((rd_T88 l0_2 (ji48)).f1) != ((rd_T88 l0_2 x28_2).f1)) = false := bne_eq_false_iff_eq.mpr c52
                                  clear c52
                                  obtain rfl := Option.some.inj H
                                  have hnb53 := NB161_166.out
                                  have hnc53 := NB166_161.out
                                  have hcz54_0 : wc.cell? ⟨gb161, 0, none⟩ = some (.int .i64 a0_0) := (blk_cell BK161.out 0).trans rfl
                                  have hcz54_1 : wc.cell? ⟨gb161, 1, none⟩ = some (.int .i64 a0_1) := (blk_cell BK161.out 1).trans rfl
                                  have hcz54_2 : wc.cell? ⟨gb161, 2, none⟩ = some (.slice (some ad165) l0_2.length c0_2) := (blk_cell BK161.out 2).trans rfl
                                  have hcz54_3 : wc.cell? ⟨gb161, 3, none⟩ = some (.int .i64 a0_3) := (blk_cell BK161.out 3).trans rfl
                                  have hcz54_4 : wc.cell? ⟨gb161, 4, none⟩ = some (.int .i64 a0_4) := (blk_cell BK161.out 4).trans rfl
                                  have hfz54_0 := blk_frozen BK161.out 0
                                  have hfz54_1 := blk_frozen BK161.out 1
                                  have hfz54_2 := blk_frozen BK161.out 2
                                  have hfz54_3 := blk_frozen BK161.out 3
                                  have hfz54_4 := blk_frozen BK161.out 4
                                  have p170 : 0 ≤ ((ji48) : Int) := of_decide_eq_true (by first | (with_reducible assumption) | assumption)
                                  have q170 : (ji48) < (l0_2.length : Int) := of_decide_eq_true (by first | (with_reducible assumption) | assumption)
                                  obtain ⟨ad170, e170, hx170_0, hx170_1, hx170_2, hx170_3, hx170_4, hx170_5, hx170_6⟩ := at_T88 HR0_2.out (ji48) p170 q170
                                  obtain rfl : ad165 = ad170 := (by injection e170)
                                  replace hx170_0 := (HB.out.cell (World.block_lt_of_cell? w _ hx170_0)).trans hx170_0
                                  replace hx170_1 := (HB.out.cell (World.block_lt_of_cell? w _ hx170_1)).trans hx170_1
                                  replace hx170_2 := (HB.out.cell (World.block_lt_of_cell? w _ hx170_2)).trans hx170_2
                                  replace hx170_3 := (HB.out.cell (World.block_lt_of_cell? w _ hx170_3)).trans hx170_3
                                  replace hx170_4 := (HB.out.cell (World.block_lt_of_cell? w _ hx170_4)).trans hx170_4
                                  replace hx170_5 := (HB.out.cell (World.block_lt_of_cell? w _ hx170_5)).trans hx170_5
                                  replace hx170_6 := (HB.out.cell (World.block_lt_of_cell? w _ hx170_6)).trans hx170_6
                                  replace p170 := eq_true p170
                                  replace q170 := eq_true q170
                                  go_wp2_with (first | ((with_reducible refine gate_dst (N := 5) rfl ?_); (try (refine gate_guard (by rfl) ?_; dsimp only)); refine box_event ?hg (N := 5) ?hd (cs := #[.int .i64 0, .int .i64 0, .int .i64 0, .int .i64 0, .int .i64 0, .int .i64 0, .bool false]) (t := 88) ?hr ?_; (case hd => rfl); (case hg => rfl); (case hr => first | (go_simp; done) | (go_simp; rfl)); intro gb171 hg w55 hbox hb; have n0_ := Aside0.mk (blk_below (g := gb161) (o := .cells #[.int .i64 a0_0, .int .i64 a0_1, .slice (some ad165) l0_2.length c0_2, .int .i64 a0_3, .int .i64 a0_4] 34 (0, 0)) (by (with_reducible repeat (first | refine blk_drewN ?_ _ | refine blk_drew ?_ | refine blk_alloc ?_ _)); exact BK161.out) hb); have n1_ := Aside0.mk (blk_below (g := gb166) (o := .cells #[.int .i64 ((rd_T88 l0_2 x28_2).f0), .int .i64 ((rd_T88 l0_2 x28_2).f1), .int .i64 ((rd_T88 l0_2 x28_2).f2), .int .i64 ((rd_T88 l0_2 x28_2).f3), .int .i64 ((rd_T88 l0_2 x28_2).f4), .int .i64 ((rd_T88 l0_2 x28_2).f5), .bool ((rd_T88 l0_2 x28_2).f6)] 88 (0, 0)) (by (with_reducible repeat (first | refine blk_drewN ?_ _ | refine blk_drew ?_ | refine blk_alloc ?_ _)); exact BK166.out) hb); have n2_ := Aside0.mk (below_step (by repeat (first | (with_reducible first | exact HB.out | apply below_alloc | apply pw_below_drewN | apply below_drew1 | refine below_set ?_ GE161.out | refine below_set ?_ GE166.out) | exact HB.out)) hb); have n3_ := Aside0.mk (hbox); have n4_ := Aside0.mk ((by rw [hg]; exact (below_size (by repeat (first | (with_reducible first | exact HB.out | apply below_alloc | apply pw_below_drewN | apply below_drew1 | refine below_set ?_ GE161.out | refine below_set ?_ GE166.out) | exact HB.out))) : w.heap.size ≤ gb171)); have n5_ := Aside0.mk ((by rw [hg]; exact (below_size (by repeat (first | (with_reducible first | exact HB.out | apply below_alloc | apply pw_below_drewN | apply below_drew1 | refine below_set ?_ GE161.out | refine below_set ?_ GE166.out) | exact HB.out))) : w.heap.size ≤ gb171)); have n6_ := Aside0.mk ((by rw [hg]; exact Nat.ne_of_lt (blk_lt (g := gb161) (o := .cells #[.int .i64 a0_0, .int .i64 a0_1, .slice (some ad165) l0_2.length c0_2, .int .i64 a0_3, .int .i64 a0_4] 34 (0, 0)) (by (with_reducible repeat (first | refine blk_drewN ?_ _ | refine blk_drew ?_ | refine blk_alloc ?_ _)); exact BK161.out)) : gb161 ≠ gb171)); have n7_ := Aside0.mk ((by rw [hg]; exact Nat.ne_of_gt (blk_lt (g := gb161) (o := .cells #[.int .i64 a0_0, .int .i64 a0_1, .slice (some ad165) l0_2.length c0_2, .int .i64 a0_3, .int .i64 a0_4] 34 (0, 0)) (by (with_reducible repeat (first | refine blk_drewN ?_ _ | refine blk_drew ?_ | refine blk_alloc ?_ _)); exact BK161.out)) : gb171 ≠ gb161)); have n8_ := Aside0.mk ((by rw [hg]; exact Nat.ne_of_lt (blk_lt (g := gb166) (o := .cells #[.int .i64 ((rd_T88 l0_2 x28_2).f0), .int .i64 ((rd_T88 l0_2 x28_2).f1), .int .i64 ((rd_T88 l0_2 x28_2).f2), .int .i64 ((rd_T88 l0_2 x28_2).f3), .int .i64 ((rd_T88 l0_2 x28_2).f4), .int .i64 ((rd_T88 l0_2 x28_2).f5), .bool ((rd_T88 l0_2 x28_2).f6)] 88 (0, 0)) (by (with_reducible repeat (first | refine blk_drewN ?_ _ | refine blk_drew ?_ | refine blk_alloc ?_ _)); exact BK166.out)) : gb166 ≠ gb171)); have n9_ := Aside0.mk ((by rw [hg]; exact Nat.ne_of_gt (blk_lt (g := gb166) (o := .cells #[.int .i64 ((rd_T88 l0_2 x28_2).f0), .int .i64 ((rd_T88 l0_2 x28_2).f1), .int .i64 ((rd_T88 l0_2 x28_2).f2), .int .i64 ((rd_T88 l0_2 x28_2).f3), .int .i64 ((rd_T88 l0_2 x28_2).f4), .int .i64 ((rd_T88 l0_2 x28_2).f5), .bool ((rd_T88 l0_2 x28_2).f6)] 88 (0, 0)) (by (with_reducible repeat (first | refine blk_drewN ?_ _ | refine blk_drew ?_ | refine blk_alloc ?_ _)); exact BK166.out)) : gb171 ≠ gb166)); clear BK161; clear BK166; clear HB; have BK161 := n0_; have BK166 := n1_; have HB := n2_; have BK171 := n3_; have GW171 := n4_; have GE171 := n5_; have NB161_171 := n6_; have NB171_161 := n7_; have NB166_171 := n8_; have NB171_166 := n9_; clear n0_ n1_ n2_ n3_ n4_ n5_ n6_ n7_ n8_ n9_; clear hb hbox hg; have hnb56 := NB171_161.out; have hnc56 := NB161_171.out; have hnb57 := NB171_166.out; have hnc57 := NB166_171.out; have hcz58_0 : w55.cell? ⟨gb171, 0, none⟩ = some (.int .i64 0) := (blk_cell BK171.out 0).trans rfl; have hcz58_1 : w55.cell? ⟨gb171, 1, none⟩ = some (.int .i64 0) := (blk_cell BK171.out 1).trans rfl; have hcz58_2 : w55.cell? ⟨gb171, 2, none⟩ = some (.int .i64 0) := (blk_cell BK171.out 2).trans rfl; have hcz58_3 : w55.cell? ⟨gb171, 3, none⟩ = some (.int .i64 0) := (blk_cell BK171.out 3).trans rfl; have hcz58_4 : w55.cell? ⟨gb171, 4, none⟩ = some (.int .i64 0) := (blk_cell BK171.out 4).trans rfl; have hcz58_5 : w55.cell? ⟨gb171, 5, none⟩ = some (.int .i64 0) := (blk_cell BK171.out 5).trans rfl; have hcz58_6 : w55.cell? ⟨gb171, 6, none⟩ = some (.bool false) := (blk_cell BK171.out 6).trans rfl; have hfz58_0 := blk_frozen BK171.out 0; have hfz58_1 := blk_frozen BK171.out 1; have hfz58_2 := blk_frozen BK171.out 2; have hfz58_3 := blk_frozen BK171.out 3; have hfz58_4 := blk_frozen BK171.out 4; have hfz58_5 := blk_frozen BK171.out 5; have hfz58_6 := blk_frozen BK171.out 6; have hcz59_0 : w55.cell? ⟨gb166, 0, none⟩ = some (.int .i64 ((rd_T88 l0_2 x28_2).f0)) := (blk_cell BK166.out 0).trans rfl; have hcz59_1 : w55.cell? ⟨gb166, 1, none⟩ = some (.int .i64 ((rd_T88 l0_2 x28_2).f1)) := (blk_cell BK166.out 1).trans rfl; have hcz59_2 : w55.cell? ⟨gb166, 2, none⟩ = some (.int .i64 ((rd_T88 l0_2 x28_2).f2)) := (blk_cell BK166.out 2).trans rfl; have hcz59_3 : w55.cell? ⟨gb166, 3, none⟩ = some (.int .i64 ((rd_T88 l0_2 x28_2).f3)) := (blk_cell BK166.out 3).trans rfl; have hcz59_4 : w55.cell? ⟨gb166, 4, none⟩ = some (.int .i64 ((rd_T88 l0_2 x28_2).f4)) := (blk_cell BK166.out 4).trans rfl; have hcz59_5 : w55.cell? ⟨gb166, 5, none⟩ = some (.int .i64 ((rd_T88 l0_2 x28_2).f5)) := (blk_cell BK166.out 5).trans rfl; have hcz59_6 : w55.cell? ⟨gb166, 6, none⟩ = some (.bool ((rd_T88 l0_2 x28_2).f6)) := (blk_cell BK166.out 6).trans rfl; have hfz59_0 := blk_frozen BK166.out 0; have hfz59_1 := blk_frozen BK166.out 1; have hfz59_2 := blk_frozen BK166.out 2; have hfz59_3 := blk_frozen BK166.out 3; have hfz59_4 := blk_frozen BK166.out 4; have hfz59_5 := blk_frozen BK166.out 5; have hfz59_6 := blk_frozen BK166.out 6))
                                  go_ret
                                  exact ⟨by first | rfl | (simp [errW_none, errW_some] <;> rfl) | (simp only [← hji48]; first | rfl | (simp [errW_none, errW_some] <;> rfl)) | (simp [*, errW_none, errW_some] <;> rfl), by repeat (first | (with_reducible first | exact HB.out | apply below_alloc | apply pw_below_drewN | apply below_drew1 | refine below_set ?_ GE161.out | refine below_set ?_ GE166.out | refine below_set ?_ GE171.out) | exact HB.out)⟩
                                · rw [if_neg c52] at H
                                  have c52b0 : (((rd_T88 l0_2 (ji48)).f1) == ((rd_T88 l0_2 x28_2).f1)) = false := beq_eq_false_iff_ne.mpr c52
                                  have c52b1 : (((rd_T88 l0_2 (ji48)).f1) != ((rd_T88 l0_2 x28_2).f1)) = true := bne_iff_ne.mpr c52
                                  replace H := Option.bind_eq_some_iff.mp H
                                  obtain ⟨t172, A600, H⟩ := H
                                  replace H : (if t172 > 1 then (some false) else ((impl_dist.f ((rd_T88 l0_2 (ji48)).f1) ((rd_T88 l0_2 x28_2).f1)).bind fun t173 => (if t173 > 1 then (some false) else (if ((rd_T88 l0_2 (ji48)).f2) > ((rd_T88 l0_2 x28_2).f3) then (some false) else (if ((rd_T88 l0_2 x28_2).f2) > ((rd_T88 l0_2 (ji48)).f3) then (some false) else (impl_FlyPathOk.l0 kj21 l0_2 (l0_2.length : Int) (wrap64 (x28_2 + 1)) a0_0 a0_1 l0_2 a0_3 a0_4)))))) = some r := H
                                  have A60 := Aside0.mk A600
                                  clear A600
                                  by_cases c61 : t172 > 1
                                  · rw [if_pos c61] at H
                                    have c61b0 : decide (1 < t172) = true := decide_eq_true c61
                                    clear c61
                                    obtain rfl := Option.some.inj H
                                    have hnb62 := NB161_166.out
                                    have hnc62 := NB166_161.out
                                    have hcz63_0 : wc.cell? ⟨gb161, 0, none⟩ = some (.int .i64 a0_0) := (blk_cell BK161.out 0).trans rfl
                                    have hcz63_1 : wc.cell? ⟨gb161, 1, none⟩ = some (.int .i64 a0_1) := (blk_cell BK161.out 1).trans rfl
                                    have hcz63_2 : wc.cell? ⟨gb161, 2, none⟩ = some (.slice (some ad165) l0_2.length c0_2) := (blk_cell BK161.out 2).trans rfl
                                    have hcz63_3 : wc.cell? ⟨gb161, 3, none⟩ = some (.int .i64 a0_3) := (blk_cell BK161.out 3).trans rfl
                                    have hcz63_4 : wc.cell? ⟨gb161, 4, none⟩ = some (.int .i64 a0_4) := (blk_cell BK161.out 4).trans rfl
                                    have hfz63_0 := blk_frozen BK161.out 0
                                    have hfz63_1 := blk_frozen BK161.out 1
                                    have hfz63_2 := blk_frozen BK161.out 2
                                    have hfz63_3 := blk_frozen BK161.out 3
                                    have hfz63_4 := blk_frozen BK161.out 4
                                    have p170 : 0 ≤ ((ji48) : Int) := of_decide_eq_true (by first | (with_reducible assumption) | assumption)
                                    have q170 : (ji48) < (l0_2.length : Int) := of_decide_eq_true (by first | (with_reducible assumption) | assumption)
                                    obtain ⟨ad170, e170, hx170_0, hx170_1, hx170_2, hx170_3, hx170_4, hx170_5, hx170_6⟩ := at_T88 HR0_2.out (ji48) p170 q170
                                    obtain rfl : ad165 = ad170 := (by injection e170)
                                    replace hx170_0 := (HB.out.cell (World.block_lt_of_cell? w _ hx170_0)).trans hx170_0
                                    replace hx170_1 := (HB.out.cell (World.block_lt_of_cell? w _ hx170_1)).trans hx170_1
                                    replace hx170_2 := (HB.out.cell (World.block_lt_of_cell? w _ hx170_2)).trans hx170_2
                                    replace hx170_3 := (HB.out.cell (World.block_lt_of_cell? w _ hx170_3)).trans hx170_3
                                    replace hx170_4 := (HB.out.cell (World.block_lt_of_cell? w _ hx170_4)).trans hx170_4
                                    replace hx170_5 := (HB.out.cell (World.block_lt_of_cell? w _ hx170_5)).trans hx170_5
                                    replace hx170_6 := (HB.out.cell (World.block_lt_of_cell? w _ hx170_6)).trans hx170_6
                                    replace p170 := eq_true p170
                                    replace q170 := eq_true q170
                                    go_wp2_with (first | ((with_reducible refine gate_dst (N := 5) rfl ?_); (try (refine gate_guard (by rfl) ?_; dsimp only)); refine box_event ?hg (N := 5) ?hd (cs := #[.int .i64 0, .int .i64 0, .int .i64 0, .int .i64 0, .int .i64 0, .int .i64 0, .bool false]) (t := 88) ?hr ?_; (case hd => rfl); (case hg => rfl); (case hr => first | (go_simp; done) | (go_simp; rfl)); intro gb171 hg w64 hbox hb; have n0_ := Aside0.mk (blk_below (g := gb161) (o := .cells #[.int .i64 a0_0, .int .i64 a0_1, .slice (some ad165) l0_2.length c0_2, .int .i64 a0_3, .int .i64 a0_4] 34 (0, 0)) (by (with_reducible repeat (first | refine blk_drewN ?_ _ | refine blk_drew ?_ | refine blk_alloc ?_ _)); exact BK161.out) hb); have n1_ := Aside0.mk (blk_below (g := gb166) (o := .cells #[.int .i64 ((rd_T88 l0_2 x28_2).f0), .int .i64 ((rd_T88 l0_2 x28_2).f1), .int .i64 ((rd_T88 l0_2 x28_2).f2), .int .i64 ((rd_T88 l0_2 x28_2).f3), .int .i64 ((rd_T88 l0_2 x28_2).f4), .int .i64 ((rd_T88 l0_2 x28_2).f5), .bool ((rd_T88 l0_2 x28_2).f6)] 88 (0, 0)) (by (with_reducible repeat (first | refine blk_drewN ?_ _ | refine blk_drew ?_ | refine blk_alloc ?_ _)); exact BK166.out) hb); have n2_ := Aside0.mk (below_step (by repeat (first | (with_reducible first | exact HB.out | apply below_alloc | apply pw_below_drewN | apply below_drew1 | refine below_set ?_ GE161.out | refine below_set ?_ GE166.out) | exact HB.out)) hb); have n3_ := Aside0.mk (hbox); have n4_ := Aside0.mk ((by rw [hg]; exact (below_size (by repeat (first | (with_reducible first | exact HB.out | apply below_alloc | apply pw_below_drewN | apply below_drew1 | refine below_set ?_ GE161.out | refine below_set ?_ GE166.out) | exact HB.out))) : w.heap.size ≤ gb171)); have n5_ := Aside0.mk ((by rw [hg]; exact (below_size (by repeat (first | (with_reducible first | exact HB.out | apply below_alloc | apply pw_below_drewN | apply below_drew1 | refine below_set ?_ GE161.out | refine below_set ?_ GE166.out) | exact HB.out))) : w.heap.size ≤ gb171)); have n6_ := Aside0.mk ((by rw [hg]; exact Nat.ne_of_lt (blk_lt (g := gb161) (o := .cells #[.int .i64 a0_0, .int .i64 a0_1, .slice (some ad165) l0_2.length c0_2, .int .i64 a0_3, .int .i64 a0_4] 34 (0, 0)) (by (with_reducible repeat (first | refine blk_drewN ?_ _ | refine blk_drew ?_ | refine blk_alloc ?_ _)); exact BK161.out)) : gb161 ≠ gb171)); have n7_ := Aside0.mk ((by rw [hg]; exact Nat.ne_of_gt (blk_lt (g := gb161) (o := .cells #[.int .i64 a0_0, .int .i64 a0_1, .slice (some ad165) l0_2.length c0_2, .int .i64 a0_3, .int .i64 a0_4] 34 (0, 0)) (by (with_reducible repeat (first | refine blk_drewN ?_ _ | refine blk_drew ?_ | refine blk_alloc ?_ _)); exact BK161.out)) : gb171 ≠ gb161)); have n8_ := Aside0.mk ((by rw [hg]; exact Nat.ne_of_lt (blk_lt (g := gb166) (o := .cells #[.int .i64 ((rd_T88 l0_2 x28_2).f0), .int .i64 ((rd_T88 l0_2 x28_2).f1), .int .i64 ((rd_T88 l0_2 x28_2).f2), .int .i64 ((rd_T88 l0_2 x28_2).f3), .int .i64 ((rd_T88 l0_2 x28_2).f4), .int .i64 ((rd_T88 l0_2 x28_2).f5), .bool ((rd_T88 l0_2 x28_2).f6)] 88 (0, 0)) (by (with_reducible repeat (first | refine blk_drewN ?_ _ | refine blk_drew ?_ | refine blk_alloc ?_ _)); exact BK166.out)) : gb166 ≠ gb171)); have n9_ := Aside0.mk ((by rw [hg]; exact Nat.ne_of_gt (blk_lt (g := gb166) (o := .cells #[.int .i64 ((rd_T88 l0_2 x28_2).f0), .int .i64 ((rd_T88 l0_2 x28_2).f1), .int .i64 ((rd_T88 l0_2 x28_2).f2), .int .i64 ((rd_T88 l0_2 x28_2).f3), .int .i64 ((rd_T88 l0_2 x28_2).f4), .int .i64 ((rd_T88 l0_2 x28_2).f5), .bool ((rd_T88 l0_2 x28_2).f6)] 88 (0, 0)) (by (with_reducible repeat (first | refine blk_drewN ?_ _ | refine blk_drew ?_ | refine blk_alloc ?_ _)); exact BK166.out)) : gb171 ≠ gb166)); clear BK161; clear BK166; clear HB; have BK161 := n0_; have BK166 := n1_; have HB := n2_; have BK171 := n3_; have GW171 := n4_; have GE171 := n5_; have NB161_171 := n6_; have NB171_161 := n7_; have NB166_171 := n8_; have NB171_166 := n9_; clear n0_ n1_ n2_ n3_ n4_ n5_ n6_ n7_ n8_ n9_; clear hb hbox hg; have hnb65 := NB171_161.out; have hnc65 := NB161_171.out; have hnb66 := NB171_166.out; have hnc66 := NB166_171.out; have hcz67_0 : w64.cell? ⟨gb171, 0, none⟩ = some (.int .i64 0) := (blk_cell BK171.out 0).trans rfl; have hcz67_1 : w64.cell? ⟨gb171, 1, none⟩ = some (.int .i64 0) := (blk_cell BK171.out 1).trans rfl; have hcz67_2 : w64.cell? ⟨gb171, 2, none⟩ = some (.int .i64 0) := (blk_cell BK171.out 2).trans rfl; have hcz67_3 : w64.cell? ⟨gb171, 3, none⟩ = some (.int .i64 0) := (blk_cell BK171.out 3).trans rfl; have hcz67_4 : w64.cell? ⟨gb171, 4, none⟩ = some (.int .i64 0) := (blk_cell BK171.out 4).trans rfl; have hcz67_5 : w64.cell? ⟨gb171, 5, none⟩ = some (.int .i64 0) := (blk_cell BK171.out 5).trans rfl; have hcz67_6 : w64.cell? ⟨gb171, 6, none⟩ = some (.bool false) := (blk_cell BK171.out 6).trans rfl; have hfz67_0 := blk_frozen BK171.out 0; have hfz67_1 := blk_frozen BK171.out 1; have hfz67_2 := blk_frozen BK171.out 2; have hfz67_3 := blk_frozen BK171.out 3; have hfz67_4 := blk_frozen BK171.out 4; have hfz67_5 := blk_frozen BK171.out 5; have hfz67_6 := blk_frozen BK171.out 6; have hcz68_0 : w64.cell? ⟨gb166, 0, none⟩ = some (.int .i64 ((rd_T88 l0_2 x28_2).f0)) := (blk_cell BK166.out 0).trans rfl; have hcz68_1 : w64.cell? ⟨gb166, 1, none⟩ = some (.int .i64 ((rd_T88 l0_2 x28_2).f1)) := (blk_cell BK166.out 1).trans rfl; have hcz68_2 : w64.cell? ⟨gb166, 2, none⟩ = some (.int .i64 ((rd_T88 l0_2 x28_2).f2)) := (blk_cell BK166.out 2).trans rfl; have hcz68_3 : w64.cell? ⟨gb166, 3, none⟩ = some (.int .i64 ((rd_T88 l0_2 x28_2).f3)) := (blk_cell BK166.out 3).trans rfl; have hcz68_4 : w64.cell? ⟨gb166, 4, none⟩ = some (.int .i64 ((rd_T88 l0_2 x28_2).f4)) := (blk_cell BK166.out 4).trans rfl; have hcz68_5 : w64.cell? ⟨gb166, 5, none⟩ = some (.int .i64 ((rd_T88 l0_2 x28_2).f5)) := (blk_cell BK166.out 5).trans rfl; have hcz68_6 : w64.cell? ⟨gb166, 6, none⟩ = some (.bool ((rd_T88 l0_2 x28_2).f6)) := (blk_cell BK166.out 6).trans rfl; have hfz68_0 := blk_frozen BK166.out 0; have hfz68_1 := blk_frozen BK166.out 1; have hfz68_2 := blk_frozen BK166.out 2; have hfz68_3 := blk_frozen BK166.out 3; have hfz68_4 := blk_frozen BK166.out 4; have hfz68_5 := blk_frozen BK166.out 5; have hfz68_6 := blk_frozen BK166.out 6) | (go_at_call 79; (with_reducible refine (impl_dist.calls ((rd_T88 l0_2 (ji48)).f0) ((rd_T88 l0_2 x28_2).f0) t172 _ A60.out).mono ?_); rintro e w' ⟨rfl, ⟨nd, rfl⟩⟩))
                                    go_ret
                                    exact ⟨by first | rfl | (simp [errW_none, errW_some] <;> rfl) | (simp only [← hji48]; first | rfl | (simp [errW_none, errW_some] <;> rfl)) | (simp [*, errW_none, errW_some] <;> rfl), by repeat (first | (with_reducible first | exact HB.out | apply below_alloc | apply pw_below_drewN | apply below_drew1 | refine below_set ?_ GE161.out | refine below_set ?_ GE166.out | refine below_set ?_ GE171.out) | exact HB.out)⟩
                                  · rw [if_neg c61] at H
                                    have c61b0 : decide (1 < t172) = false := decide_eq_false c61
                                    clear c61
                                    replace H := Option.bind_eq_some_iff.mp H
                                    obtain ⟨t173, A690, H⟩ := H
                                    replace H : (if t173 > 1 then (some false) else (if ((rd_T88 l0_2 (ji48)).f2) > ((rd_T88 l0_2 x28_2).f3) then (some false) else (if ((rd_T88 l0_2 x28_2).f2) > ((rd_T88 l0_2 (ji48)).f3) then (some false) else (impl_FlyPathOk.l0 kj21 l0_2 (l0_2.length : Int) (wrap64 (x28_2 + 1)) a0_0 a0_1 l0_2 a0_3 a0_4)))) = some r := H
                                    have A69 := Aside0.mk A690
                                    clear A690
                                    by_cases c70 : t173 > 1
                                    · rw [if_pos c70] at H
                                      have c70b0 : decide (1 < t173) = true := decide_eq_true c70
                                      clear c70
                                      obtain rfl := Option.some.inj H
                                      have hnb71 := NB161_166.out
                                      have hnc71 := NB166_161.out
                                      have hcz72_0 : wc.cell? ⟨gb161, 0, none⟩ = some (.int .i64 a0_0) := (blk_cell BK161.out 0).trans rfl
                                      have hcz72_1 : wc.cell? ⟨gb161, 1, none⟩ = some (.int .i64 a0_1) := (blk_cell BK161.out 1).trans rfl
                                      have hcz72_2 : wc.cell? ⟨gb161, 2, none⟩ = some (.slice (some ad165) l0_2.length c0_2) := (blk_cell BK161.out 2).trans rfl
                                      have hcz72_3 : wc.cell? ⟨gb161, 3, none⟩ = some (.int .i64 a0_3) := (blk_cell BK161.out 3).trans rfl
                                      have hcz72_4 : wc.cell? ⟨gb161, 4, none⟩ = some (.int .i64 a0_4) := (blk_cell BK161.out 4).trans rfl
                                      have hfz72_0 := blk_frozen BK161.out 0
                                      have hfz72_1 := blk_frozen BK161.out 1
                                      have hfz72_2 := blk_frozen BK161.out 2
                                      have hfz72_3 := blk_frozen BK161.out 3
                                      have hfz72_4 := blk_frozen BK161.out 4
                                      have p170 : 0 ≤ ((ji48) : Int) := of_decide_eq_true (by first | (with_reducible assumption) | assumption)
                                      have q170 : (ji48) < (l0_2.length : Int) := of_decide_eq_true (by first | (with_reducible assumption) | assumption)
                                      obtain ⟨ad170, e170, hx170_0, hx170_1, hx170_2, hx170_3, hx170_4, hx170_5, hx170_6⟩ := at_T88 HR0_2.out (ji48) p170 q170
                                      obtain rfl : ad165 = ad170 := (by injection e170)
                                      replace hx170_0 := (HB.out.cell (World.block_lt_of_cell? w _ hx170_0)).trans hx170_0
                                      replace hx170_1 := (HB.out.cell (World.block_lt_of_cell? w _ hx170_1)).trans hx170_1
                                      replace hx170_2 := (HB.out.cell (World.block_lt_of_cell? w _ hx170_2)).trans hx170_2
                                      replace hx170_3 := (HB.out.cell (World.block_lt_of_cell? w _ hx170_3)).trans hx170_3
                                      replace hx170_4 := (HB.out.cell (World.block_lt_of_cell? w _ hx170_4)).trans hx170_4
                                      replace hx170_5 := (HB.out.cell (World.block_lt_of_cell? w _ hx170_5)).trans hx170_5
                                      replace hx170_6 := (HB.out.cell (World.block_lt_of_cell? w _ hx170_6)).trans hx170_6
                                      replace p170 := eq_true p170
                                      replace q170 := eq_true q170
                                      go_wp2_with (first | ((with_reducible refine gate_dst (N := 5) rfl ?_); (try (refine gate_guard (by rfl) ?_; dsimp only)); refine box_event ?hg (N := 5) ?hd (cs := #[.int .i64 0, .int .i64 0, .int .i64 0, .int .i64 0, .int .i64 0, .int .i64 0, .bool false]) (t := 88) ?hr ?_; (case hd => rfl); (case hg => rfl); (case hr => first | (go_simp; done) | (go_simp; rfl)); intro gb171 hg w73 hbox hb; have n0_ := Aside0.mk (blk_below (g := gb161) (o := .cells #[.int .i64 a0_0, .int .i64 a0_1, .slice (some ad165) l0_2.length c0_2, .int .i64 a0_3, .int .i64 a0_4] 34 (0, 0)) (by (with_reducible repeat (first | refine blk_drewN ?_ _ | refine blk_drew ?_ | refine blk_alloc ?_ _)); exact BK161.out) hb); have n1_ := Aside0.mk (blk_below (g := gb166) (o := .cells #[.int .i64 ((rd_T88 l0_2 x28_2).f0), .int .i64 ((rd_T88 l0_2 x28_2).f1), .int .i64 ((rd_T88 l0_2 x28_2).f2), .int .i64 ((rd_T88 l0_2 x28_2).f3), .int .i64 ((rd_T88 l0_2 x28_2).f4), .int .i64 ((rd_T88 l0_2 x28_2).f5), .bool ((rd_T88 l0_2 x28_2).f6)] 88 (0, 0)) (by (with_reducible repeat (first | refine blk_drewN ?_ _ | refine blk_drew ?_ | refine blk_alloc ?_ _)); exact BK166.out) hb); have n2_ := Aside0.mk (below_step (by repeat (first | (with_reducible first | exact HB.out | apply below_alloc | apply pw_below_drewN | apply below_drew1 | refine below_set ?_ GE161.out | refine below_set ?_ GE166.out) | exact HB.out)) hb); have n3_ := Aside0.mk (hbox); have n4_ := Aside0.mk ((by rw [hg]; exact (below_size (by repeat (first | (with_reducible first | exact HB.out | apply below_alloc | apply pw_below_drewN | apply below_drew1 | refine below_set ?_ GE161.out | refine below_set ?_ GE166.out) | exact HB.out))) : w.heap.size ≤ gb171)); have n5_ := Aside0.mk ((by rw [hg]; exact (below_size (by repeat (first | (with_reducible first | exact HB.out | apply below_alloc | apply pw_below_drewN | apply below_drew1 | refine below_set ?_ GE161.out | refine below_set ?_ GE166.out) | exact HB.out))) : w.heap.size ≤ gb171)); have n6_ := Aside0.mk ((by rw [hg]; exact Nat.ne_of_lt (blk_lt (g := gb161) (o := .cells #[.int .i64 a0_0, .int .i64 a0_1, .slice (some ad165) l0_2.length c0_2, .int .i64 a0_3, .int .i64 a0_4] 34 (0, 0)) (by (with_reducible repeat (first | refine blk_drewN ?_ _ | refine blk_drew ?_ | refine blk_alloc ?_ _)); exact BK161.out)) : gb161 ≠ gb171)); have n7_ := Aside0.mk ((by rw [hg]; exact Nat.ne_of_gt (blk_lt (g := gb161) (o := .cells #[.int .i64 a0_0, .int .i64 a0_1, .slice (some ad165) l0_2.length c0_2, .int .i64 a0_3, .int .i64 a0_4] 34 (0, 0)) (by (with_reducible repeat (first | refine blk_drewN ?_ _ | refine blk_drew ?_ | refine blk_alloc ?_ _)); exact BK161.out)) : gb171 ≠ gb161)); have n8_ := Aside0.mk ((by rw [hg]; exact Nat.ne_of_lt (blk_lt (g := gb166) (o := .cells #[.int .i64 ((rd_T88 l0_2 x28_2).f0), .int .i64 ((rd_T88 l0_2 x28_2).f1), .int .i64 ((rd_T88 l0_2 x28_2).f2), .int .i64 ((rd_T88 l0_2 x28_2).f3), .int .i64 ((rd_T88 l0_2 x28_2).f4), .int .i64 ((rd_T88 l0_2 x28_2).f5), .bool ((rd_T88 l0_2 x28_2).f6)] 88 (0, 0)) (by (with_reducible repeat (first | refine blk_drewN ?_ _ | refine blk_drew ?_ | refine blk_alloc ?_ _)); exact BK166.out)) : gb166 ≠ gb171)); have n9_ := Aside0.mk ((by rw [hg]; exact Nat.ne_of_gt (blk_lt (g := gb166) (o := .cells #[.int .i64 ((rd_T88 l0_2 x28_2).f0), .int .i64 ((rd_T88 l0_2 x28_2).f1), .int .i64 ((rd_T88 l0_2 x28_2).f2), .int .i64 ((rd_T88 l0_2 x28_2).f3), .int .i64 ((rd_T88 l0_2 x28_2).f4), .int .i64 ((rd_T88 l0_2 x28_2).f5), .bool ((rd_T88 l0_2 x28_2).f6)] 88 (0, 0)) (by (with_reducible repeat (first | refine blk_drewN ?_ _ | refine blk_drew ?_ | refine blk_alloc ?_ _)); exact BK166.out)) : gb171 ≠ gb166)); clear BK161; clear BK166; clear HB; have BK161 := n0_; have BK166 := n1_; have HB := n2_; have BK171 := n3_; have GW171 := n4_; have GE171 := n5_; have NB161_171 := n6_; have NB171_161 := n7_; have NB166_171 := n8_; have NB171_166 := n9_; clear n0_ n1_ n2_ n3_ n4_ n5_ n6_ n7_ n8_ n9_; clear hb hbox hg; have hnb74 := NB171_161.out; have hnc74 := NB161_171.out; have hnb75 := NB171_166.out; have hnc75 := NB166_171.out; have hcz76_0 : w73.cell? ⟨gb171, 0, none⟩ = some (.int .i64 0) := (blk_cell BK171.out 0).trans rfl; have hcz76_1 : w73.cell? ⟨gb171, 1, none⟩ = some (.int .i64 0) := (blk_cell BK171.out 1).trans rfl; have hcz76_2 : w73.cell? ⟨gb171, 2, none⟩ = some (.int .i64 0) := (blk_cell BK171.out 2).trans rfl; have hcz76_3 : w73.cell? ⟨gb171, 3, none⟩ = some (.int .i64 0) := (blk_cell BK171.out 3).trans rfl; have hcz76_4 : w73.cell? ⟨gb171, 4, none⟩ = some (.int .i64 0) := (blk_cell BK171.out 4).trans rfl; have hcz76_5 : w73.cell? ⟨gb171, 5, none⟩ = some (.int .i64 0) := (blk_cell BK171.out 5).trans rfl; have hcz76_6 : w73.cell? ⟨gb171, 6, none⟩ = some (.bool false) := (blk_cell BK171.out 6).trans rfl; have hfz76_0 := blk_frozen BK171.out 0; have hfz76_1 := blk_frozen BK171.out 1; have hfz76_2 := blk_frozen BK171.out 2; have hfz76_3 := blk_frozen BK171.out 3; have hfz76_4 := blk_frozen BK171.out 4; have hfz76_5 := blk_frozen BK171.out 5; have hfz76_6 := blk_frozen BK171.out 6; have hcz77_0 : w73.cell? ⟨gb166, 0, none⟩ = some (.int .i64 ((rd_T88 l0_2 x28_2).f0)) := (blk_cell BK166.out 0).trans rfl; have hcz77_1 : w73.cell? ⟨gb166, 1, none⟩ = some (.int .i64 ((rd_T88 l0_2 x28_2).f1)) := (blk_cell BK166.out 1).trans rfl; have hcz77_2 : w73.cell? ⟨gb166, 2, none⟩ = some (.int .i64 ((rd_T88 l0_2 x28_2).f2)) := (blk_cell BK166.out 2).trans rfl; have hcz77_3 : w73.cell? ⟨gb166, 3, none⟩ = some (.int .i64 ((rd_T88 l0_2 x28_2).f3)) := (blk_cell BK166.out 3).trans rfl; have hcz77_4 : w73.cell? ⟨gb166, 4, none⟩ = some (.int .i64 ((rd_T88 l0_2 x28_2).f4)) := (blk_cell BK166.out 4).trans rfl; have hcz77_5 : w73.cell? ⟨gb166, 5, none⟩ = some (.int .i64 ((rd_T88 l0_2 x28_2).f5)) := (blk_cell BK166.out 5).trans rfl; have hcz77_6 : w73.cell? ⟨gb166, 6, none⟩ = some (.bool ((rd_T88 l0_2 x28_2).f6)) := (blk_cell BK166.out 6).trans rfl; have hfz77_0 := blk_frozen BK166.out 0; have hfz77_1 := blk_frozen BK166.out 1; have hfz77_2 := blk_frozen BK166.out 2; have hfz77_3 := blk_frozen BK166.out 3; have hfz77_4 := blk_frozen BK166.out 4; have hfz77_5 := blk_frozen BK166.out 5; have hfz77_6 := blk_frozen BK166.out 6) | (go_at_call 79; (with_reducible refine (impl_dist.calls ((rd_T88 l0_2 (ji48)).f0) ((rd_T88 l0_2 x28_2).f0) t172 _ A60.out).mono ?_); rintro e w' ⟨rfl, ⟨nd, rfl⟩⟩) | (go_at_call 79; (with_reducible refine (impl_dist.calls ((rd_T88 l0_2 (ji48)).f1) ((rd_T88 l0_2 x28_2).f1) t173 _ A69.out).mono ?_); rintro e w' ⟨rfl, ⟨nd, rfl⟩⟩))
                                      go_ret
                                      exact ⟨by first | rfl | (simp [errW_none, errW_some] <;> rfl) | (simp only [← hji48]; first | rfl | (simp [errW_none, errW_some] <;> rfl)) | (simp [*, errW_none, errW_some] <;> rfl), by repeat (first | (with_reducible first | exact HB.out | apply below_alloc | apply pw_below_drewN | apply below_drew1 | refine below_set ?_ GE161.out | refine below_set ?_ GE166.out | refine below_set ?_ GE171.out) | exact HB.out)⟩
                                    · rw [if_neg c70] at H
                                      have c70b0 : decide (1 < t173) = false := decide_eq_false c70
                                      clear c70
                                      by_cases c78 : ((rd_T88 l0_2 (ji48)).f2) > ((rd_T88 l0_2 x28_2).f3)
                                      · rw [if_pos c78] at H
                                        have c78b0 : decide (((rd_T88 l0_2 x28_2).f3) < ((rd_T88 l0_2 (ji48)).f2)) = true := decide_eq_true c78
                                        clear c78
                                        obtain rfl := Option.some.inj H
                                        have hnb79 := NB161_166.out
                                        have hnc79 := NB166_161.out
                                        have hcz80_0 : wc.cell? ⟨gb161, 0, none⟩ = some (.int .i64 a0_0) := (blk_cell BK161.out 0).trans rfl
                                        have hcz80_1 : wc.cell? ⟨gb161, 1, none⟩ = some (.int .i64 a0_1) := (blk_cell BK161.out 1).trans rfl
                                        have hcz80_2 : wc.cell? ⟨gb161, 2, none⟩ = some (.slice (some ad165) l0_2.length c0_2) := (blk_cell BK161.out 2).trans rfl
                                        have hcz80_3 : wc.cell? ⟨gb161, 3, none⟩ = some (.int .i64 a0_3) := (blk_cell BK161.out 3).trans rfl
                                        have hcz80_4 : wc.cell? ⟨gb161, 4, none⟩ = some (.int .i64 a0_4) := (blk_cell BK161.out 4).trans rfl
                                        have hfz80_0 := blk_frozen BK161.out 0
                                        have hfz80_1 := blk_frozen BK161.out 1
                                        have hfz80_2 := blk_frozen BK161.out 2
                                        have hfz80_3 := blk_frozen BK161.out 3
                                        have hfz80_4 := blk_frozen BK161.out 4
                                        have p170 : 0 ≤ ((ji48) : Int) := of_decide_eq_true (by first | (with_reducible assumption) | assumption)
                                        have q170 : (ji48) < (l0_2.length : Int) := of_decide_eq_true (by first | (with_reducible assumption) | assumption)
                                        obtain ⟨ad170, e170, hx170_0, hx170_1, hx170_2, hx170_3, hx170_4, hx170_5, hx170_6⟩ := at_T88 HR0_2.out (ji48) p170 q170
                                        obtain rfl : ad165 = ad170 := (by injection e170)
                                        replace hx170_0 := (HB.out.cell (World.block_lt_of_cell? w _ hx170_0)).trans hx170_0
                                        replace hx170_1 := (HB.out.cell (World.block_lt_of_cell? w _ hx170_1)).trans hx170_1
                                        replace hx170_2 := (HB.out.cell (World.block_lt_of_cell? w _ hx170_2)).trans hx170_2
                                        replace hx170_3 := (HB.out.cell (World.block_lt_of_cell? w _ hx170_3)).trans hx170_3
                                        replace hx170_4 := (HB.out.cell (World.block_lt_of_cell? w _ hx170_4)).trans hx170_4
                                        replace hx170_5 := (HB.out.cell (World.block_lt_of_cell? w _ hx170_5)).trans hx170_5
                                        replace hx170_6 := (HB.out.cell (World.block_lt_of_cell? w _ hx170_6)).trans hx170_6
                                        replace p170 := eq_true p170
                                        replace q170 := eq_true q170
                                        go_wp2_with (first | ((with_reducible refine gate_dst (N := 5) rfl ?_); (try (refine gate_guard (by rfl) ?_; dsimp only)); refine box_event ?hg (N := 5) ?hd (cs := #[.int .i64 0, .int .i64 0, .int .i64 0, .int .i64 0, .int .i64 0, .int .i64 0, .bool false]) (t := 88) ?hr ?_; (case hd => rfl); (case hg => rfl); (case hr => first | (go_simp; done) | (go_simp; rfl)); intro gb171 hg w81 hbox hb; have n0_ := Aside0.mk (blk_below (g := gb161) (o := .cells #[.int .i64 a0_0, .int .i64 a0_1, .slice (some ad165) l0_2.length c0_2, .int .i64 a0_3, .int .i64 a0_4] 34 (0, 0)) (by (with_reducible repeat (first | refine blk_drewN ?_ _ | refine blk_drew ?_ | refine blk_alloc ?_ _)); exact BK161.out) hb); have n1_ := Aside0.mk (blk_below (g := gb166) (o := .cells #[.int .i64 ((rd_T88 l0_2 x28_2).f0), .int .i64 ((rd_T88 l0_2 x28_2).f1), .int .i64 ((rd_T88 l0_2 x28_2).f2), .int .i64 ((rd_T88 l0_2 x28_2).f3), .int .i64 ((rd_T88 l0_2 x28_2).f4), .int .i64 ((rd_T88 l0_2 x28_2).f5), .bool ((rd_T88 l0_2 x28_2).f6)] 88 (0, 0)) (by (with_reducible repeat (first | refine blk_drewN ?_ _ | refine blk_drew ?_ | refine blk_alloc ?_ _)); exact BK166.out) hb); have n2_ := Aside0.mk (below_step (by repeat (first | (with_reducible first | exact HB.out | apply below_alloc | apply pw_below_drewN | apply below_drew1 | refine below_set ?_ GE161.out | refine below_set ?_ GE166.out) | exact HB.out)) hb); have n3_ := Aside0.mk (hbox); have n4_ := Aside0.mk ((by rw [hg]; exact (below_size (by repeat (first | (with_reducible first | exact HB.out | apply below_alloc | apply pw_below_drewN | apply below_drew1 | refine below_set ?_ GE161.out | refine below_set ?_ GE166.out) | exact HB.out))) : w.heap.size ≤ gb171)); have n5_ := Aside0.mk ((by rw [hg]; exact (below_size (by repeat (first | (with_reducible first | exact HB.out | apply below_alloc | apply pw_below_drewN | apply below_drew1 | refine below_set ?_ GE161.out | refine below_set ?_ GE166.out) | exact HB.out))) : w.heap.size ≤ gb171)); have n6_ := Aside0.mk ((by rw [hg]; exact Nat.ne_of_lt (blk_lt (g := gb161) (o := .cells #[.int .i64 a0_0, .int .i64 a0_1, .slice (some ad165) l0_2.length c0_2, .int .i64 a0_3, .int .i64 a0_4] 34 (0, 0)) (by (with_reducible repeat (first | refine blk_drewN ?_ _ | refine blk_drew ?_ | refine blk_alloc ?_ _)); exact BK161.out)) : gb161 ≠ gb171)); have n7_ := Aside0.mk ((by rw [hg]; exact Nat.ne_of_gt (blk_lt (g := gb161) (o := .cells #[.int .i64 a0_0, .int .i64 a0_1, .slice (some ad165) l0_2.length c0_2, .int .i64 a0_3, .int .i64 a0_4] 34 (0, 0)) (by (with_reducible repeat (first | refine blk_drewN ?_ _ | refine blk_drew ?_ | refine blk_alloc ?_ _)); exact BK161.out)) : gb171 ≠ gb161)); have n8_ := Aside0.mk ((by rw [hg]; exact Nat.ne_of_lt (blk_lt (g := gb166) (o := .cells #[.int .i64 ((rd_T88 l0_2 x28_2).f0), .int .i64 ((rd_T88 l0_2 x28_2).f1), .int .i64 ((rd_T88 l0_2 x28_2).f2), .int .i64 ((rd_T88 l0_2 x28_2).f3), .int .i64 ((rd_T88 l0_2 x28_2).f4), .int .i64 ((rd_T88 l0_2 x28_2).f5), .bool ((rd_T88 l0_2 x28_2).f6)] 88 (0, 0)) (by (with_reducible repeat (first | refine blk_drewN ?_ _ | refine blk_drew ?_ | refine blk_alloc ?_ _)); exact BK166.out)) : gb166 ≠ gb171)); have n9_ := Aside0.mk ((by rw [hg]; exact Nat.ne_of_gt (blk_lt (g := gb166) (o := .cells #[.int .i64 ((rd_T88 l0_2 x28_2).f0), .int .i64 ((rd_T88 l0_2 x28_2).f1), .int .i64 ((rd_T88 l0_2 x28_2).f2), .int .i64 ((rd_T88 l0_2 x28_2).f3), .int .i64 ((rd_T88 l0_2 x28_2).f4), .int .i64 ((rd_T88 l0_2 x28_2).f5), .bool ((rd_T88 l0_2 x28_2).f6)] 88 (0, 0)) (by (with_reducible repeat (first | refine blk_drewN ?_ _ | refine blk_drew ?_ | refine blk_alloc ?_ _)); exact BK166.out)) : gb171 ≠ gb166)); clear BK161; clear BK166; clear HB; have BK161 := n0_; have BK166 := n1_; have HB := n2_; have BK171 := n3_; have GW171 := n4_; have GE171 := n5_; have NB161_171 := n6_; have NB171_161 := n7_; have NB166_171 := n8_; have NB171_166 := n9_; clear n0_ n1_ n2_ n3_ n4_ n5_ n6_ n7_ n8_ n9_; clear hb hbox hg; have hnb82 := NB171_161.out; have hnc82 := NB161_171.out; have hnb83 := NB171_166.out; have hnc83 := NB166_171.out; have hcz84_0 : w81.cell? ⟨gb171, 0, none⟩ = some (.int .i64 0) := (blk_cell BK171.out 0).trans rfl; have hcz84_1 : w81.cell? ⟨gb171, 1, none⟩ = some (.int .i64 0) := (blk_cell BK171.out 1).trans rfl; have hcz84_2 : w81.cell? ⟨gb171, 2, none⟩ = some (.int .i64 0) := (blk_cell BK171.out 2).trans rfl; have hcz84_3 : w81.cell? ⟨gb171, 3, none⟩ = some (.int .i64 0) := (blk_cell BK171.out 3).trans rfl; have hcz84_4 : w81.cell? ⟨gb171, 4, none⟩ = some (.int .i64 0) := (blk_cell BK171.out 4).trans rfl; have hcz84_5 : w81.cell? ⟨gb171, 5, none⟩ = some (.int .i64 0) := (blk_cell BK171.out 5).trans rfl; have hcz84_6 : w81.cell? ⟨gb171, 6, none⟩ = some (.bool false) := (blk_cell BK171.out 6).trans rfl; have hfz84_0 := blk_frozen BK171.out 0; have hfz84_1 := blk_frozen BK171.out 1; have hfz84_2 := blk_frozen BK171.out 2; have hfz84_3 := blk_frozen BK171.out 3; have hfz84_4 := blk_frozen BK171.out 4; have hfz84_5 := blk_frozen BK171.out 5; have hfz84_6 := blk_frozen BK171.out 6; have hcz85_0 : w81.cell? ⟨gb166, 0, none⟩ = some (.int .i64 ((rd_T88 l0_2 x28_2).f0)) := (blk_cell BK166.out 0).trans rfl; have hcz85_1 : w81.cell? ⟨gb166, 1, none⟩ = some (.int .i64 ((rd_T88 l0_2 x28_2).f1)) := (blk_cell BK166.out 1).trans rfl; have hcz85_2 : w81.cell? ⟨gb166, 2, none⟩ = some (.int .i64 ((rd_T88 l0_2 x28_2).f2)) := (blk_cell BK166.out 2).trans rfl; have hcz85_3 : w81.cell? ⟨gb166, 3, none⟩ = some (.int .i64 ((rd_T88 l0_2 x28_2).f3)) := (blk_cell BK166.out 3).trans rfl; have hcz85_4 : w81.cell? ⟨gb166, 4, none⟩ = some (.int .i64 ((rd_T88 l0_2 x28_2).f4)) := (blk_cell BK166.out 4).trans rfl; have hcz85_5 : w81.cell? ⟨gb166, 5, none⟩ = some (.int .i64 ((rd_T88 l0_2 x28_2).f5)) := (blk_cell BK166.out 5).trans rfl; have hcz85_6 : w81.cell? ⟨gb166, 6, none⟩ = some (.bool ((rd_T88 l0_2 x28_2).f6)) := (blk_cell BK166.out 6).trans rfl; have hfz85_0 := blk_frozen BK166.out 0; have hfz85_1 := blk_frozen BK166.out 1; have hfz85_2 := blk_frozen BK166.out 2; have hfz85_3 := blk_frozen BK166.out 3; have hfz85_4 := blk_frozen BK166.out 4; have hfz85_5 := blk_frozen BK166.out 5; have hfz85_6 := blk_frozen BK166.out 6) | (go_at_call 79; (with_reducible refine (impl_dist.calls ((rd_T88 l0_2 (ji48)).f0) ((rd_T88 l0_2 x28_2).f0) t172 _ A60.out).mono ?_); rintro e w' ⟨rfl, ⟨nd, rfl⟩⟩) | (go_at_call 79; (with_reducible refine (impl_dist.calls ((rd_T88 l0_2 (ji48)).f1) ((rd_T88 l0_2 x28_2).f1) t173 _ A69.out).mono ?_); rintro e w' ⟨rfl, ⟨nd, rfl⟩⟩))
                                        go_ret
                                        exact ⟨by first | rfl | (simp [errW_none, errW_some] <;> rfl) | (simp only [← hji48]; first | rfl | (simp [errW_none, errW_some] <;> rfl)) | (simp [*, errW_none, errW_some] <;> rfl), by repeat (first | (with_reducible first | exact HB.out | apply below_alloc | apply pw_below_drewN | apply below_drew1 | refine below_set ?_ GE161.out | refine below_set ?_ GE166.out | refine below_set ?_ GE171.out) | exact HB.out)⟩
                                      · rw [if_neg c78] at H
                                        have c78b0 : decide (((rd_T88 l0_2 x28_2).f3) < ((rd_T88 l0_2 (ji48)).f2)) = false := decide_eq_false c78
                                        clear c78
                                        by_cases c86 : ((rd_T88 l0_2 x28_2).f2) > ((rd_T88 l0_2 (ji48)).f3)
                                        · rw [if_pos c86] at H
                                          have c86b0 : decide (((rd_T88 l0_2 (ji48)).f3) < ((rd_T88 l0_2 x28_2).f2)) = true := decide_eq_true c86
                                          clear c86
                                          obtain rfl := Option.some.inj H
                                          have hnb87 := NB161_166.out
                                          have hnc87 := NB166_161.out
                                          have hcz88_0 : wc.cell? ⟨gb161, 0, none⟩ = some (.int .i64 a0_0) := (blk_cell BK161.out 0).trans rfl
                                          have hcz88_1 : wc.cell? ⟨gb161, 1, none⟩ = some (.int .i64 a0_1) := (blk_cell BK161.out 1).trans rfl
                                          have hcz88_2 : wc.cell? ⟨gb161, 2, none⟩ = some (.slice (some ad165) l0_2.length c0_2) := (blk_cell BK161.out 2).trans rfl
                                          have hcz88_3 : wc.cell? ⟨gb161, 3, none⟩ = some (.int .i64 a0_3) := (blk_cell BK161.out 3).trans rfl
                                          have hcz88_4 : wc.cell? ⟨gb161, 4, none⟩ = some (.int .i64 a0_4) := (blk_cell BK161.out 4).trans rfl
                                          have hfz88_0 := blk_frozen BK161.out 0
                                          have hfz88_1 := blk_frozen BK161.out 1
                                          have hfz88_2 := blk_frozen BK161.out 2
                                          have hfz88_3 := blk_frozen BK161.out 3
                                          have hfz88_4 := blk_frozen BK161.out 4
                                          have p170 : 0 ≤ ((ji48) : Int) := of_decide_eq_true (by first | (with_reducible assumption) | assumption)
                                          have q170 : (ji48) < (l0_2.length : Int) := of_decide_eq_true (by first | (with_reducible assumption) | assumption)
                                          obtain ⟨ad170, e170, hx170_0, hx170_1, hx170_2, hx170_3, hx170_4, hx170_5, hx170_6⟩ := at_T88 HR0_2.out (ji48) p170 q170
                                          obtain rfl : ad165 = ad170 := (by injection e170)
                                          replace hx170_0 := (HB.out.cell (World.block_lt_of_cell? w _ hx170_0)).trans hx170_0
                                          replace hx170_1 := (HB.out.cell (World.block_lt_of_cell? w _ hx170_1)).trans hx170_1
                                          replace hx170_2 := (HB.out.cell (World.block_lt_of_cell? w _ hx170_2)).trans hx170_2
                                          replace hx170_3 := (HB.out.cell (World.block_lt_of_cell? w _ hx170_3)).trans hx170_3
                                          replace hx170_4 := (HB.out.cell (World.block_lt_of_cell? w _ hx170_4)).trans hx170_4
                                          replace hx170_5 := (HB.out.cell (World.block_lt_of_cell? w _ hx170_5)).trans hx170_5
                                          replace hx170_6 := (HB.out.cell (World.block_lt_of_cell? w _ hx170_6)).trans hx170_6
                                          replace p170 := eq_true p170
                                          replace q170 := eq_true q170
                                          go_wp2_with (first | ((with_reducible refine gate_dst (N := 5) rfl ?_); (try (refine gate_guard (by rfl) ?_; dsimp only)); refine box_event ?hg (N := 5) ?hd (cs := #[.int .i64 0, .int .i64 0, .int .i64 0, .int .i64 0, .int .i64 0, .int .i64 0, .bool false]) (t := 88) ?hr ?_; (case hd => rfl); (case hg => rfl); (case hr => first | (go_simp; done) | (go_simp; rfl)); intro gb171 hg w89 hbox hb; have n0_ := Aside0.mk (blk_below (g := gb161) (o := .cells #[.int .i64 a0_0, .int .i64 a0_1, .slice (some ad165) l0_2.length c0_2, .int .i64 a0_3, .int .i64 a0_4] 34 (0, 0)) (by (with_reducible repeat (first | refine blk_drewN ?_ _ | refine blk_drew ?_ | refine blk_alloc ?_ _)); exact BK161.out) hb); have n1_ := Aside0.mk (blk_below (g := gb166) (o := .cells #[.int .i64 ((rd_T88 l0_2 x28_2).f0), .int .i64 ((rd_T88 l0_2 x28_2).f1), .int .i64 ((rd_T88 l0_2 x28_2).f2), .int .i64 ((rd_T88 l0_2 x28_2).f3), .int .i64 ((rd_T88 l0_2 x28_2).f4), .int .i64 ((rd_T88 l0_2 x28_2).f5), .bool ((rd_T88 l0_2 x28_2).f6)] 88 (0, 0)) (by (with_reducible repeat (first | refine blk_drewN ?_ _ | refine blk_drew ?_ | refine blk_alloc ?_ _)); exact BK166.out) hb); have n2_ := Aside0.mk (below_step (by repeat (first | (with_reducible first | exact HB.out | apply below_alloc | apply pw_below_drewN | apply below_drew1 | refine below_set ?_ GE161.out | refine below_set ?_ GE166.out) | exact HB.out)) hb); have n3_ := Aside0.mk (hbox); have n4_ := Aside0.mk ((by rw [hg]; exact (below_size (by repeat (first | (with_reducible first | exact HB.out | apply below_alloc | apply pw_below_drewN | apply below_drew1 | refine below_set ?_ GE161.out | refine below_set ?_ GE166.out) | exact HB.out))) : w.heap.size ≤ gb171)); have n5_ := Aside0.mk ((by rw [hg]; exact (below_size (by repeat (first | (with_reducible first | exact HB.out | apply below_alloc | apply pw_below_drewN | apply below_drew1 | refine below_set ?_ GE161.out | refine below_set ?_ GE166.out) | exact HB.out))) : w.heap.size ≤ gb171)); have n6_ := Aside0.mk ((by rw [hg]; exact Nat.ne_of_lt (blk_lt (g := gb161) (o := .cells #[.int .i64 a0_0, .int .i64 a0_1, .slice (some ad165) l0_2.length c0_2, .int .i64 a0_3, .int .i64 a0_4] 34 (0, 0)) (by (with_reducible repeat (first | refine blk_drewN ?_ _ | refine blk_drew ?_ | refine blk_alloc ?_ _)); exact BK161.out)) : gb161 ≠ gb171)); have n7_ := Aside0.mk ((by rw [hg]; exact Nat.ne_of_gt (blk_lt (g := gb161) (o := .cells #[.int .i64 a0_0, .int .i64 a0_1, .slice (some ad165) l0_2.length c0_2, .int .i64 a0_3, .int .i64 a0_4] 34 (0, 0)) (by (with_reducible repeat (first | refine blk_drewN ?_ _ | refine blk_drew ?_ | refine blk_alloc ?_ _)); exact BK161.out)) : gb171 ≠ gb161)); have n8_ := Aside0.mk ((by rw [hg]; exact Nat.ne_of_lt (blk_lt (g := gb166) (o := .cells #[.int .i64 ((rd_T88 l0_2 x28_2).f0), .int .i64 ((rd_T88 l0_2 x28_2).f1), .int .i64 ((rd_T88 l0_2 x28_2).f2), .int .i64 ((rd_T88 l0_2 x28_2).f3), .int .i64 ((rd_T88 l0_2 x28_2).f4), .int .i64 ((rd_T88 l0_2 x28_2).f5), .bool ((rd_T88 l0_2 x28_2).f6)] 88 (0, 0)) (by (with_reducible repeat (first | refine blk_drewN ?_ _ | refine blk_drew ?_ | refine blk_alloc ?_ _)); exact BK166.out)) : gb166 ≠ gb171)); have n9_ := Aside0.mk ((by rw [hg]; exact Nat.ne_of_gt (blk_lt (g := gb166) (o := .cells #[.int .i64 ((rd_T88 l0_2 x28_2).f0), .int .i64 ((rd_T88 l0_2 x28_2).f1), .int .i64 ((rd_T88 l0_2 x28_2).f2), .int .i64 ((rd_T88 l0_2 x28_2).f3), .int .i64 ((rd_T88 l0_2 x28_2).f4), .int .i64 ((rd_T88 l0_2 x28_2).f5), .bool ((rd_T88 l0_2 x28_2).f6)] 88 (0, 0)) (by (with_reducible repeat (first | refine blk_drewN ?_ _ | refine blk_drew ?_ | refine blk_alloc ?_ _)); exact BK166.out)) : gb171 ≠ gb166)); clear BK161; clear BK166; clear HB; have BK161 := n0_; have BK166 := n1_; have HB := n2_; have BK171 := n3_; have GW171 := n4_; have GE171 := n5_; have NB161_171 := n6_; have NB171_161 := n7_; have NB166_171 := n8_; have NB171_166 := n9_; clear n0_ n1_ n2_ n3_ n4_ n5_ n6_ n7_ n8_ n9_; clear hb hbox hg; have hnb90 := NB171_161.out; have hnc90 := NB161_171.out; have hnb91 := NB171_166.out; have hnc91 := NB166_171.out; have hcz92_0 : w89.cell? ⟨gb171, 0, none⟩ = some (.int .i64 0) := (blk_cell BK171.out 0).trans rfl; have hcz92_1 : w89.cell? ⟨gb171, 1, none⟩ = some (.int .i64 0) := (blk_cell BK171.out 1).trans rfl; have hcz92_2 : w89.cell? ⟨gb171, 2, none⟩ = some (.int .i64 0) := (blk_cell BK171.out 2).trans rfl; have hcz92_3 : w89.cell? ⟨gb171, 3, none⟩ = some (.int .i64 0) := (blk_cell BK171.out 3).trans rfl; have hcz92_4 : w89.cell? ⟨gb171, 4, none⟩ = some (.int .i64 0) := (blk_cell BK171.out 4).trans rfl; have hcz92_5 : w89.cell? ⟨gb171, 5, none⟩ = some (.int .i64 0) := (blk_cell BK171.out 5).trans rfl; have hcz92_6 : w89.cell? ⟨gb171, 6, none⟩ = some (.bool false) := (blk_cell BK171.out 6).trans rfl; have hfz92_0 := blk_frozen BK171.out 0; have hfz92_1 := blk_frozen BK171.out 1; have hfz92_2 := blk_frozen BK171.out 2; have hfz92_3 := blk_frozen BK171.out 3; have hfz92_4 := blk_frozen BK171.out 4; have hfz92_5 := blk_frozen BK171.out 5; have hfz92_6 := blk_frozen BK171.out 6; have hcz93_0 : w89.cell? ⟨gb166, 0, none⟩ = some (.int .i64 ((rd_T88 l0_2 x28_2).f0)) := (blk_cell BK166.out 0).trans rfl; have hcz93_1 : w89.cell? ⟨gb166, 1, none⟩ = some (.int .i64 ((rd_T88 l0_2 x28_2).f1)) := (blk_cell BK166.out 1).trans rfl; have hcz93_2 : w89.cell? ⟨gb166, 2, none⟩ = some (.int .i64 ((rd_T88 l0_2 x28_2).f2)) := (blk_cell BK166.out 2).trans rfl; have hcz93_3 : w89.cell? ⟨gb166, 3, none⟩ = some (.int .i64 ((rd_T88 l0_2 x28_2).f3)) := (blk_cell BK166.out 3).trans rfl; have hcz93_4 : w89.cell? ⟨gb166, 4, none⟩ = some (.int .i64 ((rd_T88 l0_2 x28_2).f4)) := (blk_cell BK166.out 4).trans rfl; have hcz93_5 : w89.cell? ⟨gb166, 5, none⟩ = some (.int .i64 ((rd_T88 l0_2 x28_2).f5)) := (blk_cell BK166.out 5).trans rfl; have hcz93_6 : w89.cell? ⟨gb166, 6, none⟩ = some (.bool ((rd_T88 l0_2 x28_2).f6)) := (blk_cell BK166.out 6).trans rfl; have hfz93_0 := blk_frozen BK166.out 0; have hfz93_1 := blk_frozen BK166.out 1; have hfz93_2 := blk_frozen BK166.out 2; have hfz93_3 := blk_frozen BK166.out 3; have hfz93_4 := blk_frozen BK166.out 4; have hfz93_5 := blk_frozen BK166.out 5; have hfz93_6 := blk_frozen BK166.out 6) | (go_at_call 79; (with_reducible refine (impl_dist.calls ((rd_T88 l0_2 (ji48)).f0) ((rd_T88 l0_2 x28_2).f0) t172 _ A60.out).mono ?_); rintro e w' ⟨rfl, ⟨nd, rfl⟩⟩) | (go_at_call 79; (with_reducible refine (impl_dist.calls ((rd_T88 l0_2 (ji48)).f1) ((rd_T88 l0_2 x28_2).f1) t173 _ A69.out).mono ?_); rintro e w' ⟨rfl, ⟨nd, rfl⟩⟩))
                                          go_ret
                                          exact ⟨by first | rfl | (simp [errW_none, errW_some] <;> rfl) | (simp only [← hji48]; first | rfl | (simp [errW_none, errW_some] <;> rfl)) | (simp [*, errW_none, errW_some] <;> rfl), by repeat (first | (with_reducible first | exact HB.out | apply below_alloc | apply pw_below_drewN | apply below_drew1 | refine below_set ?_ GE161.out | refine below_set ?_ GE166.out | refine below_set ?_ GE171.out) | exact HB.out)⟩
                                        · rw [if_neg c86] at H
                                          have c86b0 : decide (((rd_T88 l0_2 (ji48)).f3) < ((rd_T88 l0_2 x28_2).f2)) = false := decide_eq_false c86
                                          clear c86
                                          have H' := Aside0.mk H
                                          clear H
                                          have hnb94 := NB161_166.out
                                          have hnc94 := NB166_161.out
                                          have hcz95_0 : wc.cell? ⟨gb161, 0, none⟩ = some (.int .i64 a0_0) := (blk_cell BK161.out 0).trans rfl
                                          have hcz95_1 : wc.cell? ⟨gb161, 1, none⟩ = some (.int .i64 a0_1) := (blk_cell BK161.out 1).trans rfl
                                          have hcz95_2 : wc.cell? ⟨gb161, 2, none⟩ = some (.slice (some ad165) l0_2.length c0_2) := (blk_cell BK161.out 2).trans rfl
                                          have hcz95_3 : wc.cell? ⟨gb161, 3, none⟩ = some (.int .i64 a0_3) := (blk_cell BK161.out 3).trans rfl
                                          have hcz95_4 : wc.cell? ⟨gb161, 4, none⟩ = some (.int .i64 a0_4) := (blk_cell BK161.out 4).trans rfl
                                          have hfz95_0 := blk_frozen BK161.out 0
                                          have hfz95_1 := blk_frozen BK161.out 1
                                          have hfz95_2 := blk_frozen BK161.out 2
                                          have hfz95_3 := blk_frozen BK161.out 3
                                          have hfz95_4 := blk_frozen BK161.out 4
                                          have p170 : 0 ≤ ((ji48) : Int) := of_decide_eq_true (by first | (with_reducible assumption) | assumption)
                                          have q170 : (ji48) < (l0_2.length : Int) := of_decide_eq_true (by first | (with_reducible assumption) | assumption)
                                          obtain ⟨ad170, e170, hx170_0, hx170_1, hx170_2, hx170_3, hx170_4, hx170_5, hx170_6⟩ := at_T88 HR0_2.out (ji48) p170 q170
                                          obtain rfl : ad165 = ad170 := (by injection e170)
                                          replace hx170_0 := (HB.out.cell (World.block_lt_of_cell? w _ hx170_0)).trans hx170_0
                                          replace hx170_1 := (HB.out.cell (World.block_lt_of_cell? w _ hx170_1)).trans hx170_1
                                          replace hx170_2 := (HB.out.cell (World.block_lt_of_cell? w _ hx170_2)).trans hx170_2
                                          replace hx170_3 := (HB.out.cell (World.block_lt_of_cell? w _ hx170_3)).trans hx170_3
                                          replace hx170_4 := (HB.out.cell (World.block_lt_of_cell? w _ hx170_4)).trans hx170_4
                                          replace hx170_5 := (HB.out.cell (World.block_lt_of_cell? w _ hx170_5)).trans hx170_5
                                          replace hx170_6 := (HB.out.cell (World.block_lt_of_cell? w _ hx170_6)).trans hx170_6
                                          replace p170 := eq_true p170
                                          replace q170 := eq_true q170
                                          go_wp2_with (first | ((with_reducible refine gate_dst (N := 5) rfl ?_); (try (refine gate_guard (by rfl) ?_; dsimp only)); refine box_event ?hg (N := 5) ?hd (cs := #[.int .i64 0, .int .i64 0, .int .i64 0, .int .i64 0, .int .i64 0, .int .i64 0, .bool false]) (t := 88) ?hr ?_; (case hd => rfl); (case hg => rfl); (case hr => first | (go_simp; done) | (go_simp; rfl)); intro gb171 hg w96 hbox hb; have n0_ := Aside0.mk (blk_below (g := gb161) (o := .cells #[.int .i64 a0_0, .int .i64 a0_1, .slice (some ad165) l0_2.length c0_2, .int .i64 a0_3, .int .i64 a0_4] 34 (0, 0)) (by (with_reducible repeat (first | refine blk_drewN ?_ _ | refine blk_drew ?_ | refine blk_alloc ?_ _)); exact BK161.out) hb); have n1_ := Aside0.mk (blk_below (g := gb166) (o := .cells #[.int .i64 ((rd_T88 l0_2 x28_2).f0), .int .i64 ((rd_T88 l0_2 x28_2).f1), .int .i64 ((rd_T88 l0_2 x28_2).f2), .int .i64 ((rd_T88 l0_2 x28_2).f3), .int .i64 ((rd_T88 l0_2 x28_2).f4), .int .i64 ((rd_T88 l0_2 x28_2).f5), .bool ((rd_T88 l0_2 x28_2).f6)] 88 (0, 0)) (by (with_reducible repeat (first | refine blk_drewN ?_ _ | refine blk_drew ?_ | refine blk_alloc ?_ _)); exact BK166.out) hb); have n2_ := Aside0.mk (below_step (by repeat (first | (with_reducible first | exact HB.out | apply below_alloc | apply pw_below_drewN | apply below_drew1 | refine below_set ?_ GE161.out | refine below_set ?_ GE166.out) | exact HB.out)) hb); have n3_ := Aside0.mk (hbox); have n4_ := Aside0.mk ((by rw [hg]; exact (below_size (by repeat (first | (with_reducible first | exact HB.out | apply below_alloc | apply pw_below_drewN | apply below_drew1 | refine below_set ?_ GE161.out | refine below_set ?_ GE166.out) | exact HB.out))) : w.heap.size ≤ gb171)); have n5_ := Aside0.mk ((by rw [hg]; exact (below_size (by repeat (first | (with_reducible first | exact HB.out | apply below_alloc | apply pw_below_drewN | apply below_drew1 | refine below_set ?_ GE161.out | refine below_set ?_ GE166.out) | exact HB.out))) : w.heap.size ≤ gb171)); have n6_ := Aside0.mk ((by rw [hg]; exact Nat.ne_of_lt (blk_lt (g := gb161) (o := .cells #[.int .i64 a0_0, .int .i64 a0_1, .slice (some ad165) l0_2.length c0_2, .int .i64 a0_3, .int .i64 a0_4] 34 (0, 0)) (by (with_reducible repeat (first | refine blk_drewN ?_ _ | refine blk_drew ?_ | refine blk_alloc ?_ _)); exact BK161.out)) : gb161 ≠ gb171)); have n7_ := Aside0.mk ((by rw [hg]; exact Nat.ne_of_gt (blk_lt (g := gb161) (o := .cells #[.int .i64 a0_0, .int .i64 a0_1, .slice (some ad165) l0_2.length c0_2, .int .i64 a0_3, .int .i64 a0_4] 34 (0, 0)) (by (with_reducible repeat (first | refine blk_drewN ?_ _ | refine blk_drew ?_ | refine blk_alloc ?_ _)); exact BK161.out)) : gb171 ≠ gb161)); have n8_ := Aside0.mk ((by rw [hg]; exact Nat.ne_of_lt (blk_lt (g := gb166) (o := .cells #[.int .i64 ((rd_T88 l0_2 x28_2).f0), .int .i64 ((rd_T88 l0_2 x28_2).f1), .int .i64 ((rd_T88 l0_2 x28_2).f2), .int .i64 ((rd_T88 l0_2 x28_2).f3), .int .i64 ((rd_T88 l0_2 x28_2).f4), .int .i64 ((rd_T88 l0_2 x28_2).f5), .bool ((rd_T88 l0_2 x28_2).f6)] 88 (0, 0)) (by (with_reducible repeat (first | refine blk_drewN ?_ _ | refine blk_drew ?_ | refine blk_alloc ?_ _)); exact BK166.out)) : gb166 ≠ gb171)); have n9_ := Aside0.mk ((by rw [hg]; exact Nat.ne_of_gt (blk_lt (g := gb166) (o := .cells #[.int .i64 ((rd_T88 l0_2 x28_2).f0), .int .i64 ((rd_T88 l0_2 x28_2).f1), .int .i64 ((rd_T88 l0_2 x28_2).f2), .int .i64 ((rd_T88 l0_2 x28_2).f3), .int .i64 ((rd_T88 l0_2 x28_2).f4), .int .i64 ((rd_T88 l0_2 x28_2).f5), .bool ((rd_T88 l0_2 x28_2).f6)] 88 (0, 0)) (by (with_reducible repeat (first | refine blk_drewN ?_ _ | refine blk_drew ?_ | refine blk_alloc ?_ _)); exact BK166.out)) : gb171 ≠ gb166)); clear BK161; clear BK166; clear HB; have BK161 := n0_; have BK166 := n1_; have HB := n2_; have BK171 := n3_; have GW171 := n4_; have GE171 := n5_; have NB161_171 := n6_; have NB171_161 := n7_; have NB166_171 := n8_; have NB171_166 := n9_; clear n0_ n1_ n2_ n3_ n4_ n5_ n6_ n7_ n8_ n9_; clear hb hbox hg; have hnb97 := NB171_161.out; have hnc97 := NB161_171.out; have hnb98 := NB171_166.out; have hnc98 := NB166_171.out; have hcz99_0 : w96.cell? ⟨gb171, 0, none⟩ = some (.int .i64 0) := (blk_cell BK171.out 0).trans rfl; have hcz99_1 : w96.cell? ⟨gb171, 1, none⟩ = some (.int .i64 0) := (blk_cell BK171.out 1).trans rfl; have hcz99_2 : w96.cell? ⟨gb171, 2, none⟩ = some (.int .i64 0) := (blk_cell BK171.out 2).trans rfl; have hcz99_3 : w96.cell? ⟨gb171, 3, none⟩ = some (.int .i64 0) := (blk_cell BK171.out 3).trans rfl; have hcz99_4 : w96.cell? ⟨gb171, 4, none⟩ = some (.int .i64 0) := (blk_cell BK171.out 4).trans rfl; have hcz99_5 : w96.cell? ⟨gb171, 5, none⟩ = some (.int .i64 0) := (blk_cell BK171.out 5).trans rfl; have hcz99_6 : w96.cell? ⟨gb171, 6, none⟩ = some (.bool false) := (blk_cell BK171.out 6).trans rfl; have hfz99_0 := blk_frozen BK171.out 0; have hfz99_1 := blk_frozen BK171.out 1; have hfz99_2 := blk_frozen BK171.out 2; have hfz99_3 := blk_frozen BK171.out 3; have hfz99_4 := blk_frozen BK171.out 4; have hfz99_5 := blk_frozen BK171.out 5; have hfz99_6 := blk_frozen BK171.out 6; have hcz100_0 : w96.cell? ⟨gb166, 0, none⟩ = some (.int .i64 ((rd_T88 l0_2 x28_2).f0)) := (blk_cell BK166.out 0).trans rfl; have hcz100_1 : w96.cell? ⟨gb166, 1, none⟩ = some (.int .i64 ((rd_T88 l0_2 x28_2).f1)) := (blk_cell BK166.out 1).trans rfl; have hcz100_2 : w96.cell? ⟨gb166, 2, none⟩ = some (.int .i64 ((rd_T88 l0_2 x28_2).f2)) := (blk_cell BK166.out 2).trans rfl; have hcz100_3 : w96.cell? ⟨gb166, 3, none⟩ = some (.int .i64 ((rd_T88 l0_2 x28_2).f3)) := (blk_cell BK166.out 3).trans rfl; have hcz100_4 : w96.cell? ⟨gb166, 4, none⟩ = some (.int .i64 ((rd_T88 l0_2 x28_2).f4)) := (blk_cell BK166.out 4).trans rfl; have hcz100_5 : w96.cell? ⟨gb166, 5, none⟩ = some (.int .i64 ((rd_T88 l0_2 x28_2).f5)) := (blk_cell BK166.out 5).trans rfl; have hcz100_6 : w96.cell? ⟨gb166, 6, none⟩ = some (.bool ((rd_T88 l0_2 x28_2).f6)) := (blk_cell BK166.out 6).trans rfl; have hfz100_0 := blk_frozen BK166.out 0; have hfz100_1 := blk_frozen BK166.out 1; have hfz100_2 := blk_frozen BK166.out 2; have hfz100_3 := blk_frozen BK166.out 3; have hfz100_4 := blk_frozen BK166.out 4; have hfz100_5 := blk_frozen BK166.out 5; have hfz100_6 := blk_frozen BK166.out 6) | (go_at_call 79; (with_reducible refine (impl_dist.calls ((rd_T88 l0_2 (ji48)).f0) ((rd_T88 l0_2 x28_2).f0) t172 _ A60.out).mono ?_); rintro e w' ⟨rfl, ⟨nd, rfl⟩⟩) | (go_at_call 79; (with_reducible refine (impl_dist.calls ((rd_T88 l0_2 (ji48)).f1) ((rd_T88 l0_2 x28_2).f1) t173 _ A69.out).mono ?_); rintro e w' ⟨rfl, ⟨nd, rfl⟩⟩))
                                          go_roundg kj21
                                          case measure => have := HJ1.out; have := HK2.out; have := HJ21.out; omega
                                          case rel => exact ⟨(wrap64 (x28_2 + 1)), (by first | rfl | (simp; done) | (simp [*]; done)), H', ⟨by have := HJ1.out; have := HK2.out; have := HJ21.out; omega⟩, ⟨by (with_reducible repeat (first | refine blk_drewN ?_ _ | refine blk_drew ?_ | refine blk_alloc ?_ _)); refine blk_far ?_ NB161_171.out _; (with_reducible repeat (first | refine blk_drewN ?_ _ | refine blk_drew ?_ | refine blk_alloc ?_ _)); refine blk_far ?_ NB161_171.out _; (with_reducible repeat (first | refine blk_drewN ?_ _ | refine blk_drew ?_ | refine blk_alloc ?_ _)); refine blk_far ?_ NB161_171.out _; (with_reducible repeat (first | refine blk_drewN ?_ _ | refine blk_drew ?_ | refine blk_alloc ?_ _)); refine blk_far ?_ NB161_171.out _; (with_reducible repeat (first | refine blk_drewN ?_ _ | refine blk_drew ?_ | refine blk_alloc ?_ _)); refine blk_far ?_ NB161_171.out _; (with_reducible repeat (first | refine blk_drewN ?_ _ | refine blk_drew ?_ | refine blk_alloc ?_ _)); refine blk_far ?_ NB161_171.out _; (with_reducible repeat (first | refine blk_drewN ?_ _ | refine blk_drew ?_ | refine blk_alloc ?_ _)); refine blk_far ?_ NB161_171.out _; (with_reducible repeat (first | refine blk_drewN ?_ _ | refine blk_drew ?_ | refine blk_alloc ?_ _)); exact BK161.out⟩, ⟨by repeat (first | (with_reducible first | exact HB.out | apply below_alloc | apply pw_below_drewN | apply below_drew1 | refine below_set ?_ GE161.out | refine below_set ?_ GE166.out | refine below_set ?_ GE171.out) | exact HB.out)⟩⟩
                              · rw [if_neg c51] at H
                                have c51b0 : (((rd_T88 l0_2 (ji48)).f0) == ((rd_T88 l0_2 x28_2).f0)) = false := beq_eq_false_iff_ne.mpr c51
                                have c51b1 : (((rd_T88 l0_2 (ji48)).f0) != ((rd_T88 l0_2 x28_2).f0)) = true := bne_iff_ne.mpr c51
                                replace H := Option.bind_eq_some_iff.mp H
                                obtain ⟨t174, A1010, H⟩ := H
                                replace H : (if t174 > 1 then (some false) else ((impl_dist.f ((rd_T88 l0_2 (ji48)).f1) ((rd_T88 l0_2 x28_2).f1)).bind fun t175 => (if t175 > 1 then (some false) else (if ((rd_T88 l0_2 (ji48)).f2) > ((rd_T88 l0_2 x28_2).f3) then (some false) else (if ((rd_T88 l0_2 x28_2).f2) > ((rd_T88 l0_2 (ji48)).f3) then (some false) else (impl_FlyPathOk.l0 kj21 l0_2 (l0_2.length : Int) (wrap64 (x28_2 + 1)) a0_0 a0_1 l0_2 a0_3 a0_4)))))) = some r := H
                                have A101 := Aside0.mk A1010
                                clear A1010
                                by_cases c102 : t174 > 1
                                · rw [if_pos c102] at H
                                  have c102b0 : decide (1 < t174) = true := decide_eq_true c102
                                  clear c102
                                  obtain rfl := Option.some.inj H
                                  have hnb103 := NB161_166.out
                                  have hnc103 := NB166_161.out
                                  have hcz104_0 : wc.cell? ⟨gb161, 0, none⟩ = some (.int .i64 a0_0) := (blk_cell BK161.out 0).trans rfl
                                  have hcz104_1 : wc.cell? ⟨gb161, 1, none⟩ = some (.int .i64 a0_1) := (blk_cell BK161.out 1).trans rfl
                                  have hcz104_2 : wc.cell? ⟨gb161, 2, none⟩ = some (.slice (some ad165) l0_2.length c0_2) := (blk_cell BK161.out 2).trans rfl
                                  have hcz104_3 : wc.cell? ⟨gb161, 3, none⟩ = some (.int .i64 a0_3) := (blk_cell BK161.out 3).trans rfl
                                  have hcz104_4 : wc.cell? ⟨gb161, 4, none⟩ = some (.int .i64 a0_4) := (blk_cell BK161.out 4).trans rfl
                                  have hfz104_0 := blk_frozen BK161.out 0
                                  have hfz104_1 := blk_frozen BK161.out 1
                                  have hfz104_2 := blk_frozen BK161.out 2
                                  have hfz104_3 := blk_frozen BK161.out 3
                                  have hfz104_4 := blk_frozen BK161.out 4
                                  have p170 : 0 ≤ ((ji48) : Int) := of_decide_eq_true (by first | (with_reducible assumption) | assumption)
                                  have q170 : (ji48) < (l0_2.length : Int) := of_decide_eq_true (by first | (with_reducible assumption) | assumption)
                                  obtain ⟨ad170, e170, hx170_0, hx170_1, hx170_2, hx170_3, hx170_4, hx170_5, hx170_6⟩ := at_T88 HR0_2.out (ji48) p170 q170
                                  obtain rfl : ad165 = ad170 := (by injection e170)
                                  replace hx170_0 := (HB.out.cell (World.block_lt_of_cell? w _ hx170_0)).trans hx170_0
                                  replace hx170_1 := (HB.out.cell (World.block_lt_of_cell? w _ hx170_1)).trans hx170_1
                                  replace hx170_2 := (HB.out.cell (World.block_lt_of_cell? w _ hx170_2)).trans hx170_2
                                  replace hx170_3 := (HB.out.cell (World.block_lt_of_cell? w _ hx170_3)).trans hx170_3
                                  replace hx170_4 := (HB.out.cell (World.block_lt_of_cell? w _ hx170_4)).trans hx170_4
                                  replace hx170_5 := (HB.out.cell (World.block_lt_of_cell? w _ hx170_5)).trans hx170_5
                                  replace hx170_6 := (HB.out.cell (World.block_lt_of_cell? w _ hx170_6)).trans hx170_6
                                  replace p170 := eq_true p170
                                  replace q170 := eq_true q170
                                  go_wp2_with (first | ((with_reducible refine gate_dst (N := 5) rfl ?_); (try (refine gate_guard (by rfl) ?_; dsimp only)); refine box_event ?hg (N := 5) ?hd (cs := #[.int .i64 0, .int .i64 0, .int .i64 0, .int .i64 0, .int .i64 0, .int .i64 0, .bool false]) (t := 88) ?hr ?_; (case hd => rfl); (case hg => rfl); (case hr => first | (go_simp; done) | (go_simp; rfl)); intro gb171 hg w105 hbox hb; have n0_ := Aside0.mk (blk_below (g := gb161) (o := .cells #[.int .i64 a0_0, .int .i64 a0_1, .slice (some ad165) l0_2.length c0_2, .int .i64 a0_3, .int .i64 a0_4] 34 (0, 0)) (by (with_reducible repeat (first | refine blk_drewN ?_ _ | refine blk_drew ?_ | refine blk_alloc ?_ _)); exact BK161.out) hb); have n1_ := Aside0.mk (blk_below (g := gb166) (o := .cells #[.int .i64 ((rd_T88 l0_2 x28_2).f0), .int .i64 ((rd_T88 l0_2 x28_2).f1), .int .i64 ((rd_T88 l0_2 x28_2).f2), .int .i64 ((rd_T88 l0_2 x28_2).f3), .int .i64 ((rd_T88 l0_2 x28_2).f4), .int .i64 ((rd_T88 l0_2 x28_2).f5), .bool ((rd_T88 l0_2 x28_2).f6)] 88 (0, 0)) (by (with_reducible repeat (first | refine blk_drewN ?_ _ | refine blk_drew ?_ | refine blk_alloc ?_ _)); exact BK166.out) hb); have n2_ := Aside0.mk (below_step (by repeat (first | (with_reducible first | exact HB.out | apply below_alloc | apply pw_below_drewN | apply below_drew1 | refine below_set ?_ GE161.out | refine below_set ?_ GE166.out) | exact HB.out)) hb); have n3_ := Aside0.mk (hbox); have n4_ := Aside0.mk ((by rw [hg]; exact (below_size (by repeat (first | (with_reducible first | exact HB.out | apply below_alloc | apply pw_below_drewN | apply below_drew1 | refine below_set ?_ GE161.out | refine below_set ?_ GE166.out) | exact HB.out))) : w.heap.size ≤ gb171)); have n5_ := Aside0.mk ((by rw [hg]; exact (below_size (by repeat (first | (with_reducible first | exact HB.out | apply below_alloc | apply pw_below_drewN | apply below_drew1 | refine below_set ?_ GE161.out | refine below_set ?_ GE166.out) | exact HB.out))) : w.heap.size ≤ gb171)); have n6_ := Aside0.mk ((by rw [hg]; exact Nat.ne_of_lt (blk_lt (g := gb161) (o := .cells #[.int .i64 a0_0, .int .i64 a0_1, .slice (some ad165) l0_2.length c0_2, .int .i64 a0_3, .int .i64 a0_4] 34 (0, 0)) (by (with_reducible repeat (first | refine blk_drewN ?_ _ | refine blk_drew ?_ | refine blk_alloc ?_ _)); exact BK161.out)) : gb161 ≠ gb171)); have n7_ := Aside0.mk ((by rw [hg]; exact Nat.ne_of_gt (blk_lt (g := gb161) (o := .cells #[.int .i64 a0_0, .int .i64 a0_1, .slice (some ad165) l0_2.length c0_2, .int .i64 a0_3, .int .i64 a0_4] 34 (0, 0)) (by (with_reducible repeat (first | refine blk_drewN ?_ _ | refine blk_drew ?_ | refine blk_alloc ?_ _)); exact BK161.out)) : gb171 ≠ gb161)); have n8_ := Aside0.mk ((by rw [hg]; exact Nat.ne_of_lt (blk_lt (g := gb166) (o := .cells #[.int .i64 ((rd_T88 l0_2 x28_2).f0), .int .i64 ((rd_T88 l0_2 x28_2).f1), .int .i64 ((rd_T88 l0_2 x28_2).f2), .int .i64 ((rd_T88 l0_2 x28_2).f3), .int .i64 ((rd_T88 l0_2 x28_2).f4), .int .i64 ((rd_T88 l0_2 x28_2).f5), .bool ((rd_T88 l0_2 x28_2).f6)] 88 (0, 0)) (by (with_reducible repeat (first | refine blk_drewN ?_ _ | refine blk_drew ?_ | refine blk_alloc ?_ _)); exact BK166.out)) : gb166 ≠ gb171)); have n9_ := Aside0.mk ((by rw [hg]; exact Nat.ne_of_gt (blk_lt (g := gb166) (o := .cells #[.int .i64 ((rd_T88 l0_2 x28_2).f0), .int .i64 ((rd_T88 l0_2 x28_2).f1), .int .i64 ((rd_T88 l0_2 x28_2).f2), .int .i64 ((rd_T88 l0_2 x28_2).f3), .int .i64 ((rd_T88 l0_2 x28_2).f4), .int .i64 ((rd_T88 l0_2 x28_2).f5), .bool ((rd_T88 l0_2 x28_2).f6)] 88 (0, 0)) (by (with_reducible repeat (first | refine blk_drewN ?_ _ | refine blk_drew ?_ | refine blk_alloc ?_ _)); exact BK166.out)) : gb171 ≠ gb166)); clear BK161; clear BK166; clear HB; have BK161 := n0_; have BK166 := n1_; have HB := n2_; have BK171 := n3_; have GW171 := n4_; have GE171 := n5_; have NB161_171 := n6_; have NB171_161 := n7_; have NB166_171 := n8_; have NB171_166 := n9_; clear n0_ n1_ n2_ n3_ n4_ n5_ n6_ n7_ n8_ n9_; clear hb hbox hg; have hnb106 := NB171_161.out; have hnc106 := NB161_171.out; have hnb107 := NB171_166.out; have hnc107 := NB166_171.out; have hcz108_0 : w105.cell? ⟨gb171, 0, none⟩ = some (.int .i64 0) := (blk_cell BK171.out 0).trans rfl; have hcz108_1 : w105.cell? ⟨gb171, 1, none⟩ = some (.int .i64 0) := (blk_cell BK171.out 1).trans rfl; have hcz108_2 : w105.cell? ⟨gb171, 2, none⟩ = some (.int .i64 0) := (blk_cell BK171.out 2).trans rfl; have hcz108_3 : w105.cell? ⟨gb171, 3, none⟩ = some (.int .i64 0) := (blk_cell BK171.out 3).trans rfl; have hcz108_4 : w105.cell? ⟨gb171, 4, none⟩ = some (.int .i64 0) := (blk_cell BK171.out 4).trans rfl; have hcz108_5 : w105.cell? ⟨gb171, 5, none⟩ = some (.int .i64 0) := (blk_cell BK171.out 5).trans rfl; have hcz108_6 : w105.cell? ⟨gb171, 6, none⟩ = some (.bool false) := (blk_cell BK171.out 6).trans rfl; have hfz108_0 := blk_frozen BK171.out 0; have hfz108_1 := blk_frozen BK171.out 1; have hfz108_2 := blk_frozen BK171.out 2; have hfz108_3 := blk_frozen BK171.out 3; have hfz108_4 := blk_frozen BK171.out 4; have hfz108_5 := blk_frozen BK171.out 5; have hfz108_6 := blk_frozen BK171.out 6; have hcz109_0 : w105.cell? ⟨gb166, 0, none⟩ = some (.int .i64 ((rd_T88 l0_2 x28_2).f0)) := (blk_cell BK166.out 0).trans rfl; have hcz109_1 : w105.cell? ⟨gb166, 1, none⟩ = some (.int .i64 ((rd_T88 l0_2 x28_2).f1)) := (blk_cell BK166.out 1).trans rfl; have hcz109_2 : w105.cell? ⟨gb166, 2, none⟩ = some (.int .i64 ((rd_T88 l0_2 x28_2).f2)) := (blk_cell BK166.out 2).trans rfl; have hcz109_3 : w105.cell? ⟨gb166, 3, none⟩ = some (.int .i64 ((rd_T88 l0_2 x28_2).f3)) := (blk_cell BK166.out 3).trans rfl; have hcz109_4 : w105.cell? ⟨gb166, 4, none⟩ = some (.int .i64 ((rd_T88 l0_2 x28_2).f4)) := (blk_cell BK166.out 4).trans rfl; have hcz109_5 : w105.cell? ⟨gb166, 5, none⟩ = some (.int .i64 ((rd_T88 l0_2 x28_2).f5)) := (blk_cell BK166.out 5).trans rfl; have hcz109_6 : w105.cell? ⟨gb166, 6, none⟩ = some (.bool ((rd_T88 l0_2 x28_2).f6)) := (blk_cell BK166.out 6).trans rfl; have hfz109_0 := blk_frozen BK166.out 0; have hfz109_1 := blk_frozen BK166.out 1; have hfz109_2 := blk_frozen BK166.out 2; have hfz109_3 := blk_frozen BK166.out 3; have hfz109_4 := blk_frozen BK166.out 4; have hfz109_5 := blk_frozen BK166.out 5; have hfz109_6 := blk_frozen BK166.out 6) | (go_at_call 79; (with_reducible refine (impl_dist.calls ((rd_T88 l0_2 (ji48)).f0) ((rd_T88 l0_2 x28_2).f0) t174 _ A101.out).mono ?_); rintro e w' ⟨rfl, ⟨nd, rfl⟩⟩))
                                  go_ret
                                  exact ⟨by first | rfl | (simp [errW_none, errW_some] <;> rfl) | (simp only [← hji48]; first | rfl | (simp [errW_none, errW_some] <;> rfl)) | (simp [*, errW_none, errW_some] <;> rfl), by repeat (first | (with_reducible first | exact HB.out | apply below_alloc | apply pw_below_drewN | apply below_drew1 | refine below_set ?_ GE161.out | refine below_set ?_ GE166.out | refine below_set ?_ GE171.out) | exact HB.out)⟩
                                · rw [if_neg c102] at H
                                  have c102b0 : decide (1 < t174) = false := decide_eq_false c102
                                  clear c102
                                  replace H := Option.bind_eq_some_iff.mp H
                                  obtain ⟨t175, A1100, H⟩ := H
                                  replace H : (if t175 > 1 then (some false) else (if ((rd_T88 l0_2 (ji48)).f2) > ((rd_T88 l0_2 x28_2).f3) then (some false) else (if ((rd_T88 l0_2 x28_2).f2) > ((rd_T88 l0_2 (ji48)).f3) then (some false) else (impl_FlyPathOk.l0 kj21 l0_2 (l0_2.length : Int) (wrap64 (x28_2 + 1)) a0_0 a0_1 l0_2 a0_3 a0_4)))) = some r := H
                                  have A110 := Aside0.mk A1100
                                  clear A1100
                                  by_cases c111 : t175 > 1
                                  · rw [if_pos c111] at H
                                    have c111b0 : decide (1 < t175) = true := decide_eq_true c111
                                    clear c111
                                    obtain rfl := Option.some.inj H
                                    have hnb112 := NB161_166.out
                                    have hnc112 := NB166_161.out
                                    have hcz113_0 : wc.cell? ⟨gb161, 0, none⟩ = some (.int .i64 a0_0) := (blk_cell BK161.out 0).trans rfl
                                    have hcz113_1 : wc.cell? ⟨gb161, 1, none⟩ = some (.int .i64 a0_1) := (blk_cell BK161.out 1).trans rfl
                                    have hcz113_2 : wc.cell? ⟨gb161, 2, none⟩ = some (.slice (some ad165) l0_2.length c0_2) := (blk_cell BK161.out 2).trans rfl
                                    have hcz113_3 : wc.cell? ⟨gb161, 3, none⟩ = some (.int .i64 a0_3) := (blk_cell BK161.out 3).trans rfl
                                    have hcz113_4 : wc.cell? ⟨gb161, 4, none⟩ = some (.int .i64 a0_4) := (blk_cell BK161.out 4).trans rfl
                                    have hfz113_0 := blk_frozen BK161.out 0
                                    have hfz113_1 := blk_frozen BK161.out 1
                                    have hfz113_2 := blk_frozen BK161.out 2
                                    have hfz113_3 := blk_frozen BK161.out 3
                                    have hfz113_4 := blk_frozen BK161.out 4
                                    have p170 : 0 ≤ ((ji48) : Int) := of_decide_eq_true (by first | (with_reducible assumption) | assumption)
                                    have q170 : (ji48) < (l0_2.length : Int) := of_decide_eq_true (by first | (with_reducible assumption) | assumption)
                                    obtain ⟨ad170, e170, hx170_0, hx170_1, hx170_2, hx170_3, hx170_4, hx170_5, hx170_6⟩ := at_T88 HR0_2.out (ji48) p170 q170
                                    obtain rfl : ad165 = ad170 := (by injection e170)
                                    replace hx170_0 := (HB.out.cell (World.block_lt_of_cell? w _ hx170_0)).trans hx170_0
                                    replace hx170_1 := (HB.out.cell (World.block_lt_of_cell? w _ hx170_1)).trans hx170_1
                                    replace hx170_2 := (HB.out.cell (World.block_lt_of_cell? w _ hx170_2)).trans hx170_2
                                    replace hx170_3 := (HB.out.cell (World.block_lt_of_cell? w _ hx170_3)).trans hx170_3
                                    replace hx170_4 := (HB.out.cell (World.block_lt_of_cell? w _ hx170_4)).trans hx170_4
                                    replace hx170_5 := (HB.out.cell (World.block_lt_of_cell? w _ hx170_5)).trans hx170_5
                                    replace hx170_6 := (HB.out.cell (World.block_lt_of_cell? w _ hx170_6)).trans hx170_6
                                    replace p170 := eq_true p170
                                    replace q170 := eq_true q170
                                    go_wp2_with (first | ((with_reducible refine gate_dst (N := 5) rfl ?_); (try (refine gate_guard (by rfl) ?_; dsimp only)); refine box_event ?hg (N := 5) ?hd (cs := #[.int .i64 0, .int .i64 0, .int .i64 0, .int .i64 0, .int .i64 0, .int .i64 0, .bool false]) (t := 88) ?hr ?_; (case hd => rfl); (case hg => rfl); (case hr => first | (go_simp; done) | (go_simp; rfl)); intro gb171 hg w114 hbox hb; have n0_ := Aside0.mk (blk_below (g := gb161) (o := .cells #[.int .i64 a0_0, .int .i64 a0_1, .slice (some ad165) l0_2.length c0_2, .int .i64 a0_3, .int .i64 a0_4] 34 (0, 0)) (by (with_reducible repeat (first | refine blk_drewN ?_ _ | refine blk_drew ?_ | refine blk_alloc ?_ _)); exact BK161.out) hb); have n1_ := Aside0.mk (blk_below (g := gb166) (o := .cells #[.int .i64 ((rd_T88 l0_2 x28_2).f0), .int .i64 ((rd_T88 l0_2 x28_2).f1), .int .i64 ((rd_T88 l0_2 x28_2).f2), .int .i64 ((rd_T88 l0_2 x28_2).f3), .int .i64 ((rd_T88 l0_2 x28_2).f4), .int .i64 ((rd_T88 l0_2 x28_2).f5), .bool ((rd_T88 l0_2 x28_2).f6)] 88 (0, 0)) (by (with_reducible repeat (first | refine blk_drewN ?_ _ | refine blk_drew ?_ | refine blk_alloc ?_ _)); exact BK166.out) hb); have n2_ := Aside0.mk (below_step (by repeat (first | (with_reducible first | exact HB.out | apply below_alloc | apply pw_below_drewN | apply below_drew1 | refine below_set ?_ GE161.out | refine below_set ?_ GE166.out) | exact HB.out)) hb); have n3_ := Aside0.mk (hbox); have n4_ := Aside0.mk ((by rw [hg]; exact (below_size (by repeat (first | (with_reducible first | exact HB.out | apply below_alloc | apply pw_below_drewN | apply below_drew1 | refine below_set ?_ GE161.out | refine below_set ?_ GE166.out) | exact HB.out))) : w.heap.size ≤ gb171)); have n5_ := Aside0.mk ((by rw [hg]; exact (below_size (by repeat (first | (with_reducible first | exact HB.out | apply below_alloc | apply pw_below_drewN | apply below_drew1 | refine below_set ?_ GE161.out | refine below_set ?_ GE166.out) | exact HB.out))) : w.heap.size ≤ gb171)); have n6_ := Aside0.mk ((by rw [hg]; exact Nat.ne_of_lt (blk_lt (g := gb161) (o := .cells #[.int .i64 a0_0, .int .i64 a0_1, .slice (some ad165) l0_2.length c0_2, .int .i64 a0_3, .int .i64 a0_4] 34 (0, 0)) (by (with_reducible repeat (first | refine blk_drewN ?_ _ | refine blk_drew ?_ | refine blk_alloc ?_ _)); exact BK161.out)) : gb161 ≠ gb171)); have n7_ := Aside0.mk ((by rw [hg]; exact Nat.ne_of_gt (blk_lt (g := gb161) (o := .cells #[.int .i64 a0_0, .int .i64 a0_1, .slice (some ad165) l0_2.length c0_2, .int .i64 a0_3, .int .i64 a0_4] 34 (0, 0)) (by (with_reducible repeat (first | refine blk_drewN ?_ _ | refine blk_drew ?_ | refine blk_alloc ?_ _)); exact BK161.out)) : gb171 ≠ gb161)); have n8_ := Aside0.mk ((by rw [hg]; exact Nat.ne_of_lt (blk_lt (g := gb166) (o := .cells #[.int .i64 ((rd_T88 l0_2 x28_2).f0), .int .i64 ((rd_T88 l0_2 x28_2).f1), .int .i64 ((rd_T88 l0_2 x28_2).f2), .int .i64 ((rd_T88 l0_2 x28_2).f3), .int .i64 ((rd_T88 l0_2 x28_2).f4), .int .i64 ((rd_T88 l0_2 x28_2).f5), .bool ((rd_T88 l0_2 x28_2).f6)] 88 (0, 0)) (by (with_reducible repeat (first | refine blk_drewN ?_ _ | refine blk_drew ?_ | refine blk_alloc ?_ _)); exact BK166.out)) : gb166 ≠ gb171)); have n9_ := Aside0.mk ((by rw [hg]; exact Nat.ne_of_gt (blk_lt (g := gb166) (o := .cells #[.int .i64 ((rd_T88 l0_2 x28_2).f0), .int .i64 ((rd_T88 l0_2 x28_2).f1), .int .i64 ((rd_T88 l0_2 x28_2).f2), .int .i64 ((rd_T88 l0_2 x28_2).f3), .int .i64 ((rd_T88 l0_2 x28_2).f4), .int .i64 ((rd_T88 l0_2 x28_2).f5), .bool ((rd_T88 l0_2 x28_2).f6)] 88 (0, 0)) (by (with_reducible repeat (first | refine blk_drewN ?_ _ | refine blk_drew ?_ | refine blk_alloc ?_ _)); exact BK166.out)) : gb171 ≠ gb166)); clear BK161; clear BK166; clear HB; have BK161 := n0_; have BK166 := n1_; have HB := n2_; have BK171 := n3_; have GW171 := n4_; have GE171 := n5_; have NB161_171 := n6_; have NB171_161 := n7_; have NB166_171 := n8_; have NB171_166 := n9_; clear n0_ n1_ n2_ n3_ n4_ n5_ n6_ n7_ n8_ n9_; clear hb hbox hg; have hnb115 := NB171_161.out; have hnc115 := NB161_171.out; have hnb116 := NB171_166.out; have hnc116 := NB166_171.out; have hcz117_0 : w114.cell? ⟨gb171, 0, none⟩ = some (.int .i64 0) := (blk_cell BK171.out 0).trans rfl; have hcz117_1 : w114.cell? ⟨gb171, 1, none⟩ = some (.int .i64 0) := (blk_cell BK171.out 1).trans rfl; have hcz117_2 : w114.cell? ⟨gb171, 2, none⟩ = some (.int .i64 0) := (blk_cell BK171.out 2).trans rfl; have hcz117_3 : w114.cell? ⟨gb171, 3, none⟩ = some (.int .i64 0) := (blk_cell BK171.out 3).trans rfl; have hcz117_4 : w114.cell? ⟨gb171, 4, none⟩ = some (.int .i64 0) := (blk_cell BK171.out 4).trans rfl; have hcz117_5 : w114.cell? ⟨gb171, 5, none⟩ = some (.int .i64 0) := (blk_cell BK171.out 5).trans rfl; have hcz117_6 : w114.cell? ⟨gb171, 6, none⟩ = some (.bool false) := (blk_cell BK171.out 6).trans rfl; have hfz117_0 := blk_frozen BK171.out 0; have hfz117_1 := blk_frozen BK171.out 1; have hfz117_2 := blk_frozen BK171.out 2; have hfz117_3 := blk_frozen BK171.out 3; have hfz117_4 := blk_frozen BK171.out 4; have hfz117_5 := blk_frozen BK171.out 5; have hfz117_6 := blk_frozen BK171.out 6; have hcz118_0 : w114.cell? ⟨gb166, 0, none⟩ = some (.int .i64 ((rd_T88 l0_2 x28_2).f0)) := (blk_cell BK166.out 0).trans rfl; have hcz118_1 : w114.cell? ⟨gb166, 1, none⟩ = some (.int .i64 ((rd_T88 l0_2 x28_2).f1)) := (blk_cell BK166.out 1).trans rfl; have hcz118_2 : w114.cell? ⟨gb166, 2, none⟩ = some (.int .i64 ((rd_T88 l0_2 x28_2).f2)) := (blk_cell BK166.out 2).trans rfl; have hcz118_3 : w114.cell? ⟨gb166, 3, none⟩ = some (.int .i64 ((rd_T88 l0_2 x28_2).f3)) := (blk_cell BK166.out 3).trans rfl; have hcz118_4 : w114.cell? ⟨gb166, 4, none⟩ = some (.int .i64 ((rd_T88 l0_2 x28_2).f4)) := (blk_cell BK166.out 4).trans rfl; have hcz118_5 : w114.cell? ⟨gb166, 5, none⟩ = some (.int .i64 ((rd_T88 l0_2 x28_2).f5)) := (blk_cell BK166.out 5).trans rfl; have hcz118_6 : w114.cell? ⟨gb166, 6, none⟩ = some (.bool ((rd_T88 l0_2 x28_2).f6)) := (blk_cell BK166.out 6).trans rfl; have hfz118_0 := blk_frozen BK166.out 0; have hfz118_1 := blk_frozen BK166.out 1; have hfz118_2 := blk_frozen BK166.out 2; have hfz118_3 := blk_frozen BK166.out 3; have hfz118_4 := blk_frozen BK166.out 4; have hfz118_5 := blk_frozen BK166.out 5; have hfz118_6 := blk_frozen BK166.out 6) | (go_at_call 79; (with_reducible refine (impl_dist.calls ((rd_T88 l0_2 (ji48)).f0) ((rd_T88 l0_2 x28_2).f0) t174 _ A101.out).mono ?_); rintro e w' ⟨rfl, ⟨nd, rfl⟩⟩) | (go_at_call 79; (with_reducible refine (impl_dist.calls ((rd_T88 l0_2 (ji48)).f1) ((rd_T88 l0_2 x28_2).f1) t175 _ A110.out).mono ?_); rintro e w' ⟨rfl, ⟨nd, rfl⟩⟩))
                                    go_ret
                                    exact ⟨by first | rfl | (simp [errW_none, errW_some] <;> rfl) | (simp only [← hji48]; first | rfl | (simp [errW_none, errW_some] <;> rfl)) | (simp [*, errW_none, errW_some] <;> rfl), by repeat (first | (with_reducible first | exact HB.out | apply below_alloc | apply pw_below_drewN | apply below_drew1 | refine below_set ?_ GE161.out | refine below_set ?_ GE166.out | refine below_set ?_ GE171.out) | exact HB.out)⟩
                                  · rw [if_neg c111] at H
                                    have c111b0 : decide (1 < t175) = false := decide_eq_false c111
                                    clear c111
                                    by_cases c119 : ((rd_T88 l0_2 (ji48)).f2) > ((rd_T88 l0_2 x28_2).f3)
                                    · rw [if_pos c119] at H
                                      have c119b0 : decide (((rd_T88 l0_2 x28_2).f3) < ((rd_T88 l0_2 (ji48)).f2)) = true := decide_eq_true c119
                                      clear c119
                                      obtain rfl := Option.some.inj H
                                      have hnb120 := NB161_166.out
                                      have hnc120 := NB166_161.out
                                      have hcz121_0 : wc.cell? ⟨gb161, 0, none⟩ = some (.int .i64 a0_0) := (blk_cell BK161.out 0).trans rfl
                                      have hcz121_1 : wc.cell? ⟨gb161, 1, none⟩ = some (.int .i64 a0_1) := (blk_cell BK161.out 1).trans rfl
                                      have hcz121_2 : wc.cell? ⟨gb161, 2, none⟩ = some (.slice (some ad165) l0_2.length c0_2) := (blk_cell BK161.out 2).trans rfl
                                      have hcz121_3 : wc.cell? ⟨gb161, 3, none⟩ = some (.int .i64 a0_3) := (blk_cell BK161.out 3).trans rfl
                                      have hcz121_4 : wc.cell? ⟨gb161, 4, none⟩ = some (.int .i64 a0_4) := (blk_cell BK161.out 4).trans rfl
                                      have hfz121_0 := blk_frozen BK161.out 0
                                      have hfz121_1 := blk_frozen BK161.out 1
                                      have hfz121_2 := blk_frozen BK161.out 2
                                      have hfz121_3 := blk_frozen BK161.out 3
                                      have hfz121_4 := blk_frozen BK161.out 4
                                      have p170 : 0 ≤ ((ji48) : Int) := of_decide_eq_true (by first | (with_reducible assumption) | assumption)
                                      have q170 : (ji48) < (l0_2.length : Int) := of_decide_eq_true (by first | (with_reducible assumption) | assumption)
                                      obtain ⟨ad170, e170, hx170_0, hx170_1, hx170_2, hx170_3, hx170_4, hx170_5, hx170_6⟩ := at_T88 HR0_2.out (ji48) p170 q170
                                      obtain rfl : ad165 = ad170 := (by injection e170)
                                      replace hx170_0 := (HB.out.cell (World.block_lt_of_cell? w _ hx170_0)).trans hx170_0
                                      replace hx170_1 := (HB.out.cell (World.block_lt_of_cell? w _ hx170_1)).trans hx170_1
                                      replace hx170_2 := (HB.out.cell (World.block_lt_of_cell? w _ hx170_2)).trans hx170_2
                                      replace hx170_3 := (HB.out.cell (World.block_lt_of_cell? w _ hx170_3)).trans hx170_3
                                      replace hx170_4 := (HB.out.cell (World.block_lt_of_cell? w _ hx170_4)).trans hx170_4
                                      replace hx170_5 := (HB.out.cell (World.block_lt_of_cell? w _ hx170_5)).trans hx170_5
                                      replace hx170_6 := (HB.out.cell (World.block_lt_of_cell? w _ hx170_6)).trans hx170_6
                                      replace p170 := eq_true p170
                                      replace q170 := eq_true q170
                                      go_wp2_with (first | ((with_reducible refine gate_dst (N := 5) rfl ?_); (try (refine gate_guard (by rfl) ?_; dsimp only)); refine box_event ?hg (N := 5) ?hd (cs := #[.int .i64 0, .int .i64 0, .int .i64 0, .int .i64 0, .int .i64 0, .int .i64 0, .bool false]) (t := 88) ?hr ?_; (case hd => rfl); (case hg => rfl); (case hr => first | (go_simp; done) | (go_simp; rfl)); intro gb171 hg w122 hbox hb; have n0_ := Aside0.mk (blk_below (g := gb161) (o := .cells #[.int .i64 a0_0, .int .i64 a0_1, .slice (some ad165) l0_2.length c0_2, .int .i64 a0_3, .int .i64 a0_4] 34 (0, 0)) (by (with_reducible repeat (first | refine blk_drewN ?_ _ | refine blk_drew ?_ | refine blk_alloc ?_ _)); exact BK161.out) hb); have n1_ := Aside0.mk (blk_below (g := gb166) (o := .cells #[.int .i64 ((rd_T88 l0_2 x28_2).f0), .int .i64 ((rd_T88 l0_2 x28_2).f1), .int .i64 ((rd_T88 l0_2 x28_2).f2), .int .i64 ((rd_T88 l0_2 x28_2).f3), .int .i64 ((rd_T88 l0_2 x28_2).f4), .int .i64 ((rd_T88 l0_2 x28_2).f5), .bool ((rd_T88 l0_2 x28_2).f6)] 88 (0, 0)) (by (with_reducible repeat (first | refine blk_drewN ?_ _ | refine blk_drew ?_ | refine blk_alloc ?_ _)); exact BK166.out) hb); have n2_ := Aside0.mk (below_step (by repeat (first | (with_reducible first | exact HB.out | apply below_alloc | apply pw_below_drewN | apply below_drew1 | refine below_set ?_ GE161.out | refine below_set ?_ GE166.out) | exact HB.out)) hb); have n3_ := Aside0.mk (hbox); have n4_ := Aside0.mk ((by rw [hg]; exact (below_size (by repeat (first | (with_reducible first | exact HB.out | apply below_alloc | apply pw_below_drewN | apply below_drew1 | refine below_set ?_ GE161.out | refine below_set ?_ GE166.out) | exact HB.out))) : w.heap.size ≤ gb171)); have n5_ := Aside0.mk ((by rw [hg]; exact (below_size (by repeat (first | (with_reducible first | exact HB.out | apply below_alloc | apply pw_below_drewN | apply below_drew1 | refine below_set ?_ GE161.out | refine below_set ?_ GE166.out) | exact HB.out))) : w.heap.size ≤ gb171)); have n6_ := Aside0.mk ((by rw [hg]; exact Nat.ne_of_lt (blk_lt (g := gb161) (o := .cells #[.int .i64 a0_0, .int .i64 a0_1, .slice (some ad165) l0_2.length c0_2, .int .i64 a0_3, .int .i64 a0_4] 34 (0, 0)) (by (with_reducible repeat (first | refine blk_drewN ?_ _ | refine blk_drew ?_ | refine blk_alloc ?_ _)); exact BK161.out)) : gb161 ≠ gb171)); have n7_ := Aside0.mk ((by rw [hg]; exact Nat.ne_of_gt (blk_lt (g := gb161) (o := .cells #[.int .i64 a0_0, .int .i64 a0_1, .slice (some ad165) l0_2.length c0_2, .int .i64 a0_3, .int .i64 a0_4] 34 (0, 0)) (by (with_reducible repeat (first | refine blk_drewN ?_ _ | refine blk_drew ?_ | refine blk_alloc ?_ _)); exact BK161.out)) : gb171 ≠ gb161)); have n8_ := Aside0.mk ((by rw [hg]; exact Nat.ne_of_lt (blk_lt (g := gb166) (o := .cells #[.int .i64 ((rd_T88 l0_2 x28_2).f0), .int .i64 ((rd_T88 l0_2 x28_2).f1), .int .i64 ((rd_T88 l0_2 x28_2).f2), .int .i64 ((rd_T88 l0_2 x28_2).f3), .int .i64 ((rd_T88 l0_2 x28_2).f4), .int .i64 ((rd_T88 l0_2 x28_2).f5), .bool ((rd_T88 l0_2 x28_2).f6)] 88 (0, 0)) (by (with_reducible repeat (first | refine blk_drewN ?_ _ | refine blk_drew ?_ | refine blk_alloc ?_ _)); exact BK166.out)) : gb166 ≠ gb171)); have n9_ := Aside0.mk ((by rw [hg]; exact Nat.ne_of_gt (blk_lt (g := gb166) (o := .cells #[.int .i64 ((rd_T88 l0_2 x28_2).f0), .int .i64 ((rd_T88 l0_2 x28_2).f1), .int .i64 ((rd_T88 l0_2 x28_2).f2), .int .i64 ((rd_T88 l0_2 x28_2).f3), .int .i64 ((rd_T88 l0_2 x28_2).f4), .int .i64 ((rd_T88 l0_2 x28_2).f5), .bool ((rd_T88 l0_2 x28_2).f6)] 88 (0, 0)) (by (with_reducible repeat (first | refine blk_drewN ?_ _ | refine blk_drew ?_ | refine blk_alloc ?_ _)); exact BK166.out)) : gb171 ≠ gb166)); clear BK161; clear BK166; clear HB; have BK161 := n0_; have BK166 := n1_; have HB := n2_; have BK171 := n3_; have GW171 := n4_; have GE171 := n5_; have NB161_171 := n6_; have NB171_161 := n7_; have NB166_171 := n8_; have NB171_166 := n9_; clear n0_ n1_ n2_ n3_ n4_ n5_ n6_ n7_ n8_ n9_; clear hb hbox hg; have hnb123 := NB171_161.out; have hnc123 := NB161_171.out; have hnb124 := NB171_166.out; have hnc124 := NB166_171.out; have hcz125_0 : w122.cell? ⟨gb171, 0, none⟩ = some (.int .i64 0) := (blk_cell BK171.out 0).trans rfl; have hcz125_1 : w122.cell? ⟨gb171, 1, none⟩ = some (.int .i64 0) := (blk_cell BK171.out 1).trans rfl; have hcz125_2 : w122.cell? ⟨gb171, 2, none⟩ = some (.int .i64 0) := (blk_cell BK171.out 2).trans rfl; have hcz125_3 : w122.cell? ⟨gb171, 3, none⟩ = some (.int .i64 0) := (blk_cell BK171.out 3).trans rfl; have hcz125_4 : w122.cell? ⟨gb171, 4, none⟩ = some (.int .i64 0) := (blk_cell BK171.out 4).trans rfl; have hcz125_5 : w122.cell? ⟨gb171, 5, none⟩ = some (.int .i64 0) := (blk_cell BK171.out 5).trans rfl; have hcz125_6 : w122.cell? ⟨gb171, 6, none⟩ = some (.bool false) := (blk_cell BK171.out 6).trans rfl; have hfz125_0 := blk_frozen BK171.out 0; have hfz125_1 := blk_frozen BK171.out 1; have hfz125_2 := blk_frozen BK171.out 2; have hfz125_3 := blk_frozen BK171.out 3; have hfz125_4 := blk_frozen BK171.out 4; have hfz125_5 := blk_frozen BK171.out 5; have hfz125_6 := blk_frozen BK171.out 6; have hcz126_0 : w122.cell? ⟨gb166, 0, none⟩ = some (.int .i64 ((rd_T88 l0_2 x28_2).f0)) := (blk_cell BK166.out 0).trans rfl; have hcz126_1 : w122.cell? ⟨gb166, 1, none⟩ = some (.int .i64 ((rd_T88 l0_2 x28_2).f1)) := (blk_cell BK166.out 1).trans rfl; have hcz126_2 : w122.cell? ⟨gb166, 2, none⟩ = some (.int .i64 ((rd_T88 l0_2 x28_2).f2)) := (blk_cell BK166.out 2).trans rfl; have hcz126_3 : w122.cell? ⟨gb166, 3, none⟩ = some (.int .i64 ((rd_T88 l0_2 x28_2).f3)) := (blk_cell BK166.out 3).trans rfl; have hcz126_4 : w122.cell? ⟨gb166, 4, none⟩ = some (.int .i64 ((rd_T88 l0_2 x28_2).f4)) := (blk_cell BK166.out 4).trans rfl; have hcz126_5 : w122.cell? ⟨gb166, 5, none⟩ = some (.int .i64 ((rd_T88 l0_2 x28_2).f5)) := (blk_cell BK166.out 5).trans rfl; have hcz126_6 : w122.cell? ⟨gb166, 6, none⟩ = some (.bool ((rd_T88 l0_2 x28_2).f6)) := (blk_cell BK166.out 6).trans rfl; have hfz126_0 := blk_frozen BK166.out 0; have hfz126_1 := blk_frozen BK166.out 1; have hfz126_2 := blk_frozen BK166.out 2; have hfz126_3 := blk_frozen BK166.out 3; have hfz126_4 := blk_frozen BK166.out 4; have hfz126_5 := blk_frozen BK166.out 5; have hfz126_6 := blk_frozen BK166.out 6) | (go_at_call 79; (with_reducible refine (impl_dist.calls ((rd_T88 l0_2 (ji48)).f0) ((rd_T88 l0_2 x28_2).f0) t174 _ A101.out).mono ?_); rintro e w' ⟨rfl, ⟨nd, rfl⟩⟩) | (go_at_call 79; (with_reducible refine (impl_dist.calls ((rd_T88 l0_2 (ji48)).f1) ((rd_T88 l0_2 x28_2).f1) t175 _ A110.out).mono ?_); rintro e w' ⟨rfl, ⟨nd, rfl⟩⟩))
                                      go_ret
                                      exact ⟨by first | rfl | (simp [errW_none, errW_some] <;> rfl) | (simp only [← hji48]; first | rfl | (simp [errW_none, errW_some] <;> rfl)) | (simp [*, errW_none, errW_some] <;> rfl), by repeat (first | (with_reducible first | exact HB.out | apply below_alloc | apply pw_below_drewN | apply below_drew1 | refine below_set ?_ GE161.out | refine below_set ?_ GE166.out | refine below_set ?_ GE171.out) | exact HB.out)⟩
                                    · rw [if_neg c119] at H
                                      have c119b0 : decide (((rd_T88 l0_2 x28_2).f3) < ((rd_T88 l0_2 (ji48)).f2)) = false := decide_eq_false c119
                                      clear c119
                                      by_cases c127 : ((rd_T88 l0_2 x28_2).f2) > ((rd_T88 l0_2 (ji48)).f3)
                                      · rw [if_pos c127] at H
                                        have c127b0 : decide (((rd_T88 l0_2 (ji48)).f3) < ((rd_T88 l0_2 x28_2).f2)) = true := decide_eq_true c127
                                        clear c127
                                        obtain rfl := Option.some.inj H
                                        have hnb128 := NB161_166.out
                                        have hnc128 := NB166_161.out
                                        have hcz129_0 : wc.cell? ⟨gb161, 0, none⟩ = some (.int .i64 a0_0) := (blk_cell BK161.out 0).trans rfl
                                        have hcz129_1 : wc.cell? ⟨gb161, 1, none⟩ = some (.int .i64 a0_1) := (blk_cell BK161.out 1).trans rfl
                                        have hcz129_2 : wc.cell? ⟨gb161, 2, none⟩ = some (.slice (some ad165) l0_2.length c0_2) := (blk_cell BK161.out 2).trans rfl
                                        have hcz129_3 : wc.cell? ⟨gb161, 3, none⟩ = some (.int .i64 a0_3) := (blk_cell BK161.out 3).trans rfl
                                        have hcz129_4 : wc.cell? ⟨gb161, 4, none⟩ = some (.int .i64 a0_4) := (blk_cell BK161.out 4).trans rfl
                                        have hfz129_0 := blk_frozen BK161.out 0
                                        have hfz129_1 := blk_frozen BK161.out 1
                                        have hfz129_2 := blk_frozen BK161.out 2
                                        have hfz129_3 := blk_frozen BK161.out 3
                                        have hfz129_4 := blk_frozen BK161.out 4
                                        have p170 : 0 ≤ ((ji48) : Int) := of_decide_eq_true (by first | (with_reducible assumption) | assumption)
                                        have q170 : (ji48) < (l0_2.length : Int) := of_decide_eq_true (by first | (with_reducible assumption) | assumption)
                                        obtain ⟨ad170, e170, hx170_0, hx170_1, hx170_2, hx170_3, hx170_4, hx170_5, hx170_6⟩ := at_T88 HR0_2.out (ji48) p170 q170
                                        obtain rfl : ad165 = ad170 := (by injection e170)
                                        replace hx170_0 := (HB.out.cell (World.block_lt_of_cell? w _ hx170_0)).trans hx170_0
                                        replace hx170_1 := (HB.out.cell (World.block_lt_of_cell? w _ hx170_1)).trans hx170_1
                                        replace hx170_2 := (HB.out.cell (World.block_lt_of_cell? w _ hx170_2)).trans hx170_2
                                        replace hx170_3 := (HB.out.cell (World.block_lt_of_cell? w _ hx170_3)).trans hx170_3
                                        replace hx170_4 := (HB.out.cell (World.block_lt_of_cell? w _ hx170_4)).trans hx170_4
                                        replace hx170_5 := (HB.out.cell (World.block_lt_of_cell? w _ hx170_5)).trans hx170_5
                                        replace hx170_6 := (HB.out.cell (World.block_lt_of_cell? w _ hx170_6)).trans hx170_6
                                        replace p170 := eq_true p170
                                        replace q170 := eq_true q170
                                        go_wp2_with (first | ((with_reducible refine gate_dst (N := 5) rfl ?_); (try (refine gate_guard (by rfl) ?_; dsimp only)); refine box_event ?hg (N := 5) ?hd (cs := #[.int .i64 0, .int .i64 0, .int .i64 0, .int .i64 0, .int .i64 0, .int .i64 0, .bool false]) (t := 88) ?hr ?_; (case hd => rfl); (case hg => rfl); (case hr => first | (go_simp; done) | (go_simp; rfl)); intro gb171 hg w130 hbox hb; have n0_ := Aside0.mk (blk_below (g := gb161) (o := .cells #[.int .i64 a0_0, .int .i64 a0_1, .slice (some ad165) l0_2.length c0_2, .int .i64 a0_3, .int .i64 a0_4] 34 (0, 0)) (by (with_reducible repeat (first | refine blk_drewN ?_ _ | refine blk_drew ?_ | refine blk_alloc ?_ _)); exact BK161.out) hb); have n1_ := Aside0.mk (blk_below (g := gb166) (o := .cells #[.int .i64 ((rd_T88 l0_2 x28_2).f0), .int .i64 ((rd_T88 l0_2 x28_2).f1), .int .i64 ((rd_T88 l0_2 x28_2).f2), .int .i64 ((rd_T88 l0_2 x28_2).f3), .int .i64 ((rd_T88 l0_2 x28_2).f4), .int .i64 ((rd_T88 l0_2 x28_2).f5), .bool ((rd_T88 l0_2 x28_2).f6)] 88 (0, 0)) (by (with_reducible repeat (first | refine blk_drewN ?_ _ | refine blk_drew ?_ | refine blk_alloc ?_ _)); exact BK166.out) hb); have n2_ := Aside0.mk (below_step (by repeat (first | (with_reducible first | exact HB.out | apply below_alloc | apply pw_below_drewN | apply below_drew1 | refine below_set ?_ GE161.out | refine below_set ?_ GE166.out) | exact HB.out)) hb); have n3_ := Aside0.mk (hbox); have n4_ := Aside0.mk ((by rw [hg]; exact (below_size (by repeat (first | (with_reducible first | exact HB.out | apply below_alloc | apply pw_below_drewN | apply below_drew1 | refine below_set ?_ GE161.out | refine below_set ?_ GE166.out) | exact HB.out))) : w.heap.size ≤ gb171)); have n5_ := Aside0.mk ((by rw [hg]; exact (below_size (by repeat (first | (with_reducible first | exact HB.out | apply below_alloc | apply pw_below_drewN | apply below_drew1 | refine below_set ?_ GE161.out | refine below_set ?_ GE166.out) | exact HB.out))) : w.heap.size ≤ gb171)); have n6_ := Aside0.mk ((by rw [hg]; exact Nat.ne_of_lt (blk_lt (g := gb161) (o := .cells #[.int .i64 a0_0, .int .i64 a0_1, .slice (some ad165) l0_2.length c0_2, .int .i64 a0_3, .int .i64 a0_4] 34 (0, 0)) (by (with_reducible repeat (first | refine blk_drewN ?_ _ | refine blk_drew ?_ | refine blk_alloc ?_ _)); exact BK161.out)) : gb161 ≠ gb171)); have n7_ := Aside0.mk ((by rw [hg]; exact Nat.ne_of_gt (blk_lt (g := gb161) (o := .cells #[.int .i64 a0_0, .int .i64 a0_1, .slice (some ad165) l0_2.length c0_2, .int .i64 a0_3, .int .i64 a0_4] 34 (0, 0)) (by (with_reducible repeat (first | refine blk_drewN ?_ _ | refine blk_drew ?_ | refine blk_alloc ?_ _)); exact BK161.out)) : gb171 ≠ gb161)); have n8_ := Aside0.mk ((by rw [hg]; exact Nat.ne_of_lt (blk_lt (g := gb166) (o := .cells #[.int .i64 ((rd_T88 l0_2 x28_2).f0), .int .i64 ((rd_T88 l0_2 x28_2).f1), .int .i64 ((rd_T88 l0_2 x28_2).f2), .int .i64 ((rd_T88 l0_2 x28_2).f3), .int .i64 ((rd_T88 l0_2 x28_2).f4), .int .i64 ((rd_T88 l0_2 x28_2).f5), .bool ((rd_T88 l0_2 x28_2).f6)] 88 (0, 0)) (by (with_reducible repeat (first | refine blk_drewN ?_ _ | refine blk_drew ?_ | refine blk_alloc ?_ _)); exact BK166.out)) : gb166 ≠ gb171)); have n9_ := Aside0.mk ((by rw [hg]; exact Nat.ne_of_gt (blk_lt (g := gb166) (o := .cells #[.int .i64 ((rd_T88 l0_2 x28_2).f0), .int .i64 ((rd_T88 l0_2 x28_2).f1), .int .i64 ((rd_T88 l0_2 x28_2).f2), .int .i64 ((rd_T88 l0_2 x28_2).f3), .int .i64 ((rd_T88 l0_2 x28_2).f4), .int .i64 ((rd_T88 l0_2 x28_2).f5), .bool ((rd_T88 l0_2 x28_2).f6)] 88 (0, 0)) (by (with_reducible repeat (first | refine blk_drewN ?_ _ | refine blk_drew ?_ | refine blk_alloc ?_ _)); exact BK166.out)) : gb171 ≠ gb166)); clear BK161; clear BK166; clear HB; have BK161 := n0_; have BK166 := n1_; have HB := n2_; have BK171 := n3_; have GW171 := n4_; have GE171 := n5_; have NB161_171 := n6_; have NB171_161 := n7_; have NB166_171 := n8_; have NB171_166 := n9_; clear n0_ n1_ n2_ n3_ n4_ n5_ n6_ n7_ n8_ n9_; clear hb hbox hg; have hnb131 := NB171_161.out; have hnc131 := NB161_171.out; have hnb132 := NB171_166.out; have hnc132 := NB166_171.out; have hcz133_0 : w130.cell? ⟨gb171, 0, none⟩ = some (.int .i64 0) := (blk_cell BK171.out 0).trans rfl; have hcz133_1 : w130.cell? ⟨gb171, 1, none⟩ = some (.int .i64 0) := (blk_cell BK171.out 1).trans rfl; have hcz133_2 : w130.cell? ⟨gb171, 2, none⟩ = some (.int .i64 0) := (blk_cell BK171.out 2).trans rfl; have hcz133_3 : w130.cell? ⟨gb171, 3, none⟩ = some (.int .i64 0) := (blk_cell BK171.out 3).trans rfl; have hcz133_4 : w130.cell? ⟨gb171, 4, none⟩ = some (.int .i64 0) := (blk_cell BK171.out 4).trans rfl; have hcz133_5 : w130.cell? ⟨gb171, 5, none⟩ = some (.int .i64 0) := (blk_cell BK171.out 5).trans rfl; have hcz133_6 : w130.cell? ⟨gb171, 6, none⟩ = some (.bool false) := (blk_cell BK171.out 6).trans rfl; have hfz133_0 := blk_frozen BK171.out 0; have hfz133_1 := blk_frozen BK171.out 1; have hfz133_2 := blk_frozen BK171.out 2; have hfz133_3 := blk_frozen BK171.out 3; have hfz133_4 := blk_frozen BK171.out 4; have hfz133_5 := blk_frozen BK171.out 5; have hfz133_6 := blk_frozen BK171.out 6; have hcz134_0 : w130.cell? ⟨gb166, 0, none⟩ = some (.int .i64 ((rd_T88 l0_2 x28_2).f0)) := (blk_cell BK166.out 0).trans rfl; have hcz134_1 : w130.cell? ⟨gb166, 1, none⟩ = some (.int .i64 ((rd_T88 l0_2 x28_2).f1)) := (blk_cell BK166.out 1).trans rfl; have hcz134_2 : w130.cell? ⟨gb166, 2, none⟩ = some (.int .i64 ((rd_T88 l0_2 x28_2).f2)) := (blk_cell BK166.out 2).trans rfl; have hcz134_3 : w130.cell? ⟨gb166, 3, none⟩ = some (.int .i64 ((rd_T88 l0_2 x28_2).f3)) := (blk_cell BK166.out 3).trans rfl; have hcz134_4 : w130.cell? ⟨gb166, 4, none⟩ = some (.int .i64 ((rd_T88 l0_2 x28_2).f4)) := (blk_cell BK166.out 4).trans rfl; have hcz134_5 : w130.cell? ⟨gb166, 5, none⟩ = some (.int .i64 ((rd_T88 l0_2 x28_2).f5)) := (blk_cell BK166.out 5).trans rfl; have hcz134_6 : w130.cell? ⟨gb166, 6, none⟩ = some (.bool ((rd_T88 l0_2 x28_2).f6)) := (blk_cell BK166.out 6).trans rfl; have hfz134_0 := blk_frozen BK166.out 0; have hfz134_1 := blk_frozen BK166.out 1; have hfz134_2 := blk_frozen BK166.out 2; have hfz134_3 := blk_frozen BK166.out 3; have hfz134_4 := blk_frozen BK166.out 4; have hfz134_5 := blk_frozen BK166.out 5; have hfz134_6 := blk_frozen BK166.out 6) | (go_at_call 79; (with_reducible refine (impl_dist.calls ((rd_T88 l0_2 (ji48)).f0) ((rd_T88 l0_2 x28_2).f0) t174 _ A101.out).mono ?_); rintro e w' ⟨rfl, ⟨nd, rfl⟩⟩) | (go_at_call 79; (with_reducible refine (impl_dist.calls ((rd_T88 l0_2 (ji48)).f1) ((rd_T88 l0_2 x28_2).f1) t175 _ A110.out).mono ?_); rintro e w' ⟨rfl, ⟨nd, rfl⟩⟩))
                                        go_ret
                                        exact ⟨by first | rfl | (simp [errW_none, errW_some] <;> rfl) | (simp only [← hji48]; first | rfl | (simp [errW_none, errW_some] <;> rfl)) | (simp [*, errW_none, errW_some] <;> rfl), by repeat (first | (with_reducible first | exact HB.out | apply below_alloc | apply pw_below_drewN | apply below_drew1 | refine below_set ?_ GE161.out | refine below_set ?_ GE166.out | refine below_set ?_ GE171.out) | exact HB.out)⟩
                                      · rw [if_neg c127] at H
                                        have c127b0 : decide (((rd_T88 l0_2 (ji48)).f3) < ((rd_T88 l0_2 x28_2).f2)) = false := decide_eq_false c127
                                        clear c127
                                        have H' := Aside0.mk H
                                        clear H
                                        have hnb135 := NB161_166.out
                                        have hnc135 := NB166_161.out
                                        have hcz136_0 : wc.cell? ⟨gb161, 0, none⟩ = some (.int .i64 a0_0) := (blk_cell BK161.out 0).trans rfl
                                        have hcz136_1 : wc.cell? ⟨gb161, 1, none⟩ = some (.int .i64 a0_1) := (blk_cell BK161.out 1).trans rfl
                                        have hcz136_2 : wc.cell? ⟨gb161, 2, none⟩ = some (.slice (some ad165) l0_2.length c0_2) := (blk_cell BK161.out 2).trans rfl
                                        have hcz136_3 : wc.cell? ⟨gb161, 3, none⟩ = some (.int .i64 a0_3) := (blk_cell BK161.out 3).trans rfl
                                        have hcz136_4 : wc.cell? ⟨gb161, 4, none⟩ = some (.int .i64 a0_4) := (blk_cell BK161.out 4).trans rfl
                                        have hfz136_0 := blk_frozen BK161.out 0
                                        have hfz136_1 := blk_frozen BK161.out 1
                                        have hfz136_2 := blk_frozen BK161.out 2
                                        have hfz136_3 := blk_frozen BK161.out 3
                                        have hfz136_4 := blk_frozen BK161.out 4
                                        have p170 : 0 ≤ ((ji48) : Int) := of_decide_eq_true (by first | (with_reducible assumption) | assumption)
                                        have q170 : (ji48) < (l0_2.length : Int) := of_decide_eq_true (by first | (with_reducible assumption) | assumption)
                                        obtain ⟨ad170, e170, hx170_0, hx170_1, hx170_2, hx170_3, hx170_4, hx170_5, hx170_6⟩ := at_T88 HR0_2.out (ji48) p170 q170
                                        obtain rfl : ad165 = ad170 := (by injection e170)
                                        replace hx170_0 := (HB.out.cell (World.block_lt_of_cell? w _ hx170_0)).trans hx170_0
                                        replace hx170_1 := (HB.out.cell (World.block_lt_of_cell? w _ hx170_1)).trans hx170_1
                                        replace hx170_2 := (HB.out.cell (World.block_lt_of_cell? w _ hx170_2)).trans hx170_2
                                        replace hx170_3 := (HB.out.cell (World.block_lt_of_cell? w _ hx170_3)).trans hx170_3
                                        replace hx170_4 := (HB.out.cell (World.block_lt_of_cell? w _ hx170_4)).trans hx170_4
                                        replace hx170_5 := (HB.out.cell (World.block_lt_of_cell? w _ hx170_5)).trans hx170_5
                                        replace hx170_6 := (HB.out.cell (World.block_lt_of_cell? w _ hx170_6)).trans hx170_6
                                        replace p170 := eq_true p170
                                        replace q170 := eq_true q170
                                        go_wp2_with (first | ((with_reducible refine gate_dst (N := 5) rfl ?_); (try (refine gate_guard (by rfl) ?_; dsimp only)); refine box_event ?hg (N := 5) ?hd (cs := #[.int .i64 0, .int .i64 0, .int .i64 0, .int .i64 0, .int .i64 0, .int .i64 0, .bool false]) (t := 88) ?hr ?_; (case hd => rfl); (case hg => rfl); (case hr => first | (go_simp; done) | (go_simp; rfl)); intro gb171 hg w137 hbox hb; have n0_ := Aside0.mk (blk_below (g := gb161) (o := .cells #[.int .i64 a0_0, .int .i64 a0_1, .slice (some ad165) l0_2.length c0_2, .int .i64 a0_3, .int .i64 a0_4] 34 (0, 0)) (by (with_reducible repeat (first | refine blk_drewN ?_ _ | refine blk_drew ?_ | refine blk_alloc ?_ _)); exact BK161.out) hb); have n1_ := Aside0.mk (blk_below (g := gb166) (o := .cells #[.int .i64 ((rd_T88 l0_2 x28_2).f0), .int .i64 ((rd_T88 l0_2 x28_2).f1), .int .i64 ((rd_T88 l0_2 x28_2).f2), .int .i64 ((rd_T88 l0_2 x28_2).f3), .int .i64 ((rd_T88 l0_2 x28_2).f4), .int .i64 ((rd_T88 l0_2 x28_2).f5), .bool ((rd_T88 l0_2 x28_2).f6)] 88 (0, 0)) (by (with_reducible repeat (first | refine blk_drewN ?_ _ | refine blk_drew ?_ | refine blk_alloc ?_ _)); exact BK166.out) hb); have n2_ := Aside0.mk (below_step (by repeat (first | (with_reducible first | exact HB.out | apply below_alloc | apply pw_below_drewN | apply below_drew1 | refine below_set ?_ GE161.out | refine below_set ?_ GE166.out) | exact HB.out)) hb); have n3_ := Aside0.mk (hbox); have n4_ := Aside0.mk ((by rw [hg]; exact (below_size (by repeat (first | (with_reducible first | exact HB.out | apply below_alloc | apply pw_below_drewN | apply below_drew1 | refine below_set ?_ GE161.out | refine below_set ?_ GE166.out) | exact HB.out))) : w.heap.size ≤ gb171)); have n5_ := Aside0.mk ((by rw [hg]; exact (below_size (by repeat (first | (with_reducible first | exact HB.out | apply below_alloc | apply pw_below_drewN | apply below_drew1 | refine below_set ?_ GE161.out | refine below_set ?_ GE166.out) | exact HB.out))) : w.heap.size ≤ gb171)); have n6_ := Aside0.mk ((by rw [hg]; exact Nat.ne_of_lt (blk_lt (g := gb161) (o := .cells #[.int .i64 a0_0, .int .i64 a0_1, .slice (some ad165) l0_2.length c0_2, .int .i64 a0_3, .int .i64 a0_4] 34 (0, 0)) (by (with_reducible repeat (first | refine blk_drewN ?_ _ | refine blk_drew ?_ | refine blk_alloc ?_ _)); exact BK161.out)) : gb161 ≠ gb171)); have n7_ := Aside0.mk ((by rw [hg]; exact Nat.ne_of_gt (blk_lt (g := gb161) (o := .cells #[.int .i64 a0_0, .int .i64 a0_1, .slice (some ad165) l0_2.length c0_2, .int .i64 a0_3, .int .i64 a0_4] 34 (0, 0)) (by (with_reducible repeat (first | refine blk_drewN ?_ _ | refine blk_drew ?_ | refine blk_alloc ?_ _)); exact BK161.out)) : gb171 ≠ gb161)); have n8_ := Aside0.mk ((by rw [hg]; exact Nat.ne_of_lt (blk_lt (g := gb166) (o := .cells #[.int .i64 ((rd_T88 l0_2 x28_2).f0), .int .i64 ((rd_T88 l0_2 x28_2).f1), .int .i64 ((rd_T88 l0_2 x28_2).f2), .int .i64 ((rd_T88 l0_2 x28_2).f3), .int .i64 ((rd_T88 l0_2 x28_2).f4), .int .i64 ((rd_T88 l0_2 x28_2).f5), .bool ((rd_T88 l0_2 x28_2).f6)] 88 (0, 0)) (by (with_reducible repeat (first | refine blk_drewN ?_ _ | refine blk_drew ?_ | refine blk_alloc ?_ _)); exact BK166.out)) : gb166 ≠ gb171)); have n9_ := Aside0.mk ((by rw [hg]; exact Nat.ne_of_gt (blk_lt (g := gb166) (o := .cells #[.int .i64 ((rd_T88 l0_2 x28_2).f0), .int .i64 ((rd_T88 l0_2 x28_2).f1), .int .i64 ((rd_T88 l0_2 x28_2).f2), .int .i64 ((rd_T88 l0_2 x28_2).f3), .int .i64 ((rd_T88 l0_2 x28_2).f4), .int .i64 ((rd_T88 l0_2 x28_2).f5), .bool ((rd_T88 l0_2 x28_2).f6)] 88 (0, 0)) (by (with_reducible repeat (first | refine blk_drewN ?_ _ | refine blk_drew ?_ | refine blk_alloc ?_ _)); exact BK166.out)) : gb171 ≠ gb166)); clear BK161; clear BK166; clear HB; have BK161 := n0_; have BK166 := n1_; have HB := n2_; have BK171 := n3_; have GW171 := n4_; have GE171 := n5_; have NB161_171 := n6_; have NB171_161 := n7_; have NB166_171 := n8_; have NB171_166 := n9_; clear n0_ n1_ n2_ n3_ n4_ n5_ n6_ n7_ n8_ n9_; clear hb hbox hg; have hnb138 := NB171_161.out; have hnc138 := NB161_171.out; have hnb139 := NB171_166.out; have hnc139 := NB166_171.out; have hcz140_0 : w137.cell? ⟨gb171, 0, none⟩ = some (.int .i64 0) := (blk_cell BK171.out 0).trans rfl; have hcz140_1 : w137.cell? ⟨gb171, 1, none⟩ = some (.int .i64 0) := (blk_cell BK171.out 1).trans rfl; have hcz140_2 : w137.cell? ⟨gb171, 2, none⟩ = some (.int .i64 0) := (blk_cell BK171.out 2).trans rfl; have hcz140_3 : w137.cell? ⟨gb171, 3, none⟩ = some (.int .i64 0) := (blk_cell BK171.out 3).trans rfl; have hcz140_4 : w137.cell? ⟨gb171, 4, none⟩ = some (.int .i64 0) := (blk_cell BK171.out 4).trans rfl; have hcz140_5 : w137.cell? ⟨gb171, 5, none⟩ = some (.int .i64 0) := (blk_cell BK171.out 5).trans rfl; have hcz140_6 : w137.cell? ⟨gb171, 6, none⟩ = some (.bool false) := (blk_cell BK171.out 6).trans rfl; have hfz140_0 := blk_frozen BK171.out 0; have hfz140_1 := blk_frozen BK171.out 1; have hfz140_2 := blk_frozen BK171.out 2; have hfz140_3 := blk_frozen BK171.out 3; have hfz140_4 := blk_frozen BK171.out 4; have hfz140_5 := blk_frozen BK171.out 5; have hfz140_6 := blk_frozen BK171.out 6; have hcz141_0 : w137.cell? ⟨gb166, 0, none⟩ = some (.int .i64 ((rd_T88 l0_2 x28_2).f0)) := (blk_cell BK166.out 0).trans rfl; have hcz141_1 : w137.cell? ⟨gb166, 1, none⟩ = some (.int .i64 ((rd_T88 l0_2 x28_2).f1)) := (blk_cell BK166.out 1).trans rfl; have hcz141_2 : w137.cell? ⟨gb166, 2, none⟩ = some (.int .i64 ((rd_T88 l0_2 x28_2).f2)) := (blk_cell BK166.out 2).trans rfl; have hcz141_3 : w137.cell? ⟨gb166, 3, none⟩ = some (.int .i64 ((rd_T88 l0_2 x28_2).f3)) := (blk_cell BK166.out 3).trans rfl; have hcz141_4 : w137.cell? ⟨gb166, 4, none⟩ = some (.int .i64 ((rd_T88 l0_2 x28_2).f4)) := (blk_cell BK166.out 4).trans rfl; have hcz141_5 : w137.cell? ⟨gb166, 5, none⟩ = some (.int .i64 ((rd_T88 l0_2 x28_2).f5)) := (blk_cell BK166.out 5).trans rfl; have hcz141_6 : w137.cell? ⟨gb166, 6, none⟩ = some (.bool ((rd_T88 l0_2 x28_2).f6)) := (blk_cell BK166.out 6).trans rfl; have hfz141_0 := blk_frozen BK166.out 0; have hfz141_1 := blk_frozen BK166.out 1; have hfz141_2 := blk_frozen BK166.out 2; have hfz141_3 := blk_frozen BK166.out 3; have hfz141_4 := blk_frozen BK166.out 4; have hfz141_5 := blk_frozen BK166.out 5; have hfz141_6 := blk_frozen BK166.out 6) | (go_at_call 79; (with_reducible refine (impl_dist.calls ((rd_T88 l0_2 (ji48)).f0) ((rd_T88 l0_2 x28_2).f0) t174 _ A101.out).mono ?_); rintro e w' ⟨rfl, ⟨nd, rfl⟩⟩) | (go_at_call 79; (with_reducible refine (impl_dist.calls ((rd_T88 l0_2 (ji48)).f1) ((rd_T88 l0_2 x28_2).f1) t175 _ A110.out).mono ?_); rintro e w' ⟨rfl, ⟨nd, rfl⟩⟩))
                                        go_roundg kj21
                                        case measure => have := HJ1.out; have := HK2.out; have := HJ21.out; omega
                                        case rel => exact ⟨(wrap64 (x28_2 + 1)), (by first | rfl | (simp; done) | (simp [*]; done)), H', ⟨by have := HJ1.out; have := HK2.out; have := HJ21.out; omega⟩, ⟨by (with_reducible repeat (first | refine blk_drewN ?_ _ | refine blk_drew ?_ | refine blk_alloc ?_ _)); refine blk_far ?_ NB161_171.out _; (with_reducible repeat (first | refine blk_drewN ?_ _ | refine blk_drew ?_ | refine blk_alloc ?_ _)); refine blk_far ?_ NB161_171.out _; (with_reducible repeat (first | refine blk_drewN ?_ _ | refine blk_drew ?_ | refine blk_alloc ?_ _)); refine blk_far ?_ NB161_171.out _; (with_reducible repeat (first | refine blk_drewN ?_ _ | refine blk_drew ?_ | refine blk_alloc ?_ _)); refine blk_far ?_ NB161_171.out _; (with_reducible repeat (first | refine blk_drewN ?_ _ | refine blk_drew ?_ | refine blk_alloc ?_ _)); refine blk_far ?_ NB161_171.out _; (with_reducible repeat (first | refine blk_drewN ?_ _ | refine blk_drew ?_ | refine blk_alloc ?_ _)); refine blk_far ?_ NB161_171.out _; (with_reducible repeat (first | refine blk_drewN ?_ _ | refine blk_drew ?_ | refine blk_alloc ?_ _)); refine blk_far ?_ NB161_171.out _; (with_reducible repeat (first | refine blk_drewN ?_ _ | refine blk_drew ?_ | refine blk_alloc ?_ _)); exact BK161.out⟩, ⟨by repeat (first | (with_reducible first | exact HB.out | apply below_alloc | apply pw_below_drewN | apply below_drew1 | refine below_set ?_ GE161.out | refine below_set ?_ GE166.out | refine below_set ?_ GE171.out) | exact HB.out)⟩⟩
                            · rw [if_neg c50] at H
                              exact absurd H (by simp)
                          · rw [if_neg c49] at H
                            exact absurd H (by simp)
                · rw [if_neg c21] at H
                  exact absurd H (by simp)
              · rw [if_neg c20] at H
                exact absurd H (by simp)
            · rw [if_neg c19] at H
              have c19b0 : decide (x28_2 < (l0_2.length : Int)) = false := decide_eq_false c19
              clear c19
              obtain rfl := Option.some.inj H
              go_wp2
              go_ret
              exact ⟨by first | rfl | (simp [errW_none, errW_some] <;> rfl) | (simp [*, errW_none, errW_some] <;> rfl), by repeat (first | (with_reducible first | exact HB.out | apply below_alloc | apply pw_below_drewN | apply below_drew1 | refine below_set ?_ GE161.out) | exact HB.out)⟩

end Go.Proofs.Ytidenmcoilmbcaa.PFnExactFlyPathOk
