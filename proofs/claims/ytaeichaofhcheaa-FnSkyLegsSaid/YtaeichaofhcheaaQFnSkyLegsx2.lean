/- The walk of what the law FnSkyLegs reaches: laid by a program of this session (ownprint.py). -/
import Derived.Test.YtaeichaofhcheaaQFnSkyLegsx0
namespace Go.Proofs.Ytaeichaofhcheaa.QFnSkyLegs
open Go.RowKit Go.Proofs.YtaeichaofhcheaaW.PrintWords Go.Proofs.YtaeichaofhcheaaW.PrintLast Go.Proofs.YtaeichaofhcheaaW.PrintMore Go.Proofs.Ytaeichaofhcheaa.Z
attribute [local go_sem] max2_int min2_int max_two min_two max_three min_three max_four min_four zdn   -- for this text's walks alone
set_option linter.unusedVariables false
set_option linter.unusedSimpArgs false
/-- A state of type 43 at block g of W; what its slices lead to came in by w0. -/
def IsS43 (w0 W : World) (g : Nat) (f0 : List Int) (f1 : Int) : Prop := ∃ A0 c0, W.heap[g]? = some (.cells #[.slice A0 f0.length c0, .int .i64 f1] 43 (0, 0)) ∧ w0.heap.size ≤ g ∧ Kd.C (Kd.int .u8) w0 A0 f0.length f0
theorem IsS43.grown {w0 W : World} {g : Nat} {f0 : List Int} {f1 : Int} {W1 : World} {row : Option Nat} (h : IsS43 w0 W g f0 f1) (hw : W.grownBy W1 row) (hne : some g ≠ row) : IsS43 w0 W1 g f0 f1 := by
 obtain ⟨A0, c0, hb, hg, hr0⟩ := h
 exact ⟨A0, c0, blk_grown hb hw hne, hg, hr0⟩
theorem IsS43.own_neN {w0 W : World} {g : Nat} {f0 : List Int} {f1 : Int} {α : Type} {d : Kd α} {e : Nat} {base : Nat} {ok : Nat → Prop} {v : Value} {xs : List α} (h : IsS43 w0 W g f0 f1) (ho : Kd.N d e W base ok v xs) (ht : e ≠ 43) : some g ≠ v.ownBlock := by
 obtain ⟨A0, c0, hb, hg, hr0⟩ := h
 exact Kd.N_ne ho hb ht
theorem IsS43.fresh {w0 W : World} {g : Nat} {f0 : List Int} {f1 : Int} (h : IsS43 w0 W g f0 f1) : ∀ k, W.heap.size ≤ k → k ≠ g := by
 obtain ⟨A0, c0, hb, hg, hr0⟩ := h
 exact Kd.freshB hb
theorem IsS43.kept {w0 W : World} {g : Nat} {f0 : List Int} {f1 : Int} {W1 : World} {S : Nat → Prop} (h : IsS43 w0 W g f0 f1) (hk : Kept W W1 S) (hne : ¬ S g) : IsS43 w0 W1 g f0 f1 := by
 obtain ⟨A0, c0, hb, hg, hr0⟩ := h
 exact ⟨A0, c0, blk_kept hb hk hne, hg, hr0⟩
theorem IsS43.below {w0 W : World} {g : Nat} {f0 : List Int} {f1 : Int} {W1 : World} (h : IsS43 w0 W g f0 f1) (hw : Below W.heap.size W W1) : IsS43 w0 W1 g f0 f1 := h.grown (grown_of_below hw none) (by simp)
theorem IsS43.alloc {w0 W : World} {g : Nat} {f0 : List Int} {f1 : Int} (h : IsS43 w0 W g f0 f1) (o : Obj) : IsS43 w0 (W.alloc o) g f0 f1 := h.below (below_alloc (Below.refl _ _) o)
theorem IsS43.drewN {w0 W : World} {g : Nat} {f0 : List Int} {f1 : Int} (h : IsS43 w0 W g f0 f1) (m : Nat) : IsS43 w0 (W.drewN m) g f0 f1 := h
theorem IsS43.drew {w0 W : World} {g : Nat} {f0 : List Int} {f1 : Int} (h : IsS43 w0 W g f0 f1) : IsS43 w0 W.drew g f0 f1 := h
theorem IsS43.at_ {w0 W : World} {g : Nat} {f0 : List Int} {f1 : Int} {w' : World} {m : Nat} (hq : W.drewN m = w') (h : IsS43 w0 W g f0 f1) : IsS43 w0 w' g f0 f1 := by subst hq; exact IsS43.drewN h m
theorem IsS43.apart {w0 W : World} {g : Nat} {f0 : List Int} {f1 : Int} {α : Type} {d : Kd α} {e : Nat} {base : Nat} {ok : Nat → Prop} {v : Value} {xs : List α} (h : IsS43 w0 W g f0 f1) (ho : d.R e W base ok v xs) (ht : ∀ q, q ∈ e :: d.E → q ≠ 43) : d.R e W base (fun k => ok k ∧ k ≠ g) v xs := by
 obtain ⟨A0, c0, hb, hg, hr0⟩ := h
 exact Kd.R_types ho hb ht
theorem IsS43.own_ne {w0 W : World} {g : Nat} {f0 : List Int} {f1 : Int} {α : Type} {d : Kd α} {e : Nat} {base : Nat} {ok : Nat → Prop} {v : Value} {xs : List α} (h : IsS43 w0 W g f0 f1) (ho : d.R e W base ok v xs) (ht : e ≠ 43) : some g ≠ v.ownBlock := by
 obtain ⟨A0, c0, hb, hg, hr0⟩ := h
 exact Kd.R_ne ho hb ht
theorem IsS43.apartQ {w0 W : World} {g : Nat} {f0 : List Int} {f1 : Int} {α : Type} {d : Kd α} {e : Nat} {base : Nat} {ok : Nat → Prop} {v : Value} {xs : List α} (h : IsS43 w0 W g f0 f1) (ho : d.Q e W base ok v xs) (ht : ∀ q, q ∈ e :: d.E → q ≠ 43) : d.Q e W base (fun k => ok k ∧ k ≠ g) v xs := by
 obtain ⟨A0, c0, hb, hg, hr0⟩ := h
 exact Kd.Q_types ho hb ht
theorem IsS43.own_neQ {w0 W : World} {g : Nat} {f0 : List Int} {f1 : Int} {α : Type} {d : Kd α} {e : Nat} {base : Nat} {ok : Nat → Prop} {v : Value} {xs : List α} (h : IsS43 w0 W g f0 f1) (ho : d.Q e W base ok v xs) (ht : e ≠ 43) : some g ≠ v.ownBlock := by
 obtain ⟨A0, c0, hb, hg, hr0⟩ := h
 exact Kd.Q_ne ho hb ht
theorem IsS43.apartS {w0 W : World} {g : Nat} {f0 : List Int} {f1 : Int} {α : Type} {d : Kd α} {e : Nat} {base : Nat} {ok : Nat → Prop} {v : Value} {xs : List α} (h : IsS43 w0 W g f0 f1) (ho : d.S e W base ok v xs) (ht : ∀ q, q ∈ e :: d.E → q ≠ 43) : d.S e W base (fun k => ok k ∧ k ≠ g) v xs := by
 obtain ⟨A0, c0, hb, hg, hr0⟩ := h
 exact Kd.S_types ho hb ht
theorem IsS43.own_neS {w0 W : World} {g : Nat} {f0 : List Int} {f1 : Int} {α : Type} {d : Kd α} {e : Nat} {base : Nat} {ok : Nat → Prop} {v : Value} {xs : List α} (h : IsS43 w0 W g f0 f1) (ho : d.S e W base ok v xs) (ht : e ≠ 43) : some g ≠ v.ownBlock := by
 obtain ⟨A0, c0, hb, hg, hr0⟩ := h
 exact Kd.S_ne ho hb ht
theorem IsS43.lt {w0 W : World} {g : Nat} {f0 : List Int} {f1 : Int} (h : IsS43 w0 W g f0 f1) : g < W.heap.size := by
 obtain ⟨A0, c0, hb, hg, hr0⟩ := h
 exact blk_lt hb
theorem IsS43.ge {w0 W : World} {g : Nat} {f0 : List Int} {f1 : Int} (h : IsS43 w0 W g f0 f1) : w0.heap.size ≤ g := by
 obtain ⟨A0, c0, hb, hg, hr0⟩ := h
 exact hg
theorem IsS43.ne_blk {w0 W : World} {g : Nat} {f0 : List Int} {f1 : Int} {a : Nat} {cs : Array Value} {t : TypeId} {fr : Nat × Nat} (h : IsS43 w0 W g f0 f1) (hb2 : W.heap[a]? = some (.cells cs t fr)) (ht : t ≠ 43) : g ≠ a := by
 obtain ⟨A0, c0, hb, hg, hr0⟩ := h
 rintro rfl
 rw [hb] at hb2
 injection hb2 with hb2
 injection hb2 with _ ht2
 exact ht ht2.symm
theorem IsS43.far {w0 W : World} {g : Nat} {f0 : List Int} {f1 : Int} {p : Addr} (h : IsS43 w0 W g f0 f1) (hne : g ≠ p.block) (u : Value) : IsS43 w0 (W.setCell p u) g f0 f1 := by
 obtain ⟨A0, c0, hb, hg, hr0⟩ := h
 exact ⟨A0, c0, blk_far hb hne u, hg, hr0⟩
theorem cellS43_0 {W : World} {g : Nat} {A0 : Option Addr} {c0 : Nat} {f0 : List Int} {f1 : Int} (h : W.heap[g]? = some (.cells #[.slice A0 f0.length c0, .int .i64 f1] 43 (0, 0))) : W.cell? ⟨g, 0, none⟩ = some (.slice A0 f0.length c0) := (blk_cell h 0).trans rfl
theorem cellS43_1 {W : World} {g : Nat} {A0 : Option Addr} {c0 : Nat} {f0 : List Int} {f1 : Int} (h : W.heap[g]? = some (.cells #[.slice A0 f0.length c0, .int .i64 f1] 43 (0, 0))) : W.cell? ⟨g, 1, none⟩ = some (.int .i64 f1) := (blk_cell h 1).trans rfl
theorem IsS43.set_1 {w0 W : World} {g : Nat} {f0 : List Int} {f1 : Int} (h : IsS43 w0 W g f0 f1) (x : Int) : IsS43 w0 (W.setCell ⟨g, 1, none⟩ (.int .i64 x)) g f0 x := by
 obtain ⟨A0, c0, hb, hg, hr0⟩ := h
 exact ⟨A0, c0, by simpa using blk_set hb 1 (.int .i64 x), hg, hr0⟩
theorem IsS43.new (w0 W : World) (A0 : Option Addr) (c0 : Nat) (f0 : List Int) (f1 : Int) (hB : Below w0.heap.size w0 W) (hr0 : Kd.C (Kd.int .u8) w0 A0 f0.length f0) : IsS43 w0 (W.alloc (.cells #[.slice A0 f0.length c0, .int .i64 f1] 43)) W.heap.size f0 f1 := ⟨A0, c0, by simpa using heap_alloc_new W _, hB.size, hr0⟩
def spec_l1Open.f (l0 : List Int) : Option (List Int × Int) := if (l0.length : Int) > 2000 then (if 2000 ≤ (l0.length : Int) then (some (l0.take 2000, 0)) else (none)) else (some (l0, 0))
set_option maxHeartbeats 8000000 in
set_option maxRecDepth 100000 in
theorem spec_l1Open.calls (A0 : Option Addr) (c0 : Nat) (l0 : List Int) (r1 : List Int) (r2 : Int) (w0 w : World) (hB : Below w0.heap.size w0 w) (hr0 : Kd.C (Kd.int .u8) w0 A0 l0.length l0) (hc0 : l0.length ≤ c0) (h : spec_l1Open.f l0 = some (r1, r2)) :
 Calls Try.prog 10 #[.slice A0 l0.length c0] w fun e w' => ∃ g_ : Nat, e = .returned (.pointer (some ⟨g_, 0, none⟩)) ∧ IsS43 w0 w' g_ r1 r2 ∧ Below w0.heap.size w0 w' ∧ Below w.heap.size w w' := by
 have hu43 := Try.underlying43
 have HR0 := zA hr0
 have HC0 := zA hc0
 clear hr0 hc0
 have HBW := zA (Below.refl w.heap.size w)
 have HW0 := zA hB.size
 have HB := zA hB
 clear hB
 have H : (if (l0.length : Int) > 2000 then (if 2000 ≤ (l0.length : Int) then (some (l0.take 2000, 0)) else (none)) else (some (l0, 0))) = some (r1, r2) := h
 clear h
 by_cases c2 : (l0.length : Int) > 2000
 rotate_left
 ·rw [if_neg c2] at H
  have c2b0 : decide (2000 < (l0.length : Int)) = false := decide_eq_false c2
  have c2b1 : decide (2000 < l0.length) = false := decide_eq_false (by omega)
  clear c2
  simp only [Option.some.injEq, Prod.mk.injEq] at H
  obtain ⟨rfl, rfl⟩ := H
  go_enter Try.func10, Try.ntmps10
  go_wp2_with (first | ((with_reducible refine gate_dst (N := 10) rfl ?_); refine zbx 10 #[.slice A0 l0.length c0, .int .i64 0] 43 ?_; intro gb103 hg w6 hbox hb; have BK103 := zA hbox; have GW103 := zA ((by rw [hg]; exact (below_size (by repeat (first | (with_reducible first | exact HBW.out | apply below_alloc | apply pw_below_drewN | apply below_drew1) | exact HBW.out))) : w.heap.size ≤ gb103)); have GE103 := zA ((Nat.le_trans HW0.out (by rw [hg]; exact (below_size (by repeat (first | (with_reducible first | exact HBW.out | apply below_alloc | apply pw_below_drewN | apply below_drew1) | exact HBW.out))) : w.heap.size ≤ gb103) : w0.heap.size ≤ gb103)); replace HBW := zA (below_step HBW.out hb); replace HB := zE (zs0 HB) hb; clear hb hbox hg))
  go_ret
  exact ⟨_, rfl, (show IsS43 w0 _ gb103 l0 0 from ⟨_, _, zh BK103, GE103.out, HR0.out⟩), zs1 HB GE103, by repeat (first | (with_reducible first | exact HBW.out | apply below_alloc | apply pw_below_drewN | apply below_drew1 | refine below_set ?_ GW103.out) | exact HBW.out)⟩
 rw [if_pos c2] at H
 have c2b0 : decide (2000 < (l0.length : Int)) = true := decide_eq_true c2
 have c2b1 : decide (2000 < l0.length) = true := decide_eq_true (by omega)
 clear c2
 by_cases c3 : 2000 ≤ (l0.length : Int)
 rotate_left
 ·rw [if_neg c3] at H
  exact absurd H (by simp)
 rw [if_pos c3] at H
 have c3b0 := eq_true c3
 have c3b1 : decide (2000 ≤ (l0.length : Int)) = true := decide_eq_true c3
 clear c3
 simp only [Option.some.injEq, Prod.mk.injEq] at H
 obtain ⟨rfl, rfl⟩ := H
 obtain ⟨i04, hi04, _, hsz4, _⟩ := info_parts info5
 obtain ⟨hcut4, hA4, hC4⟩ := print_take_of (P := Try.prog) (Value.int .u8) 0 22 5 .i64 Try.underlying22 hi04 hsz4 A0 c0 l0 2000 (by omega) (za) HC0.out
 have HR101 := zA (Kd.C_of_reads (h1 := fun _ => rfl) (hA4 _ (Kd.reads_of_C HR0.out)))
 have HC101 := zA hC4
 clear hA4 hC4 hi04 hsz4
 go_enter Try.func10, Try.ntmps10
 go_wp2_with (first | ((with_reducible refine gate_dst (N := 10) rfl ?_); refine zbx 10 #[.slice A0 (l0.take 2000).length c0, .int .i64 0] 43 ?_; intro gb102 hg w5 hbox hb; have BK102 := zA hbox; have GW102 := zA ((by rw [hg]; exact (below_size (by repeat (first | (with_reducible first | exact HBW.out | apply below_alloc | apply pw_below_drewN | apply below_drew1) | exact HBW.out))) : w.heap.size ≤ gb102)); have GE102 := zA ((Nat.le_trans HW0.out (by rw [hg]; exact (below_size (by repeat (first | (with_reducible first | exact HBW.out | apply below_alloc | apply pw_below_drewN | apply below_drew1) | exact HBW.out))) : w.heap.size ≤ gb102) : w0.heap.size ≤ gb102)); replace HBW := zA (below_step HBW.out hb); replace HB := zE (zs0 HB) hb; clear hb hbox hg))
 go_ret
 exact ⟨_, rfl, (show IsS43 w0 _ gb102 (l0.take 2000) 0 from ⟨_, _, zh BK102, GE102.out, HR101.out⟩), zs1 HB GE102, by repeat (first | (with_reducible first | exact HBW.out | apply below_alloc | apply pw_below_drewN | apply below_drew1 | refine below_set ?_ GW102.out) | exact HBW.out)⟩
def spec_l1Rd_pick.j0 : Nat → Int → Bool → List Int → Int → Option (Int × Int)
 | 0, _, _, _, _ => none
 | k + 1, x1, x24, x1000, x1001 => if x24 = true then (some (0, x1001)) else (if (wrap64 (x1001 - 1)) < (x1000.length : Int) then (if 0 ≤ (wrap64 (x1001 - 1)) then (if x1 = 0 then (none) else (some (Int.tmod (wrap64 (rd x1000 (wrap64 (x1001 - 1)))) x1, x1001))) else (none)) else (if (x1000.length : Int) = 0 then (none) else (if 0 ≤ (Int.tmod (wrap64 (x1001 - 1)) (x1000.length : Int)) then (if (Int.tmod (wrap64 (x1001 - 1)) (x1000.length : Int)) < (x1000.length : Int) then (if 0 ≤ (Int.tmod (wrap64 ((wrap64 ((wrap64 (x1001 - 1)) * 7)) + 3)) (x1000.length : Int)) then (if (Int.tmod (wrap64 ((wrap64 ((wrap64 (x1001 - 1)) * 7)) + 3)) (x1000.length : Int)) < (x1000.length : Int) then (if x1 = 0 then (none) else (some (Int.tmod (Go.bits .xor .i64 (wrap64 ((wrap64 ((wrap64 ((wrap64 ((wrap64 (rd x1000 (Int.tmod (wrap64 (x1001 - 1)) (x1000.length : Int)))) * 131)) + (wrap64 ((wrap64 (rd x1000 (Int.tmod (wrap64 ((wrap64 ((wrap64 (x1001 - 1)) * 7)) + 3)) (x1000.length : Int)))) * 1117)))) + (wrap64 ((wrap64 (x1001 - 1)) * 29)))) + (wrap64 ((wrap64 (Int.tdiv (wrap64 (x1001 - 1)) (x1000.length : Int))) * 53)))) (wrap64 (Int.tdiv (wrap64 ((wrap64 ((wrap64 ((wrap64 ((wrap64 (rd x1000 (Int.tmod (wrap64 (x1001 - 1)) (x1000.length : Int)))) * 131)) + (wrap64 ((wrap64 (rd x1000 (Int.tmod (wrap64 ((wrap64 ((wrap64 (x1001 - 1)) * 7)) + 3)) (x1000.length : Int)))) * 1117)))) + (wrap64 ((wrap64 (x1001 - 1)) * 29)))) + (wrap64 ((wrap64 (Int.tdiv (wrap64 (x1001 - 1)) (x1000.length : Int))) * 53)))) 64))) x1, x1001))) else (none)) else (none)) else (none)) else (none))))
def spec_l1Rd_pick.f (k : Nat) (s0_0 : List Int) (s0_1 : Int) (a1 : Int) : Option (Int × Int) := if a1 < 1 then (spec_l1Rd_pick.j0 k a1 true s0_0 (wrap64 (s0_1 + 1))) else (spec_l1Rd_pick.j0 k a1 ((s0_0.length : Int) == 0) s0_0 (wrap64 (s0_1 + 1)))
set_option maxHeartbeats 8000000 in
set_option maxRecDepth 100000 in
theorem spec_l1Rd_pick.calls (k : Nat) (g : Nat) (s0_0 : List Int) (s0_1 : Int) (a1 : Int) (r1 : Int) (r2 : Int) (w0 w : World) (hI : IsS43 w0 w g s0_0 s0_1) (hB : Below w0.heap.size w0 w) (h : spec_l1Rd_pick.f k s0_0 s0_1 a1 = some (r1, r2)) :
 Calls Try.prog 11 #[.pointer (some ⟨g, 0, none⟩), .int .i64 a1] w fun e w' => e = .returned (.int .i64 r1) ∧ IsS43 w0 w' g s0_0 r2 ∧ Below w0.heap.size w0 w' ∧ KeepBut w w' g none := by
 have HI0 := zA hI
 have HK := zA (KeepBut.refl w g none)
 have HL := zA hB.size
 clear hI
 have HW0 := zA hB.size
 have HB := zA hB
 clear hB
 have H : (if a1 < 1 then (spec_l1Rd_pick.j0 k a1 true s0_0 (wrap64 (s0_1 + 1))) else (spec_l1Rd_pick.j0 k a1 ((s0_0.length : Int) == 0) s0_0 (wrap64 (s0_1 + 1)))) = some (r1, r2) := h
 clear h
 have HC3 := zA H
 clear H
 obtain ⟨ASz4_0, cSz4_0, HGz4, hgz4, HSz4_0⟩ := HI0.out
 have hcz4_0 := cellS43_0 HGz4
 have hcz4_1 := cellS43_1 HGz4
 have hfz4_1 := blk_frozen HGz4 1
 clear HGz4 hgz4
 go_enter Try.func11, Try.ntmps11
 go_upto_region 2 with (fail)
 repeat (go_quiet (fail); go_upto_region 2 with (fail))
 go_cut [24] (fun v24 wc => ∃ (kq : Nat) (x24_2 : Bool), v24 = .bool x24_2 ∧ Aside0 (spec_l1Rd_pick.j0 kq a1 x24_2 s0_0 (wrap64 (s0_1 + 1)) = some (r1, r2)) ∧ Aside0 (kq ≤ k) ∧ Aside0 (IsS43 w0 wc g s0_0 (wrap64 (s0_1 + 1))) ∧ Aside0 (KeepBut w wc g none) ∧ Aside0 (Below w0.heap.size w0 wc))
 case first =>
  have H := HC3.out
  clear HC3
  by_cases c5 : a1 < 1
  ·rw [if_pos c5] at H
   have c5b0 : decide (a1 < 1) = true := decide_eq_true c5
   clear c5
   (first | rw [c5b0] | (simp only [i64_w, i32_w]; rw [c5b0]) | skip)
   have H' := zA H
   clear H
   go_wp2
   repeat (go_quiet (fail); try go_wp2)
   go_meet
   case rel => exact ⟨_, (true), zi, H', ⟨by first | omega | exact Nat.le_refl _⟩, ⟨by repeat (first | (with_reducible first | exact HI0.out | apply IsS43.alloc | apply IsS43.drewN | apply IsS43.drew | apply IsS43.set_1) | exact HI0.out)⟩, ⟨by repeat (first | (with_reducible first | exact HK.out | apply KeepBut.set_ | apply keep_drewN | apply keep_drew | apply keep_alloc) | exact HK.out)⟩, ⟨by repeat (first | (with_reducible first | exact HB.out | apply below_alloc | apply pw_below_drewN | apply below_drew1 | refine below_set ?_ (IsS43.ge HI0.out)) | exact HB.out)⟩⟩
  rw [if_neg c5] at H
  have c5b0 : decide (a1 < 1) = false := decide_eq_false c5
  clear c5
  (first | rw [c5b0] | (simp only [i64_w, i32_w]; rw [c5b0]) | skip)
  have H' := zA H
  clear H
  obtain ⟨ASz6_0, cSz6_0, HGz6, hgz6, HSz6_0⟩ := HI0.out
  have hcz6_0 := cellS43_0 HGz6
  have hcz6_1 := cellS43_1 HGz6
  have hfz6_1 := blk_frozen HGz6 1
  clear HGz6 hgz6
  go_wp2
  repeat (go_quiet (fail); try go_wp2)
  go_meet
  case rel => exact ⟨_, (((s0_0.length : Int) == 0)), zi, H', ⟨by first | omega | exact Nat.le_refl _⟩, ⟨by repeat (first | (with_reducible first | exact HI0.out | apply IsS43.alloc | apply IsS43.drewN | apply IsS43.drew | apply IsS43.set_1) | exact HI0.out)⟩, ⟨by repeat (first | (with_reducible first | exact HK.out | apply KeepBut.set_ | apply keep_drewN | apply keep_drew | apply keep_alloc) | exact HK.out)⟩, ⟨by repeat (first | (with_reducible first | exact HB.out | apply below_alloc | apply pw_below_drewN | apply below_drew1 | refine below_set ?_ (IsS43.ge HI0.out)) | exact HB.out)⟩⟩
 case rest =>
  clear HC3
  try clear c1
  try clear p2
  try clear c5
  try clear c5b0
  try clear p6
  try clear hcz4_0 hcz4_1
  try clear hcz6_0 hcz6_1
  try clear hfz4_1
  try clear hfz6_1
  obtain ⟨kq, x24_2, rfl, HA, HJ2, HI0, HK, HB⟩ := hcut
  cases kq with
  | zero => exact absurd HA.out (by simp [spec_l1Rd_pick.j0])
  | succ kj2 =>
   have H := HA.out
   clear HA
   simp only [spec_l1Rd_pick.j0] at H
   by_cases c7 : x24_2 = true
   ·subst c7
    have H1 : (some (0, (wrap64 (s0_1 + 1)))) = some (r1, r2) := by rw [if_pos rfl] at H; exact H
    clear H
    have H := H1
    clear H1
    simp only [Option.some.injEq, Prod.mk.injEq] at H
    obtain ⟨rfl, rfl⟩ := H
    go_wp2
    repeat (go_quiet (fail); try go_wp2)
    go_ret
    exact ⟨ze, by repeat (first | (with_reducible first | exact HI0.out | apply IsS43.alloc | apply IsS43.drewN | apply IsS43.drew | apply IsS43.set_1) | exact HI0.out), by repeat (first | (with_reducible first | exact HB.out | apply below_alloc | apply pw_below_drewN | apply below_drew1 | refine below_set ?_ (IsS43.ge HI0.out)) | exact HB.out), by repeat (first | (with_reducible first | exact HK.out | apply KeepBut.set_ | apply keep_drewN | apply keep_drew | apply keep_alloc) | exact HK.out)⟩
   replace c7 := Bool.eq_false_iff.mpr c7
   subst c7
   have H1 : (if (wrap64 ((wrap64 (s0_1 + 1)) - 1)) < (s0_0.length : Int) then (if 0 ≤ (wrap64 ((wrap64 (s0_1 + 1)) - 1)) then (if a1 = 0 then (none) else (some (Int.tmod (wrap64 (rd s0_0 (wrap64 ((wrap64 (s0_1 + 1)) - 1)))) a1, (wrap64 (s0_1 + 1))))) else (none)) else (if (s0_0.length : Int) = 0 then (none) else (if 0 ≤ (Int.tmod (wrap64 ((wrap64 (s0_1 + 1)) - 1)) (s0_0.length : Int)) then (if (Int.tmod (wrap64 ((wrap64 (s0_1 + 1)) - 1)) (s0_0.length : Int)) < (s0_0.length : Int) then (if 0 ≤ (Int.tmod (wrap64 ((wrap64 ((wrap64 ((wrap64 (s0_1 + 1)) - 1)) * 7)) + 3)) (s0_0.length : Int)) then (if (Int.tmod (wrap64 ((wrap64 ((wrap64 ((wrap64 (s0_1 + 1)) - 1)) * 7)) + 3)) (s0_0.length : Int)) < (s0_0.length : Int) then (if a1 = 0 then (none) else (some (Int.tmod (Go.bits .xor .i64 (wrap64 ((wrap64 ((wrap64 ((wrap64 ((wrap64 (rd s0_0 (Int.tmod (wrap64 ((wrap64 (s0_1 + 1)) - 1)) (s0_0.length : Int)))) * 131)) + (wrap64 ((wrap64 (rd s0_0 (Int.tmod (wrap64 ((wrap64 ((wrap64 ((wrap64 (s0_1 + 1)) - 1)) * 7)) + 3)) (s0_0.length : Int)))) * 1117)))) + (wrap64 ((wrap64 ((wrap64 (s0_1 + 1)) - 1)) * 29)))) + (wrap64 ((wrap64 (Int.tdiv (wrap64 ((wrap64 (s0_1 + 1)) - 1)) (s0_0.length : Int))) * 53)))) (wrap64 (Int.tdiv (wrap64 ((wrap64 ((wrap64 ((wrap64 ((wrap64 (rd s0_0 (Int.tmod (wrap64 ((wrap64 (s0_1 + 1)) - 1)) (s0_0.length : Int)))) * 131)) + (wrap64 ((wrap64 (rd s0_0 (Int.tmod (wrap64 ((wrap64 ((wrap64 ((wrap64 (s0_1 + 1)) - 1)) * 7)) + 3)) (s0_0.length : Int)))) * 1117)))) + (wrap64 ((wrap64 ((wrap64 (s0_1 + 1)) - 1)) * 29)))) + (wrap64 ((wrap64 (Int.tdiv (wrap64 ((wrap64 (s0_1 + 1)) - 1)) (s0_0.length : Int))) * 53)))) 64))) a1, (wrap64 (s0_1 + 1))))) else (none)) else (none)) else (none)) else (none)))) = some (r1, r2) := by rw [if_neg (show ¬ (false = true) by decide)] at H; exact H
   clear H
   have H := H1
   clear H1
   by_cases c8 : (wrap64 ((wrap64 (s0_1 + 1)) - 1)) < (s0_0.length : Int)
   ·rw [if_pos c8] at H
    have c8b0 : decide ((wrap64 ((wrap64 (s0_1 + 1)) - 1)) < (s0_0.length : Int)) = true := decide_eq_true c8
    clear c8
    obtain ⟨ji9, hji9⟩ : ∃ j_ : Int, (wrap64 ((wrap64 (s0_1 + 1)) - 1)) = j_ := ⟨_, rfl⟩
    first | rw [hji9] at H | simp only [hji9] at H
    (try rw [hji9] at c8b0)
    have hji9w : (IntKind.i64.wrap ((wrap64 (s0_1 + 1)) - 1)) = ji9 := (i64_w _).trans hji9
    by_cases c10 : 0 ≤ (ji9)
    rotate_left
    ·rw [if_neg c10] at H
     exact absurd H (by simp)
    rw [if_pos c10] at H
    have c10b0 : decide (0 ≤ (ji9)) = true := decide_eq_true c10
    clear c10
    by_cases c11 : a1 = 0
    ·rw [if_pos c11] at H
     exact absurd H (by simp)
    rw [if_neg c11] at H
    have c11b0 : (a1 == 0) = false := beq_eq_false_iff_ne.mpr c11
    have c11b1 : (a1 != 0) = true := bne_iff_ne.mpr c11
    simp only [Option.some.injEq, Prod.mk.injEq] at H
    obtain ⟨rfl, rfl⟩ := H
    obtain ⟨ASz12_0, cSz12_0, HGz12, hgz12, HSz12_0⟩ := HI0.out
    have hcz12_0 := cellS43_0 HGz12
    have hcz12_1 := cellS43_1 HGz12
    have hfz12_1 := blk_frozen HGz12 1
    clear HGz12 hgz12
    have p104 : 0 ≤ ((ji9) : Int) := za
    have q104 : (ji9) < (s0_0.length : Int) := za
    obtain ⟨ad104, e104, hx104_0⟩ := Kd.at_int HSz12_0 (ji9) p104 q104
    cases e104
    replace hx104_0 := pw_cell_below HB.out hx104_0
    replace p104 := eq_true p104
    replace q104 := eq_true q104
    go_wp2
    repeat (go_quiet (fail); try go_wp2)
    go_ret
    exact ⟨by first | rfl | (simp [errW_none, errW_some] <;> rfl) | (simp only [← hji9]; first | rfl | (simp [errW_none, errW_some] <;> rfl)) | (simp [*, errW_none, errW_some] <;> rfl), by repeat (first | (with_reducible first | exact HI0.out | apply IsS43.alloc | apply IsS43.drewN | apply IsS43.drew | apply IsS43.set_1) | exact HI0.out), by repeat (first | (with_reducible first | exact HB.out | apply below_alloc | apply pw_below_drewN | apply below_drew1 | refine below_set ?_ (IsS43.ge HI0.out)) | exact HB.out), by repeat (first | (with_reducible first | exact HK.out | apply KeepBut.set_ | apply keep_drewN | apply keep_drew | apply keep_alloc) | exact HK.out)⟩
   rw [if_neg c8] at H
   have c8b0 : decide ((wrap64 ((wrap64 (s0_1 + 1)) - 1)) < (s0_0.length : Int)) = false := decide_eq_false c8
   clear c8
   by_cases c13 : (s0_0.length : Int) = 0
   ·rw [if_pos c13] at H
    exact absurd H (by simp)
   rw [if_neg c13] at H
   have c13b0 : ((s0_0.length : Int) == 0) = false := beq_eq_false_iff_ne.mpr c13
   have c13b1 : ((s0_0.length : Int) != 0) = true := bne_iff_ne.mpr c13
   have c13b2 : ¬ (s0_0 = []) := fun h_ => c13 (by rw [h_]; rfl)
   obtain ⟨ji14, hji14⟩ : ∃ j_ : Int, (Int.tmod (wrap64 ((wrap64 (s0_1 + 1)) - 1)) (s0_0.length : Int)) = j_ := ⟨_, rfl⟩
   first | rw [hji14] at H | simp only [hji14] at H
   by_cases c15 : 0 ≤ (ji14)
   rotate_left
   ·rw [if_neg c15] at H
    exact absurd H (by simp)
   rw [if_pos c15] at H
   have c15b0 : decide (0 ≤ (ji14)) = true := decide_eq_true c15
   clear c15
   by_cases c16 : (ji14) < (s0_0.length : Int)
   rotate_left
   ·rw [if_neg c16] at H
    exact absurd H (by simp)
   rw [if_pos c16] at H
   have c16b0 : decide ((ji14) < (s0_0.length : Int)) = true := decide_eq_true c16
   clear c16
   obtain ⟨ji17, hji17⟩ : ∃ j_ : Int, (Int.tmod (wrap64 ((wrap64 ((wrap64 ((wrap64 (s0_1 + 1)) - 1)) * 7)) + 3)) (s0_0.length : Int)) = j_ := ⟨_, rfl⟩
   first | rw [hji17] at H | simp only [hji17] at H
   by_cases c18 : 0 ≤ (ji17)
   rotate_left
   ·rw [if_neg c18] at H
    exact absurd H (by simp)
   rw [if_pos c18] at H
   have c18b0 : decide (0 ≤ (ji17)) = true := decide_eq_true c18
   clear c18
   by_cases c19 : (ji17) < (s0_0.length : Int)
   rotate_left
   ·rw [if_neg c19] at H
    exact absurd H (by simp)
   rw [if_pos c19] at H
   have c19b0 : decide ((ji17) < (s0_0.length : Int)) = true := decide_eq_true c19
   clear c19
   by_cases c20 : a1 = 0
   ·rw [if_pos c20] at H
    exact absurd H (by simp)
   rw [if_neg c20] at H
   have c20b0 : (a1 == 0) = false := beq_eq_false_iff_ne.mpr c20
   have c20b1 : (a1 != 0) = true := bne_iff_ne.mpr c20
   simp only [Option.some.injEq, Prod.mk.injEq] at H
   obtain ⟨rfl, rfl⟩ := H
   obtain ⟨ASz21_0, cSz21_0, HGz21, hgz21, HSz21_0⟩ := HI0.out
   have hcz21_0 := cellS43_0 HGz21
   have hcz21_1 := cellS43_1 HGz21
   have hfz21_1 := blk_frozen HGz21 1
   clear HGz21 hgz21
   have p105 : 0 ≤ ((ji14) : Int) := za
   have q105 : (ji14) < (s0_0.length : Int) := za
   obtain ⟨ad105, e105, hx105_0⟩ := Kd.at_int HSz21_0 (ji14) p105 q105
   cases e105
   replace hx105_0 := pw_cell_below HB.out hx105_0
   replace p105 := eq_true p105
   replace q105 := eq_true q105
   have p106 : 0 ≤ ((ji17) : Int) := za
   have q106 : (ji17) < (s0_0.length : Int) := za
   obtain ⟨ad106, e106, hx106_0⟩ := Kd.at_int HSz21_0 (ji17) p106 q106
   obtain rfl : ad105 = ad106 := (by injection e106)
   replace hx106_0 := pw_cell_below HB.out hx106_0
   replace p106 := eq_true p106
   replace q106 := eq_true q106
   go_wp2
   repeat (go_quiet (fail); try go_wp2)
   go_ret
   exact ⟨by first | rfl | (simp [errW_none, errW_some] <;> rfl) | (simp only [← hji14, ← hji17]; first | rfl | (simp [errW_none, errW_some] <;> rfl)) | (simp [*, errW_none, errW_some] <;> rfl), by repeat (first | (with_reducible first | exact HI0.out | apply IsS43.alloc | apply IsS43.drewN | apply IsS43.drew | apply IsS43.set_1) | exact HI0.out), by repeat (first | (with_reducible first | exact HB.out | apply below_alloc | apply pw_below_drewN | apply below_drew1 | refine below_set ?_ (IsS43.ge HI0.out)) | exact HB.out), by repeat (first | (with_reducible first | exact HK.out | apply KeepBut.set_ | apply keep_drewN | apply keep_drew | apply keep_alloc) | exact HK.out)⟩
def spec_DrawSkyLeg.f (k : Nat) (l0 : List Int) : Option (Int × Int × Int × Int) := (spec_l1Open.f l0).bind fun bt109 => ((spec_l1Rd_pick.f k bt109.1 bt109.2 16).bind fun bt112 => ((spec_l1Rd_pick.f k bt109.1 bt112.2 16).bind fun bt114 => ((spec_l1Rd_pick.f k bt109.1 bt114.2 16).bind fun bt117 => ((spec_l1Rd_pick.f k bt109.1 bt117.2 16).bind fun bt119 => ((spec_l1Rd_pick.f k bt109.1 bt119.2 12).bind fun bt122 => (if bt122.1 = 0 then ((some (([(-1), 16] : List Int) : List Int)).bind fun y124 => ((spec_l1Rd_pick.f k bt109.1 bt122.2 2).bind fun bt127 => (if 0 ≤ bt127.1 then (if bt127.1 < (y124.length : Int) then (some (bt112.1, bt114.1, rd y124 bt127.1, bt119.1)) else (none)) else (none)))) else (some (bt112.1, bt114.1, bt117.1, bt119.1))))))))
set_option maxHeartbeats 8000000 in
set_option maxRecDepth 100000 in
theorem spec_DrawSkyLeg.calls (k : Nat) (A0 : Option Addr) (c0 : Nat) (l0 : List Int) (r1 : Int) (r2 : Int) (r3 : Int) (r4 : Int) (w : World) (hr0 : Kd.C (Kd.int .u8) w A0 l0.length l0) (hc0 : l0.length ≤ c0) (h : spec_DrawSkyLeg.f k l0 = some (r1, r2, r3, r4)) :
 Calls Try.prog 4 #[.slice A0 l0.length c0] w fun e w' => e = .returned (.tuple #[.agg #[.int .i64 r1, .int .i64 r2], .agg #[.int .i64 r3, .int .i64 r4]]) ∧ Below w.heap.size w w' := by
 have hu24 := Try.underlying24
 have HR0 := zA hr0
 have HC0 := zA hc0
 clear hr0 hc0
 have HB := zA (Below.refl w.heap.size w)
 have H : ((spec_l1Open.f l0).bind fun bt109 => ((spec_l1Rd_pick.f k bt109.1 bt109.2 16).bind fun bt112 => ((spec_l1Rd_pick.f k bt109.1 bt112.2 16).bind fun bt114 => ((spec_l1Rd_pick.f k bt109.1 bt114.2 16).bind fun bt117 => ((spec_l1Rd_pick.f k bt109.1 bt117.2 16).bind fun bt119 => ((spec_l1Rd_pick.f k bt109.1 bt119.2 12).bind fun bt122 => (if bt122.1 = 0 then ((some (([(-1), 16] : List Int) : List Int)).bind fun y124 => ((spec_l1Rd_pick.f k bt109.1 bt122.2 2).bind fun bt127 => (if 0 ≤ bt127.1 then (if bt127.1 < (y124.length : Int) then (some (bt112.1, bt114.1, rd y124 bt127.1, bt119.1)) else (none)) else (none)))) else (some (bt112.1, bt114.1, bt117.1, bt119.1))))))))) = some (r1, r2, r3, r4) := h
 clear h
 replace H := Option.bind_eq_some_iff.mp H
 obtain ⟨⟨t109, t110⟩, A20, H⟩ := H
 replace H : ((spec_l1Rd_pick.f k t109 t110 16).bind fun bt112 => ((spec_l1Rd_pick.f k t109 bt112.2 16).bind fun bt114 => ((spec_l1Rd_pick.f k t109 bt114.2 16).bind fun bt117 => ((spec_l1Rd_pick.f k t109 bt117.2 16).bind fun bt119 => ((spec_l1Rd_pick.f k t109 bt119.2 12).bind fun bt122 => (if bt122.1 = 0 then ((some (([(-1), 16] : List Int) : List Int)).bind fun y124 => ((spec_l1Rd_pick.f k t109 bt122.2 2).bind fun bt127 => (if 0 ≤ bt127.1 then (if bt127.1 < (y124.length : Int) then (some (bt112.1, bt114.1, rd y124 bt127.1, bt119.1)) else (none)) else (none)))) else (some (bt112.1, bt114.1, bt117.1, bt119.1)))))))) = some (r1, r2, r3, r4) := H
 have A2 := zA A20
 clear A20
 replace H := Option.bind_eq_some_iff.mp H
 obtain ⟨⟨t112, t113⟩, A30, H⟩ := H
 replace H : ((spec_l1Rd_pick.f k t109 t113 16).bind fun bt114 => ((spec_l1Rd_pick.f k t109 bt114.2 16).bind fun bt117 => ((spec_l1Rd_pick.f k t109 bt117.2 16).bind fun bt119 => ((spec_l1Rd_pick.f k t109 bt119.2 12).bind fun bt122 => (if bt122.1 = 0 then ((some (([(-1), 16] : List Int) : List Int)).bind fun y124 => ((spec_l1Rd_pick.f k t109 bt122.2 2).bind fun bt127 => (if 0 ≤ bt127.1 then (if bt127.1 < (y124.length : Int) then (some (t112, bt114.1, rd y124 bt127.1, bt119.1)) else (none)) else (none)))) else (some (t112, bt114.1, bt117.1, bt119.1))))))) = some (r1, r2, r3, r4) := H
 have A3 := zA A30
 clear A30
 replace H := Option.bind_eq_some_iff.mp H
 obtain ⟨⟨t114, t115⟩, A40, H⟩ := H
 replace H : ((spec_l1Rd_pick.f k t109 t115 16).bind fun bt117 => ((spec_l1Rd_pick.f k t109 bt117.2 16).bind fun bt119 => ((spec_l1Rd_pick.f k t109 bt119.2 12).bind fun bt122 => (if bt122.1 = 0 then ((some (([(-1), 16] : List Int) : List Int)).bind fun y124 => ((spec_l1Rd_pick.f k t109 bt122.2 2).bind fun bt127 => (if 0 ≤ bt127.1 then (if bt127.1 < (y124.length : Int) then (some (t112, t114, rd y124 bt127.1, bt119.1)) else (none)) else (none)))) else (some (t112, t114, bt117.1, bt119.1)))))) = some (r1, r2, r3, r4) := H
 have A4 := zA A40
 clear A40
 replace H := Option.bind_eq_some_iff.mp H
 obtain ⟨⟨t117, t118⟩, A50, H⟩ := H
 replace H : ((spec_l1Rd_pick.f k t109 t118 16).bind fun bt119 => ((spec_l1Rd_pick.f k t109 bt119.2 12).bind fun bt122 => (if bt122.1 = 0 then ((some (([(-1), 16] : List Int) : List Int)).bind fun y124 => ((spec_l1Rd_pick.f k t109 bt122.2 2).bind fun bt127 => (if 0 ≤ bt127.1 then (if bt127.1 < (y124.length : Int) then (some (t112, t114, rd y124 bt127.1, bt119.1)) else (none)) else (none)))) else (some (t112, t114, t117, bt119.1))))) = some (r1, r2, r3, r4) := H
 have A5 := zA A50
 clear A50
 replace H := Option.bind_eq_some_iff.mp H
 obtain ⟨⟨t119, t120⟩, A60, H⟩ := H
 replace H : ((spec_l1Rd_pick.f k t109 t120 12).bind fun bt122 => (if bt122.1 = 0 then ((some (([(-1), 16] : List Int) : List Int)).bind fun y124 => ((spec_l1Rd_pick.f k t109 bt122.2 2).bind fun bt127 => (if 0 ≤ bt127.1 then (if bt127.1 < (y124.length : Int) then (some (t112, t114, rd y124 bt127.1, t119)) else (none)) else (none)))) else (some (t112, t114, t117, t119)))) = some (r1, r2, r3, r4) := H
 have A6 := zA A60
 clear A60
 replace H := Option.bind_eq_some_iff.mp H
 obtain ⟨⟨t122, t123⟩, A70, H⟩ := H
 replace H : (if t122 = 0 then ((some (([(-1), 16] : List Int) : List Int)).bind fun y124 => ((spec_l1Rd_pick.f k t109 t123 2).bind fun bt127 => (if 0 ≤ bt127.1 then (if bt127.1 < (y124.length : Int) then (some (t112, t114, rd y124 bt127.1, t119)) else (none)) else (none)))) else (some (t112, t114, t117, t119))) = some (r1, r2, r3, r4) := H
 have A7 := zA A70
 clear A70
 by_cases c8 : t122 = 0
 rotate_left
 ·rw [if_neg c8] at H
  have c8b0 : (t122 == 0) = false := beq_eq_false_iff_ne.mpr c8
  have c8b1 : (t122 != 0) = true := bne_iff_ne.mpr c8
  simp only [Option.some.injEq, Prod.mk.injEq] at H
  obtain ⟨rfl, rfl, rfl, rfl⟩ := H
  go_enter Try.func4, Try.ntmps4
  try go_wp2_with (first | ((with_reducible refine gate_dst (N := 2) rfl ?_); refine zbx 2 #[.int .i64 0, .int .i64 0] 24 ?_; intro gb107 hg w42 hbox hb; have BK107 := zA hbox; have GW107 := zgs hg (zs0 HB); have GE107 := zgs hg (zs0 HB); replace HB := zE (zs0 HB) hb; clear hb hbox hg) | ((with_reducible refine gate_dst (N := 3) rfl ?_); refine zbx 3 #[.int .i64 0, .int .i64 0] 24 ?_; intro gb108 hg w43 hbox hb; have BK108 := zA hbox; have GW108 := zgs hg (zs1 HB GE107); have GE108 := zgs hg (zs1 HB GE107); have NB107_108 := zne hg BK107; have NB108_107 := znf hg BK107; replace BK107 := zb BK107 hb; replace HB := zE (zs1 HB GE107) hb; clear hb hbox hg) | ((with_reducible refine gate_callee (f := 10) rfl ?_); refine zgl (N := some 8) Try.func10 #[.slice A0 l0.length c0] ?_; (with_reducible refine (spec_l1Open.calls _ _ l0 t109 t110 w _ ?side1 ?side2 ?side3 A2.out).mono ?_); (case side1 => repeat (first | (with_reducible first | exact HB.out | apply below_alloc | apply pw_below_drewN | apply below_drew1 | refine below_set ?_ GE107.out | refine below_set ?_ GE108.out) | exact HB.out)); (case side2 => exact HR0.out); (case side3 => exact HC0.out); rintro e w44 ⟨g111, rfl, hi, hb, hb2⟩; refine ⟨_, rfl, ?_⟩; have HI111 := zA (hi); have NB111_107 := zA (IsS43.ne_blk hi (blk_below (g := gb107) (o := .cells #[.int .i64 0, .int .i64 0] 24 (0, 0)) (zh BK107) hb2) (by decide)); have NB107_111 := zA (Ne.symm (IsS43.ne_blk hi (blk_below (g := gb107) (o := .cells #[.int .i64 0, .int .i64 0] 24 (0, 0)) (zh BK107) hb2) (by decide))); have NB111_108 := zA (IsS43.ne_blk hi (blk_below (g := gb108) (o := .cells #[.int .i64 0, .int .i64 0] 24 (0, 0)) (zh BK108) hb2) (by decide)); have NB108_111 := zA (Ne.symm (IsS43.ne_blk hi (blk_below (g := gb108) (o := .cells #[.int .i64 0, .int .i64 0] 24 (0, 0)) (zh BK108) hb2) (by decide))); replace BK107 := zA (blk_below (g := gb107) (o := .cells #[.int .i64 0, .int .i64 0] 24 (0, 0)) (zh BK107) hb2); replace BK108 := zA (blk_below (g := gb108) (o := .cells #[.int .i64 0, .int .i64 0] 24 (0, 0)) (zh BK108) hb2); replace HB := zA (hb); (try clear hb); (try clear hb2); (try clear hk); (try clear hi)) | ((with_reducible refine gate_callee (f := 11) rfl ?_); refine zgl (N := some 10) Try.func11 #[.pointer (some ⟨g111, 0, none⟩), .int .i64 16] ?_; (with_reducible refine (spec_l1Rd_pick.calls k g111 t109 t110 16 t112 t113 w _ ?side1 ?side2 A3.out).mono ?_); (case side1 => repeat (first | (with_reducible first | exact HI111.out | apply IsS43.alloc | apply IsS43.drewN | apply IsS43.drew | apply IsS43.set_1 | refine IsS43.far ?_ NB111_107.out _ | refine IsS43.far ?_ NB111_108.out _) | exact HI111.out)); (case side2 => repeat (first | (with_reducible first | exact HB.out | apply below_alloc | apply pw_below_drewN | apply below_drew1 | refine below_set ?_ (IsS43.ge HI111.out) | refine below_set ?_ GE107.out | refine below_set ?_ GE108.out) | exact HB.out)); rintro e w45 ⟨rfl, hi, hb, hk⟩; refine ⟨_, rfl, ?_⟩; replace BK107 := zA (KeepBut.blk hk (g' := gb107) (o := .cells #[.int .i64 0, .int .i64 0] 24 (0, 0)) (zh BK107) NB107_111.out (by simp)); replace BK108 := zA (KeepBut.blk hk (g' := gb108) (o := .cells #[.int .i64 0, .int .i64 0] 24 (0, 0)) (zh BK108) NB108_111.out (by simp)); replace HB := zA (hb); replace HI111 := zA (hi); (try clear hb); (try clear hb2); (try clear hk); (try clear hi)) | ((with_reducible refine gate_callee (f := 11) rfl ?_); refine zgl (N := some 12) Try.func11 #[.pointer (some ⟨g111, 0, none⟩), .int .i64 16] ?_; (with_reducible refine (spec_l1Rd_pick.calls k g111 t109 t113 16 t114 t115 w _ ?side1 ?side2 A4.out).mono ?_); (case side1 => repeat (first | (with_reducible first | exact HI111.out | apply IsS43.alloc | apply IsS43.drewN | apply IsS43.drew | apply IsS43.set_1 | refine IsS43.far ?_ NB111_107.out _ | refine IsS43.far ?_ NB111_108.out _) | exact HI111.out)); (case side2 => repeat (first | (with_reducible first | exact HB.out | apply below_alloc | apply pw_below_drewN | apply below_drew1 | refine below_set ?_ (IsS43.ge HI111.out) | refine below_set ?_ GE107.out | refine below_set ?_ GE108.out) | exact HB.out)); rintro e w46 ⟨rfl, hi, hb, hk⟩; refine ⟨_, rfl, ?_⟩; replace BK107 := zA (KeepBut.blk hk (g' := gb107) (o := .cells #[.int .i64 0, .int .i64 0] 24 (0, 0)) (zh BK107) NB107_111.out (by simp)); replace BK108 := zA (KeepBut.blk hk (g' := gb108) (o := .cells #[.int .i64 0, .int .i64 0] 24 (0, 0)) (zh BK108) NB108_111.out (by simp)); replace HB := zA (hb); replace HI111 := zA (hi); (try clear hb); (try clear hb2); (try clear hk); (try clear hi)) | ((with_reducible refine gate_dst (N := 5) rfl ?_); refine zbx 5 #[.int .i64 0, .int .i64 0] 24 ?_; intro gb116 hg w47 hbox hb; have BK116 := zA hbox; have GW116 := zA ((by rw [hg]; exact (below_size (by repeat (first | (with_reducible first | exact HB.out | apply below_alloc | apply pw_below_drewN | apply below_drew1 | refine below_set ?_ (IsS43.ge HI111.out) | refine below_set ?_ GE107.out | refine below_set ?_ GE108.out) | exact HB.out))) : w.heap.size ≤ gb116)); have GE116 := zA ((by rw [hg]; exact (below_size (by repeat (first | (with_reducible first | exact HB.out | apply below_alloc | apply pw_below_drewN | apply below_drew1 | refine below_set ?_ (IsS43.ge HI111.out) | refine below_set ?_ GE107.out | refine below_set ?_ GE108.out) | exact HB.out))) : w.heap.size ≤ gb116)); have NB107_116 := zne hg BK107; have NB116_107 := znf hg BK107; have NB108_116 := zne hg BK108; have NB116_108 := znf hg BK108; have NB111_116 := zA ((by rw [hg]; exact Nat.ne_of_lt (IsS43.lt (show IsS43 w _ g111 t109 t115 from by repeat (first | (with_reducible first | exact HI111.out | apply IsS43.alloc | apply IsS43.drewN | apply IsS43.drew | apply IsS43.set_1 | refine IsS43.far ?_ NB111_107.out _ | refine IsS43.far ?_ NB111_108.out _) | exact HI111.out))) : g111 ≠ gb116)); have NB116_111 := zA ((by rw [hg]; exact Nat.ne_of_gt (IsS43.lt (show IsS43 w _ g111 t109 t115 from by repeat (first | (with_reducible first | exact HI111.out | apply IsS43.alloc | apply IsS43.drewN | apply IsS43.drew | apply IsS43.set_1 | refine IsS43.far ?_ NB111_107.out _ | refine IsS43.far ?_ NB111_108.out _) | exact HI111.out))) : gb116 ≠ g111)); replace BK107 := zb BK107 hb; replace BK108 := zb BK108 hb; replace HB := zA (below_step (by repeat (first | (with_reducible first | exact HB.out | apply below_alloc | apply pw_below_drewN | apply below_drew1 | refine below_set ?_ (IsS43.ge HI111.out) | refine below_set ?_ GE107.out | refine below_set ?_ GE108.out) | exact HB.out)) hb); replace HI111 := zA (IsS43.below (by repeat (first | (with_reducible first | exact HI111.out | apply IsS43.alloc | apply IsS43.drewN | apply IsS43.drew | apply IsS43.set_1 | refine IsS43.far ?_ NB111_107.out _ | refine IsS43.far ?_ NB111_108.out _) | exact HI111.out)) hb); clear hb hbox hg; have hnb48 := NB116_107.out; have hnc48 := NB107_116.out; have hnb49 := NB116_108.out; have hnc49 := NB108_116.out; have hnb50 := NB116_111.out; have hnc50 := NB111_116.out; obtain ⟨hcz51_0, hcz51_1⟩ := zd2 BK116; obtain ⟨hfz51_0, hfz51_1⟩ := zn2 BK116) | ((with_reducible refine gate_callee (f := 11) rfl ?_); refine zgl (N := some 15) Try.func11 #[.pointer (some ⟨g111, 0, none⟩), .int .i64 16] ?_; (with_reducible refine (spec_l1Rd_pick.calls k g111 t109 t115 16 t117 t118 w _ ?side1 ?side2 A5.out).mono ?_); (case side1 => repeat (first | (with_reducible first | exact HI111.out | apply IsS43.alloc | apply IsS43.drewN | apply IsS43.drew | apply IsS43.set_1 | refine IsS43.far ?_ NB111_107.out _ | refine IsS43.far ?_ NB111_108.out _ | refine IsS43.far ?_ NB111_116.out _) | exact HI111.out)); (case side2 => repeat (first | (with_reducible first | exact HB.out | apply below_alloc | apply pw_below_drewN | apply below_drew1 | refine below_set ?_ (IsS43.ge HI111.out) | refine below_set ?_ GE107.out | refine below_set ?_ GE108.out | refine below_set ?_ GE116.out) | exact HB.out)); rintro e w52 ⟨rfl, hi, hb, hk⟩; refine ⟨_, rfl, ?_⟩; replace BK107 := zA (KeepBut.blk hk (g' := gb107) (o := .cells #[.int .i64 0, .int .i64 0] 24 (0, 0)) (zpf BK107 NB107_116) NB107_111.out (by simp)); replace BK108 := zA (KeepBut.blk hk (g' := gb108) (o := .cells #[.int .i64 0, .int .i64 0] 24 (0, 0)) (zpf BK108 NB108_116) NB108_111.out (by simp)); replace BK116 := zA (KeepBut.blk hk (g' := gb116) (o := .cells #[.int .i64 t112, .int .i64 t114] 24 (0, 0)) (zpb BK116) NB116_111.out (by simp)); replace HB := zA (hb); replace HI111 := zA (hi); (try clear hb); (try clear hb2); (try clear hk); (try clear hi)) | ((with_reducible refine gate_callee (f := 11) rfl ?_); refine zgl (N := some 17) Try.func11 #[.pointer (some ⟨g111, 0, none⟩), .int .i64 16] ?_; (with_reducible refine (spec_l1Rd_pick.calls k g111 t109 t118 16 t119 t120 w _ ?side1 ?side2 A6.out).mono ?_); (case side1 => repeat (first | (with_reducible first | exact HI111.out | apply IsS43.alloc | apply IsS43.drewN | apply IsS43.drew | apply IsS43.set_1 | refine IsS43.far ?_ NB111_107.out _ | refine IsS43.far ?_ NB111_108.out _ | refine IsS43.far ?_ NB111_116.out _) | exact HI111.out)); (case side2 => repeat (first | (with_reducible first | exact HB.out | apply below_alloc | apply pw_below_drewN | apply below_drew1 | refine below_set ?_ (IsS43.ge HI111.out) | refine below_set ?_ GE107.out | refine below_set ?_ GE108.out | refine below_set ?_ GE116.out) | exact HB.out)); rintro e w53 ⟨rfl, hi, hb, hk⟩; refine ⟨_, rfl, ?_⟩; replace BK107 := zA (KeepBut.blk hk (g' := gb107) (o := .cells #[.int .i64 0, .int .i64 0] 24 (0, 0)) (zh BK107) NB107_111.out (by simp)); replace BK108 := zA (KeepBut.blk hk (g' := gb108) (o := .cells #[.int .i64 0, .int .i64 0] 24 (0, 0)) (zh BK108) NB108_111.out (by simp)); replace BK116 := zA (KeepBut.blk hk (g' := gb116) (o := .cells #[.int .i64 t112, .int .i64 t114] 24 (0, 0)) (zh BK116) NB116_111.out (by simp)); replace HB := zA (hb); replace HI111 := zA (hi); (try clear hb); (try clear hb2); (try clear hk); (try clear hi)) | ((with_reducible refine gate_dst (N := 6) rfl ?_); refine zbx 6 #[.int .i64 0, .int .i64 0] 24 ?_; intro gb121 hg w54 hbox hb; have BK121 := zA hbox; have GW121 := zA ((by rw [hg]; exact (below_size (by repeat (first | (with_reducible first | exact HB.out | apply below_alloc | apply pw_below_drewN | apply below_drew1 | refine below_set ?_ (IsS43.ge HI111.out) | refine below_set ?_ GE107.out | refine below_set ?_ GE108.out | refine below_set ?_ GE116.out) | exact HB.out))) : w.heap.size ≤ gb121)); have GE121 := zA ((by rw [hg]; exact (below_size (by repeat (first | (with_reducible first | exact HB.out | apply below_alloc | apply pw_below_drewN | apply below_drew1 | refine below_set ?_ (IsS43.ge HI111.out) | refine below_set ?_ GE107.out | refine below_set ?_ GE108.out | refine below_set ?_ GE116.out) | exact HB.out))) : w.heap.size ≤ gb121)); have NB107_121 := zne hg BK107; have NB121_107 := znf hg BK107; have NB108_121 := zne hg BK108; have NB121_108 := znf hg BK108; have NB116_121 := zne hg BK116; have NB121_116 := znf hg BK116; have NB111_121 := zA ((by rw [hg]; exact Nat.ne_of_lt (IsS43.lt (show IsS43 w _ g111 t109 t120 from by repeat (first | (with_reducible first | exact HI111.out | apply IsS43.alloc | apply IsS43.drewN | apply IsS43.drew | apply IsS43.set_1 | refine IsS43.far ?_ NB111_107.out _ | refine IsS43.far ?_ NB111_108.out _ | refine IsS43.far ?_ NB111_116.out _) | exact HI111.out))) : g111 ≠ gb121)); have NB121_111 := zA ((by rw [hg]; exact Nat.ne_of_gt (IsS43.lt (show IsS43 w _ g111 t109 t120 from by repeat (first | (with_reducible first | exact HI111.out | apply IsS43.alloc | apply IsS43.drewN | apply IsS43.drew | apply IsS43.set_1 | refine IsS43.far ?_ NB111_107.out _ | refine IsS43.far ?_ NB111_108.out _ | refine IsS43.far ?_ NB111_116.out _) | exact HI111.out))) : gb121 ≠ g111)); replace BK107 := zb BK107 hb; replace BK108 := zb BK108 hb; replace BK116 := zb BK116 hb; replace HB := zA (below_step (by repeat (first | (with_reducible first | exact HB.out | apply below_alloc | apply pw_below_drewN | apply below_drew1 | refine below_set ?_ (IsS43.ge HI111.out) | refine below_set ?_ GE107.out | refine below_set ?_ GE108.out | refine below_set ?_ GE116.out) | exact HB.out)) hb); replace HI111 := zA (IsS43.below (by repeat (first | (with_reducible first | exact HI111.out | apply IsS43.alloc | apply IsS43.drewN | apply IsS43.drew | apply IsS43.set_1 | refine IsS43.far ?_ NB111_107.out _ | refine IsS43.far ?_ NB111_108.out _ | refine IsS43.far ?_ NB111_116.out _) | exact HI111.out)) hb); clear hb hbox hg; have hnb55 := NB121_107.out; have hnc55 := NB107_121.out; have hnb56 := NB121_108.out; have hnc56 := NB108_121.out; have hnb57 := NB121_116.out; have hnc57 := NB116_121.out; have hnb58 := NB121_111.out; have hnc58 := NB111_121.out; obtain ⟨hcz59_0, hcz59_1⟩ := zd2 BK121; obtain ⟨hfz59_0, hfz59_1⟩ := zn2 BK121) | ((with_reducible refine gate_callee (f := 11) rfl ?_); refine zgl (N := some 20) Try.func11 #[.pointer (some ⟨g111, 0, none⟩), .int .i64 12] ?_; (with_reducible refine (spec_l1Rd_pick.calls k g111 t109 t120 12 t122 t123 w _ ?side1 ?side2 A7.out).mono ?_); (case side1 => repeat (first | (with_reducible first | exact HI111.out | apply IsS43.alloc | apply IsS43.drewN | apply IsS43.drew | apply IsS43.set_1 | refine IsS43.far ?_ NB111_107.out _ | refine IsS43.far ?_ NB111_108.out _ | refine IsS43.far ?_ NB111_116.out _ | refine IsS43.far ?_ NB111_121.out _) | exact HI111.out)); (case side2 => repeat (first | (with_reducible first | exact HB.out | apply below_alloc | apply pw_below_drewN | apply below_drew1 | refine below_set ?_ (IsS43.ge HI111.out) | refine below_set ?_ GE107.out | refine below_set ?_ GE108.out | refine below_set ?_ GE116.out | refine below_set ?_ GE121.out) | exact HB.out)); rintro e w60 ⟨rfl, hi, hb, hk⟩; refine ⟨_, rfl, ?_⟩; replace BK107 := zA (KeepBut.blk hk (g' := gb107) (o := .cells #[.int .i64 0, .int .i64 0] 24 (0, 0)) (zpf BK107 NB107_121) NB107_111.out (by simp)); replace BK108 := zA (KeepBut.blk hk (g' := gb108) (o := .cells #[.int .i64 0, .int .i64 0] 24 (0, 0)) (zpf BK108 NB108_121) NB108_111.out (by simp)); replace BK116 := zA (KeepBut.blk hk (g' := gb116) (o := .cells #[.int .i64 t112, .int .i64 t114] 24 (0, 0)) (zpf BK116 NB116_121) NB116_111.out (by simp)); replace BK121 := zA (KeepBut.blk hk (g' := gb121) (o := .cells #[.int .i64 t117, .int .i64 t119] 24 (0, 0)) (zpb BK121) NB121_111.out (by simp)); replace HB := zA (hb); replace HI111 := zA (hi); (try clear hb); (try clear hb2); (try clear hk); (try clear hi)))
  replace BK107 := zA (blk_drew BK107.out)
  replace BK108 := zA (blk_drew BK108.out)
  replace BK116 := zA (blk_drew BK116.out)
  replace BK121 := zA (blk_drew BK121.out)
  replace HI111 := zA (IsS43.drew HI111.out)
  replace HB := zA (below_drew1 HB.out)
  refine start_ (n := 4) (S := fun w' => w'.cell? ⟨gb116, 0, none⟩ = some (.int .i64 t112) ∧ w'.cell? ⟨gb116, 1, none⟩ = some (.int .i64 t114) ∧ w'.cell? ⟨gb121, 0, none⟩ = some (.int .i64 t117) ∧ w'.cell? ⟨gb121, 1, none⟩ = some (.int .i64 t119)) (ds := []) #[F,F,F,F] (by kernel_rfl) rfl rfl ⟨zc0 BK116, zc1 BK116, zc0 BK121, zc1 BK121⟩ (fun hHeld => ?_)
  generalize w60.drew = w61 at BK107 BK108 BK116 BK121 HI111 HB hHeld ⊢
  refine take_ (i := 0) (N := some 28) (v := ?_) (a' := ?_) #[T,F,F,F] rfl rfl (by kernel_rfl) (fun _ _ _ h => h) (Or.inl ⟨by rfl, ?_⟩) hHeld ?_ ?_; rotate_left; exact zt4; rotate_left; exact zput
  refine take_ (i := 1) (N := some 29) (v := ?_) (a' := ?_) #[T,T,F,F] rfl rfl (by kernel_rfl) (fun _ _ _ h => h) (Or.inl ⟨by rfl, ?_⟩) hHeld ?_ ?_; rotate_left; exact zt4; rotate_left; exact zput
  refine one_ (i := 2) (N := none) #[T,T,T,F] rfl rfl (by kernel_rfl) (by decide) (fun K hK => ?_)
  have hs62 : w61.cell? ⟨gb107, 0, none⟩ = some (.int .i64 0) := zc0 BK107
  have hfs62 := zf BK107 0
  have hns62_1 := NB108_107.out
  have hns62_2 := NB116_107.out
  have hns62_3 := NB121_107.out
  have hms62_1 := NB107_108.out
  have hms62_2 := NB107_116.out
  have hms62_3 := NB107_121.out
  have hs63 : w61.cell? ⟨gb107, 1, none⟩ = some (.int .i64 0) := zc1 BK107
  have hfs63 := zf BK107 1
  have hns63_1 := NB108_107.out
  have hns63_2 := NB116_107.out
  have hns63_3 := NB121_107.out
  have hms63_1 := NB107_108.out
  have hms63_2 := NB107_116.out
  have hms63_3 := NB107_121.out
  refine skip_ (w1 := ?_) (by rfl) rfl ?_ ?_
  rotate_left
  ·go_simp
   rfl
  refine hK.out _ _ ⟨((cell_far (p := ⟨gb107, _, none⟩) NB116_107.out _).trans (((cell_far (p := ⟨gb107, _, none⟩) NB116_107.out _).trans (hHeld.1)))), ((cell_far (p := ⟨gb107, _, none⟩) NB116_107.out _).trans (((cell_far (p := ⟨gb107, _, none⟩) NB116_107.out _).trans (hHeld.2.1)))), ((cell_far (p := ⟨gb107, _, none⟩) NB121_107.out _).trans (((cell_far (p := ⟨gb107, _, none⟩) NB121_107.out _).trans (hHeld.2.2.1)))), ((cell_far (p := ⟨gb107, _, none⟩) NB121_107.out _).trans (((cell_far (p := ⟨gb107, _, none⟩) NB121_107.out _).trans (hHeld.2.2.2))))⟩ (fun hHeld => ?_)
  clear hK K
  refine one_ (i := 3) (N := none) #[T,T,T,T] rfl rfl (by kernel_rfl) (by decide) (fun K hK => ?_)
  have hs64 : w61.cell? ⟨gb108, 0, none⟩ = some (.int .i64 0) := zc0 BK108
  have hfs64 := zf BK108 0
  have hns64_0 := NB107_108.out
  have hns64_2 := NB116_108.out
  have hns64_3 := NB121_108.out
  have hms64_0 := NB108_107.out
  have hms64_2 := NB108_116.out
  have hms64_3 := NB108_121.out
  have hs65 : w61.cell? ⟨gb108, 1, none⟩ = some (.int .i64 0) := zc1 BK108
  have hfs65 := zf BK108 1
  have hns65_0 := NB107_108.out
  have hns65_2 := NB116_108.out
  have hns65_3 := NB121_108.out
  have hms65_0 := NB108_107.out
  have hms65_2 := NB108_116.out
  have hms65_3 := NB108_121.out
  refine skip_ (w1 := ?_) (by rfl) rfl ?_ ?_
  rotate_left
  ·go_simp
   rfl
  refine hK.out _ _ ⟨((cell_far (p := ⟨gb108, _, none⟩) NB116_108.out _).trans (((cell_far (p := ⟨gb108, _, none⟩) NB116_108.out _).trans (hHeld.1)))), ((cell_far (p := ⟨gb108, _, none⟩) NB116_108.out _).trans (((cell_far (p := ⟨gb108, _, none⟩) NB116_108.out _).trans (hHeld.2.1)))), ((cell_far (p := ⟨gb108, _, none⟩) NB121_108.out _).trans (((cell_far (p := ⟨gb108, _, none⟩) NB121_108.out _).trans (hHeld.2.2.1)))), ((cell_far (p := ⟨gb108, _, none⟩) NB121_108.out _).trans (((cell_far (p := ⟨gb108, _, none⟩) NB121_108.out _).trans (hHeld.2.2.2))))⟩ (fun hHeld => ?_)
  clear hK K
  refine done_ (by kernel_rfl) ?_
  try go_wp2
  refine bodyPost_ret (results_cc rfl _ _ gb107 gb108 24 24 #[.int .i64 t112, .int .i64 t114] #[.int .i64 t117, .int .i64 t119] (0, 0) (0, 0) _ _ rfl ?hz Try.underlying24 rfl (by kernel_rfl) rfl (zpf BK108 NB108_107) Try.underlying24 rfl (by kernel_rfl)) rfl ?_; (case hz => exact zpf BK107 NB107_108)
  exact ⟨ze, by repeat (first | (with_reducible first | exact HB.out | apply below_alloc | apply pw_below_drewN | apply below_drew1 | refine below_set ?_ (IsS43.ge HI111.out) | refine below_set ?_ GE107.out | refine below_set ?_ GE108.out | refine below_set ?_ GE116.out | refine below_set ?_ GE121.out) | exact HB.out)⟩
 rw [if_pos c8] at H
 have c8b0 : (t122 == 0) = true := beq_iff_eq.mpr c8
 have c8b1 : (t122 != 0) = false := bne_eq_false_iff_eq.mpr c8
 clear c8
 obtain ⟨y124, hy124⟩ : ∃ y_ : List Int, y_ = (([(-1), 16] : List Int)) := ⟨_, rfl⟩
 replace H : ((spec_l1Rd_pick.f k t109 t123 2).bind fun bt127 => (if 0 ≤ bt127.1 then (if bt127.1 < (y124.length : Int) then (some (t112, t114, rd y124 bt127.1, t119)) else (none)) else (none))) = some (r1, r2, r3, r4) := by first | (rw [hy124]; with_reducible exact H) | (have H2_ := (Option.bind_some _ _).symm.trans H; rw [hy124]; with_reducible exact H2_) | (have H2_ := (Option.bind_some _ _).symm.trans H; with_reducible exact H2_) | with_reducible exact H | (rw [hy124]; exact H) | exact H
 have Ny124 := zA hy124
 clear hy124
 replace H := Option.bind_eq_some_iff.mp H
 obtain ⟨⟨t127, t128⟩, A90, H⟩ := H
 replace H : (if 0 ≤ t127 then (if t127 < (y124.length : Int) then (some (t112, t114, rd y124 t127, t119)) else (none)) else (none)) = some (r1, r2, r3, r4) := H
 have A9 := zA A90
 clear A90
 by_cases c10 : 0 ≤ t127
 rotate_left
 ·rw [if_neg c10] at H
  exact absurd H (by simp)
 rw [if_pos c10] at H
 have c10b0 : decide (0 ≤ t127) = true := decide_eq_true c10
 clear c10
 by_cases c11 : t127 < (y124.length : Int)
 rotate_left
 ·rw [if_neg c11] at H
  exact absurd H (by simp)
 rw [if_pos c11] at H
 have c11b0 : decide (t127 < (y124.length : Int)) = true := decide_eq_true c11
 clear c11
 simp only [Option.some.injEq, Prod.mk.injEq] at H
 obtain ⟨rfl, rfl, rfl, rfl⟩ := H
 go_enter Try.func4, Try.ntmps4
 try go_wp2_with (first | ((with_reducible refine gate_dst (N := 2) rfl ?_); refine zbx 2 #[.int .i64 0, .int .i64 0] 24 ?_; intro gb107 hg w12 hbox hb; have BK107 := zA hbox; have GW107 := zgs hg (zs0 HB); have GE107 := zgs hg (zs0 HB); replace HB := zE (zs0 HB) hb; clear hb hbox hg) | ((with_reducible refine gate_dst (N := 3) rfl ?_); refine zbx 3 #[.int .i64 0, .int .i64 0] 24 ?_; intro gb108 hg w13 hbox hb; have BK108 := zA hbox; have GW108 := zgs hg (zs1 HB GE107); have GE108 := zgs hg (zs1 HB GE107); have NB107_108 := zne hg BK107; have NB108_107 := znf hg BK107; replace BK107 := zb BK107 hb; replace HB := zE (zs1 HB GE107) hb; clear hb hbox hg) | ((with_reducible refine gate_callee (f := 10) rfl ?_); refine zgl (N := some 8) Try.func10 #[.slice A0 l0.length c0] ?_; (with_reducible refine (spec_l1Open.calls _ _ l0 t109 t110 w _ ?side1 ?side2 ?side3 A2.out).mono ?_); (case side1 => repeat (first | (with_reducible first | exact HB.out | apply below_alloc | apply pw_below_drewN | apply below_drew1 | refine below_set ?_ GE107.out | refine below_set ?_ GE108.out) | exact HB.out)); (case side2 => exact HR0.out); (case side3 => exact HC0.out); rintro e w14 ⟨g111, rfl, hi, hb, hb2⟩; refine ⟨_, rfl, ?_⟩; have HI111 := zA (hi); have NB111_107 := zA (IsS43.ne_blk hi (blk_below (g := gb107) (o := .cells #[.int .i64 0, .int .i64 0] 24 (0, 0)) (zh BK107) hb2) (by decide)); have NB107_111 := zA (Ne.symm (IsS43.ne_blk hi (blk_below (g := gb107) (o := .cells #[.int .i64 0, .int .i64 0] 24 (0, 0)) (zh BK107) hb2) (by decide))); have NB111_108 := zA (IsS43.ne_blk hi (blk_below (g := gb108) (o := .cells #[.int .i64 0, .int .i64 0] 24 (0, 0)) (zh BK108) hb2) (by decide)); have NB108_111 := zA (Ne.symm (IsS43.ne_blk hi (blk_below (g := gb108) (o := .cells #[.int .i64 0, .int .i64 0] 24 (0, 0)) (zh BK108) hb2) (by decide))); replace BK107 := zA (blk_below (g := gb107) (o := .cells #[.int .i64 0, .int .i64 0] 24 (0, 0)) (zh BK107) hb2); replace BK108 := zA (blk_below (g := gb108) (o := .cells #[.int .i64 0, .int .i64 0] 24 (0, 0)) (zh BK108) hb2); replace HB := zA (hb); (try clear hb); (try clear hb2); (try clear hk); (try clear hi)) | ((with_reducible refine gate_callee (f := 11) rfl ?_); refine zgl (N := some 10) Try.func11 #[.pointer (some ⟨g111, 0, none⟩), .int .i64 16] ?_; (with_reducible refine (spec_l1Rd_pick.calls k g111 t109 t110 16 t112 t113 w _ ?side1 ?side2 A3.out).mono ?_); (case side1 => repeat (first | (with_reducible first | exact HI111.out | apply IsS43.alloc | apply IsS43.drewN | apply IsS43.drew | apply IsS43.set_1 | refine IsS43.far ?_ NB111_107.out _ | refine IsS43.far ?_ NB111_108.out _) | exact HI111.out)); (case side2 => repeat (first | (with_reducible first | exact HB.out | apply below_alloc | apply pw_below_drewN | apply below_drew1 | refine below_set ?_ (IsS43.ge HI111.out) | refine below_set ?_ GE107.out | refine below_set ?_ GE108.out) | exact HB.out)); rintro e w15 ⟨rfl, hi, hb, hk⟩; refine ⟨_, rfl, ?_⟩; replace BK107 := zA (KeepBut.blk hk (g' := gb107) (o := .cells #[.int .i64 0, .int .i64 0] 24 (0, 0)) (zh BK107) NB107_111.out (by simp)); replace BK108 := zA (KeepBut.blk hk (g' := gb108) (o := .cells #[.int .i64 0, .int .i64 0] 24 (0, 0)) (zh BK108) NB108_111.out (by simp)); replace HB := zA (hb); replace HI111 := zA (hi); (try clear hb); (try clear hb2); (try clear hk); (try clear hi)) | ((with_reducible refine gate_callee (f := 11) rfl ?_); refine zgl (N := some 12) Try.func11 #[.pointer (some ⟨g111, 0, none⟩), .int .i64 16] ?_; (with_reducible refine (spec_l1Rd_pick.calls k g111 t109 t113 16 t114 t115 w _ ?side1 ?side2 A4.out).mono ?_); (case side1 => repeat (first | (with_reducible first | exact HI111.out | apply IsS43.alloc | apply IsS43.drewN | apply IsS43.drew | apply IsS43.set_1 | refine IsS43.far ?_ NB111_107.out _ | refine IsS43.far ?_ NB111_108.out _) | exact HI111.out)); (case side2 => repeat (first | (with_reducible first | exact HB.out | apply below_alloc | apply pw_below_drewN | apply below_drew1 | refine below_set ?_ (IsS43.ge HI111.out) | refine below_set ?_ GE107.out | refine below_set ?_ GE108.out) | exact HB.out)); rintro e w16 ⟨rfl, hi, hb, hk⟩; refine ⟨_, rfl, ?_⟩; replace BK107 := zA (KeepBut.blk hk (g' := gb107) (o := .cells #[.int .i64 0, .int .i64 0] 24 (0, 0)) (zh BK107) NB107_111.out (by simp)); replace BK108 := zA (KeepBut.blk hk (g' := gb108) (o := .cells #[.int .i64 0, .int .i64 0] 24 (0, 0)) (zh BK108) NB108_111.out (by simp)); replace HB := zA (hb); replace HI111 := zA (hi); (try clear hb); (try clear hb2); (try clear hk); (try clear hi)) | ((with_reducible refine gate_dst (N := 5) rfl ?_); refine zbx 5 #[.int .i64 0, .int .i64 0] 24 ?_; intro gb116 hg w17 hbox hb; have BK116 := zA hbox; have GW116 := zA ((by rw [hg]; exact (below_size (by repeat (first | (with_reducible first | exact HB.out | apply below_alloc | apply pw_below_drewN | apply below_drew1 | refine below_set ?_ (IsS43.ge HI111.out) | refine below_set ?_ GE107.out | refine below_set ?_ GE108.out) | exact HB.out))) : w.heap.size ≤ gb116)); have GE116 := zA ((by rw [hg]; exact (below_size (by repeat (first | (with_reducible first | exact HB.out | apply below_alloc | apply pw_below_drewN | apply below_drew1 | refine below_set ?_ (IsS43.ge HI111.out) | refine below_set ?_ GE107.out | refine below_set ?_ GE108.out) | exact HB.out))) : w.heap.size ≤ gb116)); have NB107_116 := zne hg BK107; have NB116_107 := znf hg BK107; have NB108_116 := zne hg BK108; have NB116_108 := znf hg BK108; have NB111_116 := zA ((by rw [hg]; exact Nat.ne_of_lt (IsS43.lt (show IsS43 w _ g111 t109 t115 from by repeat (first | (with_reducible first | exact HI111.out | apply IsS43.alloc | apply IsS43.drewN | apply IsS43.drew | apply IsS43.set_1 | refine IsS43.far ?_ NB111_107.out _ | refine IsS43.far ?_ NB111_108.out _) | exact HI111.out))) : g111 ≠ gb116)); have NB116_111 := zA ((by rw [hg]; exact Nat.ne_of_gt (IsS43.lt (show IsS43 w _ g111 t109 t115 from by repeat (first | (with_reducible first | exact HI111.out | apply IsS43.alloc | apply IsS43.drewN | apply IsS43.drew | apply IsS43.set_1 | refine IsS43.far ?_ NB111_107.out _ | refine IsS43.far ?_ NB111_108.out _) | exact HI111.out))) : gb116 ≠ g111)); replace BK107 := zb BK107 hb; replace BK108 := zb BK108 hb; replace HB := zA (below_step (by repeat (first | (with_reducible first | exact HB.out | apply below_alloc | apply pw_below_drewN | apply below_drew1 | refine below_set ?_ (IsS43.ge HI111.out) | refine below_set ?_ GE107.out | refine below_set ?_ GE108.out) | exact HB.out)) hb); replace HI111 := zA (IsS43.below (by repeat (first | (with_reducible first | exact HI111.out | apply IsS43.alloc | apply IsS43.drewN | apply IsS43.drew | apply IsS43.set_1 | refine IsS43.far ?_ NB111_107.out _ | refine IsS43.far ?_ NB111_108.out _) | exact HI111.out)) hb); clear hb hbox hg; have hnb18 := NB116_107.out; have hnc18 := NB107_116.out; have hnb19 := NB116_108.out; have hnc19 := NB108_116.out; have hnb20 := NB116_111.out; have hnc20 := NB111_116.out; obtain ⟨hcz21_0, hcz21_1⟩ := zd2 BK116; obtain ⟨hfz21_0, hfz21_1⟩ := zn2 BK116) | ((with_reducible refine gate_callee (f := 11) rfl ?_); refine zgl (N := some 15) Try.func11 #[.pointer (some ⟨g111, 0, none⟩), .int .i64 16] ?_; (with_reducible refine (spec_l1Rd_pick.calls k g111 t109 t115 16 t117 t118 w _ ?side1 ?side2 A5.out).mono ?_); (case side1 => repeat (first | (with_reducible first | exact HI111.out | apply IsS43.alloc | apply IsS43.drewN | apply IsS43.drew | apply IsS43.set_1 | refine IsS43.far ?_ NB111_107.out _ | refine IsS43.far ?_ NB111_108.out _ | refine IsS43.far ?_ NB111_116.out _) | exact HI111.out)); (case side2 => repeat (first | (with_reducible first | exact HB.out | apply below_alloc | apply pw_below_drewN | apply below_drew1 | refine below_set ?_ (IsS43.ge HI111.out) | refine below_set ?_ GE107.out | refine below_set ?_ GE108.out | refine below_set ?_ GE116.out) | exact HB.out)); rintro e w22 ⟨rfl, hi, hb, hk⟩; refine ⟨_, rfl, ?_⟩; replace BK107 := zA (KeepBut.blk hk (g' := gb107) (o := .cells #[.int .i64 0, .int .i64 0] 24 (0, 0)) (zpf BK107 NB107_116) NB107_111.out (by simp)); replace BK108 := zA (KeepBut.blk hk (g' := gb108) (o := .cells #[.int .i64 0, .int .i64 0] 24 (0, 0)) (zpf BK108 NB108_116) NB108_111.out (by simp)); replace BK116 := zA (KeepBut.blk hk (g' := gb116) (o := .cells #[.int .i64 t112, .int .i64 t114] 24 (0, 0)) (zpb BK116) NB116_111.out (by simp)); replace HB := zA (hb); replace HI111 := zA (hi); (try clear hb); (try clear hb2); (try clear hk); (try clear hi)) | ((with_reducible refine gate_callee (f := 11) rfl ?_); refine zgl (N := some 17) Try.func11 #[.pointer (some ⟨g111, 0, none⟩), .int .i64 16] ?_; (with_reducible refine (spec_l1Rd_pick.calls k g111 t109 t118 16 t119 t120 w _ ?side1 ?side2 A6.out).mono ?_); (case side1 => repeat (first | (with_reducible first | exact HI111.out | apply IsS43.alloc | apply IsS43.drewN | apply IsS43.drew | apply IsS43.set_1 | refine IsS43.far ?_ NB111_107.out _ | refine IsS43.far ?_ NB111_108.out _ | refine IsS43.far ?_ NB111_116.out _) | exact HI111.out)); (case side2 => repeat (first | (with_reducible first | exact HB.out | apply below_alloc | apply pw_below_drewN | apply below_drew1 | refine below_set ?_ (IsS43.ge HI111.out) | refine below_set ?_ GE107.out | refine below_set ?_ GE108.out | refine below_set ?_ GE116.out) | exact HB.out)); rintro e w23 ⟨rfl, hi, hb, hk⟩; refine ⟨_, rfl, ?_⟩; replace BK107 := zA (KeepBut.blk hk (g' := gb107) (o := .cells #[.int .i64 0, .int .i64 0] 24 (0, 0)) (zh BK107) NB107_111.out (by simp)); replace BK108 := zA (KeepBut.blk hk (g' := gb108) (o := .cells #[.int .i64 0, .int .i64 0] 24 (0, 0)) (zh BK108) NB108_111.out (by simp)); replace BK116 := zA (KeepBut.blk hk (g' := gb116) (o := .cells #[.int .i64 t112, .int .i64 t114] 24 (0, 0)) (zh BK116) NB116_111.out (by simp)); replace HB := zA (hb); replace HI111 := zA (hi); (try clear hb); (try clear hb2); (try clear hk); (try clear hi)) | ((with_reducible refine gate_dst (N := 6) rfl ?_); refine zbx 6 #[.int .i64 0, .int .i64 0] 24 ?_; intro gb121 hg w24 hbox hb; have BK121 := zA hbox; have GW121 := zA ((by rw [hg]; exact (below_size (by repeat (first | (with_reducible first | exact HB.out | apply below_alloc | apply pw_below_drewN | apply below_drew1 | refine below_set ?_ (IsS43.ge HI111.out) | refine below_set ?_ GE107.out | refine below_set ?_ GE108.out | refine below_set ?_ GE116.out) | exact HB.out))) : w.heap.size ≤ gb121)); have GE121 := zA ((by rw [hg]; exact (below_size (by repeat (first | (with_reducible first | exact HB.out | apply below_alloc | apply pw_below_drewN | apply below_drew1 | refine below_set ?_ (IsS43.ge HI111.out) | refine below_set ?_ GE107.out | refine below_set ?_ GE108.out | refine below_set ?_ GE116.out) | exact HB.out))) : w.heap.size ≤ gb121)); have NB107_121 := zne hg BK107; have NB121_107 := znf hg BK107; have NB108_121 := zne hg BK108; have NB121_108 := znf hg BK108; have NB116_121 := zne hg BK116; have NB121_116 := znf hg BK116; have NB111_121 := zA ((by rw [hg]; exact Nat.ne_of_lt (IsS43.lt (show IsS43 w _ g111 t109 t120 from by repeat (first | (with_reducible first | exact HI111.out | apply IsS43.alloc | apply IsS43.drewN | apply IsS43.drew | apply IsS43.set_1 | refine IsS43.far ?_ NB111_107.out _ | refine IsS43.far ?_ NB111_108.out _ | refine IsS43.far ?_ NB111_116.out _) | exact HI111.out))) : g111 ≠ gb121)); have NB121_111 := zA ((by rw [hg]; exact Nat.ne_of_gt (IsS43.lt (show IsS43 w _ g111 t109 t120 from by repeat (first | (with_reducible first | exact HI111.out | apply IsS43.alloc | apply IsS43.drewN | apply IsS43.drew | apply IsS43.set_1 | refine IsS43.far ?_ NB111_107.out _ | refine IsS43.far ?_ NB111_108.out _ | refine IsS43.far ?_ NB111_116.out _) | exact HI111.out))) : gb121 ≠ g111)); replace BK107 := zb BK107 hb; replace BK108 := zb BK108 hb; replace BK116 := zb BK116 hb; replace HB := zA (below_step (by repeat (first | (with_reducible first | exact HB.out | apply below_alloc | apply pw_below_drewN | apply below_drew1 | refine below_set ?_ (IsS43.ge HI111.out) | refine below_set ?_ GE107.out | refine below_set ?_ GE108.out | refine below_set ?_ GE116.out) | exact HB.out)) hb); replace HI111 := zA (IsS43.below (by repeat (first | (with_reducible first | exact HI111.out | apply IsS43.alloc | apply IsS43.drewN | apply IsS43.drew | apply IsS43.set_1 | refine IsS43.far ?_ NB111_107.out _ | refine IsS43.far ?_ NB111_108.out _ | refine IsS43.far ?_ NB111_116.out _) | exact HI111.out)) hb); clear hb hbox hg; have hnb25 := NB121_107.out; have hnc25 := NB107_121.out; have hnb26 := NB121_108.out; have hnc26 := NB108_121.out; have hnb27 := NB121_116.out; have hnc27 := NB116_121.out; have hnb28 := NB121_111.out; have hnc28 := NB111_121.out; obtain ⟨hcz29_0, hcz29_1⟩ := zd2 BK121; obtain ⟨hfz29_0, hfz29_1⟩ := zn2 BK121) | ((with_reducible refine gate_callee (f := 11) rfl ?_); refine zgl (N := some 20) Try.func11 #[.pointer (some ⟨g111, 0, none⟩), .int .i64 12] ?_; (with_reducible refine (spec_l1Rd_pick.calls k g111 t109 t120 12 t122 t123 w _ ?side1 ?side2 A7.out).mono ?_); (case side1 => repeat (first | (with_reducible first | exact HI111.out | apply IsS43.alloc | apply IsS43.drewN | apply IsS43.drew | apply IsS43.set_1 | refine IsS43.far ?_ NB111_107.out _ | refine IsS43.far ?_ NB111_108.out _ | refine IsS43.far ?_ NB111_116.out _ | refine IsS43.far ?_ NB111_121.out _) | exact HI111.out)); (case side2 => repeat (first | (with_reducible first | exact HB.out | apply below_alloc | apply pw_below_drewN | apply below_drew1 | refine below_set ?_ (IsS43.ge HI111.out) | refine below_set ?_ GE107.out | refine below_set ?_ GE108.out | refine below_set ?_ GE116.out | refine below_set ?_ GE121.out) | exact HB.out)); rintro e w30 ⟨rfl, hi, hb, hk⟩; refine ⟨_, rfl, ?_⟩; replace BK107 := zA (KeepBut.blk hk (g' := gb107) (o := .cells #[.int .i64 0, .int .i64 0] 24 (0, 0)) (zpf BK107 NB107_121) NB107_111.out (by simp)); replace BK108 := zA (KeepBut.blk hk (g' := gb108) (o := .cells #[.int .i64 0, .int .i64 0] 24 (0, 0)) (zpf BK108 NB108_121) NB108_111.out (by simp)); replace BK116 := zA (KeepBut.blk hk (g' := gb116) (o := .cells #[.int .i64 t112, .int .i64 t114] 24 (0, 0)) (zpf BK116 NB116_121) NB116_111.out (by simp)); replace BK121 := zA (KeepBut.blk hk (g' := gb121) (o := .cells #[.int .i64 t117, .int .i64 t119] 24 (0, 0)) (zpb BK121) NB121_111.out (by simp)); replace HB := zA (hb); replace HI111 := zA (hi); (try clear hb); (try clear hb2); (try clear hk); (try clear hi)) | ((with_reducible refine gate_dst (N := 22) rfl ?_); refine Kd.R_lit (Kd.int .i64) _ 3 ?hg (N := 22) ?hd (xs := ([(-1), 16] : List Int)) (inner := [.int .i64 (-1), .int .i64 16]) (ok := fun _ => True) (okp := fun _ => True) ?hr ?hp (fun _ hk => hk) trivial (Below.refl _ _) (Nat.le_refl _) (by simp) ?_; (case hd => rfl); (case hg => rfl); (case hr => first | (go_simp; done) | (go_simp; rfl)); (case hp => exact (Reps.one (show Kd.M (Kd.int .i64) _ _ _ (-1) [.int .i64 (-1)] from rfl) (Reps.one (show Kd.M (Kd.int .i64) _ _ _ 16 [.int .i64 16] from rfl) (Reps.none _ _)))); intro v125 w31 ho32 hb hg_ hnew_; clear hg_ hnew_; (first | rw [← Ny124.out] at ho32 | (simp only [Int.reduceToNat] at ho32; rw [← Ny124.out] at ho32)); have HO126 := zA (Kd.R_lower ho32 (below_size (by repeat (first | (with_reducible first | exact HB.out | apply below_alloc | apply pw_below_drewN | apply below_drew1 | refine below_set ?_ (IsS43.ge HI111.out) | refine below_set ?_ GE107.out | refine below_set ?_ GE108.out | refine below_set ?_ GE116.out | refine below_set ?_ GE121.out) | exact HB.out)))); replace BK107 := zb BK107 hb; replace BK108 := zb BK108 hb; replace BK116 := zb BK116 hb; replace BK121 := zb BK121 hb; replace HB := zA (below_step (by repeat (first | (with_reducible first | exact HB.out | apply below_alloc | apply pw_below_drewN | apply below_drew1 | refine below_set ?_ (IsS43.ge HI111.out) | refine below_set ?_ GE107.out | refine below_set ?_ GE108.out | refine below_set ?_ GE116.out | refine below_set ?_ GE121.out) | exact HB.out)) hb); replace HI111 := zA (IsS43.below (by repeat (first | (with_reducible first | exact HI111.out | apply IsS43.alloc | apply IsS43.drewN | apply IsS43.drew | apply IsS43.set_1 | refine IsS43.far ?_ NB111_107.out _ | refine IsS43.far ?_ NB111_108.out _ | refine IsS43.far ?_ NB111_116.out _ | refine IsS43.far ?_ NB111_121.out _) | exact HI111.out)) hb); clear hb ho32) | ((with_reducible refine gate_callee (f := 11) rfl ?_); refine zgl (N := some 24) Try.func11 #[.pointer (some ⟨g111, 0, none⟩), .int .i64 2] ?_; (with_reducible refine (spec_l1Rd_pick.calls k g111 t109 t123 2 t127 t128 w _ ?side1 ?side2 A9.out).mono ?_); (case side1 => repeat (first | (with_reducible first | exact HI111.out | apply IsS43.alloc | apply IsS43.drewN | apply IsS43.drew | apply IsS43.set_1 | refine IsS43.far ?_ NB111_107.out _ | refine IsS43.far ?_ NB111_108.out _ | refine IsS43.far ?_ NB111_116.out _ | refine IsS43.far ?_ NB111_121.out _) | exact HI111.out)); (case side2 => repeat (first | (with_reducible first | exact HB.out | apply below_alloc | apply pw_below_drewN | apply below_drew1 | refine below_set ?_ (IsS43.ge HI111.out) | refine below_set ?_ GE107.out | refine below_set ?_ GE108.out | refine below_set ?_ GE116.out | refine below_set ?_ GE121.out) | exact HB.out)); rintro e w33 ⟨rfl, hi, hb, hk⟩; refine ⟨_, rfl, ?_⟩; replace BK107 := zA (KeepBut.blk hk (g' := gb107) (o := .cells #[.int .i64 0, .int .i64 0] 24 (0, 0)) (zh BK107) NB107_111.out (by simp)); replace BK108 := zA (KeepBut.blk hk (g' := gb108) (o := .cells #[.int .i64 0, .int .i64 0] 24 (0, 0)) (zh BK108) NB108_111.out (by simp)); replace BK116 := zA (KeepBut.blk hk (g' := gb116) (o := .cells #[.int .i64 t112, .int .i64 t114] 24 (0, 0)) (zh BK116) NB116_111.out (by simp)); replace BK121 := zA (KeepBut.blk hk (g' := gb121) (o := .cells #[.int .i64 t117, .int .i64 t119] 24 (0, 0)) (zh BK121) NB121_111.out (by simp)); replace HO126 := zA (Kd.R_mono (Kd.R_keep (IsS43.apart (show IsS43 w _ g111 t109 t123 from by repeat (first | (with_reducible first | exact HI111.out | apply IsS43.alloc | apply IsS43.drewN | apply IsS43.drew | apply IsS43.set_1 | refine IsS43.far ?_ NB111_107.out _ | refine IsS43.far ?_ NB111_108.out _ | refine IsS43.far ?_ NB111_116.out _ | refine IsS43.far ?_ NB111_121.out _) | exact HI111.out)) (zr HO126) (by decide)) hk (fun _ h => h.2)) (fun _ h => h.1)); replace HB := zA (hb); replace HI111 := zA (hi); (try clear hb); (try clear hb2); (try clear hk); (try clear hi); obtain ⟨Ao34, co34, eo34⟩ := Kd.R_slice HO126.out; subst eo34; have p129 : 0 ≤ (t127 : Int) := za; have q129 : t127 < (y124.length : Int) := za; obtain ⟨ad129, e129, hx129_0⟩ := Kd.at_int (Kd.R_reads' HO126.out).2.2 t127 p129 q129; cases e129; replace p129 := eq_true p129; replace q129 := eq_true q129; obtain ⟨hcz35_0, hcz35_1⟩ := zd2 BK121; obtain ⟨hfz35_0, hfz35_1⟩ := zn2 BK121))
 have n0_ : Aside0 (Kd.R (Kd.int .i64) 3 (w33.setCell ⟨gb121, 0, none⟩ (.int .i64 (rd y124 t127))) w.heap.size (fun _ => True) (.slice (some ad129) y124.length co34) y124) := ⟨zRf HO126 BK121 (fun _ hk => trivial)⟩
 have n1_ : Aside0 ((w33.setCell ⟨gb121, 0, none⟩ (.int .i64 (rd y124 t127))).heap[gb107]? = some (.cells #[.int .i64 0, .int .i64 0] 24 (0, 0))) := ⟨zpf BK107 NB107_121⟩
 have n2_ : Aside0 ((w33.setCell ⟨gb121, 0, none⟩ (.int .i64 (rd y124 t127))).heap[gb108]? = some (.cells #[.int .i64 0, .int .i64 0] 24 (0, 0))) := ⟨zpf BK108 NB108_121⟩
 have n3_ : Aside0 ((w33.setCell ⟨gb121, 0, none⟩ (.int .i64 (rd y124 t127))).heap[gb116]? = some (.cells #[.int .i64 t112, .int .i64 t114] 24 (0, 0))) := ⟨zpf BK116 NB116_121⟩
 have n4_ : Aside0 ((w33.setCell ⟨gb121, 0, none⟩ (.int .i64 (rd y124 t127))).heap[gb121]? = some (.cells #[.int .i64 (rd y124 t127), .int .i64 t119] 24 (0, 0))) := ⟨zpb BK121⟩
 have n5_ : Aside0 (IsS43 w (w33.setCell ⟨gb121, 0, none⟩ (.int .i64 (rd y124 t127))) g111 t109 t128) := ⟨by repeat (first | (with_reducible first | exact HI111.out | apply IsS43.alloc | apply IsS43.drewN | apply IsS43.drew | apply IsS43.set_1 | refine IsS43.far ?_ NB111_107.out _ | refine IsS43.far ?_ NB111_108.out _ | refine IsS43.far ?_ NB111_116.out _ | refine IsS43.far ?_ NB111_121.out _) | exact HI111.out)⟩
 have n6_ : Aside0 (Below w.heap.size w (w33.setCell ⟨gb121, 0, none⟩ (.int .i64 (rd y124 t127)))) := ⟨by repeat (first | (with_reducible first | exact HB.out | apply below_alloc | apply pw_below_drewN | apply below_drew1 | refine below_set ?_ (IsS43.ge HI111.out) | refine below_set ?_ GE107.out | refine below_set ?_ GE108.out | refine below_set ?_ GE116.out | refine below_set ?_ GE121.out) | exact HB.out)⟩
 (try clear HO126)
 (try clear BK107)
 (try clear BK108)
 (try clear BK116)
 (try clear BK121)
 (try clear HI111)
 (try clear HB)
 generalize (w33.setCell ⟨gb121, 0, none⟩ (.int .i64 (rd y124 t127))) = w36 at n0_ n1_ n2_ n3_ n4_ n5_ n6_ ⊢
 have HO126 := n0_
 have BK107 := n1_
 have BK108 := n2_
 have BK116 := n3_
 have BK121 := n4_
 have HI111 := n5_
 have HB := n6_
 clear n0_ n1_ n2_ n3_ n4_ n5_ n6_
 replace HO126 := zA (Kd.R_drew HO126.out)
 replace BK107 := zA (blk_drew BK107.out)
 replace BK108 := zA (blk_drew BK108.out)
 replace BK116 := zA (blk_drew BK116.out)
 replace BK121 := zA (blk_drew BK121.out)
 replace HI111 := zA (IsS43.drew HI111.out)
 replace HB := zA (below_drew1 HB.out)
 refine start_ (n := 4) (S := fun w' => w'.cell? ⟨gb116, 0, none⟩ = some (.int .i64 t112) ∧ w'.cell? ⟨gb116, 1, none⟩ = some (.int .i64 t114) ∧ w'.cell? ⟨gb121, 0, none⟩ = some (.int .i64 (rd y124 t127)) ∧ w'.cell? ⟨gb121, 1, none⟩ = some (.int .i64 t119)) (ds := []) #[F,F,F,F] (by kernel_rfl) rfl rfl ⟨zc0 BK116, zc1 BK116, zc0 BK121, zc1 BK121⟩ (fun hHeld => ?_)
 generalize w36.drew = w37 at HO126 BK107 BK108 BK116 BK121 HI111 HB hHeld ⊢
 refine take_ (i := 0) (N := some 28) (v := ?_) (a' := ?_) #[T,F,F,F] rfl rfl (by kernel_rfl) (fun _ _ _ h => h) (Or.inl ⟨by rfl, ?_⟩) hHeld ?_ ?_; rotate_left; exact zt4; rotate_left; exact zput
 refine take_ (i := 1) (N := some 29) (v := ?_) (a' := ?_) #[T,T,F,F] rfl rfl (by kernel_rfl) (fun _ _ _ h => h) (Or.inl ⟨by rfl, ?_⟩) hHeld ?_ ?_; rotate_left; exact zt4; rotate_left; exact zput
 refine one_ (i := 2) (N := none) #[T,T,T,F] rfl rfl (by kernel_rfl) (by decide) (fun K hK => ?_)
 have hs38 : w37.cell? ⟨gb107, 0, none⟩ = some (.int .i64 0) := zc0 BK107
 have hfs38 := zf BK107 0
 have hns38_1 := NB108_107.out
 have hns38_2 := NB116_107.out
 have hns38_3 := NB121_107.out
 have hms38_1 := NB107_108.out
 have hms38_2 := NB107_116.out
 have hms38_3 := NB107_121.out
 have hs39 : w37.cell? ⟨gb107, 1, none⟩ = some (.int .i64 0) := zc1 BK107
 have hfs39 := zf BK107 1
 have hns39_1 := NB108_107.out
 have hns39_2 := NB116_107.out
 have hns39_3 := NB121_107.out
 have hms39_1 := NB107_108.out
 have hms39_2 := NB107_116.out
 have hms39_3 := NB107_121.out
 refine skip_ (w1 := ?_) (by rfl) rfl ?_ ?_
 rotate_left
 ·go_simp
  rfl
 refine hK.out _ _ ⟨((cell_far (p := ⟨gb107, _, none⟩) NB116_107.out _).trans (((cell_far (p := ⟨gb107, _, none⟩) NB116_107.out _).trans (hHeld.1)))), ((cell_far (p := ⟨gb107, _, none⟩) NB116_107.out _).trans (((cell_far (p := ⟨gb107, _, none⟩) NB116_107.out _).trans (hHeld.2.1)))), ((cell_far (p := ⟨gb107, _, none⟩) NB121_107.out _).trans (((cell_far (p := ⟨gb107, _, none⟩) NB121_107.out _).trans (hHeld.2.2.1)))), ((cell_far (p := ⟨gb107, _, none⟩) NB121_107.out _).trans (((cell_far (p := ⟨gb107, _, none⟩) NB121_107.out _).trans (hHeld.2.2.2))))⟩ (fun hHeld => ?_)
 clear hK K
 refine one_ (i := 3) (N := none) #[T,T,T,T] rfl rfl (by kernel_rfl) (by decide) (fun K hK => ?_)
 have hs40 : w37.cell? ⟨gb108, 0, none⟩ = some (.int .i64 0) := zc0 BK108
 have hfs40 := zf BK108 0
 have hns40_0 := NB107_108.out
 have hns40_2 := NB116_108.out
 have hns40_3 := NB121_108.out
 have hms40_0 := NB108_107.out
 have hms40_2 := NB108_116.out
 have hms40_3 := NB108_121.out
 have hs41 : w37.cell? ⟨gb108, 1, none⟩ = some (.int .i64 0) := zc1 BK108
 have hfs41 := zf BK108 1
 have hns41_0 := NB107_108.out
 have hns41_2 := NB116_108.out
 have hns41_3 := NB121_108.out
 have hms41_0 := NB108_107.out
 have hms41_2 := NB108_116.out
 have hms41_3 := NB108_121.out
 refine skip_ (w1 := ?_) (by rfl) rfl ?_ ?_
 rotate_left
 ·go_simp
  rfl
 refine hK.out _ _ ⟨((cell_far (p := ⟨gb108, _, none⟩) NB116_108.out _).trans (((cell_far (p := ⟨gb108, _, none⟩) NB116_108.out _).trans (hHeld.1)))), ((cell_far (p := ⟨gb108, _, none⟩) NB116_108.out _).trans (((cell_far (p := ⟨gb108, _, none⟩) NB116_108.out _).trans (hHeld.2.1)))), ((cell_far (p := ⟨gb108, _, none⟩) NB121_108.out _).trans (((cell_far (p := ⟨gb108, _, none⟩) NB121_108.out _).trans (hHeld.2.2.1)))), ((cell_far (p := ⟨gb108, _, none⟩) NB121_108.out _).trans (((cell_far (p := ⟨gb108, _, none⟩) NB121_108.out _).trans (hHeld.2.2.2))))⟩ (fun hHeld => ?_)
 clear hK K
 refine done_ (by kernel_rfl) ?_
 try go_wp2
 refine bodyPost_ret (results_cc rfl _ _ gb107 gb108 24 24 #[.int .i64 t112, .int .i64 t114] #[.int .i64 (rd y124 t127), .int .i64 t119] (0, 0) (0, 0) _ _ rfl ?hz Try.underlying24 rfl (by kernel_rfl) rfl (zpf BK108 NB108_107) Try.underlying24 rfl (by kernel_rfl)) rfl ?_; (case hz => exact zpf BK107 NB107_108)
 exact ⟨ze, by repeat (first | (with_reducible first | exact HB.out | apply below_alloc | apply pw_below_drewN | apply below_drew1 | refine below_set ?_ (IsS43.ge HI111.out) | refine below_set ?_ GE107.out | refine below_set ?_ GE108.out | refine below_set ?_ GE116.out | refine below_set ?_ GE121.out) | exact HB.out)⟩
def impl_within.f (a0 : Int) (a1 : Int) (a2 : Int) : Option (Bool) := if a0 ≥ a1 then (some (decide (a0 ≤ a2))) else (some false)
set_option maxHeartbeats 8000000 in
set_option maxRecDepth 100000 in
theorem impl_within.calls (a0 : Int) (a1 : Int) (a2 : Int) (r : Bool) (w : World) (h : impl_within.f a0 a1 a2 = some r) :
 Calls Try.prog 12 #[.int .i64 a0, .int .i64 a1, .int .i64 a2] w fun e w' => e = .returned (.bool r) ∧ Drawn0 w w' := by
 have H : (if a0 ≥ a1 then (some (decide (a0 ≤ a2))) else (some false)) = some r := h
 clear h
 by_cases c4 : a0 ≥ a1
 ·rw [if_pos c4] at H
  have c4b0 : decide (a1 ≤ a0) = true := decide_eq_true c4
  clear c4
  obtain rfl := Option.some.inj H
  go_enter Try.func12, Try.ntmps12
  go_wp2
  go_ret
  exact ⟨by first | rfl | (simp; done) | (simp [*]; done), by repeat (first | exact Drawn0.refl _ | apply Drawn0.step)⟩
 rw [if_neg c4] at H
 have c4b0 : decide (a1 ≤ a0) = false := decide_eq_false c4
 clear c4
 obtain rfl := Option.some.inj H
 go_enter Try.func12, Try.ntmps12
 go_wp2
 go_ret
 exact ⟨by first | rfl | (simp; done) | (simp [*]; done), by repeat (first | exact Drawn0.refl _ | apply Drawn0.step)⟩
def impl_dist.f (a0 : Int) (a1 : Int) : Option (Int) := if a0 > a1 then (some (wrap64 (a0 - a1))) else (some (wrap64 (a1 - a0)))
set_option maxHeartbeats 8000000 in
set_option maxRecDepth 100000 in
theorem impl_dist.calls (a0 : Int) (a1 : Int) (r : Int) (w : World) (h : impl_dist.f a0 a1 = some r) :
 Calls Try.prog 17 #[.int .i64 a0, .int .i64 a1] w fun e w' => e = .returned (.int .i64 r) ∧ Drawn0 w w' := by
 have H : (if a0 > a1 then (some (wrap64 (a0 - a1))) else (some (wrap64 (a1 - a0)))) = some r := h
 clear h
 by_cases c3 : a0 > a1
 ·rw [if_pos c3] at H
  have c3b0 : decide (a1 < a0) = true := decide_eq_true c3
  clear c3
  obtain rfl := Option.some.inj H
  go_enter Try.func17, Try.ntmps17
  go_wp2
  go_ret
  exact ⟨by first | rfl | (simp; done) | (simp [*]; done), by repeat (first | exact Drawn0.refl _ | apply Drawn0.step)⟩
 rw [if_neg c3] at H
 have c3b0 : decide (a1 < a0) = false := decide_eq_false c3
 clear c3
 obtain rfl := Option.some.inj H
 go_enter Try.func17, Try.ntmps17
 go_wp2
 go_ret
 exact ⟨by first | rfl | (simp; done) | (simp [*]; done), by repeat (first | exact Drawn0.refl _ | apply Drawn0.step)⟩
end Go.Proofs.Ytaeichaofhcheaa.QFnSkyLegs
