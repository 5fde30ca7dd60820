/-
  Short words for the walks: what is said again and again in them, said once (each looks for its facts by itself).
-/
import Derived.Test.YtbmplfpnhjhoiaaXw
namespace Go.Proofs.Ytbmplfpnhjhoiaa.Z
open Go.RowKit Go.Proofs.YtbmplfpnhjhoiaaW.PrintWords
set_option linter.unusedVariables false
theorem zdn (w : World) (n : Nat) (p : Addr) (v : Value) : (w.drewN n).setCell p v = (w.setCell p v).drewN n := rfl
theorem za {p : Prop} [Decidable p] (h : decide p = true := by first | (with_reducible assumption) | assumption) : p := of_decide_eq_true h
theorem ze {p : Prop} (h : p := by first | rfl | (simp [errW_none, errW_some] <;> rfl) | (simp [*, errW_none, errW_some] <;> rfl)) : p := h
theorem zl {p : Prop} (h : p := by (try simp only [List.map_toArray, List.map_cons, List.map_nil]); first | done | rfl | (simp only [List.length_drop, List.length_take]; rfl)) : p := h
theorem zg {p : Prop} (h : p := by first | (go_simp; done) | (go_simp; rfl)) : p := h
theorem zi {p : Prop} (h : p := by first | rfl | (simp; done) | (simp [*]; done)) : p := h
theorem zh {p q : Prop} (H : Aside0 p) (h : p → q := by intro hh; (with_reducible repeat (first | refine blk_drewN ?_ _ | refine blk_drew ?_ | refine blk_alloc ?_ _)); exact hh) : q := h H.out
theorem zr {p q : Prop} (H : Aside0 p) (h : p → q := by intro hh; (with_reducible repeat (first | apply Kd.R_alloc | apply Kd.R_drewN | apply Kd.R_drew)); exact hh) : q := h H.out
theorem zb {w w1 w2 : World} {g : Nat} {o : Obj} (H : Aside0 (w.heap[g]? = some o)) (hb : Below w1.heap.size w1 w2) (h : w.heap[g]? = some o → w1.heap[g]? = some o := by intro hh; (with_reducible repeat (first | refine blk_drewN ?_ _ | refine blk_drew ?_ | refine blk_alloc ?_ _)); exact hh) : Aside0 (w2.heap[g]? = some o) := ⟨blk_below (h H.out) hb⟩
theorem zs0 {p q : Prop} (H : Aside0 p) (h : p → q := by intro hB; repeat (first | (with_reducible first | exact hB | apply below_alloc | apply pw_below_drewN | apply below_drew1) | exact hB)) : q := h H.out
theorem zs1 {p q p1 : Prop} (H : Aside0 p) (G1 : Aside0 p1) (h : p → p1 → q := by intro hB h1; repeat (first | (with_reducible first | exact hB | apply below_alloc | apply pw_below_drewN | apply below_drew1 | refine below_set ?_ h1) | exact hB)) : q := h H.out G1.out
theorem zs2 {p q p1 p2 : Prop} (H : Aside0 p) (G1 : Aside0 p1) (G2 : Aside0 p2) (h : p → p1 → p2 → q := by intro hB h1 h2; repeat (first | (with_reducible first | exact hB | apply below_alloc | apply pw_below_drewN | apply below_drew1 | refine below_set ?_ h1 | refine below_set ?_ h2) | exact hB)) : q := h H.out G1.out G2.out
theorem zs3 {p q p1 p2 p3 : Prop} (H : Aside0 p) (G1 : Aside0 p1) (G2 : Aside0 p2) (G3 : Aside0 p3) (h : p → p1 → p2 → p3 → q := by intro hB h1 h2 h3; repeat (first | (with_reducible first | exact hB | apply below_alloc | apply pw_below_drewN | apply below_drew1 | refine below_set ?_ h1 | refine below_set ?_ h2 | refine below_set ?_ h3) | exact hB)) : q := h H.out G1.out G2.out G3.out
theorem zx {w w1 : World} {p : Addr} {v : Value} (HB : Aside0 (Below w.heap.size w w1)) (h : w.cell? p = some v) : w1.cell? p = some v := (HB.out.cell (World.block_lt_of_cell? w _ h)).trans h
theorem zw {w w1 w2 : World} {p : Addr} {v : Value} (HB : Aside0 (Below w.heap.size w w1)) (h : w.cell? p = some v) (e : w2.cell? p = w1.cell? p := by rfl) : w2.cell? p = some v := e.trans ((HB.out.cell (World.block_lt_of_cell? w _ h)).trans h)
theorem zf {w : World} {g t : Nat} {cs : Array Value} (H : Aside0 (w.heap[g]? = some (.cells cs t (0, 0)))) (i : Nat) : w.frozen? ⟨g, i, none⟩ = false := blk_frozen H.out i
theorem zput {p : Prop} (h : p := by simp only [Act.put, List.setIfInBounds_toArray, List.set_cons_zero, List.set_cons_succ, i64_w, i32_w]; rfl) : p := h
theorem zy {p : Prop} (h : p := by intro w'; go_simp; with_reducible rfl) : p := h
theorem zC {p q r : Prop} (H : Aside0 p) (G : Aside0 q) (h : p → q → r := by intro a b; repeat (first | exact (Kd.C_below a b) | (with_reducible refine Kd.C_alloc ?_ _) | (with_reducible refine Kd.C_drewN ?_ _) | (with_reducible refine Kd.C_drew ?_))) : r := h H.out G.out
section
variable {w : World} {g t : Nat} {l : List Value}
theorem zc0 {x0 : Value} (H : Aside0 (w.heap[g]? = some (.cells (List.toArray (x0 :: l)) t (0, 0)))) : w.cell? ⟨g, 0, none⟩ = some x0 := (blk_cell H.out 0).trans rfl
theorem zc1 {x0 x1 : Value} (H : Aside0 (w.heap[g]? = some (.cells (List.toArray (x0 :: x1 :: l)) t (0, 0)))) : w.cell? ⟨g, 1, none⟩ = some x1 := (blk_cell H.out 1).trans rfl
theorem zc2 {x0 x1 x2 : Value} (H : Aside0 (w.heap[g]? = some (.cells (List.toArray (x0 :: x1 :: x2 :: l)) t (0, 0)))) : w.cell? ⟨g, 2, none⟩ = some x2 := (blk_cell H.out 2).trans rfl
theorem zc3 {x0 x1 x2 x3 : Value} (H : Aside0 (w.heap[g]? = some (.cells (List.toArray (x0 :: x1 :: x2 :: x3 :: l)) t (0, 0)))) : w.cell? ⟨g, 3, none⟩ = some x3 := (blk_cell H.out 3).trans rfl
theorem zc4 {x0 x1 x2 x3 x4 : Value} (H : Aside0 (w.heap[g]? = some (.cells (List.toArray (x0 :: x1 :: x2 :: x3 :: x4 :: l)) t (0, 0)))) : w.cell? ⟨g, 4, none⟩ = some x4 := (blk_cell H.out 4).trans rfl
theorem zc5 {x0 x1 x2 x3 x4 x5 : Value} (H : Aside0 (w.heap[g]? = some (.cells (List.toArray (x0 :: x1 :: x2 :: x3 :: x4 :: x5 :: l)) t (0, 0)))) : w.cell? ⟨g, 5, none⟩ = some x5 := (blk_cell H.out 5).trans rfl
theorem zc6 {x0 x1 x2 x3 x4 x5 x6 : Value} (H : Aside0 (w.heap[g]? = some (.cells (List.toArray (x0 :: x1 :: x2 :: x3 :: x4 :: x5 :: x6 :: l)) t (0, 0)))) : w.cell? ⟨g, 6, none⟩ = some x6 := (blk_cell H.out 6).trans rfl
theorem zd2 {x0 x1 : Value} (H : Aside0 (w.heap[g]? = some (.cells (List.toArray [x0, x1]) t (0, 0)))) : w.cell? ⟨g, 0, none⟩ = some x0 ∧ w.cell? ⟨g, 1, none⟩ = some x1 := ⟨zc0 H, zc1 H⟩
theorem zn2 {cs : Array Value} (H : Aside0 (w.heap[g]? = some (.cells cs t (0, 0)))) : w.frozen? ⟨g, 0, none⟩ = false ∧ w.frozen? ⟨g, 1, none⟩ = false := ⟨zf H 0, zf H 1⟩
theorem zd5 {x0 x1 x2 x3 x4 : Value} (H : Aside0 (w.heap[g]? = some (.cells (List.toArray [x0, x1, x2, x3, x4]) t (0, 0)))) : w.cell? ⟨g, 0, none⟩ = some x0 ∧ w.cell? ⟨g, 1, none⟩ = some x1 ∧ w.cell? ⟨g, 2, none⟩ = some x2 ∧ w.cell? ⟨g, 3, none⟩ = some x3 ∧ w.cell? ⟨g, 4, none⟩ = some x4 := ⟨zc0 H, zc1 H, zc2 H, zc3 H, zc4 H⟩
theorem zn5 {cs : Array Value} (H : Aside0 (w.heap[g]? = some (.cells cs t (0, 0)))) : w.frozen? ⟨g, 0, none⟩ = false ∧ w.frozen? ⟨g, 1, none⟩ = false ∧ w.frozen? ⟨g, 2, none⟩ = false ∧ w.frozen? ⟨g, 3, none⟩ = false ∧ w.frozen? ⟨g, 4, none⟩ = false := ⟨zf H 0, zf H 1, zf H 2, zf H 3, zf H 4⟩
theorem zd6 {x0 x1 x2 x3 x4 x5 : Value} (H : Aside0 (w.heap[g]? = some (.cells (List.toArray [x0, x1, x2, x3, x4, x5]) t (0, 0)))) : w.cell? ⟨g, 0, none⟩ = some x0 ∧ w.cell? ⟨g, 1, none⟩ = some x1 ∧ w.cell? ⟨g, 2, none⟩ = some x2 ∧ w.cell? ⟨g, 3, none⟩ = some x3 ∧ w.cell? ⟨g, 4, none⟩ = some x4 ∧ w.cell? ⟨g, 5, none⟩ = some x5 := ⟨zc0 H, zc1 H, zc2 H, zc3 H, zc4 H, zc5 H⟩
theorem zn6 {cs : Array Value} (H : Aside0 (w.heap[g]? = some (.cells cs t (0, 0)))) : w.frozen? ⟨g, 0, none⟩ = false ∧ w.frozen? ⟨g, 1, none⟩ = false ∧ w.frozen? ⟨g, 2, none⟩ = false ∧ w.frozen? ⟨g, 3, none⟩ = false ∧ w.frozen? ⟨g, 4, none⟩ = false ∧ w.frozen? ⟨g, 5, none⟩ = false := ⟨zf H 0, zf H 1, zf H 2, zf H 3, zf H 4, zf H 5⟩
theorem zd7 {x0 x1 x2 x3 x4 x5 x6 : Value} (H : Aside0 (w.heap[g]? = some (.cells (List.toArray [x0, x1, x2, x3, x4, x5, x6]) t (0, 0)))) : w.cell? ⟨g, 0, none⟩ = some x0 ∧ w.cell? ⟨g, 1, none⟩ = some x1 ∧ w.cell? ⟨g, 2, none⟩ = some x2 ∧ w.cell? ⟨g, 3, none⟩ = some x3 ∧ w.cell? ⟨g, 4, none⟩ = some x4 ∧ w.cell? ⟨g, 5, none⟩ = some x5 ∧ w.cell? ⟨g, 6, none⟩ = some x6 := ⟨zc0 H, zc1 H, zc2 H, zc3 H, zc4 H, zc5 H, zc6 H⟩
theorem zn7 {cs : Array Value} (H : Aside0 (w.heap[g]? = some (.cells cs t (0, 0)))) : w.frozen? ⟨g, 0, none⟩ = false ∧ w.frozen? ⟨g, 1, none⟩ = false ∧ w.frozen? ⟨g, 2, none⟩ = false ∧ w.frozen? ⟨g, 3, none⟩ = false ∧ w.frozen? ⟨g, 4, none⟩ = false ∧ w.frozen? ⟨g, 5, none⟩ = false ∧ w.frozen? ⟨g, 6, none⟩ = false := ⟨zf H 0, zf H 1, zf H 2, zf H 3, zf H 4, zf H 5, zf H 6⟩
theorem zt4 {p : Prop} (h : p := by rintro w' ⟨s0, s1, s2, s3⟩; go_simp; with_reducible rfl) : p := h
theorem zt5 {p : Prop} (h : p := by rintro w' ⟨s0, s1, s2, s3, s4⟩; go_simp; with_reducible rfl) : p := h
theorem zt6 {p : Prop} (h : p := by rintro w' ⟨s0, s1, s2, s3, s4, s5⟩; go_simp; with_reducible rfl) : p := h
theorem zt9 {p : Prop} (h : p := by rintro w' ⟨s0, s1, s2, s3, s4, s5, s6, s7, s8⟩; go_simp; with_reducible rfl) : p := h
theorem zt10 {p : Prop} (h : p := by rintro w' ⟨s0, s1, s2, s3, s4, s5, s6, s7, s8, s9⟩; go_simp; with_reducible rfl) : p := h
theorem zt11 {p : Prop} (h : p := by rintro w' ⟨s0, s1, s2, s3, s4, s5, s6, s7, s8, s9, s10⟩; go_simp; with_reducible rfl) : p := h
theorem zt12 {p : Prop} (h : p := by rintro w' ⟨s0, s1, s2, s3, s4, s5, s6, s7, s8, s9, s10, s11⟩; go_simp; with_reducible rfl) : p := h
theorem zt14 {p : Prop} (h : p := by rintro w' ⟨s0, s1, s2, s3, s4, s5, s6, s7, s8, s9, s10, s11, s12, s13⟩; go_simp; with_reducible rfl) : p := h
theorem zt26 {p : Prop} (h : p := by rintro w' ⟨s0, s1, s2, s3, s4, s5, s6, s7, s8, s9, s10, s11, s12, s13, s14, s15, s16, s17, s18, s19, s20, s21, s22, s23, s24, s25⟩; go_simp; with_reducible rfl) : p := h
end
end Go.Proofs.Ytbmplfpnhjhoiaa.Z

