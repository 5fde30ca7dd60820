/-
  From the row's condition on its listed variables to what the walk of FnExactPlanForm asks of the world.
-/
import Derived.Lib.LaidU8
import Derived.Stop.LaidErr
import Derived.ChangeVars
import Derived.ChangeSlices
import Derived.Test.YtkphmngnanccbaaDoorRows
import Derived.Test.YtkphmngnanccbaaDoorQFnExactPlanFormx6
namespace Go.Proofs.YtkphmngnanccbaaDoor.LaidPlan
open Go Go.RowKit Go.Proofs.YtkphmngnanccbaaDoor.QFnExactPlanForm Go.Proofs.YtkphmngnanccbaaDoorW.PrintWords
set_option maxRecDepth 100000
theorem gW : Tryd.prog.globalNamed "loop.example/lapwing/impl.whatWords" = some 0 := by kernel_rfl
theorem gWT : (Tryd.prog.globals[0]?).map (·.type) = some 31 := by kernel_rfl
theorem gT : Tryd.prog.globalNamed "internal/strconv.uint64pow10" = some 2 := by kernel_rfl
theorem gTT : (Tryd.prog.globals[2]?).map (·.type) = some 51 := by kernel_rfl
theorem cells9 : Tryd.prog.cellsOf 9 = 1 := by kernel_rfl
theorem cells42 : Tryd.prog.cellsOf 42 = 1 := by kernel_rfl
theorem cells51 : Tryd.prog.cellsOf 51 = 20 := by kernel_rfl
theorem words_eq {H : Type} : (Rows.laid_loop_example_lapwing_impl_whatWords : DataW H) = .slice (whatW.map fun p => .lit (.string p.data.toList)) [] := rfl
theorem cell_lt {w : World} {a : Addr} {v : Value} (h : w.cell? a = some v) : a.block < w.heap.size := by
  rcases Nat.lt_or_ge a.block w.heap.size with h' | h'
  · exact h'
  · simp [World.cell?, Array.getElem?_eq_none h'] at h
theorem var_below {P : Program} {w w' : World} {n : String} {g B : Nat} {cs : Array Value} (h : w.var? P n = some cs) (hg : P.globalNamed n = some g) (hb : Below B w w') (hlt : g < B) : w'.var? P n = some cs := by
  unfold World.var? at h ⊢
  rw [hg] at h ⊢
  simp only [Option.bind_some] at h ⊢
  rw [hb.block g hlt]
  exact h
theorem var_lt {P : Program} {w : World} {n : String} {g : Nat} {cs : Array Value} (h : w.var? P n = some cs) (hg : P.globalNamed n = some g) : g < w.heap.size := by
  unfold World.var? at h
  rw [hg] at h
  simp only [Option.bind_some] at h
  rcases Nat.lt_or_ge g w.heap.size with h' | h'
  · exact h'
  · rw [Array.getElem?_eq_none h'] at h
    cases h
theorem planLaid_heap {w W : World} (e : W.heap = w.heap) (h : PlanLaid w) : PlanLaid W := by
  have hc : ∀ a, W.cell? a = w.cell? a := fun a => by unfold World.cell?; rw [e]
  have hv : ∀ n, W.var? Tryd.prog n = w.var? Tryd.prog n := fun n => by unfold World.var?; rw [e]
  unfold PlanLaid Lib.TabIs at *
  simp only [hc, hv, e]
  exact h
theorem planLaid {w : World} (h : laidMet Tryd.prog Rows.fnExactPlanFormRow.laid w) : PlanLaid w := by
  have hT : Lib.TabIs Tryd.prog w "internal/strconv.uint64pow10" .u64 Lib.pow10Tab := by
    have h2 : laidMet Tryd.prog (("internal/strconv.uint64pow10", Lib.tabData .u64 Lib.pow10Tab) :: [("loop.example/lapwing/impl.whatWords", Rows.laid_loop_example_lapwing_impl_whatWords)]) w := laidMet.tail (laidMet.tail h)
    exact Lib.tabIs_of_head gT gTT Tryd.underlying51 Tryd.underlying42 cells42 cells51 h2
  obtain ⟨g, t, cs, fuel, p, hg, ht, hvar, hd⟩ : Lib.VarReads Tryd.prog w "loop.example/lapwing/impl.whatWords" Rows.laid_loop_example_lapwing_impl_whatWords := Lib.laidMet.reads h (.tail _ (.tail _ (.tail _ (.head _))))
  obtain rfl := Option.some.inj (gW.symm.trans hg)
  obtain rfl := Option.some.inj (gWT.symm.trans ht)
  refine ⟨?_, var_lt hT gT, hT⟩
  rcases DataW.trod_slice Tryd.underlying31 hd with ⟨_, hx⟩ | ⟨a, len, cap, elems, rest, n, rfl, hcs, hx, hb, hl, hcap, hel, hall, _, _⟩
  · rw [words_eq] at hx
    have := congrArg Prod.fst hx
    simp at this
  · rw [words_eq] at hx
    have hx1 := congrArg Prod.fst hx
    simp only [DataW.slice.injEq] at hx1
    obtain ⟨e1, _⟩ := hx1
    have hlen : len = whatW.length := by
      have := congrArg List.length e1
      rw [List.length_map, List.length_map] at this
      omega
    subst hlen
    have hcs' : cs = #[.slice (some a) whatW.length cap] := by
      cases cs
      simp only at hcs
      rw [hcs]
    refine ⟨a, cap, by simpa [hcs'] using World.var?_cell gW hvar 0, fun i h0 h1 => ?_⟩
    have hi : i.toNat < whatW.length := by omega
    have hp : whatW[i.toNat]? = some (rdOf ByteArray.empty whatW i) := by
      show _ = some (whatW.getD i.toNat _)
      rw [List.getD_eq_getElem?_getD, List.getElem?_eq_getElem hi]; rfl
    have h3 : (elems.map (·.1))[i.toNat]? = some (.lit (.string (rdOf ByteArray.empty whatW i).data.toList)) := by
      rw [← e1, List.getElem?_map, hp]; rfl
    rw [List.getElem?_map, Option.map_eq_some_iff] at h3
    obtain ⟨el, hel1, hel2⟩ := h3
    have h4 := hall i.toNat hi
    rw [hel1, cells9, Nat.mul_one, Option.bind_eq_some_iff] at h4
    obtain ⟨cs2, hc2, ht2⟩ := h4
    obtain ⟨s, rfl, rfl, _⟩ := DataW.trod_string Tryd.underlying9 ht2
    have hs : s = rdOf ByteArray.empty whatW i := by
      apply ByteArray.ext
      apply Array.toList_inj.1
      simpa using hel2
    rw [← hs]
    exact Go.ChangeShapes.cell_of_cells?_one hc2
end Go.Proofs.YtkphmngnanccbaaDoor.LaidPlan
