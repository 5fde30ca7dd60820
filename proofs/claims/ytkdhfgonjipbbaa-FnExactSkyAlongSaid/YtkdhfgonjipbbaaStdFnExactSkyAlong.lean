/-
  What the helpers of the law FnExactSkyAlong come to.
-/
import Derived.Test.YtkdhfgonjipbbaaQFnExactSkyAlongx0
import Derived.Test.YtkdhfgonjipbbaaQFnExactSkyAlongx1
import Derived.Test.YtkdhfgonjipbbaaQFnExactSkyAlongx2
import Derived.Test.YtkdhfgonjipbbaaQFnExactSkyAlongx3
import Derived.Test.YtkdhfgonjipbbaaQFnExactSkyAlongx4
import Derived.Test.YtkdhfgonjipbbaaQFnExactSkyAlongx5
import Derived.Test.YtkdhfgonjipbbaaQFnExactSkyAlongx6
import Derived.Test.YtkdhfgonjipbbaaQFnExactSkyAlongx7
import Derived.Test.YtkdhfgonjipbbaaQFnExactSkyAlongx8
import Derived.Test.YtkdhfgonjipbbaaKit
namespace Go.Proofs.Ytkdhfgonjipbbaa.StdFnExactSkyAlong
open Go.RowKit Go.Proofs.Ytkdhfgonjipbbaa.QFnExactSkyAlong Go.Proofs.YtkdhfgonjipbbaaW.PrintWords Go.Proofs.Ytkdhfgonjipbbaa.Kit
set_option linter.unusedSimpArgs false
set_option linter.unusedVariables false
def conv_toSkyRunS (x : S74) : S72 := ⟨x.f0, x.f1, x.f2⟩
theorem toSkyRunS_ev (x0 : List S74) (hm : x0.length ≤ 1048576) : Ev (fun k => laws_toSkyRunS.f k x0) (x0.map conv_toSkyRunS) := by
  unfold laws_toSkyRunS.f
  refine Ev.ite_pos (by omega) (Ev.ite_pos (by omega) ?_)
  refine Ev.cast (copy_loop (F := laws_toSkyRunS.l0) (conv := conv_toSkyRunS) (z := z74) (fun x0 x3 i h0 h1 h2 h3 k => ?_) (fun x0 x3 i h k => ?_) x0 (by omega) x0.length 0 _ (by omega) (by omega) (by simp) (fun j hj => by omega)) rfl
  · simp only [laws_toSkyRunS.l0, laws_toSkyRun.f, Option.bind_some, rd_T74, if_pos h0, if_pos h1, if_pos h2]
    rw [w64 (by omega) h3]
    rfl
  · simp only [laws_toSkyRunS.l0]
    rw [if_neg h]
-- laws_toSkyRowS: elements with rows: not here
def conv_toSkyHopS (x : S58) : S43 := ⟨x.f0, x.f1, x.f2, x.f3⟩
theorem toSkyHopS_ev (x0 : List S58) (hm : x0.length ≤ 1048576) : Ev (fun k => laws_toSkyHopS.f k x0) (x0.map conv_toSkyHopS) := by
  unfold laws_toSkyHopS.f
  refine Ev.ite_pos (by omega) (Ev.ite_pos (by omega) ?_)
  refine Ev.cast (copy_loop (F := laws_toSkyHopS.l0) (conv := conv_toSkyHopS) (z := z58) (fun x0 x3 i h0 h1 h2 h3 k => ?_) (fun x0 x3 i h k => ?_) x0 (by omega) x0.length 0 _ (by omega) (by omega) (by simp) (fun j hj => by omega)) rfl
  · simp only [laws_toSkyHopS.l0, laws_toSkyHop.f, Option.bind_some, rd_T58, if_pos h0, if_pos h1, if_pos h2]
    rw [w64 (by omega) h3]
    rfl
  · simp only [laws_toSkyHopS.l0]
    rw [if_neg h]
theorem eqStringS_ev (x0 : List ByteArray) (hm : x0.length ≤ 1048576) : Ev (fun k => laws_eqStringS.f k x0 x0) true := by
  unfold laws_eqStringS.f
  refine Ev.ite_pos rfl ?_
  refine eq_loop (F := laws_eqStringS.l0) x0 (by omega) (fun i h0 h1 h3 k => ?_) (fun i h k => ?_) x0.length 0 (by omega) (by omega)
  · simp only [laws_eqStringS.l0, if_pos h0, if_pos h1, if_true, if_false, Option.bind_some, bne_self_eq_false, Bool.false_eq_true]
    rw [w64 (by omega) h3]
  · simp only [laws_eqStringS.l0]
    rw [if_neg h]
theorem eqSkyRunS_ev (x0 : List S72) (hm : x0.length ≤ 1048576) : Ev (fun k => laws_eqSkyRunS.f k x0 x0) true := by
  unfold laws_eqSkyRunS.f
  refine Ev.ite_pos rfl ?_
  refine eq_loop (F := laws_eqSkyRunS.l0) x0 (by omega) (fun i h0 h1 h3 k => ?_) (fun i h k => ?_) x0.length 0 (by omega) (by omega)
  · simp only [laws_eqSkyRunS.l0, laws_eqSkyRun.f, if_pos h0, if_pos h1, if_true, if_false, Option.bind_some, bne_self_eq_false, Bool.false_eq_true]
    rw [w64 (by omega) h3]
  · simp only [laws_eqSkyRunS.l0]
    rw [if_neg h]
-- laws_eqSkyRowS: elements with rows: not here
theorem eqSkyHopS_ev (x0 : List S43) (hm : x0.length ≤ 1048576) : Ev (fun k => laws_eqSkyHopS.f k x0 x0) true := by
  unfold laws_eqSkyHopS.f
  refine Ev.ite_pos rfl ?_
  refine eq_loop (F := laws_eqSkyHopS.l0) x0 (by omega) (fun i h0 h1 h3 k => ?_) (fun i h k => ?_) x0.length 0 (by omega) (by omega)
  · simp only [laws_eqSkyHopS.l0, laws_eqSkyHop.f, if_pos h0, if_pos h1, if_true, if_false, Option.bind_some, bne_self_eq_false, Bool.false_eq_true]
    rw [w64 (by omega) h3]
  · simp only [laws_eqSkyHopS.l0]
    rw [if_neg h]
-- laws_markSkyRunS: elements with texts or rows: not here
-- laws_markSkyHopS: elements with texts or rows: not here
-- laws_markSkyRowS: elements with texts or rows: not here
-- laws_markStringS: not here
-- laws_heldStringS: not here
theorem szSkyRunS_ev (x0 : List S74) (hm : x0.length ≤ 9223372036854775807) (hs : ∀ x ∈ x0, x.f2.size ≤ 9223372036854775807) (a : Int) (h0 : 0 ≤ a) (ha : a ≤ 1048576) : ∃ r, Ev (fun k => laws_szSkyRunS.f k x0 a) r ∧ r ≤ a ∧ -1 ≤ r ∧ (0 ≤ r → (x0.length : Int) ≤ a) := by
  unfold laws_szSkyRunS.f
  rw [w64 (by omega) (by omega)]
  by_cases h : (x0.length : Int) ≤ a
  · have mem : ∀ i : Nat, i < x0.length → (x0.getD i z74).f2.size ≤ 9223372036854775807 := fun i hi => hs _ (by rw [List.getD_eq_getElem?_getD, List.getElem?_eq_getElem hi]; exact List.getElem_mem hi)
    obtain ⟨r, hr, hle, hge⟩ := size_loop (F := laws_szSkyRunS.l0) (fun x => (x.f2.size : Int)) z74 x0 (by omega) (fun q i h0 h1 h2 h3 h4 k => by
      have hz : (rd_T74 x0 i).f2.size ≤ 9223372036854775807 := mem i.toNat (by omega)
      have e := w64 (show -9223372036854775808 ≤ q - ((rd_T74 x0 i).f2.size : Int) by omega) (by omega)
      simp only [laws_szSkyRunS.l0, laws_szSkyRun.f, if_pos h0, if_pos h1, e]
      show _ = if q - ((rd_T74 x0 i).f2.size : Int) < 0 then some (-1) else laws_szSkyRunS.l0 k x0 (q - ((rd_T74 x0 i).f2.size : Int)) (i + 1)
      by_cases hlt : q - ((rd_T74 x0 i).f2.size : Int) < 0
      · rw [if_pos hlt, if_pos hlt]
        rfl
      · rw [if_neg hlt, if_neg hlt]
        simp only [Option.bind_some]
        rw [if_neg hlt, w64 (by omega) h4]) (fun i hi => by omega) (fun q i h k => by
      simp only [laws_szSkyRunS.l0]
      rw [if_neg h]) x0.length 0 (a - x0.length) (by omega) (by omega) (by omega) (by omega)
    exact ⟨r, Ev.ite_neg (by omega) hr, by omega, hge, fun _ => by omega⟩
  · exact ⟨-1, Ev.ite_pos (by omega) (Ev.val _), by omega, by omega, fun h => by omega⟩
-- laws_szSkyRowS: elements of another make
-- laws_szSkyHopS: elements of another make
end Go.Proofs.Ytkdhfgonjipbbaa.StdFnExactSkyAlong
