/-
  What the helpers of the law FnExactHandWordOk come to.
-/
import Derived.Test.YtbgcpbdnmpnjhaaQFnExactHandWordOkx0
import Derived.Test.YtbgcpbdnmpnjhaaQFnExactHandWordOkx1
import Derived.Test.YtbgcpbdnmpnjhaaQFnExactHandWordOkx2
import Derived.Test.YtbgcpbdnmpnjhaaQFnExactHandWordOkx3
import Derived.Test.YtbgcpbdnmpnjhaaQFnExactHandWordOkx4
import Derived.Test.YtbgcpbdnmpnjhaaQFnExactHandWordOkx5
import Derived.Test.YtbgcpbdnmpnjhaaQFnExactHandWordOkx6
import Derived.Test.YtbgcpbdnmpnjhaaQFnExactHandWordOkx7
import Derived.Test.YtbgcpbdnmpnjhaaQFnExactHandWordOkx8
import Derived.Test.YtbgcpbdnmpnjhaaQFnExactHandWordOkx9
import Derived.Test.YtbgcpbdnmpnjhaaQFnExactHandWordOkx10
import Derived.Test.YtbgcpbdnmpnjhaaQFnExactHandWordOkx11
import Derived.Test.YtbgcpbdnmpnjhaaQFnExactHandWordOkx12
import Derived.Test.YtbgcpbdnmpnjhaaKit
namespace Go.Proofs.Ytbgcpbdnmpnjhaa.StdFnExactHandWordOk
open Go.RowKit Go.Proofs.Ytbgcpbdnmpnjhaa.QFnExactHandWordOk Go.Proofs.YtbgcpbdnmpnjhaaW.PrintWords Go.Proofs.Ytbgcpbdnmpnjhaa.Kit
set_option linter.unusedSimpArgs false
set_option linter.unusedVariables false
theorem szHandBoxS_eq (x0 : List S59) (hm : x0.length ≤ 9223372036854775807) (a : Int) (h0 : 0 ≤ a) (ha : a ≤ 1048576) : laws_szHandBoxS.f x0 a = some (if (x0.length : Int) ≤ a then a - x0.length else -1) := by
  unfold laws_szHandBoxS.f
  rw [w64 (by omega) (by omega)]
  by_cases h : (x0.length : Int) ≤ a
  · rw [if_neg (by omega), if_pos h]
  · rw [if_pos (by omega), if_neg h]
def conv_toHandZoneS (x : S40) : S48 := ⟨x.f0, x.f1, x.f2, x.f3, x.f4⟩
theorem toHandZoneS_ev (x0 : List S40) (hm : x0.length ≤ 1048576) : Ev (fun k => laws_toHandZoneS.f k x0) (x0.map conv_toHandZoneS) := by
  unfold laws_toHandZoneS.f
  refine Ev.ite_pos (by omega) (Ev.ite_pos (by omega) ?_)
  refine Ev.cast (copy_loop (F := laws_toHandZoneS.l0) (conv := conv_toHandZoneS) (z := z40) (fun x0 x3 i h0 h1 h2 h3 k => ?_) (fun x0 x3 i h k => ?_) x0 (by omega) x0.length 0 _ (by omega) (by omega) (by simp) (fun j hj => by omega)) rfl
  · simp only [laws_toHandZoneS.l0, laws_toHandZone.f, Option.bind_some, rd_T40, if_pos h0, if_pos h1, if_pos h2]
    rw [w64 (by omega) h3]
    rfl
  · simp only [laws_toHandZoneS.l0]
    rw [if_neg h]
def conv_toHandBoxS (x : S59) : S56 := ⟨x.f0, x.f1, x.f2, x.f3, x.f4, x.f5⟩
theorem toHandBoxS_ev (x0 : List S59) (hm : x0.length ≤ 1048576) : Ev (fun k => laws_toHandBoxS.f k x0) (x0.map conv_toHandBoxS) := by
  unfold laws_toHandBoxS.f
  refine Ev.ite_pos (by omega) (Ev.ite_pos (by omega) ?_)
  refine Ev.cast (copy_loop (F := laws_toHandBoxS.l0) (conv := conv_toHandBoxS) (z := z59) (fun x0 x3 i h0 h1 h2 h3 k => ?_) (fun x0 x3 i h k => ?_) x0 (by omega) x0.length 0 _ (by omega) (by omega) (by simp) (fun j hj => by omega)) rfl
  · simp only [laws_toHandBoxS.l0, laws_toHandBox.f, Option.bind_some, rd_T59, if_pos h0, if_pos h1, if_pos h2]
    rw [w64 (by omega) h3]
    rfl
  · simp only [laws_toHandBoxS.l0]
    rw [if_neg h]
theorem eqHandZoneS_ev (x0 : List S48) (hm : x0.length ≤ 1048576) : Ev (fun k => laws_eqHandZoneS.f k x0 x0) true := by
  unfold laws_eqHandZoneS.f
  refine Ev.ite_pos rfl ?_
  refine eq_loop (F := laws_eqHandZoneS.l0) x0 (by omega) (fun i h0 h1 h3 k => ?_) (fun i h k => ?_) x0.length 0 (by omega) (by omega)
  · simp only [laws_eqHandZoneS.l0, laws_eqHandZone.f, if_pos h0, if_pos h1, if_true, if_false, Option.bind_some, bne_self_eq_false, Bool.false_eq_true]
    rw [w64 (by omega) h3]
  · simp only [laws_eqHandZoneS.l0]
    rw [if_neg h]
theorem eqHandBoxS_ev (x0 : List S56) (hm : x0.length ≤ 1048576) : Ev (fun k => laws_eqHandBoxS.f k x0 x0) true := by
  unfold laws_eqHandBoxS.f
  refine Ev.ite_pos rfl ?_
  refine eq_loop (F := laws_eqHandBoxS.l0) x0 (by omega) (fun i h0 h1 h3 k => ?_) (fun i h k => ?_) x0.length 0 (by omega) (by omega)
  · simp only [laws_eqHandBoxS.l0, laws_eqHandBox.f, if_pos h0, if_pos h1, if_true, if_false, Option.bind_some, bne_self_eq_false, Bool.false_eq_true]
    rw [w64 (by omega) h3]
  · simp only [laws_eqHandBoxS.l0]
    rw [if_neg h]
theorem szHandZoneS_ev (x0 : List S40) (hm : x0.length ≤ 9223372036854775807) (hs : ∀ x ∈ x0, x.f0.size ≤ 9223372036854775807) (a : Int) (h0 : 0 ≤ a) (ha : a ≤ 1048576) : ∃ r, Ev (fun k => laws_szHandZoneS.f k x0 a) r ∧ r ≤ a ∧ -1 ≤ r ∧ (0 ≤ r → (x0.length : Int) ≤ a) := by
  unfold laws_szHandZoneS.f
  rw [w64 (by omega) (by omega)]
  by_cases h : (x0.length : Int) ≤ a
  · have mem : ∀ i : Nat, i < x0.length → (x0.getD i z40).f0.size ≤ 9223372036854775807 := fun i hi => hs _ (by rw [List.getD_eq_getElem?_getD, List.getElem?_eq_getElem hi]; exact List.getElem_mem hi)
    obtain ⟨r, hr, hle, hge⟩ := size_loop (F := laws_szHandZoneS.l0) (fun x => (x.f0.size : Int)) z40 x0 (by omega) (fun q i h0 h1 h2 h3 h4 k => by
      have hz : (rd_T40 x0 i).f0.size ≤ 9223372036854775807 := mem i.toNat (by omega)
      have e := w64 (show -9223372036854775808 ≤ q - ((rd_T40 x0 i).f0.size : Int) by omega) (by omega)
      simp only [laws_szHandZoneS.l0, laws_szHandZone.f, if_pos h0, if_pos h1, e]
      show _ = if q - ((rd_T40 x0 i).f0.size : Int) < 0 then some (-1) else laws_szHandZoneS.l0 k x0 (q - ((rd_T40 x0 i).f0.size : Int)) (i + 1)
      by_cases hlt : q - ((rd_T40 x0 i).f0.size : Int) < 0
      · rw [if_pos hlt, if_pos hlt]
        rfl
      · rw [if_neg hlt, if_neg hlt]
        simp only [Option.bind_some]
        rw [if_neg hlt, w64 (by omega) h4]) (fun i hi => by omega) (fun q i h k => by
      simp only [laws_szHandZoneS.l0]
      rw [if_neg h]) x0.length 0 (a - x0.length) (by omega) (by omega) (by omega) (by omega)
    exact ⟨r, Ev.ite_neg (by omega) hr, by omega, hge, fun _ => by omega⟩
  · exact ⟨-1, Ev.ite_pos (by omega) (Ev.val _), by omega, by omega, fun h => by omega⟩
end Go.Proofs.Ytbgcpbdnmpnjhaa.StdFnExactHandWordOk
