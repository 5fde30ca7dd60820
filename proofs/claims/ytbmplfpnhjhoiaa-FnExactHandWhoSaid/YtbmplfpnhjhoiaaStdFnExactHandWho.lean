/-
  What the helpers of the law FnExactHandWho come to.
-/
import Derived.Test.YtbmplfpnhjhoiaaQFnExactHandWhox0
import Derived.Test.YtbmplfpnhjhoiaaQFnExactHandWhox1
import Derived.Test.YtbmplfpnhjhoiaaQFnExactHandWhox2
import Derived.Test.YtbmplfpnhjhoiaaQFnExactHandWhox3
import Derived.Test.YtbmplfpnhjhoiaaQFnExactHandWhox4
import Derived.Test.YtbmplfpnhjhoiaaQFnExactHandWhox5
import Derived.Test.YtbmplfpnhjhoiaaQFnExactHandWhox6
import Derived.Test.YtbmplfpnhjhoiaaQFnExactHandWhox7
import Derived.Test.YtbmplfpnhjhoiaaQFnExactHandWhox8
import Derived.Test.YtbmplfpnhjhoiaaQFnExactHandWhox9
import Derived.Test.YtbmplfpnhjhoiaaQFnExactHandWhox10
import Derived.Test.YtbmplfpnhjhoiaaQFnExactHandWhox11
import Derived.Test.YtbmplfpnhjhoiaaKit
namespace Go.Proofs.Ytbmplfpnhjhoiaa.StdFnExactHandWho
open Go.RowKit Go.Proofs.Ytbmplfpnhjhoiaa.QFnExactHandWho Go.Proofs.YtbmplfpnhjhoiaaW.PrintWords Go.Proofs.Ytbmplfpnhjhoiaa.Kit
set_option linter.unusedSimpArgs false
set_option linter.unusedVariables false
theorem szHandBoxS_eq (x0 : List S120) (hm : x0.length ≤ 9223372036854775807) (a : Int) (h0 : 0 ≤ a) (ha : a ≤ 1048576) : laws_szHandBoxS.f x0 a = some (if (x0.length : Int) ≤ a then a - x0.length else -1) := by
  unfold laws_szHandBoxS.f
  rw [w64 (by omega) (by omega)]
  by_cases h : (x0.length : Int) ≤ a
  · rw [if_neg (by omega), if_pos h]
  · rw [if_pos (by omega), if_neg h]
def conv_toHandZoneS (x : S52) : S55 := ⟨x.f0, x.f1, x.f2, x.f3, x.f4⟩
theorem toHandZoneS_ev (x0 : List S52) (hm : x0.length ≤ 1048576) : Ev (fun k => laws_toHandZoneS.f k x0) (x0.map conv_toHandZoneS) := by
  unfold laws_toHandZoneS.f
  refine Ev.ite_pos (by omega) (Ev.ite_pos (by omega) ?_)
  refine Ev.cast (copy_loop (F := laws_toHandZoneS.l0) (conv := conv_toHandZoneS) (z := z52) (fun x0 x3 i h0 h1 h2 h3 k => ?_) (fun x0 x3 i h k => ?_) x0 (by omega) x0.length 0 _ (by omega) (by omega) (by simp) (fun j hj => by omega)) rfl
  · simp only [laws_toHandZoneS.l0, laws_toHandZone.f, Option.bind_some, rd_T52, if_pos h0, if_pos h1, if_pos h2]
    rw [w64 (by omega) h3]
    rfl
  · simp only [laws_toHandZoneS.l0]
    rw [if_neg h]
def conv_toHandBoxS (x : S120) : S41 := ⟨x.f0, x.f1, x.f2, x.f3, x.f4, x.f5⟩
theorem toHandBoxS_ev (x0 : List S120) (hm : x0.length ≤ 1048576) : Ev (fun k => laws_toHandBoxS.f k x0) (x0.map conv_toHandBoxS) := by
  unfold laws_toHandBoxS.f
  refine Ev.ite_pos (by omega) (Ev.ite_pos (by omega) ?_)
  refine Ev.cast (copy_loop (F := laws_toHandBoxS.l0) (conv := conv_toHandBoxS) (z := z120) (fun x0 x3 i h0 h1 h2 h3 k => ?_) (fun x0 x3 i h k => ?_) x0 (by omega) x0.length 0 _ (by omega) (by omega) (by simp) (fun j hj => by omega)) rfl
  · simp only [laws_toHandBoxS.l0, laws_toHandBox.f, Option.bind_some, rd_T120, if_pos h0, if_pos h1, if_pos h2]
    rw [w64 (by omega) h3]
    rfl
  · simp only [laws_toHandBoxS.l0]
    rw [if_neg h]
theorem eqHandZoneS_ev (x0 : List S55) (hm : x0.length ≤ 1048576) : Ev (fun k => laws_eqHandZoneS.f k x0 x0) true := by
  unfold laws_eqHandZoneS.f
  refine Ev.ite_pos rfl ?_
  refine eq_loop (F := laws_eqHandZoneS.l0) x0 (by omega) (fun i h0 h1 h3 k => ?_) (fun i h k => ?_) x0.length 0 (by omega) (by omega)
  · simp only [laws_eqHandZoneS.l0, laws_eqHandZone.f, if_pos h0, if_pos h1, if_true, if_false, Option.bind_some, bne_self_eq_false, Bool.false_eq_true]
    rw [w64 (by omega) h3]
  · simp only [laws_eqHandZoneS.l0]
    rw [if_neg h]
theorem eqHandBoxS_ev (x0 : List S41) (hm : x0.length ≤ 1048576) : Ev (fun k => laws_eqHandBoxS.f k x0 x0) true := by
  unfold laws_eqHandBoxS.f
  refine Ev.ite_pos rfl ?_
  refine eq_loop (F := laws_eqHandBoxS.l0) x0 (by omega) (fun i h0 h1 h3 k => ?_) (fun i h k => ?_) x0.length 0 (by omega) (by omega)
  · simp only [laws_eqHandBoxS.l0, laws_eqHandBox.f, if_pos h0, if_pos h1, if_true, if_false, Option.bind_some, bne_self_eq_false, Bool.false_eq_true]
    rw [w64 (by omega) h3]
  · simp only [laws_eqHandBoxS.l0]
    rw [if_neg h]
theorem rd_set_markHandBoxS (x0 : List S41) (i : Int) (v : S41) (h0 : 0 ≤ i) (h : i < (x0.length : Int)) : rd_T41 (x0.set i.toNat v) i = v := by
  show (x0.set i.toNat v).getD i.toNat _ = v
  rw [List.getD_eq_getElem?_getD, List.getElem?_set_self (by omega)]; rfl
def mk_markHandBoxS (q : Int) : S41 := ⟨q, q + 1, q + 1 + 1, q + 1 + 1 + 1, q + 1 + 1 + 1 + 1, q + 1 + 1 + 1 + 1 + 1⟩
theorem markHandBoxS_ev (x0 : List S41) (hm : x0.length ≤ 1048576) : Ev (fun k => laws_markHandBoxS.f k x0 1) (1 + 6 * (x0.length : Int), marks mk_markHandBoxS 1 6 x0.length) := by
  unfold laws_markHandBoxS.f
  refine Ev.cast (mark_loop (F := laws_markHandBoxS.l0) (mk := mk_markHandBoxS) (m := 1) (c := 6) (by omega) (by omega) x0.length (by omega) (by omega) (fun x0 q i h0 h1 h2 h3 h4 k => ?_) (fun x0 q i h k => ?_) x0.length 0 x0 rfl (by omega) (by omega) (by intro j hj; omega)) rfl
  · have e1 := w64 (n := q + 1) (by omega) (by omega)
    have e2 := w64 (n := q + 1 + 1) (by omega) (by omega)
    have e3 := w64 (n := q + 1 + 1 + 1) (by omega) (by omega)
    have e4 := w64 (n := q + 1 + 1 + 1 + 1) (by omega) (by omega)
    have e5 := w64 (n := q + 1 + 1 + 1 + 1 + 1) (by omega) (by omega)
    have e6 := w64 (n := q + 1 + 1 + 1 + 1 + 1 + 1) (by omega) (by omega)
    have e99 := w64 (n := i + 1) (by omega) (by omega)
    simp only [laws_markHandBoxS.l0, if_pos h0, if_pos h1, Option.bind_some, e1, e2, e3, e4, e5, e6, e99, rd_set_markHandBoxS, h0, h1, List.set_set, List.length_set]
    rw [show q + 6 = q + 1 + 1 + 1 + 1 + 1 + 1 by omega]
    rfl
  · simp only [laws_markHandBoxS.l0]
    rw [if_neg h]
theorem eqStringS_ev (x0 : List ByteArray) (hm : x0.length ≤ 1048576) : Ev (fun k => laws_eqStringS.f k x0 x0) true := by
  unfold laws_eqStringS.f
  refine Ev.ite_pos rfl ?_
  refine eq_loop (F := laws_eqStringS.l0) x0 (by omega) (fun i h0 h1 h3 k => ?_) (fun i h k => ?_) x0.length 0 (by omega) (by omega)
  · simp only [laws_eqStringS.l0, if_pos h0, if_pos h1, if_true, if_false, Option.bind_some, bne_self_eq_false, Bool.false_eq_true]
    rw [w64 (by omega) h3]
  · simp only [laws_eqStringS.l0]
    rw [if_neg h]
-- laws_markHandZoneS: elements with texts or rows: not here
-- laws_markStringS: not here
-- laws_heldStringS: not here
theorem szHandZoneS_ev (x0 : List S52) (hm : x0.length ≤ 9223372036854775807) (hs : ∀ x ∈ x0, x.f0.size ≤ 9223372036854775807) (a : Int) (h0 : 0 ≤ a) (ha : a ≤ 1048576) : ∃ r, Ev (fun k => laws_szHandZoneS.f k x0 a) r ∧ r ≤ a ∧ -1 ≤ r ∧ (0 ≤ r → (x0.length : Int) ≤ a) := by
  unfold laws_szHandZoneS.f
  rw [w64 (by omega) (by omega)]
  by_cases h : (x0.length : Int) ≤ a
  · have mem : ∀ i : Nat, i < x0.length → (x0.getD i z52).f0.size ≤ 9223372036854775807 := fun i hi => hs _ (by rw [List.getD_eq_getElem?_getD, List.getElem?_eq_getElem hi]; exact List.getElem_mem hi)
    obtain ⟨r, hr, hle, hge⟩ := size_loop (F := laws_szHandZoneS.l0) (fun x => (x.f0.size : Int)) z52 x0 (by omega) (fun q i h0 h1 h2 h3 h4 k => by
      have hz : (rd_T52 x0 i).f0.size ≤ 9223372036854775807 := mem i.toNat (by omega)
      have e := w64 (show -9223372036854775808 ≤ q - ((rd_T52 x0 i).f0.size : Int) by omega) (by omega)
      simp only [laws_szHandZoneS.l0, laws_szHandZone.f, if_pos h0, if_pos h1, e]
      show _ = if q - ((rd_T52 x0 i).f0.size : Int) < 0 then some (-1) else laws_szHandZoneS.l0 k x0 (q - ((rd_T52 x0 i).f0.size : Int)) (i + 1)
      by_cases hlt : q - ((rd_T52 x0 i).f0.size : Int) < 0
      · rw [if_pos hlt, if_pos hlt]
        rfl
      · rw [if_neg hlt, if_neg hlt]
        simp only [Option.bind_some]
        rw [if_neg hlt, w64 (by omega) h4]) (fun i hi => by omega) (fun q i h k => by
      simp only [laws_szHandZoneS.l0]
      rw [if_neg h]) x0.length 0 (a - x0.length) (by omega) (by omega) (by omega) (by omega)
    exact ⟨r, Ev.ite_neg (by omega) hr, by omega, hge, fun _ => by omega⟩
  · exact ⟨-1, Ev.ite_pos (by omega) (Ev.val _), by omega, by omega, fun h => by omega⟩
end Go.Proofs.Ytbmplfpnhjhoiaa.StdFnExactHandWho
