/-
  What the helpers of the law FnExactHandPartOf come to.
-/
import Derived.Test.YtbmplfpnhjhoiaaQFnExactHandPartOfx0
import Derived.Test.YtbmplfpnhjhoiaaQFnExactHandPartOfx1
import Derived.Test.YtbmplfpnhjhoiaaQFnExactHandPartOfx2
import Derived.Test.YtbmplfpnhjhoiaaQFnExactHandPartOfx3
import Derived.Test.YtbmplfpnhjhoiaaQFnExactHandPartOfx4
import Derived.Test.YtbmplfpnhjhoiaaQFnExactHandPartOfx5
import Derived.Test.YtbmplfpnhjhoiaaQFnExactHandPartOfx6
import Derived.Test.YtbmplfpnhjhoiaaQFnExactHandPartOfx7
import Derived.Test.YtbmplfpnhjhoiaaQFnExactHandPartOfx8
import Derived.Test.YtbmplfpnhjhoiaaQFnExactHandPartOfx9
import Derived.Test.YtbmplfpnhjhoiaaKit
namespace Go.Proofs.Ytbmplfpnhjhoiaa.StdFnExactHandPartOf
open Go.RowKit Go.Proofs.Ytbmplfpnhjhoiaa.QFnExactHandPartOf Go.Proofs.YtbmplfpnhjhoiaaW.PrintWords Go.Proofs.Ytbmplfpnhjhoiaa.Kit
set_option linter.unusedSimpArgs false
set_option linter.unusedVariables false
theorem szHandBoxS_eq (x0 : List S120) (hm : x0.length ≤ 9223372036854775807) (a : Int) (h0 : 0 ≤ a) (ha : a ≤ 1048576) : laws_szHandBoxS.f x0 a = some (if (x0.length : Int) ≤ a then a - x0.length else -1) := by
  unfold laws_szHandBoxS.f
  rw [w64 (by omega) (by omega)]
  by_cases h : (x0.length : Int) ≤ a
  · rw [if_neg (by omega), if_pos h]
  · rw [if_pos (by omega), if_neg h]
def conv_toHandBoxS (x : S120) : S41 := ⟨x.f0, x.f1, x.f2, x.f3, x.f4, x.f5⟩
theorem toHandBoxS_ev (x0 : List S120) (hm : x0.length ≤ 1048576) : Ev (fun k => laws_toHandBoxS.f k x0) (x0.map conv_toHandBoxS) := by
  unfold laws_toHandBoxS.f
  refine Ev.ite_pos (by omega) (Ev.ite_pos (by omega) ?_)
  refine Ev.cast (copy_loop (F := laws_toHandBoxS.l0) (conv := conv_toHandBoxS) (z := z120) (fun x0 x3 i h0 h1 h2 h3 k => ?_) (fun x0 x3 i h k => ?_) x0 (by omega) x0.length 0 _ (by omega) (by omega) (by simp) (fun j hj => by omega)) rfl
  · simp only [laws_toHandBoxS.l0, laws_toHandBox.f, Option.bind_some, rd_T120, if_pos h0, if_pos h1, if_pos h2]
    rw [w64 (by omega) h3]
    rfl
  · simp only [laws_toHandBoxS.l0]
    rw [if_neg h]
theorem eqHandBoxS_ev (x0 : List S41) (hm : x0.length ≤ 1048576) : Ev (fun k => laws_eqHandBoxS.f k x0 x0) true := by
  unfold laws_eqHandBoxS.f
  refine Ev.ite_pos rfl ?_
  refine eq_loop (F := laws_eqHandBoxS.l0) x0 (by omega) (fun i h0 h1 h3 k => ?_) (fun i h k => ?_) x0.length 0 (by omega) (by omega)
  · simp only [laws_eqHandBoxS.l0, laws_eqHandBox.f, if_pos h0, if_pos h1, if_true, if_false, Option.bind_some, bne_self_eq_false, Bool.false_eq_true]
    rw [w64 (by omega) h3]
  · simp only [laws_eqHandBoxS.l0]
    rw [if_neg h]
theorem rd_set_markHandBoxS (x0 : List S41) (i : Int) (v : S41) (h0 : 0 ≤ i) (h : i < (x0.length : Int)) : rd_T41 (x0.set i.toNat v) i = v := by
  show (x0.set i.toNat v).getD i.toNat _ = v
  rw [List.getD_eq_getElem?_getD, List.getElem?_set_self (by omega)]; rfl
def mk_markHandBoxS (q : Int) : S41 := ⟨q, q + 1, q + 1 + 1, q + 1 + 1 + 1, q + 1 + 1 + 1 + 1, q + 1 + 1 + 1 + 1 + 1⟩
theorem markHandBoxS_ev (x0 : List S41) (hm : x0.length ≤ 1048576) : Ev (fun k => laws_markHandBoxS.f k x0 1) (1 + 6 * (x0.length : Int), marks mk_markHandBoxS 1 6 x0.length) := by
  unfold laws_markHandBoxS.f
  refine Ev.cast (mark_loop (F := laws_markHandBoxS.l0) (mk := mk_markHandBoxS) (m := 1) (c := 6) (by omega) (by omega) x0.length (by omega) (by omega) (fun x0 q i h0 h1 h2 h3 h4 k => ?_) (fun x0 q i h k => ?_) x0.length 0 x0 rfl (by omega) (by omega) (by intro j hj; omega)) rfl
  · have e1 := w64 (n := q + 1) (by omega) (by omega)
    have e2 := w64 (n := q + 1 + 1) (by omega) (by omega)
    have e3 := w64 (n := q + 1 + 1 + 1) (by omega) (by omega)
    have e4 := w64 (n := q + 1 + 1 + 1 + 1) (by omega) (by omega)
    have e5 := w64 (n := q + 1 + 1 + 1 + 1 + 1) (by omega) (by omega)
    have e6 := w64 (n := q + 1 + 1 + 1 + 1 + 1 + 1) (by omega) (by omega)
    have e99 := w64 (n := i + 1) (by omega) (by omega)
    simp only [laws_markHandBoxS.l0, if_pos h0, if_pos h1, Option.bind_some, e1, e2, e3, e4, e5, e6, e99, rd_set_markHandBoxS, h0, h1, List.set_set, List.length_set]
    rw [show q + 6 = q + 1 + 1 + 1 + 1 + 1 + 1 by omega]
    rfl
  · simp only [laws_markHandBoxS.l0]
    rw [if_neg h]
theorem heldHandBoxS_ev (n : Nat) (hm : n ≤ 1048576) : Ev (fun k => laws_heldHandBoxS.f k (marks mk_markHandBoxS 1 6 n) 1) (1 + 6 * (n : Int)) := by
  unfold laws_heldHandBoxS.f
  refine held_loop (F := laws_heldHandBoxS.l0) (mk := mk_markHandBoxS) (m := 1) (c := 6) z41 (by omega) (by omega) n (by omega) (by omega) (fun x0 q i h0 h1 h2 h3 h4 he k => ?_) (fun x0 q i h k => ?_) n 0 (by omega) (by omega)
  · have he' : rd_T41 x0 i = mk_markHandBoxS q := he
    have e1 := w64 (n := q + 1) (by omega) (by omega)
    have e2 := w64 (n := q + 1 + 1) (by omega) (by omega)
    have e3 := w64 (n := q + 1 + 1 + 1) (by omega) (by omega)
    have e4 := w64 (n := q + 1 + 1 + 1 + 1) (by omega) (by omega)
    have e5 := w64 (n := q + 1 + 1 + 1 + 1 + 1) (by omega) (by omega)
    have e6 := w64 (n := q + 1 + 1 + 1 + 1 + 1 + 1) (by omega) (by omega)
    have e99 := w64 (n := i + 1) (by omega) (by omega)
    simp only [laws_heldHandBoxS.l0, if_pos h0, if_pos h1, he', mk_markHandBoxS, e1, e2, e3, e4, e5, e6, e99, if_true, bne_self_eq_false, Bool.false_eq_true, if_false]
    rw [show q + 6 = q + 1 + 1 + 1 + 1 + 1 + 1 by omega]
  · simp only [laws_heldHandBoxS.l0]
    rw [if_neg h]
end Go.Proofs.Ytbmplfpnhjhoiaa.StdFnExactHandPartOf
