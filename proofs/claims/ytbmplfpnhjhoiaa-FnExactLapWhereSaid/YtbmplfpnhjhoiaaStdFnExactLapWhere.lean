/-
  What the helpers of the law FnExactLapWhere come to.
-/
import Derived.Test.YtbmplfpnhjhoiaaQFnExactLapWherex0
import Derived.Test.YtbmplfpnhjhoiaaQFnExactLapWherex1
import Derived.Test.YtbmplfpnhjhoiaaQFnExactLapWherex2
import Derived.Test.YtbmplfpnhjhoiaaQFnExactLapWherex3
import Derived.Test.YtbmplfpnhjhoiaaQFnExactLapWherex4
import Derived.Test.YtbmplfpnhjhoiaaKit
namespace Go.Proofs.Ytbmplfpnhjhoiaa.StdFnExactLapWhere
open Go.RowKit Go.Proofs.Ytbmplfpnhjhoiaa.QFnExactLapWhere Go.Proofs.YtbmplfpnhjhoiaaW.PrintWords Go.Proofs.Ytbmplfpnhjhoiaa.Kit
set_option linter.unusedSimpArgs false
set_option linter.unusedVariables false
theorem szHandBoxS_eq (x0 : List S120) (hm : x0.length ≤ 9223372036854775807) (a : Int) (h0 : 0 ≤ a) (ha : a ≤ 1048576) : laws_szHandBoxS.f x0 a = some (if (x0.length : Int) ≤ a then a - x0.length else -1) := by
  unfold laws_szHandBoxS.f
  rw [w64 (by omega) (by omega)]
  by_cases h : (x0.length : Int) ≤ a
  · rw [if_neg (by omega), if_pos h]
  · rw [if_pos (by omega), if_neg h]
theorem szIntS_eq (x0 : List Int) (hm : x0.length ≤ 9223372036854775807) (a : Int) (h0 : 0 ≤ a) (ha : a ≤ 1048576) : laws_szIntS.f x0 a = some (if (x0.length : Int) ≤ a then a - x0.length else -1) := by
  unfold laws_szIntS.f
  rw [w64 (by omega) (by omega)]
  by_cases h : (x0.length : Int) ≤ a
  · rw [if_neg (by omega), if_pos h]
  · rw [if_pos (by omega), if_neg h]
def conv_toHandBoxS (x : S120) : S41 := ⟨x.f0, x.f1, x.f2, x.f3, x.f4, x.f5⟩
theorem toHandBoxS_ev (x0 : List S120) (hm : x0.length ≤ 1048576) : Ev (fun k => laws_toHandBoxS.f k x0) (x0.map conv_toHandBoxS) := by
  unfold laws_toHandBoxS.f
  refine Ev.ite_pos (by omega) (Ev.ite_pos (by omega) ?_)
  refine Ev.cast (copy_loop (F := laws_toHandBoxS.l0) (conv := conv_toHandBoxS) (z := z120) (fun x0 x3 i h0 h1 h2 h3 k => ?_) (fun x0 x3 i h k => ?_) x0 (by omega) x0.length 0 _ (by omega) (by omega) (by simp) (fun j hj => by omega)) rfl
  · simp only [laws_toHandBoxS.l0, laws_toHandBox.f, Option.bind_some, rd_T120, if_pos h0, if_pos h1, if_pos h2]
    rw [w64 (by omega) h3]
    rfl
  · simp only [laws_toHandBoxS.l0]
    rw [if_neg h]
theorem toIntS_ev (x0 : List Int) (hm : x0.length ≤ 1048576) : Ev (fun k => laws_toIntS.f k x0) x0 := by
  unfold laws_toIntS.f
  refine Ev.ite_pos (by omega) (Ev.ite_pos (by omega) ?_)
  refine Ev.cast (copy_loop (F := laws_toIntS.l0) (conv := (fun x : Int => x)) (z := 0) (fun x0 x3 i h0 h1 h2 h3 k => ?_) (fun x0 x3 i h k => ?_) x0 (by omega) x0.length 0 _ (by omega) (by omega) (by simp) (fun j hj => by omega)) (by simp)
  · simp only [laws_toIntS.l0, rd, if_pos h0, if_pos h1, if_pos h2]
    rw [w64 (by omega) h3]
  · simp only [laws_toIntS.l0]
    rw [if_neg h]
theorem eqHandBoxS_ev (x0 : List S41) (hm : x0.length ≤ 1048576) : Ev (fun k => laws_eqHandBoxS.f k x0 x0) true := by
  unfold laws_eqHandBoxS.f
  refine Ev.ite_pos rfl ?_
  refine eq_loop (F := laws_eqHandBoxS.l0) x0 (by omega) (fun i h0 h1 h3 k => ?_) (fun i h k => ?_) x0.length 0 (by omega) (by omega)
  · simp only [laws_eqHandBoxS.l0, laws_eqHandBox.f, if_pos h0, if_pos h1, if_true, if_false, Option.bind_some, bne_self_eq_false, Bool.false_eq_true]
    rw [w64 (by omega) h3]
  · simp only [laws_eqHandBoxS.l0]
    rw [if_neg h]
theorem eqIntS_ev (x0 : List Int) (hm : x0.length ≤ 1048576) : Ev (fun k => laws_eqIntS.f k x0 x0) true := by
  unfold laws_eqIntS.f
  refine Ev.ite_pos rfl ?_
  refine eq_loop (F := laws_eqIntS.l0) x0 (by omega) (fun i h0 h1 h3 k => ?_) (fun i h k => ?_) x0.length 0 (by omega) (by omega)
  · simp only [laws_eqIntS.l0, if_pos h0, if_pos h1, if_true, if_false, Option.bind_some, bne_self_eq_false, Bool.false_eq_true]
    rw [w64 (by omega) h3]
  · simp only [laws_eqIntS.l0]
    rw [if_neg h]
end Go.Proofs.Ytbmplfpnhjhoiaa.StdFnExactLapWhere
