/-
  What the helpers of the law FnExactPlanBaseOk come to.
-/
import Derived.Test.YtleenmphhlioaaaQFnExactPlanBaseOkx0
import Derived.Test.YtleenmphhlioaaaQFnExactPlanBaseOkx1
import Derived.Test.YtleenmphhlioaaaQFnExactPlanBaseOkx2
import Derived.Test.YtleenmphhlioaaaQFnExactPlanBaseOkx3
import Derived.Test.YtleenmphhlioaaaQFnExactPlanBaseOkx4
import Derived.Test.YtleenmphhlioaaaQFnExactPlanBaseOkx5
import Derived.Test.YtleenmphhlioaaaQFnExactPlanBaseOkx6
import Derived.Test.YtleenmphhlioaaaQFnExactPlanBaseOkx7
import Derived.Test.YtleenmphhlioaaaQFnExactPlanBaseOkx8
import Derived.Test.YtleenmphhlioaaaQFnExactPlanBaseOkx9
import Derived.Test.YtleenmphhlioaaaKit
namespace Go.Proofs.Ytleenmphhlioaaa.StdFnExactPlanBaseOk
open Go.RowKit Go.Proofs.Ytleenmphhlioaaa.QFnExactPlanBaseOk Go.Proofs.YtleenmphhlioaaaW.PrintWords Go.Proofs.Ytleenmphhlioaaa.Kit
set_option linter.unusedSimpArgs false
set_option linter.unusedVariables false
def conv_toPlanKindS (x : S50) : S39 := ⟨x.f0, x.f1, x.f2⟩
theorem toPlanKindS_ev (x0 : List S50) (hm : x0.length ≤ 1048576) : Ev (fun k => laws_toPlanKindS.f k x0) (x0.map conv_toPlanKindS) := by
  unfold laws_toPlanKindS.f
  refine Ev.ite_pos (by omega) (Ev.ite_pos (by omega) ?_)
  refine Ev.cast (copy_loop (F := laws_toPlanKindS.l0) (conv := conv_toPlanKindS) (z := z50) (fun x0 x3 i h0 h1 h2 h3 k => ?_) (fun x0 x3 i h k => ?_) x0 (by omega) x0.length 0 _ (by omega) (by omega) (by simp) (fun j hj => by omega)) rfl
  · simp only [laws_toPlanKindS.l0, laws_toPlanKind.f, Option.bind_some, rd_T50, if_pos h0, if_pos h1, if_pos h2]
    rw [w64 (by omega) h3]
    rfl
  · simp only [laws_toPlanKindS.l0]
    rw [if_neg h]
def conv_toPlanPointS (x : S52) : S42 := ⟨x.f0, x.f1, x.f2⟩
theorem toPlanPointS_ev (x0 : List S52) (hm : x0.length ≤ 1048576) : Ev (fun k => laws_toPlanPointS.f k x0) (x0.map conv_toPlanPointS) := by
  unfold laws_toPlanPointS.f
  refine Ev.ite_pos (by omega) (Ev.ite_pos (by omega) ?_)
  refine Ev.cast (copy_loop (F := laws_toPlanPointS.l0) (conv := conv_toPlanPointS) (z := z52) (fun x0 x3 i h0 h1 h2 h3 k => ?_) (fun x0 x3 i h k => ?_) x0 (by omega) x0.length 0 _ (by omega) (by omega) (by simp) (fun j hj => by omega)) rfl
  · simp only [laws_toPlanPointS.l0, laws_toPlanPoint.f, Option.bind_some, rd_T52, if_pos h0, if_pos h1, if_pos h2]
    rw [w64 (by omega) h3]
    rfl
  · simp only [laws_toPlanPointS.l0]
    rw [if_neg h]
theorem eqPlanKindS_ev (x0 : List S39) (hm : x0.length ≤ 1048576) : Ev (fun k => laws_eqPlanKindS.f k x0 x0) true := by
  unfold laws_eqPlanKindS.f
  refine Ev.ite_pos rfl ?_
  refine eq_loop (F := laws_eqPlanKindS.l0) x0 (by omega) (fun i h0 h1 h3 k => ?_) (fun i h k => ?_) x0.length 0 (by omega) (by omega)
  · simp only [laws_eqPlanKindS.l0, laws_eqPlanKind.f, if_pos h0, if_pos h1, if_true, if_false, Option.bind_some, bne_self_eq_false, Bool.false_eq_true]
    rw [w64 (by omega) h3]
  · simp only [laws_eqPlanKindS.l0]
    rw [if_neg h]
theorem eqPlanPointS_ev (x0 : List S42) (hm : x0.length ≤ 1048576) : Ev (fun k => laws_eqPlanPointS.f k x0 x0) true := by
  unfold laws_eqPlanPointS.f
  refine Ev.ite_pos rfl ?_
  refine eq_loop (F := laws_eqPlanPointS.l0) x0 (by omega) (fun i h0 h1 h3 k => ?_) (fun i h k => ?_) x0.length 0 (by omega) (by omega)
  · simp only [laws_eqPlanPointS.l0, laws_eqPlanPoint.f, if_pos h0, if_pos h1, if_true, if_false, Option.bind_some, bne_self_eq_false, Bool.false_eq_true]
    rw [w64 (by omega) h3]
  · simp only [laws_eqPlanPointS.l0]
    rw [if_neg h]
theorem szPlanKindS_ev (x0 : List S50) (hm : x0.length ≤ 9223372036854775807) (hs : ∀ x ∈ x0, x.f0.size ≤ 9223372036854775807) (a : Int) (h0 : 0 ≤ a) (ha : a ≤ 1048576) : ∃ r, Ev (fun k => laws_szPlanKindS.f k x0 a) r ∧ r ≤ a ∧ -1 ≤ r ∧ (0 ≤ r → (x0.length : Int) ≤ a) := by
  unfold laws_szPlanKindS.f
  rw [w64 (by omega) (by omega)]
  by_cases h : (x0.length : Int) ≤ a
  · have mem : ∀ i : Nat, i < x0.length → (x0.getD i z50).f0.size ≤ 9223372036854775807 := fun i hi => hs _ (by rw [List.getD_eq_getElem?_getD, List.getElem?_eq_getElem hi]; exact List.getElem_mem hi)
    obtain ⟨r, hr, hle, hge⟩ := size_loop (F := laws_szPlanKindS.l0) (fun x => (x.f0.size : Int)) z50 x0 (by omega) (fun q i h0 h1 h2 h3 h4 k => by
      have hz : (rd_T50 x0 i).f0.size ≤ 9223372036854775807 := mem i.toNat (by omega)
      have e := w64 (show -9223372036854775808 ≤ q - ((rd_T50 x0 i).f0.size : Int) by omega) (by omega)
      simp only [laws_szPlanKindS.l0, laws_szPlanKind.f, if_pos h0, if_pos h1, e]
      show _ = if q - ((rd_T50 x0 i).f0.size : Int) < 0 then some (-1) else laws_szPlanKindS.l0 k x0 (q - ((rd_T50 x0 i).f0.size : Int)) (i + 1)
      by_cases hlt : q - ((rd_T50 x0 i).f0.size : Int) < 0
      · rw [if_pos hlt, if_pos hlt]
        rfl
      · rw [if_neg hlt, if_neg hlt]
        simp only [Option.bind_some]
        rw [if_neg hlt, w64 (by omega) h4]) (fun i hi => by omega) (fun q i h k => by
      simp only [laws_szPlanKindS.l0]
      rw [if_neg h]) x0.length 0 (a - x0.length) (by omega) (by omega) (by omega) (by omega)
    exact ⟨r, Ev.ite_neg (by omega) hr, by omega, hge, fun _ => by omega⟩
  · exact ⟨-1, Ev.ite_pos (by omega) (Ev.val _), by omega, by omega, fun h => by omega⟩
theorem szPlanPointS_ev (x0 : List S52) (hm : x0.length ≤ 9223372036854775807) (hs : ∀ x ∈ x0, x.f0.size ≤ 9223372036854775807) (a : Int) (h0 : 0 ≤ a) (ha : a ≤ 1048576) : ∃ r, Ev (fun k => laws_szPlanPointS.f k x0 a) r ∧ r ≤ a ∧ -1 ≤ r ∧ (0 ≤ r → (x0.length : Int) ≤ a) := by
  unfold laws_szPlanPointS.f
  rw [w64 (by omega) (by omega)]
  by_cases h : (x0.length : Int) ≤ a
  · have mem : ∀ i : Nat, i < x0.length → (x0.getD i z52).f0.size ≤ 9223372036854775807 := fun i hi => hs _ (by rw [List.getD_eq_getElem?_getD, List.getElem?_eq_getElem hi]; exact List.getElem_mem hi)
    obtain ⟨r, hr, hle, hge⟩ := size_loop (F := laws_szPlanPointS.l0) (fun x => (x.f0.size : Int)) z52 x0 (by omega) (fun q i h0 h1 h2 h3 h4 k => by
      have hz : (rd_T52 x0 i).f0.size ≤ 9223372036854775807 := mem i.toNat (by omega)
      have e := w64 (show -9223372036854775808 ≤ q - ((rd_T52 x0 i).f0.size : Int) by omega) (by omega)
      simp only [laws_szPlanPointS.l0, laws_szPlanPoint.f, if_pos h0, if_pos h1, e]
      show _ = if q - ((rd_T52 x0 i).f0.size : Int) < 0 then some (-1) else laws_szPlanPointS.l0 k x0 (q - ((rd_T52 x0 i).f0.size : Int)) (i + 1)
      by_cases hlt : q - ((rd_T52 x0 i).f0.size : Int) < 0
      · rw [if_pos hlt, if_pos hlt]
        rfl
      · rw [if_neg hlt, if_neg hlt]
        simp only [Option.bind_some]
        rw [if_neg hlt, w64 (by omega) h4]) (fun i hi => by omega) (fun q i h k => by
      simp only [laws_szPlanPointS.l0]
      rw [if_neg h]) x0.length 0 (a - x0.length) (by omega) (by omega) (by omega) (by omega)
    exact ⟨r, Ev.ite_neg (by omega) hr, by omega, hge, fun _ => by omega⟩
  · exact ⟨-1, Ev.ite_pos (by omega) (Ev.val _), by omega, by omega, fun h => by omega⟩
end Go.Proofs.Ytleenmphhlioaaa.StdFnExactPlanBaseOk
