/-
  What the helpers of the law FnExactHandZonesOk come to.
-/
import Derived.Test.YtahfbpmaeijgaaaQFnExactHandZonesOkx0
import Derived.Test.YtahfbpmaeijgaaaQFnExactHandZonesOkx1
import Derived.Test.YtahfbpmaeijgaaaQFnExactHandZonesOkx2
import Derived.Test.YtahfbpmaeijgaaaQFnExactHandZonesOkx3
import Derived.Test.YtahfbpmaeijgaaaQFnExactHandZonesOkx4
import Derived.Test.YtahfbpmaeijgaaaQFnExactHandZonesOkx5
import Derived.Test.YtahfbpmaeijgaaaKit
namespace Go.Proofs.Ytahfbpmaeijgaaa.StdFnExactHandZonesOk
open Go.RowKit Go.Proofs.Ytahfbpmaeijgaaa.QFnExactHandZonesOk Go.Proofs.YtahfbpmaeijgaaaW.PrintWords Go.Proofs.Ytahfbpmaeijgaaa.Kit
set_option linter.unusedSimpArgs false
set_option linter.unusedVariables false
def conv_toHandZoneS (x : S115) : S116 := ⟨x.f0, x.f1, x.f2, x.f3, x.f4⟩
theorem toHandZoneS_ev (x0 : List S115) (hm : x0.length ≤ 1048576) : Ev (fun k => laws_toHandZoneS.f k x0) (x0.map conv_toHandZoneS) := by
  unfold laws_toHandZoneS.f
  refine Ev.ite_pos (by omega) (Ev.ite_pos (by omega) ?_)
  refine Ev.cast (copy_loop (F := laws_toHandZoneS.l0) (conv := conv_toHandZoneS) (z := z115) (fun x0 x3 i h0 h1 h2 h3 k => ?_) (fun x0 x3 i h k => ?_) x0 (by omega) x0.length 0 _ (by omega) (by omega) (by simp) (fun j hj => by omega)) rfl
  · simp only [laws_toHandZoneS.l0, laws_toHandZone.f, Option.bind_some, rd_T115, if_pos h0, if_pos h1, if_pos h2]
    rw [w64 (by omega) h3]
    rfl
  · simp only [laws_toHandZoneS.l0]
    rw [if_neg h]
theorem eqHandZoneS_ev (x0 : List S116) (hm : x0.length ≤ 1048576) : Ev (fun k => laws_eqHandZoneS.f k x0 x0) true := by
  unfold laws_eqHandZoneS.f
  refine Ev.ite_pos rfl ?_
  refine eq_loop (F := laws_eqHandZoneS.l0) x0 (by omega) (fun i h0 h1 h3 k => ?_) (fun i h k => ?_) x0.length 0 (by omega) (by omega)
  · simp only [laws_eqHandZoneS.l0, laws_eqHandZone.f, if_pos h0, if_pos h1, if_true, if_false, Option.bind_some, bne_self_eq_false, Bool.false_eq_true]
    rw [w64 (by omega) h3]
  · simp only [laws_eqHandZoneS.l0]
    rw [if_neg h]
theorem szHandZoneS_ev (x0 : List S115) (hm : x0.length ≤ 9223372036854775807) (hs : ∀ x ∈ x0, x.f0.size ≤ 9223372036854775807) (a : Int) (h0 : 0 ≤ a) (ha : a ≤ 1048576) : ∃ r, Ev (fun k => laws_szHandZoneS.f k x0 a) r ∧ r ≤ a ∧ -1 ≤ r ∧ (0 ≤ r → (x0.length : Int) ≤ a) := by
  unfold laws_szHandZoneS.f
  rw [w64 (by omega) (by omega)]
  by_cases h : (x0.length : Int) ≤ a
  · have mem : ∀ i : Nat, i < x0.length → (x0.getD i z115).f0.size ≤ 9223372036854775807 := fun i hi => hs _ (by rw [List.getD_eq_getElem?_getD, List.getElem?_eq_getElem hi]; exact List.getElem_mem hi)
    obtain ⟨r, hr, hle, hge⟩ := size_loop (F := laws_szHandZoneS.l0) (fun x => (x.f0.size : Int)) z115 x0 (by omega) (fun q i h0 h1 h2 h3 h4 k => by
      have hz : (rd_T115 x0 i).f0.size ≤ 9223372036854775807 := mem i.toNat (by omega)
      have e := w64 (show -9223372036854775808 ≤ q - ((rd_T115 x0 i).f0.size : Int) by omega) (by omega)
      simp only [laws_szHandZoneS.l0, laws_szHandZone.f, if_pos h0, if_pos h1, e]
      show _ = if q - ((rd_T115 x0 i).f0.size : Int) < 0 then some (-1) else laws_szHandZoneS.l0 k x0 (q - ((rd_T115 x0 i).f0.size : Int)) (i + 1)
      by_cases hlt : q - ((rd_T115 x0 i).f0.size : Int) < 0
      · rw [if_pos hlt, if_pos hlt]
        rfl
      · rw [if_neg hlt, if_neg hlt]
        simp only [Option.bind_some]
        rw [if_neg hlt, w64 (by omega) h4]) (fun i hi => by omega) (fun q i h k => by
      simp only [laws_szHandZoneS.l0]
      rw [if_neg h]) x0.length 0 (a - x0.length) (by omega) (by omega) (by omega) (by omega)
    exact ⟨r, Ev.ite_neg (by omega) hr, by omega, hge, fun _ => by omega⟩
  · exact ⟨-1, Ev.ite_pos (by omega) (Ev.val _), by omega, by omega, fun h => by omega⟩
end Go.Proofs.Ytahfbpmaeijgaaa.StdFnExactHandZonesOk
