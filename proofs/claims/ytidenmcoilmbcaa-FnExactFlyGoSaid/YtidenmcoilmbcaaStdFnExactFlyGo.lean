/-
  What the helpers of the law FnExactFlyGo come to.
-/
import Derived.Test.YtidenmcoilmbcaaQFnExactFlyGox0
import Derived.Test.YtidenmcoilmbcaaQFnExactFlyGox1
import Derived.Test.YtidenmcoilmbcaaQFnExactFlyGox2
import Derived.Test.YtidenmcoilmbcaaQFnExactFlyGox3
import Derived.Test.YtidenmcoilmbcaaQFnExactFlyGox4
import Derived.Test.YtidenmcoilmbcaaQFnExactFlyGox5
import Derived.Test.YtidenmcoilmbcaaQFnExactFlyGox6
import Derived.Test.YtidenmcoilmbcaaQFnExactFlyGox7
import Derived.Test.YtidenmcoilmbcaaQFnExactFlyGox8
import Derived.Test.YtidenmcoilmbcaaQFnExactFlyGox9
import Derived.Test.YtidenmcoilmbcaaQFnExactFlyGox10
import Derived.Test.YtidenmcoilmbcaaQFnExactFlyGox11
import Derived.Test.YtidenmcoilmbcaaQFnExactFlyGox12
import Derived.Test.YtidenmcoilmbcaaQFnExactFlyGox13
import Derived.Test.YtidenmcoilmbcaaQFnExactFlyGox14
import Derived.Test.YtidenmcoilmbcaaQFnExactFlyGox15
import Derived.Test.YtidenmcoilmbcaaQFnExactFlyGox16
import Derived.Test.YtidenmcoilmbcaaQFnExactFlyGox17
import Derived.Test.YtidenmcoilmbcaaQFnExactFlyGox18
import Derived.Test.YtidenmcoilmbcaaQFnExactFlyGox19
import Derived.Test.YtidenmcoilmbcaaKit
namespace Go.Proofs.Ytidenmcoilmbcaa.StdFnExactFlyGo
open Go.RowKit Go.Proofs.Ytidenmcoilmbcaa.QFnExactFlyGo Go.Proofs.YtidenmcoilmbcaaW.PrintWords Go.Proofs.Ytidenmcoilmbcaa.Kit
set_option linter.unusedSimpArgs false
set_option linter.unusedVariables false
theorem szFlyStepS_eq (x0 : List S104) (hm : x0.length ≤ 9223372036854775807) (a : Int) (h0 : 0 ≤ a) (ha : a ≤ 1048576) : laws_szFlyStepS.f x0 a = some (if (x0.length : Int) ≤ a then a - x0.length else -1) := by
  unfold laws_szFlyStepS.f
  rw [w64 (by omega) (by omega)]
  by_cases h : (x0.length : Int) ≤ a
  · rw [if_neg (by omega), if_pos h]
  · rw [if_pos (by omega), if_neg h]
def conv_toFlyStepS (x : S104) : S88 := ⟨x.f0, x.f1, x.f2, x.f3, x.f4, x.f5, x.f6⟩
theorem toFlyStepS_ev (x0 : List S104) (hm : x0.length ≤ 1048576) : Ev (fun k => laws_toFlyStepS.f k x0) (x0.map conv_toFlyStepS) := by
  unfold laws_toFlyStepS.f
  refine Ev.ite_pos (by omega) (Ev.ite_pos (by omega) ?_)
  refine Ev.cast (copy_loop (F := laws_toFlyStepS.l0) (conv := conv_toFlyStepS) (z := z104) (fun x0 x3 i h0 h1 h2 h3 k => ?_) (fun x0 x3 i h k => ?_) x0 (by omega) x0.length 0 _ (by omega) (by omega) (by simp) (fun j hj => by omega)) rfl
  · simp only [laws_toFlyStepS.l0, laws_toFlyStep.f, Option.bind_some, rd_T104, if_pos h0, if_pos h1, if_pos h2]
    rw [w64 (by omega) h3]
    rfl
  · simp only [laws_toFlyStepS.l0]
    rw [if_neg h]
theorem toIntS_ev (x0 : List Int) (hm : x0.length ≤ 1048576) : Ev (fun k => laws_toIntS.f k x0) x0 := by
  unfold laws_toIntS.f
  refine Ev.ite_pos (by omega) (Ev.ite_pos (by omega) ?_)
  refine Ev.cast (copy_loop (F := laws_toIntS.l0) (conv := (fun x : Int => x)) (z := 0) (fun x0 x3 i h0 h1 h2 h3 k => ?_) (fun x0 x3 i h k => ?_) x0 (by omega) x0.length 0 _ (by omega) (by omega) (by simp) (fun j hj => by omega)) (by simp)
  · simp only [laws_toIntS.l0, rd, if_pos h0, if_pos h1, if_pos h2]
    rw [w64 (by omega) h3]
  · simp only [laws_toIntS.l0]
    rw [if_neg h]
theorem eqIntS_ev (x0 : List Int) (hm : x0.length ≤ 1048576) : Ev (fun k => laws_eqIntS.f k x0 x0) true := by
  unfold laws_eqIntS.f
  refine Ev.ite_pos rfl ?_
  refine eq_loop (F := laws_eqIntS.l0) x0 (by omega) (fun i h0 h1 h3 k => ?_) (fun i h k => ?_) x0.length 0 (by omega) (by omega)
  · simp only [laws_eqIntS.l0, if_pos h0, if_pos h1, if_true, if_false, Option.bind_some, bne_self_eq_false, Bool.false_eq_true]
    rw [w64 (by omega) h3]
  · simp only [laws_eqIntS.l0]
    rw [if_neg h]
theorem eqFlyStepS_ev (x0 : List S88) (hm : x0.length ≤ 1048576) : Ev (fun k => laws_eqFlyStepS.f k x0 x0) true := by
  unfold laws_eqFlyStepS.f
  refine Ev.ite_pos rfl ?_
  refine eq_loop (F := laws_eqFlyStepS.l0) x0 (by omega) (fun i h0 h1 h3 k => ?_) (fun i h k => ?_) x0.length 0 (by omega) (by omega)
  · simp only [laws_eqFlyStepS.l0, laws_eqFlyStep.f, if_pos h0, if_pos h1, if_true, if_false, Option.bind_some, bne_self_eq_false, Bool.false_eq_true]
    rw [w64 (by omega) h3]
  · simp only [laws_eqFlyStepS.l0]
    rw [if_neg h]
theorem rd_set_markFlyStepS (x0 : List S88) (i : Int) (v : S88) (h0 : 0 ≤ i) (h : i < (x0.length : Int)) : rd_T88 (x0.set i.toNat v) i = v := by
  show (x0.set i.toNat v).getD i.toNat _ = v
  rw [List.getD_eq_getElem?_getD, List.getElem?_set_self (by omega)]; rfl
def mk_markFlyStepS (q : Int) : S88 := ⟨q, q + 1, q + 1 + 1, q + 1 + 1 + 1, q + 1 + 1 + 1 + 1, q + 1 + 1 + 1 + 1 + 1, Int.tmod (q + 1 + 1 + 1 + 1 + 1 + 1) 3 == 0⟩
theorem markFlyStepS_ev (x0 : List S88) (hm : x0.length ≤ 1048576) : Ev (fun k => laws_markFlyStepS.f k x0 1) (1 + 7 * (x0.length : Int), marks mk_markFlyStepS 1 7 x0.length) := by
  unfold laws_markFlyStepS.f
  refine Ev.cast (mark_loop (F := laws_markFlyStepS.l0) (mk := mk_markFlyStepS) (m := 1) (c := 7) (by omega) (by omega) x0.length (by omega) (by omega) (fun x0 q i h0 h1 h2 h3 h4 k => ?_) (fun x0 q i h k => ?_) x0.length 0 x0 rfl (by omega) (by omega) (by intro j hj; omega)) rfl
  · have e1 := w64 (n := q + 1) (by omega) (by omega)
    have e2 := w64 (n := q + 1 + 1) (by omega) (by omega)
    have e3 := w64 (n := q + 1 + 1 + 1) (by omega) (by omega)
    have e4 := w64 (n := q + 1 + 1 + 1 + 1) (by omega) (by omega)
    have e5 := w64 (n := q + 1 + 1 + 1 + 1 + 1) (by omega) (by omega)
    have e6 := w64 (n := q + 1 + 1 + 1 + 1 + 1 + 1) (by omega) (by omega)
    have e7 := w64 (n := q + 1 + 1 + 1 + 1 + 1 + 1 + 1) (by omega) (by omega)
    have e99 := w64 (n := i + 1) (by omega) (by omega)
    simp only [laws_markFlyStepS.l0, if_pos h0, if_pos h1, Option.bind_some, e1, e2, e3, e4, e5, e6, e7, e99, rd_set_markFlyStepS, h0, h1, List.set_set, List.length_set]
    rw [show q + 7 = q + 1 + 1 + 1 + 1 + 1 + 1 + 1 by omega]
    rfl
  · simp only [laws_markFlyStepS.l0]
    rw [if_neg h]
def mk_markIntS (q : Int) : Int := q
theorem markIntS_ev (x0 : List Int) (hm : x0.length ≤ 1048576) : Ev (fun k => laws_markIntS.f k x0 1) (1 + 1 * (x0.length : Int), marks mk_markIntS 1 1 x0.length) := by
  unfold laws_markIntS.f
  refine Ev.cast (mark_loop (F := laws_markIntS.l0) (mk := mk_markIntS) (m := 1) (c := 1) (by omega) (by omega) x0.length (by omega) (by omega) (fun x0 q i h0 h1 h2 h3 h4 k => ?_) (fun x0 q i h k => ?_) x0.length 0 x0 rfl (by omega) (by omega) (fun j hj => by omega)) rfl
  · simp only [laws_markIntS.l0, if_pos h0, if_pos h1]
    rw [w64 (by omega) h3, w64 (by omega) h4]
    rfl
  · simp only [laws_markIntS.l0]
    rw [if_neg h]
theorem heldIntS_ev (n : Nat) (hm : n ≤ 1048576) : Ev (fun k => laws_heldIntS.f k (marks mk_markIntS 1 1 n) 1) (1 + 1 * (n : Int)) := by
  unfold laws_heldIntS.f
  refine held_loop (F := laws_heldIntS.l0) (mk := mk_markIntS) (m := 1) (c := 1) (0 : Int) (by omega) (by omega) n (by omega) (by omega) (fun x0 q i h0 h1 h2 h3 h4 he k => ?_) (fun x0 q i h k => ?_) n 0 (by omega) (by omega)
  · simp only [laws_heldIntS.l0, if_pos h0, if_pos h1, rd, he, mk_markIntS, if_true]
    rw [w64 (by omega) h3, w64 (by omega) h4]
  · simp only [laws_heldIntS.l0]
    rw [if_neg h]
end Go.Proofs.Ytidenmcoilmbcaa.StdFnExactFlyGo
