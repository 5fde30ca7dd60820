/- The walk of what the law FnSkyWords reaches: laid by a program of this session (ownprint.py). -/
import Derived.Test.YtnmjmhhkbcnccaaDoorQFnSkyWordsx0
import Derived.Lib.SplitLaws
import Derived.Test.YtnmjmhhkbcnccaaDoorShelf
import Derived.Test.YtnmjmhhkbcnccaaDoorQFnSkyWordsx2
namespace Go.Proofs.YtnmjmhhkbcnccaaDoor.QFnSkyWords
open Go Go.RowKit Go.Proofs.YtnmjmhhkbcnccaaDoorW.PrintWords Go.Proofs.YtnmjmhhkbcnccaaDoorW.PrintLast Go.Proofs.YtnmjmhhkbcnccaaDoorW.PrintMore Go.Proofs.YtnmjmhhkbcnccaaDoor.Z
attribute [local go_sem] max2_int min2_int max_two min_two max_three min_three max_four min_four zdn   -- for this text's walks alone
set_option linter.unusedVariables false
set_option linter.unusedSimpArgs false
/-- The parts between the places where a text that is not empty stands. -/
def strings_Split.f (a0 : ByteArray) (a1 : ByteArray) : Option (List ByteArray) := if a0.size ≤ 4000000 then (if 1 ≤ a1.size then some (Lib.splitB a1 0 (Lib.countB a0 a1) a0) else none) else none
theorem strings_row {w : World} {xs : List ByteArray} (h : xs.length ≤ 9223372036854775807) : Kd.R Kd.string 9 (w.alloc (.cells (xs.map Value.string).toArray 9)) w.heap.size (fun _ => True) (.slice (some ⟨w.heap.size, 0, none⟩) xs.length xs.length) xs := by
 refine ⟨fun _ _ => trivial, xs.map Value.string, ?_, ?_⟩
 · have h2 := World.ownsRow_lit (base := w.heap.size) (e := 9) (size := 1) w (xs.map Value.string).toArray xs.length (Nat.le_refl _) (by simpa [maxLen] using h) (by simp)
   simpa [Kd.string, Kd.scalar] using h2
 · refine ⟨by simp [Kd.string, Kd.scalar], fun j p hj => ?_⟩
   show ((xs.map Value.string).drop (j * 1)).take 1 = [Value.string p]
   obtain ⟨hlt, hp⟩ := List.getElem?_eq_some_iff.1 hj
   rw [Nat.mul_one, List.drop_eq_getElem_cons (by simpa using hlt)]
   simp [hp]
theorem strings_Split.calls (a0 : ByteArray) (a1 : ByteArray) (r : List ByteArray) (w : World) (h : strings_Split.f a0 a1 = some r) (gm : Int) (hgm : w.cell? ⟨0, 0, none⟩ = some (.int .i64 gm)) :
 Calls Tryd.prog 13 #[.string a0, .string a1] w fun e w' => ∃ v0_ : Value, e = .returned (v0_) ∧ Kd.R Kd.string 9 w' w.heap.size (fun _ => True) v0_ r ∧ Below w.heap.size w w' := by
 unfold strings_Split.f at h
 by_cases h0 : a0.size ≤ 4000000
 · rw [if_pos h0] at h
   by_cases h1 : 1 ≤ a1.size
   · rw [if_pos h1] at h
     obtain rfl := Option.some.inj h
     have hl := Lib.splitB_all a1 h1 0 _ a0 rfl
     have hc := Lib.countB_le a1 h1 a0.size a0 (Nat.le_refl _)
     refine (Tryd.strings_Split a0 a1 gm w (by omega) hgm h1).mono fun e w' ⟨he, hw⟩ => ?_
     subst hw
     refine ⟨_, by rw [he, ← hl], strings_row (by omega), (Below.refl _ _).alloc (Nat.le_refl _) _⟩
   · rw [if_neg h1] at h; cases h
 · rw [if_neg h0] at h; cases h
/-- What stands ahead of a text, and behind it. -/
def strings_Cut.f (a0 : ByteArray) (a1 : ByteArray) : Option (ByteArray × ByteArray × Bool) := if a0.size ≤ 4000000 then some (⟨(Lib.cut a0.data.toList a1.data.toList).1.toArray⟩, ⟨(Lib.cut a0.data.toList a1.data.toList).2.1.toArray⟩, (Lib.cut a0.data.toList a1.data.toList).2.2) else none
theorem strings_Cut.calls (a0 : ByteArray) (a1 : ByteArray) (r1 : ByteArray) (r2 : ByteArray) (r3 : Bool) (w : World) (h : strings_Cut.f a0 a1 = some (r1, r2, r3)) (gm : Int) (hgm : w.cell? ⟨0, 0, none⟩ = some (.int .i64 gm)) :
 Calls Tryd.prog 12 #[.string a0, .string a1] w fun e w' => e = .returned (.tuple #[.string r1, .string r2, .bool r3]) ∧ Below w.heap.size w w' := by
 unfold strings_Cut.f at h
 by_cases h0 : a0.size ≤ 4000000
 · rw [if_pos h0] at h
   simp only [Option.some.injEq, Prod.mk.injEq] at h
   obtain ⟨rfl, rfl, rfl⟩ := h
   refine (Tryd.strings_Cut a0 a1 gm w (by omega) hgm).mono fun e w' ⟨he, n, hw⟩ => ?_
   subst hw
   exact ⟨he, pw_below_drewN (Below.refl _ _) n⟩
 · rw [if_neg h0] at h; cases h
/-- The same text. -/
def strings_Clone.f (a0 : ByteArray) : Option (ByteArray) := if a0.size ≤ 4000000 then some a0 else none
set_option maxHeartbeats 8000000 in
set_option maxRecDepth 100000 in
theorem strings_Clone.calls (a0 : ByteArray) (r : ByteArray) (w : World) (h : strings_Clone.f a0 = some r) :
 Calls Tryd.prog 14 #[.string a0] w fun e w' => e = .returned (.string r) ∧ Below w.heap.size w w' := by
 unfold strings_Clone.f at h
 by_cases h0 : a0.size ≤ 4000000
 · rw [if_pos h0] at h
   obtain rfl := Option.some.inj h
   have HB := zA (Below.refl w.heap.size w)
   go_enter Tryd.func14, Tryd.ntmps14
   go_wp2_with (first | ((with_reducible refine gate_callee (f := 19) rfl ?_); refine goesL_ (some 4) rfl rfl Tryd.func19 (by kernel_rfl) rfl #[.string a0] rfl zl ?_; (with_reducible refine (Tryd.stringslite_Clone a0 _ (by omega)).mono ?_); rintro e w4 ⟨rfl, hb⟩; refine ⟨_, rfl, ?_⟩; replace HB := zE (zs0 HB) hb; (try clear hb)))
   go_ret
   exact ⟨ze, zs0 HB⟩
 · rw [if_neg h0] at h; cases h
end Go.Proofs.YtnmjmhhkbcnccaaDoor.QFnSkyWords
