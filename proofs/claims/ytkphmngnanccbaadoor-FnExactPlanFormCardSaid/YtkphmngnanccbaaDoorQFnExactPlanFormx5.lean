/- The walk of what the law FnExactPlanForm reaches: laid by a program of this session (ownprint.py). -/
import Derived.Test.YtkphmngnanccbaaDoorQFnExactPlanFormx0
import Derived.Shelf.Strings.Search3
import Derived.Test.YtkphmngnanccbaaDoorShelf
import Derived.Test.YtkphmngnanccbaaDoorQFnExactPlanFormx4
namespace Go.Proofs.YtkphmngnanccbaaDoor.QFnExactPlanForm
open Go Go.RowKit Go.Proofs.YtkphmngnanccbaaDoorW.PrintWords Go.Proofs.YtkphmngnanccbaaDoorW.PrintLast Go.Proofs.YtkphmngnanccbaaDoorW.PrintMore Go.Proofs.YtkphmngnanccbaaDoor.Z
attribute [local go_sem] max2_int min2_int max_two min_two max_three min_three max_four min_four zdn   -- for this text's walks alone
set_option linter.unusedVariables false
set_option linter.unusedSimpArgs false
def strings_Contains.f (a0 : ByteArray) (a1 : ByteArray) : Option (Bool) := if a1.data.toList = [10] then some (decide (0 ≤ Lib.indexByte a0.data.toList 10)) else none
theorem strings_Contains.calls (a0 : ByteArray) (a1 : ByteArray) (r : Bool) (w : World) (h : strings_Contains.f a0 a1 = some r) :
 Calls Tryd.prog 15 #[.string a0, .string a1] w fun e w' => e = .returned (.bool r) ∧ (∃ nd, w' = w.drewN nd) := by
 unfold strings_Contains.f at h
 by_cases h0 : a1.data.toList = [10]
 · rw [if_pos h0] at h
   obtain rfl := Option.some.inj h
   have e1 : a1 = ⟨#[10]⟩ := by
     apply ByteArray.ext
     exact Array.toList_inj.1 h0
   subst e1
   refine (Any.strings_Contains_one Tryd.lays144 a0 10 w).mono fun e w' ⟨he, hw⟩ => ?_
   subst hw
   exact ⟨he, 0, rfl⟩
 · rw [if_neg h0] at h; cases h
end Go.Proofs.YtkphmngnanccbaaDoor.QFnExactPlanForm
