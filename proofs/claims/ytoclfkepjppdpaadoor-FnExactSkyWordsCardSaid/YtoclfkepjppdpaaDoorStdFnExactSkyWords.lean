/-
  What the helpers of the law FnExactSkyWords come to.
-/
import Derived.Test.YtoclfkepjppdpaaDoorQFnExactSkyWordsx0
import Derived.Test.YtoclfkepjppdpaaDoorQFnExactSkyWordsx1
import Derived.Test.YtoclfkepjppdpaaDoorQFnExactSkyWordsx2
import Derived.Test.YtoclfkepjppdpaaDoorQFnExactSkyWordsx3
import Derived.Test.YtoclfkepjppdpaaDoorQFnExactSkyWordsx4
import Derived.Test.YtoclfkepjppdpaaDoorKit
namespace Go.Proofs.YtoclfkepjppdpaaDoor.StdFnExactSkyWords
open Go.RowKit Go.Proofs.YtoclfkepjppdpaaDoor.QFnExactSkyWords Go.Proofs.YtoclfkepjppdpaaDoorW.PrintWords Go.Proofs.YtoclfkepjppdpaaDoor.Kit
set_option linter.unusedSimpArgs false
set_option linter.unusedVariables false
theorem eqStringS_ev (x0 : List ByteArray) (hm : x0.length ≤ 1048576) : Ev (fun k => laws_eqStringS.f k x0 x0) true := by
  unfold laws_eqStringS.f
  refine Ev.ite_pos rfl ?_
  refine eq_loop (F := laws_eqStringS.l0) x0 (by omega) (fun i h0 h1 h3 k => ?_) (fun i h k => ?_) x0.length 0 (by omega) (by omega)
  · simp only [laws_eqStringS.l0, if_pos h0, if_pos h1, if_true, if_false, Option.bind_some, bne_self_eq_false, Bool.false_eq_true]
    rw [w64 (by omega) h3]
  · simp only [laws_eqStringS.l0]
    rw [if_neg h]
-- laws_markStringS: not here
-- laws_heldStringS: not here
end Go.Proofs.YtoclfkepjppdpaaDoor.StdFnExactSkyWords
