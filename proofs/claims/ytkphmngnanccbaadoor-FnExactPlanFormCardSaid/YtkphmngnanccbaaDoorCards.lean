/-
  DERIVED. GIVEN WITH THE SEED: THE CARDS: each row of YtkphmngnanccbaaDoorRows.lean that lists a variable, with what it lists TIED to the program's text (the seventh form; the later family's looks); each row that meets fmt, with fmt's text TOLD by the authors' own Lean function (tested against real Go, not proved from fmt's source: count such statements apart). THE CARD IS WHAT COUNTS. Prove the row's statement (the work); the ties are given (YtkphmngnanccbaaDoorTie.lean); close each card by the builder's one call (the guide's Derived/Test/ToyasCard.lean, 'card_holds'). Laid BY PROGRAM, IN A SANDBOX (cutbox-door.mjs). By AI agents, Wed Nov 11 2026. No macro, syntax, notation, axiom, sorry.
-/
import Derived.Test.YtkphmngnanccbaaDoorRows
import GoSem.ClaimSeven
namespace Go.Proofs.YtkphmngnanccbaaDoor
namespace Rows

/-- THE TIED CARD OF 'laws.FnExactPlanForm'. -/
def fnExactPlanFormCard : Claim7 := { stood := { row := fnExactPlanFormRow, standIns := [], harness := (true, "ddaaeefc98d3b69caefd821abc8d8c924113c07e498ebcae96304f7d550467ff"), looks := false }, kinds := [], alts := [], laidByText := true, laidKinds := [.data, .data, .data, .widerDeep], laidTests := true, laidLooks := .later }
def FnExactPlanFormCardSaid : Prop := Claim7.holds Tryd.pinned (.plain (OpenSpec.ofChange fnExactPlanFormSpec)) fnExactPlanFormCard

/-- THE SECOND FORM's CARD OF 'laws.FnExactPlanForm'. -/
def fnExactPlanFormUptoCard : Claim7 := { stood := { row := fnExactPlanFormUptoRow, standIns := [], harness := (true, "ddaaeefc98d3b69caefd821abc8d8c924113c07e498ebcae96304f7d550467ff"), looks := false }, kinds := [], alts := [], laidByText := true, laidKinds := [.data, .data, .data, .widerDeep], laidTests := true, laidLooks := .later }
def FnExactPlanFormUptoCardSaid : Prop := Claim7.holds Tryd.pinned (.plain (OpenSpec.upto fnExactPlanFormSpec)) fnExactPlanFormUptoCard
end Rows
end Go.Proofs.YtkphmngnanccbaaDoor
