/-
  DERIVED. GIVEN WITH THE SEED: THE CARDS: each row of YtoclfkepjppdpaaDoorRows.lean that lists a variable, with what it lists TIED to the program's text (the seventh form; the later family's looks); each row that meets fmt, with fmt's text TOLD by the authors' own Lean function (tested against real Go, not proved from fmt's source: count such statements apart). THE CARD IS WHAT COUNTS. Prove the row's statement (the work); the ties are given (YtoclfkepjppdpaaDoorTie.lean); close each card by the builder's one call (the guide's Derived/Test/ToyasCard.lean, 'card_holds'). Laid BY PROGRAM, IN A SANDBOX (cutbox-door.mjs). By AI agents, Wed Nov 11 2026. No macro, syntax, notation, axiom, sorry.
-/
import Derived.Test.YtoclfkepjppdpaaDoorRows
import GoSem.ClaimSeven
namespace Go.Proofs.YtoclfkepjppdpaaDoor
namespace Rows

/-- THE TIED CARD OF 'laws.FnExactSkyWords'. -/
def fnExactSkyWordsCard : Claim7 := { stood := { row := fnExactSkyWordsRow, standIns := [], harness := (true, "77c1d9ecfe2b4e0808b5ca8b76d8eae497dff901125b673fe7650b5b177942b5"), looks := false }, kinds := [], alts := [], laidByText := true, laidKinds := [.data, .pinned], laidTests := true, laidLooks := .later }
def FnExactSkyWordsCardSaid : Prop := Claim7.holds Tryd.pinned (.plain (OpenSpec.ofChange fnExactSkyWordsSpec)) fnExactSkyWordsCard

/-- THE SECOND FORM's CARD OF 'laws.FnExactSkyWords'. -/
def fnExactSkyWordsUptoCard : Claim7 := { stood := { row := fnExactSkyWordsUptoRow, standIns := [], harness := (true, "77c1d9ecfe2b4e0808b5ca8b76d8eae497dff901125b673fe7650b5b177942b5"), looks := false }, kinds := [], alts := [], laidByText := true, laidKinds := [.data, .pinned], laidTests := true, laidLooks := .later }
def FnExactSkyWordsUptoCardSaid : Prop := Claim7.holds Tryd.pinned (.plain (OpenSpec.upto fnExactSkyWordsSpec)) fnExactSkyWordsUptoCard
end Rows
end Go.Proofs.YtoclfkepjppdpaaDoor
