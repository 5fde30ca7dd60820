/-
  DERIVED. GIVEN WITH THE SEED: THE CARDS: each row of YtnmjmhhkbcnccaaDoorRows.lean that lists a variable, with what it lists TIED to the program's text (the seventh form; the later family's looks); each row that meets fmt, with fmt's text TOLD by the authors' own Lean function (tested against real Go, not proved from fmt's source: count such statements apart). THE CARD IS WHAT COUNTS. Prove the row's statement (the work); the ties are given (YtnmjmhhkbcnccaaDoorTie.lean); close each card by the builder's one call (the guide's Derived/Test/ToyasCard.lean, 'card_holds'). Laid BY PROGRAM, IN A SANDBOX (cutbox-door.mjs). By AI agents, Wed Nov 11 2026. No macro, syntax, notation, axiom, sorry.
-/
import Derived.Test.YtnmjmhhkbcnccaaDoorRows
import GoSem.ClaimSeven
namespace Go.Proofs.YtnmjmhhkbcnccaaDoor
namespace Rows

/-- THE TIED CARD OF 'laws.FnSkyWords'. -/
def fnSkyWordsCard : Claim7 := { stood := { row := fnSkyWordsRow, standIns := [], harness := (true, "2aaf854728928fccd415fec8c37eae5cc845628b0f829bed67fd98359a6b3982"), looks := false }, kinds := [], alts := [], laidByText := true, laidKinds := [.data, .pinned], laidTests := true, laidLooks := .later }
def FnSkyWordsCardSaid : Prop := Claim7.holds Tryd.pinned (.plain (OpenSpec.ofChange fnSkyWordsSpec)) fnSkyWordsCard

/-- THE SECOND FORM's CARD OF 'laws.FnSkyWords'. -/
def fnSkyWordsUptoCard : Claim7 := { stood := { row := fnSkyWordsUptoRow, standIns := [], harness := (true, "2aaf854728928fccd415fec8c37eae5cc845628b0f829bed67fd98359a6b3982"), looks := false }, kinds := [], alts := [], laidByText := true, laidKinds := [.data, .pinned], laidTests := true, laidLooks := .later }
def FnSkyWordsUptoCardSaid : Prop := Claim7.holds Tryd.pinned (.plain (OpenSpec.upto fnSkyWordsSpec)) fnSkyWordsUptoCard
end Rows
end Go.Proofs.YtnmjmhhkbcnccaaDoor
