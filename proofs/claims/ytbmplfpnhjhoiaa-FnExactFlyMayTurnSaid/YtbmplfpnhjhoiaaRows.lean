/-
  No cell of these rows narrows 'for every input' (looked for: loops, veiled, ifaces, maps, wideKeys, modest, calm, conditions, laid).
  DERIVED. THE GIVEN ROWS OF THIS SEAT. 12 by the template 'for every input the law returns true; each argument reads behind the call as it read before'; 0 by the template 'total and deterministic' (their statements: YtbmplfpnhjhoiaaTotals.lean).
  GIVEN WITH THE SEED: the statements are not yours to turn. If you find one false, say at which input.
  Laid BY PROGRAM, IN A SANDBOX (cutbox-rows.mjs): the forced cells as the released guide's own fill.sh prints them over the translation 7a4ce61eec6ef57f… (all of the seat's roots in one cut). By AI agents, Wed Nov 11 2026. No macro, syntax, notation, axiom, sorry.
-/
import Derived.Test.YtbmplfpnhjhoiaaChecked
import GoSem.Claim
import GoSem.ClaimJoined
import GoSem.ClaimMapViews
import Derived.JoinedTies
import Derived.KernelRfl
namespace Go.Proofs.Ytbmplfpnhjhoiaa
/- THE CELL 'sum', in the pinned program and in every row, IS THE sha256 OF THE DUMP (.gsa) THAT YtbmplfpnhjhoiaaProg.lean LOADS. Nothing in Lean hashes anything: it is a label: what it is worth is what the hold of that sum in a sandbox is worth. -/
noncomputable def Try.pinned : Pinned := { name := "ytbmplfpnhjhoiaa", sum := "7a4ce61eec6ef57f10180e332ff28b3e3d85ce8122d3ba36a7bd8e4f69b853f4", checked := Try.checked }
namespace Rows
def none {H : Type} : Left H := { results := [], args := [] }

/-- 'laws.FnExactLapDue': WHATEVER THE INPUT: true; the input reads as it did. -/
def fnExactLapDueSpec : ChangeSpec := { name := "fnExactLapDue", fn := fun _ => fun
  | [d1, d2, d3] => { results := [.lit (.bool true)], args := [d1, d2, d3] }
  | _ => none }
def fnExactLapDueRow : OpenClaim := { program := "ytbmplfpnhjhoiaa", sum := "7a4ce61eec6ef57f10180e332ff28b3e3d85ce8122d3ba36a7bd8e4f69b853f4", func := "loop.example/lapwing/laws.FnExactLapDue", spec := "fnExactLapDue", apart := false }
def FnExactLapDueSaid : Prop := fnExactLapDueRow.holds Try.pinned (OpenSpec.ofChange fnExactLapDueSpec)

/-- ITS FALSE NEIGHBOUR: 'it returns false'. Refute it at one input. -/
def fnExactLapDueWrong : ChangeSpec := { name := "fnExactLapDue", fn := fun _ => fun
  | [d1, d2, d3] => { results := [.lit (.bool false)], args := [d1, d2, d3] }
  | _ => none }
def FnExactLapDueWrongFalsely : Prop := fnExactLapDueRow.holds Try.pinned (OpenSpec.ofChange fnExactLapDueWrong)

/-- 'laws.FnExactLapWhere': WHATEVER THE INPUT: true; the input reads as it did. -/
def fnExactLapWhereSpec : ChangeSpec := { name := "fnExactLapWhere", fn := fun _ => fun
  | [d] => { results := [.lit (.bool true)], args := [d] }
  | _ => none }
def fnExactLapWhereRow : OpenClaim := { program := "ytbmplfpnhjhoiaa", sum := "7a4ce61eec6ef57f10180e332ff28b3e3d85ce8122d3ba36a7bd8e4f69b853f4", func := "loop.example/lapwing/laws.FnExactLapWhere", spec := "fnExactLapWhere", apart := false }
def FnExactLapWhereSaid : Prop := fnExactLapWhereRow.holds Try.pinned (OpenSpec.ofChange fnExactLapWhereSpec)

/-- ITS FALSE NEIGHBOUR: 'it returns false'. Refute it at one input. -/
def fnExactLapWhereWrong : ChangeSpec := { name := "fnExactLapWhere", fn := fun _ => fun
  | [d] => { results := [.lit (.bool false)], args := [d] }
  | _ => none }
def FnExactLapWhereWrongFalsely : Prop := fnExactLapWhereRow.holds Try.pinned (OpenSpec.ofChange fnExactLapWhereWrong)

/-- 'laws.FnExactHandPartOf': WHATEVER THE INPUT: true; the input reads as it did. -/
def fnExactHandPartOfSpec : ChangeSpec := { name := "fnExactHandPartOf", fn := fun _ => fun
  | [d1, d2] => { results := [.lit (.bool true)], args := [d1, d2] }
  | _ => none }
def fnExactHandPartOfRow : OpenClaim := { program := "ytbmplfpnhjhoiaa", sum := "7a4ce61eec6ef57f10180e332ff28b3e3d85ce8122d3ba36a7bd8e4f69b853f4", func := "loop.example/lapwing/laws.FnExactHandPartOf", spec := "fnExactHandPartOf", apart := false }
def FnExactHandPartOfSaid : Prop := fnExactHandPartOfRow.holds Try.pinned (OpenSpec.ofChange fnExactHandPartOfSpec)

/-- ITS FALSE NEIGHBOUR: 'it returns false'. Refute it at one input. -/
def fnExactHandPartOfWrong : ChangeSpec := { name := "fnExactHandPartOf", fn := fun _ => fun
  | [d1, d2] => { results := [.lit (.bool false)], args := [d1, d2] }
  | _ => none }
def FnExactHandPartOfWrongFalsely : Prop := fnExactHandPartOfRow.holds Try.pinned (OpenSpec.ofChange fnExactHandPartOfWrong)

/-- 'laws.FnExactHandTubeOk': WHATEVER THE INPUT: true; the input reads as it did. -/
def fnExactHandTubeOkSpec : ChangeSpec := { name := "fnExactHandTubeOk", fn := fun _ => fun
  | [d1, d2] => { results := [.lit (.bool true)], args := [d1, d2] }
  | _ => none }
def fnExactHandTubeOkRow : OpenClaim := { program := "ytbmplfpnhjhoiaa", sum := "7a4ce61eec6ef57f10180e332ff28b3e3d85ce8122d3ba36a7bd8e4f69b853f4", func := "loop.example/lapwing/laws.FnExactHandTubeOk", spec := "fnExactHandTubeOk", unfollowed := true, recurses := true, apart := false }
def FnExactHandTubeOkSaid : Prop := fnExactHandTubeOkRow.holds Try.pinned (OpenSpec.ofChange fnExactHandTubeOkSpec)

/-- ITS FALSE NEIGHBOUR: 'it returns false'. Refute it at one input. -/
def fnExactHandTubeOkWrong : ChangeSpec := { name := "fnExactHandTubeOk", fn := fun _ => fun
  | [d1, d2] => { results := [.lit (.bool false)], args := [d1, d2] }
  | _ => none }
def FnExactHandTubeOkWrongFalsely : Prop := fnExactHandTubeOkRow.holds Try.pinned (OpenSpec.ofChange fnExactHandTubeOkWrong)

/-- 'laws.FnExactHandWho': WHATEVER THE INPUT: true; the input reads as it did. -/
def fnExactHandWhoSpec : ChangeSpec := { name := "fnExactHandWho", fn := fun _ => fun
  | [d1, d2] => { results := [.lit (.bool true)], args := [d1, d2] }
  | _ => none }
def fnExactHandWhoRow : OpenClaim := { program := "ytbmplfpnhjhoiaa", sum := "7a4ce61eec6ef57f10180e332ff28b3e3d85ce8122d3ba36a7bd8e4f69b853f4", func := "loop.example/lapwing/laws.FnExactHandWho", spec := "fnExactHandWho", apart := false }
def FnExactHandWhoSaid : Prop := fnExactHandWhoRow.holds Try.pinned (OpenSpec.ofChange fnExactHandWhoSpec)

/-- ITS FALSE NEIGHBOUR: 'it returns false'. Refute it at one input. -/
def fnExactHandWhoWrong : ChangeSpec := { name := "fnExactHandWho", fn := fun _ => fun
  | [d1, d2] => { results := [.lit (.bool false)], args := [d1, d2] }
  | _ => none }
def FnExactHandWhoWrongFalsely : Prop := fnExactHandWhoRow.holds Try.pinned (OpenSpec.ofChange fnExactHandWhoWrong)

/-- 'laws.FnExactLapPath': WHATEVER THE INPUT: true; the input reads as it did. -/
def fnExactLapPathSpec : ChangeSpec := { name := "fnExactLapPath", fn := fun _ => fun
  | [d1, d2] => { results := [.lit (.bool true)], args := [d1, d2] }
  | _ => none }
def fnExactLapPathRow : OpenClaim := { program := "ytbmplfpnhjhoiaa", sum := "7a4ce61eec6ef57f10180e332ff28b3e3d85ce8122d3ba36a7bd8e4f69b853f4", func := "loop.example/lapwing/laws.FnExactLapPath", spec := "fnExactLapPath", apart := false }
def FnExactLapPathSaid : Prop := fnExactLapPathRow.holds Try.pinned (OpenSpec.ofChange fnExactLapPathSpec)

/-- ITS FALSE NEIGHBOUR: 'it returns false'. Refute it at one input. -/
def fnExactLapPathWrong : ChangeSpec := { name := "fnExactLapPath", fn := fun _ => fun
  | [d1, d2] => { results := [.lit (.bool false)], args := [d1, d2] }
  | _ => none }
def FnExactLapPathWrongFalsely : Prop := fnExactLapPathRow.holds Try.pinned (OpenSpec.ofChange fnExactLapPathWrong)

/-- 'laws.FnHandWho': WHATEVER THE INPUT: true; the input reads as it did. -/
def fnHandWhoSpec : ChangeSpec := { name := "fnHandWho", fn := fun _ => fun
  | [d1, d2] => { results := [.lit (.bool true)], args := [d1, d2] }
  | _ => none }
def fnHandWhoRow : OpenClaim := { program := "ytbmplfpnhjhoiaa", sum := "7a4ce61eec6ef57f10180e332ff28b3e3d85ce8122d3ba36a7bd8e4f69b853f4", func := "loop.example/lapwing/laws.FnHandWho", spec := "fnHandWho", unfollowed := true, recurses := true, apart := false }
def FnHandWhoSaid : Prop := fnHandWhoRow.holds Try.pinned (OpenSpec.ofChange fnHandWhoSpec)

/-- ITS FALSE NEIGHBOUR: 'it returns false'. Refute it at one input. -/
def fnHandWhoWrong : ChangeSpec := { name := "fnHandWho", fn := fun _ => fun
  | [d1, d2] => { results := [.lit (.bool false)], args := [d1, d2] }
  | _ => none }
def FnHandWhoWrongFalsely : Prop := fnHandWhoRow.holds Try.pinned (OpenSpec.ofChange fnHandWhoWrong)

/-- 'laws.FnExactHandWordOk': WHATEVER THE INPUT: true; the input reads as it did. -/
def fnExactHandWordOkSpec : ChangeSpec := { name := "fnExactHandWordOk", fn := fun _ => fun
  | [d1, d2] => { results := [.lit (.bool true)], args := [d1, d2] }
  | _ => none }
def fnExactHandWordOkRow : OpenClaim := { program := "ytbmplfpnhjhoiaa", sum := "7a4ce61eec6ef57f10180e332ff28b3e3d85ce8122d3ba36a7bd8e4f69b853f4", func := "loop.example/lapwing/laws.FnExactHandWordOk", spec := "fnExactHandWordOk", unfollowed := true, recurses := true, apart := false }
def FnExactHandWordOkSaid : Prop := fnExactHandWordOkRow.holds Try.pinned (OpenSpec.ofChange fnExactHandWordOkSpec)

/-- ITS FALSE NEIGHBOUR: 'it returns false'. Refute it at one input. -/
def fnExactHandWordOkWrong : ChangeSpec := { name := "fnExactHandWordOk", fn := fun _ => fun
  | [d1, d2] => { results := [.lit (.bool false)], args := [d1, d2] }
  | _ => none }
def FnExactHandWordOkWrongFalsely : Prop := fnExactHandWordOkRow.holds Try.pinned (OpenSpec.ofChange fnExactHandWordOkWrong)

/-- 'laws.FnExactFlyMayTurn': WHATEVER THE INPUT: true; the input reads as it did. -/
def fnExactFlyMayTurnSpec : ChangeSpec := { name := "fnExactFlyMayTurn", fn := fun _ => fun
  | [d1, d2, d3, d4] => { results := [.lit (.bool true)], args := [d1, d2, d3, d4] }
  | _ => none }
def fnExactFlyMayTurnRow : OpenClaim := { program := "ytbmplfpnhjhoiaa", sum := "7a4ce61eec6ef57f10180e332ff28b3e3d85ce8122d3ba36a7bd8e4f69b853f4", func := "loop.example/lapwing/laws.FnExactFlyMayTurn", spec := "fnExactFlyMayTurn", apart := false }
def FnExactFlyMayTurnSaid : Prop := fnExactFlyMayTurnRow.holds Try.pinned (OpenSpec.ofChange fnExactFlyMayTurnSpec)

/-- ITS FALSE NEIGHBOUR: 'it returns false'. Refute it at one input. -/
def fnExactFlyMayTurnWrong : ChangeSpec := { name := "fnExactFlyMayTurn", fn := fun _ => fun
  | [d1, d2, d3, d4] => { results := [.lit (.bool false)], args := [d1, d2, d3, d4] }
  | _ => none }
def FnExactFlyMayTurnWrongFalsely : Prop := fnExactFlyMayTurnRow.holds Try.pinned (OpenSpec.ofChange fnExactFlyMayTurnWrong)

/-- 'laws.FnExactFlyTube': WHATEVER THE INPUT: true; the input reads as it did. -/
def fnExactFlyTubeSpec : ChangeSpec := { name := "fnExactFlyTube", fn := fun _ => fun
  | [d] => { results := [.lit (.bool true)], args := [d] }
  | _ => none }
def fnExactFlyTubeRow : OpenClaim := { program := "ytbmplfpnhjhoiaa", sum := "7a4ce61eec6ef57f10180e332ff28b3e3d85ce8122d3ba36a7bd8e4f69b853f4", func := "loop.example/lapwing/laws.FnExactFlyTube", spec := "fnExactFlyTube", apart := false }
def FnExactFlyTubeSaid : Prop := fnExactFlyTubeRow.holds Try.pinned (OpenSpec.ofChange fnExactFlyTubeSpec)

/-- ITS FALSE NEIGHBOUR: 'it returns false'. Refute it at one input. -/
def fnExactFlyTubeWrong : ChangeSpec := { name := "fnExactFlyTube", fn := fun _ => fun
  | [d] => { results := [.lit (.bool false)], args := [d] }
  | _ => none }
def FnExactFlyTubeWrongFalsely : Prop := fnExactFlyTubeRow.holds Try.pinned (OpenSpec.ofChange fnExactFlyTubeWrong)

/-- 'laws.FnExactFlyRest': WHATEVER THE INPUT: true; the input reads as it did. -/
def fnExactFlyRestSpec : ChangeSpec := { name := "fnExactFlyRest", fn := fun _ => fun
  | [d1, d2, d3, d4] => { results := [.lit (.bool true)], args := [d1, d2, d3, d4] }
  | _ => none }
def fnExactFlyRestRow : OpenClaim := { program := "ytbmplfpnhjhoiaa", sum := "7a4ce61eec6ef57f10180e332ff28b3e3d85ce8122d3ba36a7bd8e4f69b853f4", func := "loop.example/lapwing/laws.FnExactFlyRest", spec := "fnExactFlyRest", apart := false }
def FnExactFlyRestSaid : Prop := fnExactFlyRestRow.holds Try.pinned (OpenSpec.ofChange fnExactFlyRestSpec)

/-- ITS FALSE NEIGHBOUR: 'it returns false'. Refute it at one input. -/
def fnExactFlyRestWrong : ChangeSpec := { name := "fnExactFlyRest", fn := fun _ => fun
  | [d1, d2, d3, d4] => { results := [.lit (.bool false)], args := [d1, d2, d3, d4] }
  | _ => none }
def FnExactFlyRestWrongFalsely : Prop := fnExactFlyRestRow.holds Try.pinned (OpenSpec.ofChange fnExactFlyRestWrong)

/-- 'laws.FnFlyTight': WHATEVER THE INPUT: true; the input reads as it did. -/
def fnFlyTightSpec : ChangeSpec := { name := "fnFlyTight", fn := fun _ => fun
  | [d] => { results := [.lit (.bool true)], args := [d] }
  | _ => none }
def fnFlyTightRow : OpenClaim := { program := "ytbmplfpnhjhoiaa", sum := "7a4ce61eec6ef57f10180e332ff28b3e3d85ce8122d3ba36a7bd8e4f69b853f4", func := "loop.example/lapwing/laws.FnFlyTight", spec := "fnFlyTight", apart := false }
def FnFlyTightSaid : Prop := fnFlyTightRow.holds Try.pinned (OpenSpec.ofChange fnFlyTightSpec)

/-- ITS FALSE NEIGHBOUR: 'it returns false'. Refute it at one input. -/
def fnFlyTightWrong : ChangeSpec := { name := "fnFlyTight", fn := fun _ => fun
  | [d] => { results := [.lit (.bool false)], args := [d] }
  | _ => none }
def FnFlyTightWrongFalsely : Prop := fnFlyTightRow.holds Try.pinned (OpenSpec.ofChange fnFlyTightWrong)

/- THE SECOND FORM. 'bulk': how many values and letters a reading holds, each counted each time it is reached (what is shared counts as often as it is met; a slice's spare places count too). A statement '..UptoSaid' is the law's where the arguments, and the package variables that the reading takes, are together of bulk at most 1048576: NARROWER than '..Said'. Prove '..Said' where nothing that the law and all that it calls make is longer than what came in: it says more and counts as full. Else prove '..UptoSaid'. A law counts once. -/
mutual
def uptoBulk {H : Type} : DataW H → Nat
  | .lit (.string bytes) => bytes.length + 1
  | .lit _ => 1
  | .nil => 1
  | .ptr d => uptoBulk d + 1
  | .slice elems spare => uptoBulkAll elems + uptoBulkAll spare + 1
  | .agg parts => uptoBulkAll parts + 1
  | .iface _ d => uptoBulk d + 1
  | .map entries => uptoBulkEntries entries + 1
  | .held _ => 1
def uptoBulkAll {H : Type} : List (DataW H) → Nat
  | [] => 0
  | d :: r => uptoBulk d + uptoBulkAll r
def uptoBulkEntries {H : Type} : List (Lit × DataW H) → Nat
  | [] => 0
  | x :: r => uptoBulkEntry x + uptoBulkEntries r
def uptoBulkEntry {H : Type} : Lit × DataW H → Nat
  | (.string bytes, d) => bytes.length + uptoBulk d + 1
  | (_, d) => uptoBulk d + 1
 end
def uptoSmall : (H : Type) → List (DataW H) → Bool := fun _ ds => decide (uptoBulkAll ds ≤ 1048576)
def OpenSpec.upto (s : _root_.Go.ChangeSpec) : _root_.Go.OpenSpec := { _root_.Go.OpenSpec.ofChange s with cond := some uptoSmall }

/-- 'laws.FnExactLapDue', WHERE WHAT IT READS IS OF BULK AT MOST 1048576: true; the input reads as it did. -/
def fnExactLapDueUptoRow : OpenClaim := { program := "ytbmplfpnhjhoiaa", sum := "7a4ce61eec6ef57f10180e332ff28b3e3d85ce8122d3ba36a7bd8e4f69b853f4", func := "loop.example/lapwing/laws.FnExactLapDue", spec := "fnExactLapDue", apart := false, narrowed := true }
def FnExactLapDueUptoSaid : Prop := fnExactLapDueUptoRow.holds Try.pinned (OpenSpec.upto fnExactLapDueSpec)

/-- 'laws.FnExactLapWhere', WHERE WHAT IT READS IS OF BULK AT MOST 1048576: true; the input reads as it did. -/
def fnExactLapWhereUptoRow : OpenClaim := { program := "ytbmplfpnhjhoiaa", sum := "7a4ce61eec6ef57f10180e332ff28b3e3d85ce8122d3ba36a7bd8e4f69b853f4", func := "loop.example/lapwing/laws.FnExactLapWhere", spec := "fnExactLapWhere", apart := false, narrowed := true }
def FnExactLapWhereUptoSaid : Prop := fnExactLapWhereUptoRow.holds Try.pinned (OpenSpec.upto fnExactLapWhereSpec)

/-- 'laws.FnExactHandPartOf', WHERE WHAT IT READS IS OF BULK AT MOST 1048576: true; the input reads as it did. -/
def fnExactHandPartOfUptoRow : OpenClaim := { program := "ytbmplfpnhjhoiaa", sum := "7a4ce61eec6ef57f10180e332ff28b3e3d85ce8122d3ba36a7bd8e4f69b853f4", func := "loop.example/lapwing/laws.FnExactHandPartOf", spec := "fnExactHandPartOf", apart := false, narrowed := true }
def FnExactHandPartOfUptoSaid : Prop := fnExactHandPartOfUptoRow.holds Try.pinned (OpenSpec.upto fnExactHandPartOfSpec)

/-- 'laws.FnExactHandTubeOk', WHERE WHAT IT READS IS OF BULK AT MOST 1048576: true; the input reads as it did. -/
def fnExactHandTubeOkUptoRow : OpenClaim := { program := "ytbmplfpnhjhoiaa", sum := "7a4ce61eec6ef57f10180e332ff28b3e3d85ce8122d3ba36a7bd8e4f69b853f4", func := "loop.example/lapwing/laws.FnExactHandTubeOk", spec := "fnExactHandTubeOk", unfollowed := true, recurses := true, apart := false, narrowed := true }
def FnExactHandTubeOkUptoSaid : Prop := fnExactHandTubeOkUptoRow.holds Try.pinned (OpenSpec.upto fnExactHandTubeOkSpec)

/-- 'laws.FnExactHandWho', WHERE WHAT IT READS IS OF BULK AT MOST 1048576: true; the input reads as it did. -/
def fnExactHandWhoUptoRow : OpenClaim := { program := "ytbmplfpnhjhoiaa", sum := "7a4ce61eec6ef57f10180e332ff28b3e3d85ce8122d3ba36a7bd8e4f69b853f4", func := "loop.example/lapwing/laws.FnExactHandWho", spec := "fnExactHandWho", apart := false, narrowed := true }
def FnExactHandWhoUptoSaid : Prop := fnExactHandWhoUptoRow.holds Try.pinned (OpenSpec.upto fnExactHandWhoSpec)

/-- 'laws.FnExactLapPath', WHERE WHAT IT READS IS OF BULK AT MOST 1048576: true; the input reads as it did. -/
def fnExactLapPathUptoRow : OpenClaim := { program := "ytbmplfpnhjhoiaa", sum := "7a4ce61eec6ef57f10180e332ff28b3e3d85ce8122d3ba36a7bd8e4f69b853f4", func := "loop.example/lapwing/laws.FnExactLapPath", spec := "fnExactLapPath", apart := false, narrowed := true }
def FnExactLapPathUptoSaid : Prop := fnExactLapPathUptoRow.holds Try.pinned (OpenSpec.upto fnExactLapPathSpec)

/-- 'laws.FnHandWho', WHERE WHAT IT READS IS OF BULK AT MOST 1048576: true; the input reads as it did. -/
def fnHandWhoUptoRow : OpenClaim := { program := "ytbmplfpnhjhoiaa", sum := "7a4ce61eec6ef57f10180e332ff28b3e3d85ce8122d3ba36a7bd8e4f69b853f4", func := "loop.example/lapwing/laws.FnHandWho", spec := "fnHandWho", unfollowed := true, recurses := true, apart := false, narrowed := true }
def FnHandWhoUptoSaid : Prop := fnHandWhoUptoRow.holds Try.pinned (OpenSpec.upto fnHandWhoSpec)

/-- 'laws.FnExactHandWordOk', WHERE WHAT IT READS IS OF BULK AT MOST 1048576: true; the input reads as it did. -/
def fnExactHandWordOkUptoRow : OpenClaim := { program := "ytbmplfpnhjhoiaa", sum := "7a4ce61eec6ef57f10180e332ff28b3e3d85ce8122d3ba36a7bd8e4f69b853f4", func := "loop.example/lapwing/laws.FnExactHandWordOk", spec := "fnExactHandWordOk", unfollowed := true, recurses := true, apart := false, narrowed := true }
def FnExactHandWordOkUptoSaid : Prop := fnExactHandWordOkUptoRow.holds Try.pinned (OpenSpec.upto fnExactHandWordOkSpec)

/-- 'laws.FnExactFlyMayTurn', WHERE WHAT IT READS IS OF BULK AT MOST 1048576: true; the input reads as it did. -/
def fnExactFlyMayTurnUptoRow : OpenClaim := { program := "ytbmplfpnhjhoiaa", sum := "7a4ce61eec6ef57f10180e332ff28b3e3d85ce8122d3ba36a7bd8e4f69b853f4", func := "loop.example/lapwing/laws.FnExactFlyMayTurn", spec := "fnExactFlyMayTurn", apart := false, narrowed := true }
def FnExactFlyMayTurnUptoSaid : Prop := fnExactFlyMayTurnUptoRow.holds Try.pinned (OpenSpec.upto fnExactFlyMayTurnSpec)

/-- 'laws.FnExactFlyTube', WHERE WHAT IT READS IS OF BULK AT MOST 1048576: true; the input reads as it did. -/
def fnExactFlyTubeUptoRow : OpenClaim := { program := "ytbmplfpnhjhoiaa", sum := "7a4ce61eec6ef57f10180e332ff28b3e3d85ce8122d3ba36a7bd8e4f69b853f4", func := "loop.example/lapwing/laws.FnExactFlyTube", spec := "fnExactFlyTube", apart := false, narrowed := true }
def FnExactFlyTubeUptoSaid : Prop := fnExactFlyTubeUptoRow.holds Try.pinned (OpenSpec.upto fnExactFlyTubeSpec)

/-- 'laws.FnExactFlyRest', WHERE WHAT IT READS IS OF BULK AT MOST 1048576: true; the input reads as it did. -/
def fnExactFlyRestUptoRow : OpenClaim := { program := "ytbmplfpnhjhoiaa", sum := "7a4ce61eec6ef57f10180e332ff28b3e3d85ce8122d3ba36a7bd8e4f69b853f4", func := "loop.example/lapwing/laws.FnExactFlyRest", spec := "fnExactFlyRest", apart := false, narrowed := true }
def FnExactFlyRestUptoSaid : Prop := fnExactFlyRestUptoRow.holds Try.pinned (OpenSpec.upto fnExactFlyRestSpec)

/-- 'laws.FnFlyTight', WHERE WHAT IT READS IS OF BULK AT MOST 1048576: true; the input reads as it did. -/
def fnFlyTightUptoRow : OpenClaim := { program := "ytbmplfpnhjhoiaa", sum := "7a4ce61eec6ef57f10180e332ff28b3e3d85ce8122d3ba36a7bd8e4f69b853f4", func := "loop.example/lapwing/laws.FnFlyTight", spec := "fnFlyTight", apart := false, narrowed := true }
def FnFlyTightUptoSaid : Prop := fnFlyTightUptoRow.holds Try.pinned (OpenSpec.upto fnFlyTightSpec)

end Rows
end Go.Proofs.Ytbmplfpnhjhoiaa
