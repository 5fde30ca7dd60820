/-
  No cell of these rows narrows 'for every input' (looked for: loops, veiled, ifaces, maps, wideKeys, modest, calm, conditions, laid).
  DERIVED. THE GIVEN ROWS OF THIS SEAT. 12 by the template 'for every input the law returns true; each argument reads behind the call as it read before'; 0 by the template 'total and deterministic' (their statements: YtahfbpmaeijgaaaTotals.lean).
  GIVEN WITH THE SEED: the statements are not yours to turn. If you find one false, say at which input.
  Laid BY PROGRAM, IN A SANDBOX (cutbox-rows.mjs): the forced cells as the released guide's own fill.sh prints them over the translation aaed02b01f4b7f93… (all of the seat's roots in one cut). By AI agents, Wed Nov 11 2026. No macro, syntax, notation, axiom, sorry.
-/
import Derived.Test.YtahfbpmaeijgaaaChecked
import GoSem.Claim
import GoSem.ClaimJoined
import GoSem.ClaimMapViews
import Derived.JoinedTies
import Derived.KernelRfl
namespace Go.Proofs.Ytahfbpmaeijgaaa
/- THE CELL 'sum', in the pinned program and in every row, IS THE sha256 OF THE DUMP (.gsa) THAT YtahfbpmaeijgaaaProg.lean LOADS. Nothing in Lean hashes anything: it is a label: what it is worth is what the hold of that sum in a sandbox is worth. -/
noncomputable def Try.pinned : Pinned := { name := "ytahfbpmaeijgaaa", sum := "aaed02b01f4b7f935070d9eaadccc43fdf308eee818690d7237779afc1dc7a98", checked := Try.checked }
namespace Rows
def none {H : Type} : Left H := { results := [], args := [] }

/-- 'laws.FnExactConstants': WHATEVER THE INPUT: true; the input reads as it did. -/
def fnExactConstantsSpec : ChangeSpec := { name := "fnExactConstants", fn := fun _ => fun
  | [] => { results := [.lit (.bool true)], args := [] }
  | _ => none }
def fnExactConstantsRow : OpenClaim := { program := "ytahfbpmaeijgaaa", sum := "aaed02b01f4b7f935070d9eaadccc43fdf308eee818690d7237779afc1dc7a98", func := "loop.example/lapwing/laws.FnExactConstants", spec := "fnExactConstants", apart := false }
def FnExactConstantsSaid : Prop := fnExactConstantsRow.holds Try.pinned (OpenSpec.ofChange fnExactConstantsSpec)

/-- ITS FALSE NEIGHBOUR: 'it returns false'. Refute it at one input. -/
def fnExactConstantsWrong : ChangeSpec := { name := "fnExactConstants", fn := fun _ => fun
  | [] => { results := [.lit (.bool false)], args := [] }
  | _ => none }
def FnExactConstantsWrongFalsely : Prop := fnExactConstantsRow.holds Try.pinned (OpenSpec.ofChange fnExactConstantsWrong)

/-- 'laws.FnExactFlyKindOk': WHATEVER THE INPUT: true; the input reads as it did. -/
def fnExactFlyKindOkSpec : ChangeSpec := { name := "fnExactFlyKindOk", fn := fun _ => fun
  | [d] => { results := [.lit (.bool true)], args := [d] }
  | _ => none }
def fnExactFlyKindOkRow : OpenClaim := { program := "ytahfbpmaeijgaaa", sum := "aaed02b01f4b7f935070d9eaadccc43fdf308eee818690d7237779afc1dc7a98", func := "loop.example/lapwing/laws.FnExactFlyKindOk", spec := "fnExactFlyKindOk", apart := false }
def FnExactFlyKindOkSaid : Prop := fnExactFlyKindOkRow.holds Try.pinned (OpenSpec.ofChange fnExactFlyKindOkSpec)

/-- ITS FALSE NEIGHBOUR: 'it returns false'. Refute it at one input. -/
def fnExactFlyKindOkWrong : ChangeSpec := { name := "fnExactFlyKindOk", fn := fun _ => fun
  | [d] => { results := [.lit (.bool false)], args := [d] }
  | _ => none }
def FnExactFlyKindOkWrongFalsely : Prop := fnExactFlyKindOkRow.holds Try.pinned (OpenSpec.ofChange fnExactFlyKindOkWrong)

/-- 'laws.FnExactSkyNear': WHATEVER THE INPUT: true; the input reads as it did. -/
def fnExactSkyNearSpec : ChangeSpec := { name := "fnExactSkyNear", fn := fun _ => fun
  | [d1, d2] => { results := [.lit (.bool true)], args := [d1, d2] }
  | _ => none }
def fnExactSkyNearRow : OpenClaim := { program := "ytahfbpmaeijgaaa", sum := "aaed02b01f4b7f935070d9eaadccc43fdf308eee818690d7237779afc1dc7a98", func := "loop.example/lapwing/laws.FnExactSkyNear", spec := "fnExactSkyNear", apart := false }
def FnExactSkyNearSaid : Prop := fnExactSkyNearRow.holds Try.pinned (OpenSpec.ofChange fnExactSkyNearSpec)

/-- ITS FALSE NEIGHBOUR: 'it returns false'. Refute it at one input. -/
def fnExactSkyNearWrong : ChangeSpec := { name := "fnExactSkyNear", fn := fun _ => fun
  | [d1, d2] => { results := [.lit (.bool false)], args := [d1, d2] }
  | _ => none }
def FnExactSkyNearWrongFalsely : Prop := fnExactSkyNearRow.holds Try.pinned (OpenSpec.ofChange fnExactSkyNearWrong)

/-- 'laws.FnExactFlyWhere': WHATEVER THE INPUT: true; the input reads as it did. -/
def fnExactFlyWhereSpec : ChangeSpec := { name := "fnExactFlyWhere", fn := fun _ => fun
  | [d1, d2] => { results := [.lit (.bool true)], args := [d1, d2] }
  | _ => none }
def fnExactFlyWhereRow : OpenClaim := { program := "ytahfbpmaeijgaaa", sum := "aaed02b01f4b7f935070d9eaadccc43fdf308eee818690d7237779afc1dc7a98", func := "loop.example/lapwing/laws.FnExactFlyWhere", spec := "fnExactFlyWhere", apart := false }
def FnExactFlyWhereSaid : Prop := fnExactFlyWhereRow.holds Try.pinned (OpenSpec.ofChange fnExactFlyWhereSpec)

/-- ITS FALSE NEIGHBOUR: 'it returns false'. Refute it at one input. -/
def fnExactFlyWhereWrong : ChangeSpec := { name := "fnExactFlyWhere", fn := fun _ => fun
  | [d1, d2] => { results := [.lit (.bool false)], args := [d1, d2] }
  | _ => none }
def FnExactFlyWhereWrongFalsely : Prop := fnExactFlyWhereRow.holds Try.pinned (OpenSpec.ofChange fnExactFlyWhereWrong)

/-- 'laws.FnExactPlanLevels': WHATEVER THE INPUT: true; the input reads as it did. -/
def fnExactPlanLevelsSpec : ChangeSpec := { name := "fnExactPlanLevels", fn := fun _ => fun
  | [d1, d2] => { results := [.lit (.bool true)], args := [d1, d2] }
  | _ => none }
def fnExactPlanLevelsRow : OpenClaim := { program := "ytahfbpmaeijgaaa", sum := "aaed02b01f4b7f935070d9eaadccc43fdf308eee818690d7237779afc1dc7a98", func := "loop.example/lapwing/laws.FnExactPlanLevels", spec := "fnExactPlanLevels", apart := false }
def FnExactPlanLevelsSaid : Prop := fnExactPlanLevelsRow.holds Try.pinned (OpenSpec.ofChange fnExactPlanLevelsSpec)

/-- ITS FALSE NEIGHBOUR: 'it returns false'. Refute it at one input. -/
def fnExactPlanLevelsWrong : ChangeSpec := { name := "fnExactPlanLevels", fn := fun _ => fun
  | [d1, d2] => { results := [.lit (.bool false)], args := [d1, d2] }
  | _ => none }
def FnExactPlanLevelsWrongFalsely : Prop := fnExactPlanLevelsRow.holds Try.pinned (OpenSpec.ofChange fnExactPlanLevelsWrong)

/-- 'laws.FnExactFlyWithin': WHATEVER THE INPUT: true; the input reads as it did. -/
def fnExactFlyWithinSpec : ChangeSpec := { name := "fnExactFlyWithin", fn := fun _ => fun
  | [d1, d2, d3, d4, d5] => { results := [.lit (.bool true)], args := [d1, d2, d3, d4, d5] }
  | _ => none }
def fnExactFlyWithinRow : OpenClaim := { program := "ytahfbpmaeijgaaa", sum := "aaed02b01f4b7f935070d9eaadccc43fdf308eee818690d7237779afc1dc7a98", func := "loop.example/lapwing/laws.FnExactFlyWithin", spec := "fnExactFlyWithin", apart := false }
def FnExactFlyWithinSaid : Prop := fnExactFlyWithinRow.holds Try.pinned (OpenSpec.ofChange fnExactFlyWithinSpec)

/-- ITS FALSE NEIGHBOUR: 'it returns false'. Refute it at one input. -/
def fnExactFlyWithinWrong : ChangeSpec := { name := "fnExactFlyWithin", fn := fun _ => fun
  | [d1, d2, d3, d4, d5] => { results := [.lit (.bool false)], args := [d1, d2, d3, d4, d5] }
  | _ => none }
def FnExactFlyWithinWrongFalsely : Prop := fnExactFlyWithinRow.holds Try.pinned (OpenSpec.ofChange fnExactFlyWithinWrong)

/-- 'laws.FnExactFlySmaller': WHATEVER THE INPUT: true; the input reads as it did. -/
def fnExactFlySmallerSpec : ChangeSpec := { name := "fnExactFlySmaller", fn := fun _ => fun
  | [d1, d2] => { results := [.lit (.bool true)], args := [d1, d2] }
  | _ => none }
def fnExactFlySmallerRow : OpenClaim := { program := "ytahfbpmaeijgaaa", sum := "aaed02b01f4b7f935070d9eaadccc43fdf308eee818690d7237779afc1dc7a98", func := "loop.example/lapwing/laws.FnExactFlySmaller", spec := "fnExactFlySmaller", apart := false }
def FnExactFlySmallerSaid : Prop := fnExactFlySmallerRow.holds Try.pinned (OpenSpec.ofChange fnExactFlySmallerSpec)

/-- ITS FALSE NEIGHBOUR: 'it returns false'. Refute it at one input. -/
def fnExactFlySmallerWrong : ChangeSpec := { name := "fnExactFlySmaller", fn := fun _ => fun
  | [d1, d2] => { results := [.lit (.bool false)], args := [d1, d2] }
  | _ => none }
def FnExactFlySmallerWrongFalsely : Prop := fnExactFlySmallerRow.holds Try.pinned (OpenSpec.ofChange fnExactFlySmallerWrong)

/-- 'laws.FnExactHandNear': WHATEVER THE INPUT: true; the input reads as it did. -/
def fnExactHandNearSpec : ChangeSpec := { name := "fnExactHandNear", fn := fun _ => fun
  | [d1, d2] => { results := [.lit (.bool true)], args := [d1, d2] }
  | _ => none }
def fnExactHandNearRow : OpenClaim := { program := "ytahfbpmaeijgaaa", sum := "aaed02b01f4b7f935070d9eaadccc43fdf308eee818690d7237779afc1dc7a98", func := "loop.example/lapwing/laws.FnExactHandNear", spec := "fnExactHandNear", apart := false }
def FnExactHandNearSaid : Prop := fnExactHandNearRow.holds Try.pinned (OpenSpec.ofChange fnExactHandNearSpec)

/-- ITS FALSE NEIGHBOUR: 'it returns false'. Refute it at one input. -/
def fnExactHandNearWrong : ChangeSpec := { name := "fnExactHandNear", fn := fun _ => fun
  | [d1, d2] => { results := [.lit (.bool false)], args := [d1, d2] }
  | _ => none }
def FnExactHandNearWrongFalsely : Prop := fnExactHandNearRow.holds Try.pinned (OpenSpec.ofChange fnExactHandNearWrong)

/-- 'laws.FnExactFlyShared': WHATEVER THE INPUT: true; the input reads as it did. -/
def fnExactFlySharedSpec : ChangeSpec := { name := "fnExactFlyShared", fn := fun _ => fun
  | [d1, d2] => { results := [.lit (.bool true)], args := [d1, d2] }
  | _ => none }
def fnExactFlySharedRow : OpenClaim := { program := "ytahfbpmaeijgaaa", sum := "aaed02b01f4b7f935070d9eaadccc43fdf308eee818690d7237779afc1dc7a98", func := "loop.example/lapwing/laws.FnExactFlyShared", spec := "fnExactFlyShared", apart := false }
def FnExactFlySharedSaid : Prop := fnExactFlySharedRow.holds Try.pinned (OpenSpec.ofChange fnExactFlySharedSpec)

/-- ITS FALSE NEIGHBOUR: 'it returns false'. Refute it at one input. -/
def fnExactFlySharedWrong : ChangeSpec := { name := "fnExactFlyShared", fn := fun _ => fun
  | [d1, d2] => { results := [.lit (.bool false)], args := [d1, d2] }
  | _ => none }
def FnExactFlySharedWrongFalsely : Prop := fnExactFlySharedRow.holds Try.pinned (OpenSpec.ofChange fnExactFlySharedWrong)

/-- 'laws.FnExactHandZonesOk': WHATEVER THE INPUT: true; the input reads as it did. -/
def fnExactHandZonesOkSpec : ChangeSpec := { name := "fnExactHandZonesOk", fn := fun _ => fun
  | [d] => { results := [.lit (.bool true)], args := [d] }
  | _ => none }
def fnExactHandZonesOkRow : OpenClaim := { program := "ytahfbpmaeijgaaa", sum := "aaed02b01f4b7f935070d9eaadccc43fdf308eee818690d7237779afc1dc7a98", func := "loop.example/lapwing/laws.FnExactHandZonesOk", spec := "fnExactHandZonesOk", apart := false }
def FnExactHandZonesOkSaid : Prop := fnExactHandZonesOkRow.holds Try.pinned (OpenSpec.ofChange fnExactHandZonesOkSpec)

/-- ITS FALSE NEIGHBOUR: 'it returns false'. Refute it at one input. -/
def fnExactHandZonesOkWrong : ChangeSpec := { name := "fnExactHandZonesOk", fn := fun _ => fun
  | [d] => { results := [.lit (.bool false)], args := [d] }
  | _ => none }
def FnExactHandZonesOkWrongFalsely : Prop := fnExactHandZonesOkRow.holds Try.pinned (OpenSpec.ofChange fnExactHandZonesOkWrong)

/-- 'laws.FnExactSkyLeg': WHATEVER THE INPUT: true; the input reads as it did. -/
def fnExactSkyLegSpec : ChangeSpec := { name := "fnExactSkyLeg", fn := fun _ => fun
  | [d1, d2] => { results := [.lit (.bool true)], args := [d1, d2] }
  | _ => none }
def fnExactSkyLegRow : OpenClaim := { program := "ytahfbpmaeijgaaa", sum := "aaed02b01f4b7f935070d9eaadccc43fdf308eee818690d7237779afc1dc7a98", func := "loop.example/lapwing/laws.FnExactSkyLeg", spec := "fnExactSkyLeg", recurses := true, apart := false }
def FnExactSkyLegSaid : Prop := fnExactSkyLegRow.holds Try.pinned (OpenSpec.ofChange fnExactSkyLegSpec)

/-- ITS FALSE NEIGHBOUR: 'it returns false'. Refute it at one input. -/
def fnExactSkyLegWrong : ChangeSpec := { name := "fnExactSkyLeg", fn := fun _ => fun
  | [d1, d2] => { results := [.lit (.bool false)], args := [d1, d2] }
  | _ => none }
def FnExactSkyLegWrongFalsely : Prop := fnExactSkyLegRow.holds Try.pinned (OpenSpec.ofChange fnExactSkyLegWrong)

/-- 'laws.FnSkyLegs': WHATEVER THE INPUT: true; the input reads as it did. -/
def fnSkyLegsSpec : ChangeSpec := { name := "fnSkyLegs", fn := fun _ => fun
  | [d] => { results := [.lit (.bool true)], args := [d] }
  | _ => none }
def fnSkyLegsRow : OpenClaim := { program := "ytahfbpmaeijgaaa", sum := "aaed02b01f4b7f935070d9eaadccc43fdf308eee818690d7237779afc1dc7a98", func := "loop.example/lapwing/laws.FnSkyLegs", spec := "fnSkyLegs", recurses := true, apart := false }
def FnSkyLegsSaid : Prop := fnSkyLegsRow.holds Try.pinned (OpenSpec.ofChange fnSkyLegsSpec)

/-- ITS FALSE NEIGHBOUR: 'it returns false'. Refute it at one input. -/
def fnSkyLegsWrong : ChangeSpec := { name := "fnSkyLegs", fn := fun _ => fun
  | [d] => { results := [.lit (.bool false)], args := [d] }
  | _ => none }
def FnSkyLegsWrongFalsely : Prop := fnSkyLegsRow.holds Try.pinned (OpenSpec.ofChange fnSkyLegsWrong)

/- THE SECOND FORM. 'bulk': how many values and letters a reading holds, each counted each time it is reached (what is shared counts as often as it is met; a slice's spare places count too). A statement '..UptoSaid' is the law's where the arguments, and the package variables that the reading takes, are together of bulk at most 1048576: NARROWER than '..Said'. Prove '..Said' where nothing that the law and all that it calls make is longer than what came in: it says more and counts as full. Else prove '..UptoSaid'. A law counts once. -/
mutual
def uptoBulk {H : Type} : DataW H → Nat
  | .lit (.string bytes) => bytes.length + 1
  | .lit _ => 1
  | .nil => 1
  | .ptr d => uptoBulk d + 1
  | .slice elems spare => uptoBulkAll elems + uptoBulkAll spare + 1
  | .agg parts => uptoBulkAll parts + 1
  | .iface _ d => uptoBulk d + 1
  | .map entries => uptoBulkEntries entries + 1
  | .held _ => 1
def uptoBulkAll {H : Type} : List (DataW H) → Nat
  | [] => 0
  | d :: r => uptoBulk d + uptoBulkAll r
def uptoBulkEntries {H : Type} : List (Lit × DataW H) → Nat
  | [] => 0
  | x :: r => uptoBulkEntry x + uptoBulkEntries r
def uptoBulkEntry {H : Type} : Lit × DataW H → Nat
  | (.string bytes, d) => bytes.length + uptoBulk d + 1
  | (_, d) => uptoBulk d + 1
 end
def uptoSmall : (H : Type) → List (DataW H) → Bool := fun _ ds => decide (uptoBulkAll ds ≤ 1048576)
def OpenSpec.upto (s : _root_.Go.ChangeSpec) : _root_.Go.OpenSpec := { _root_.Go.OpenSpec.ofChange s with cond := some uptoSmall }

/-- 'laws.FnExactConstants', WHERE WHAT IT READS IS OF BULK AT MOST 1048576: true; the input reads as it did. -/
def fnExactConstantsUptoRow : OpenClaim := { program := "ytahfbpmaeijgaaa", sum := "aaed02b01f4b7f935070d9eaadccc43fdf308eee818690d7237779afc1dc7a98", func := "loop.example/lapwing/laws.FnExactConstants", spec := "fnExactConstants", apart := false, narrowed := true }
def FnExactConstantsUptoSaid : Prop := fnExactConstantsUptoRow.holds Try.pinned (OpenSpec.upto fnExactConstantsSpec)

/-- 'laws.FnExactFlyKindOk', WHERE WHAT IT READS IS OF BULK AT MOST 1048576: true; the input reads as it did. -/
def fnExactFlyKindOkUptoRow : OpenClaim := { program := "ytahfbpmaeijgaaa", sum := "aaed02b01f4b7f935070d9eaadccc43fdf308eee818690d7237779afc1dc7a98", func := "loop.example/lapwing/laws.FnExactFlyKindOk", spec := "fnExactFlyKindOk", apart := false, narrowed := true }
def FnExactFlyKindOkUptoSaid : Prop := fnExactFlyKindOkUptoRow.holds Try.pinned (OpenSpec.upto fnExactFlyKindOkSpec)

/-- 'laws.FnExactSkyNear', WHERE WHAT IT READS IS OF BULK AT MOST 1048576: true; the input reads as it did. -/
def fnExactSkyNearUptoRow : OpenClaim := { program := "ytahfbpmaeijgaaa", sum := "aaed02b01f4b7f935070d9eaadccc43fdf308eee818690d7237779afc1dc7a98", func := "loop.example/lapwing/laws.FnExactSkyNear", spec := "fnExactSkyNear", apart := false, narrowed := true }
def FnExactSkyNearUptoSaid : Prop := fnExactSkyNearUptoRow.holds Try.pinned (OpenSpec.upto fnExactSkyNearSpec)

/-- 'laws.FnExactFlyWhere', WHERE WHAT IT READS IS OF BULK AT MOST 1048576: true; the input reads as it did. -/
def fnExactFlyWhereUptoRow : OpenClaim := { program := "ytahfbpmaeijgaaa", sum := "aaed02b01f4b7f935070d9eaadccc43fdf308eee818690d7237779afc1dc7a98", func := "loop.example/lapwing/laws.FnExactFlyWhere", spec := "fnExactFlyWhere", apart := false, narrowed := true }
def FnExactFlyWhereUptoSaid : Prop := fnExactFlyWhereUptoRow.holds Try.pinned (OpenSpec.upto fnExactFlyWhereSpec)

/-- 'laws.FnExactPlanLevels', WHERE WHAT IT READS IS OF BULK AT MOST 1048576: true; the input reads as it did. -/
def fnExactPlanLevelsUptoRow : OpenClaim := { program := "ytahfbpmaeijgaaa", sum := "aaed02b01f4b7f935070d9eaadccc43fdf308eee818690d7237779afc1dc7a98", func := "loop.example/lapwing/laws.FnExactPlanLevels", spec := "fnExactPlanLevels", apart := false, narrowed := true }
def FnExactPlanLevelsUptoSaid : Prop := fnExactPlanLevelsUptoRow.holds Try.pinned (OpenSpec.upto fnExactPlanLevelsSpec)

/-- 'laws.FnExactFlyWithin', WHERE WHAT IT READS IS OF BULK AT MOST 1048576: true; the input reads as it did. -/
def fnExactFlyWithinUptoRow : OpenClaim := { program := "ytahfbpmaeijgaaa", sum := "aaed02b01f4b7f935070d9eaadccc43fdf308eee818690d7237779afc1dc7a98", func := "loop.example/lapwing/laws.FnExactFlyWithin", spec := "fnExactFlyWithin", apart := false, narrowed := true }
def FnExactFlyWithinUptoSaid : Prop := fnExactFlyWithinUptoRow.holds Try.pinned (OpenSpec.upto fnExactFlyWithinSpec)

/-- 'laws.FnExactFlySmaller', WHERE WHAT IT READS IS OF BULK AT MOST 1048576: true; the input reads as it did. -/
def fnExactFlySmallerUptoRow : OpenClaim := { program := "ytahfbpmaeijgaaa", sum := "aaed02b01f4b7f935070d9eaadccc43fdf308eee818690d7237779afc1dc7a98", func := "loop.example/lapwing/laws.FnExactFlySmaller", spec := "fnExactFlySmaller", apart := false, narrowed := true }
def FnExactFlySmallerUptoSaid : Prop := fnExactFlySmallerUptoRow.holds Try.pinned (OpenSpec.upto fnExactFlySmallerSpec)

/-- 'laws.FnExactHandNear', WHERE WHAT IT READS IS OF BULK AT MOST 1048576: true; the input reads as it did. -/
def fnExactHandNearUptoRow : OpenClaim := { program := "ytahfbpmaeijgaaa", sum := "aaed02b01f4b7f935070d9eaadccc43fdf308eee818690d7237779afc1dc7a98", func := "loop.example/lapwing/laws.FnExactHandNear", spec := "fnExactHandNear", apart := false, narrowed := true }
def FnExactHandNearUptoSaid : Prop := fnExactHandNearUptoRow.holds Try.pinned (OpenSpec.upto fnExactHandNearSpec)

/-- 'laws.FnExactFlyShared', WHERE WHAT IT READS IS OF BULK AT MOST 1048576: true; the input reads as it did. -/
def fnExactFlySharedUptoRow : OpenClaim := { program := "ytahfbpmaeijgaaa", sum := "aaed02b01f4b7f935070d9eaadccc43fdf308eee818690d7237779afc1dc7a98", func := "loop.example/lapwing/laws.FnExactFlyShared", spec := "fnExactFlyShared", apart := false, narrowed := true }
def FnExactFlySharedUptoSaid : Prop := fnExactFlySharedUptoRow.holds Try.pinned (OpenSpec.upto fnExactFlySharedSpec)

/-- 'laws.FnExactHandZonesOk', WHERE WHAT IT READS IS OF BULK AT MOST 1048576: true; the input reads as it did. -/
def fnExactHandZonesOkUptoRow : OpenClaim := { program := "ytahfbpmaeijgaaa", sum := "aaed02b01f4b7f935070d9eaadccc43fdf308eee818690d7237779afc1dc7a98", func := "loop.example/lapwing/laws.FnExactHandZonesOk", spec := "fnExactHandZonesOk", apart := false, narrowed := true }
def FnExactHandZonesOkUptoSaid : Prop := fnExactHandZonesOkUptoRow.holds Try.pinned (OpenSpec.upto fnExactHandZonesOkSpec)

/-- 'laws.FnExactSkyLeg', WHERE WHAT IT READS IS OF BULK AT MOST 1048576: true; the input reads as it did. -/
def fnExactSkyLegUptoRow : OpenClaim := { program := "ytahfbpmaeijgaaa", sum := "aaed02b01f4b7f935070d9eaadccc43fdf308eee818690d7237779afc1dc7a98", func := "loop.example/lapwing/laws.FnExactSkyLeg", spec := "fnExactSkyLeg", recurses := true, apart := false, narrowed := true }
def FnExactSkyLegUptoSaid : Prop := fnExactSkyLegUptoRow.holds Try.pinned (OpenSpec.upto fnExactSkyLegSpec)

/-- 'laws.FnSkyLegs', WHERE WHAT IT READS IS OF BULK AT MOST 1048576: true; the input reads as it did. -/
def fnSkyLegsUptoRow : OpenClaim := { program := "ytahfbpmaeijgaaa", sum := "aaed02b01f4b7f935070d9eaadccc43fdf308eee818690d7237779afc1dc7a98", func := "loop.example/lapwing/laws.FnSkyLegs", spec := "fnSkyLegs", recurses := true, apart := false, narrowed := true }
def FnSkyLegsUptoSaid : Prop := fnSkyLegsUptoRow.holds Try.pinned (OpenSpec.upto fnSkyLegsSpec)

end Rows
end Go.Proofs.Ytahfbpmaeijgaaa
