/-
  No cell of these rows narrows 'for every input' (looked for: loops, veiled, ifaces, maps, wideKeys, modest, calm, conditions, laid).
  DERIVED. THE GIVEN ROWS OF THIS SEAT. 10 by the template 'for every input the law returns true; each argument reads behind the call as it read before'; 0 by the template 'total and deterministic' (their statements: YtffkcgdgiggfoaaTotals.lean).
  GIVEN WITH THE SEED: the statements are not yours to turn. If you find one false, say at which input.
  Laid BY PROGRAM, IN A SANDBOX (cutbox-rows.mjs): the forced cells as the released guide's own fill.sh prints them over the translation 055734dd58b1de59… (all of the seat's roots in one cut). By AI agents, Wed Nov 11 2026. No macro, syntax, notation, axiom, sorry.
-/
import Derived.Test.YtffkcgdgiggfoaaChecked
import GoSem.Claim
import GoSem.ClaimJoined
import GoSem.ClaimMapViews
import Derived.JoinedTies
import Derived.KernelRfl
namespace Go.Proofs.Ytffkcgdgiggfoaa
/- THE CELL 'sum', in the pinned program and in every row, IS THE sha256 OF THE DUMP (.gsa) THAT YtffkcgdgiggfoaaProg.lean LOADS. Nothing in Lean hashes anything: it is a label: what it is worth is what the hold of that sum in a sandbox is worth. -/
noncomputable def Try.pinned : Pinned := { name := "ytffkcgdgiggfoaa", sum := "055734dd58b1de5904958ad783c7135a8c8378ea2a577f001207d087b5965f44", checked := Try.checked }
namespace Rows
def none {H : Type} : Left H := { results := [], args := [] }

/-- 'laws.FnExactAreObservations': WHATEVER THE INPUT: true; the input reads as it did. -/
def fnExactAreObservationsSpec : ChangeSpec := { name := "fnExactAreObservations", fn := fun _ => fun
  | [d] => { results := [.lit (.bool true)], args := [d] }
  | _ => none }
def fnExactAreObservationsRow : OpenClaim := { program := "ytffkcgdgiggfoaa", sum := "055734dd58b1de5904958ad783c7135a8c8378ea2a577f001207d087b5965f44", func := "loop.example/g00948/laws.FnExactAreObservations", spec := "fnExactAreObservations", unfollowed := true, recurses := true, apart := false }
def FnExactAreObservationsSaid : Prop := fnExactAreObservationsRow.holds Try.pinned (OpenSpec.ofChange fnExactAreObservationsSpec)

/-- ITS FALSE NEIGHBOUR: 'it returns false'. Refute it at one input. -/
def fnExactAreObservationsWrong : ChangeSpec := { name := "fnExactAreObservations", fn := fun _ => fun
  | [d] => { results := [.lit (.bool false)], args := [d] }
  | _ => none }
def FnExactAreObservationsWrongFalsely : Prop := fnExactAreObservationsRow.holds Try.pinned (OpenSpec.ofChange fnExactAreObservationsWrong)

/-- 'laws.FnPlaces': WHATEVER THE INPUT: true; the input reads as it did. -/
def fnPlacesSpec : ChangeSpec := { name := "fnPlaces", fn := fun _ => fun
  | [d] => { results := [.lit (.bool true)], args := [d] }
  | _ => none }
def fnPlacesRow : OpenClaim := { program := "ytffkcgdgiggfoaa", sum := "055734dd58b1de5904958ad783c7135a8c8378ea2a577f001207d087b5965f44", func := "loop.example/g00948/laws.FnPlaces", spec := "fnPlaces", apart := false }
def FnPlacesSaid : Prop := fnPlacesRow.holds Try.pinned (OpenSpec.ofChange fnPlacesSpec)

/-- ITS FALSE NEIGHBOUR: 'it returns false'. Refute it at one input. -/
def fnPlacesWrong : ChangeSpec := { name := "fnPlaces", fn := fun _ => fun
  | [d] => { results := [.lit (.bool false)], args := [d] }
  | _ => none }
def FnPlacesWrongFalsely : Prop := fnPlacesRow.holds Try.pinned (OpenSpec.ofChange fnPlacesWrong)

/-- 'laws.FnExactIsPlacement': WHATEVER THE INPUT: true; the input reads as it did. -/
def fnExactIsPlacementSpec : ChangeSpec := { name := "fnExactIsPlacement", fn := fun _ => fun
  | [d1, d2, d3] => { results := [.lit (.bool true)], args := [d1, d2, d3] }
  | _ => none }
def fnExactIsPlacementRow : OpenClaim := { program := "ytffkcgdgiggfoaa", sum := "055734dd58b1de5904958ad783c7135a8c8378ea2a577f001207d087b5965f44", func := "loop.example/g00948/laws.FnExactIsPlacement", spec := "fnExactIsPlacement", apart := false }
def FnExactIsPlacementSaid : Prop := fnExactIsPlacementRow.holds Try.pinned (OpenSpec.ofChange fnExactIsPlacementSpec)

/-- ITS FALSE NEIGHBOUR: 'it returns false'. Refute it at one input. -/
def fnExactIsPlacementWrong : ChangeSpec := { name := "fnExactIsPlacement", fn := fun _ => fun
  | [d1, d2, d3] => { results := [.lit (.bool false)], args := [d1, d2, d3] }
  | _ => none }
def FnExactIsPlacementWrongFalsely : Prop := fnExactIsPlacementRow.holds Try.pinned (OpenSpec.ofChange fnExactIsPlacementWrong)

/-- 'laws.FnExactCountPlacements': WHATEVER THE INPUT: true; the input reads as it did. -/
def fnExactCountPlacementsSpec : ChangeSpec := { name := "fnExactCountPlacements", fn := fun _ => fun
  | [d1, d2] => { results := [.lit (.bool true)], args := [d1, d2] }
  | _ => none }
def fnExactCountPlacementsRow : OpenClaim := { program := "ytffkcgdgiggfoaa", sum := "055734dd58b1de5904958ad783c7135a8c8378ea2a577f001207d087b5965f44", func := "loop.example/g00948/laws.FnExactCountPlacements", spec := "fnExactCountPlacements", unfollowed := true, recurses := true, apart := false }
def FnExactCountPlacementsSaid : Prop := fnExactCountPlacementsRow.holds Try.pinned (OpenSpec.ofChange fnExactCountPlacementsSpec)

/-- ITS FALSE NEIGHBOUR: 'it returns false'. Refute it at one input. -/
def fnExactCountPlacementsWrong : ChangeSpec := { name := "fnExactCountPlacements", fn := fun _ => fun
  | [d1, d2] => { results := [.lit (.bool false)], args := [d1, d2] }
  | _ => none }
def FnExactCountPlacementsWrongFalsely : Prop := fnExactCountPlacementsRow.holds Try.pinned (OpenSpec.ofChange fnExactCountPlacementsWrong)

/-- 'laws.FnExactGreedyPlacement': WHATEVER THE INPUT: true; the input reads as it did. -/
def fnExactGreedyPlacementSpec : ChangeSpec := { name := "fnExactGreedyPlacement", fn := fun _ => fun
  | [d1, d2] => { results := [.lit (.bool true)], args := [d1, d2] }
  | _ => none }
def fnExactGreedyPlacementRow : OpenClaim := { program := "ytffkcgdgiggfoaa", sum := "055734dd58b1de5904958ad783c7135a8c8378ea2a577f001207d087b5965f44", func := "loop.example/g00948/laws.FnExactGreedyPlacement", spec := "fnExactGreedyPlacement", apart := false }
def FnExactGreedyPlacementSaid : Prop := fnExactGreedyPlacementRow.holds Try.pinned (OpenSpec.ofChange fnExactGreedyPlacementSpec)

/-- ITS FALSE NEIGHBOUR: 'it returns false'. Refute it at one input. -/
def fnExactGreedyPlacementWrong : ChangeSpec := { name := "fnExactGreedyPlacement", fn := fun _ => fun
  | [d1, d2] => { results := [.lit (.bool false)], args := [d1, d2] }
  | _ => none }
def FnExactGreedyPlacementWrongFalsely : Prop := fnExactGreedyPlacementRow.holds Try.pinned (OpenSpec.ofChange fnExactGreedyPlacementWrong)

/-- 'laws.FnExactFreePositions': WHATEVER THE INPUT: true; the input reads as it did. -/
def fnExactFreePositionsSpec : ChangeSpec := { name := "fnExactFreePositions", fn := fun _ => fun
  | [d1, d2, d3, d4] => { results := [.lit (.bool true)], args := [d1, d2, d3, d4] }
  | _ => none }
def fnExactFreePositionsRow : OpenClaim := { program := "ytffkcgdgiggfoaa", sum := "055734dd58b1de5904958ad783c7135a8c8378ea2a577f001207d087b5965f44", func := "loop.example/g00948/laws.FnExactFreePositions", spec := "fnExactFreePositions", apart := false }
def FnExactFreePositionsSaid : Prop := fnExactFreePositionsRow.holds Try.pinned (OpenSpec.ofChange fnExactFreePositionsSpec)

/-- ITS FALSE NEIGHBOUR: 'it returns false'. Refute it at one input. -/
def fnExactFreePositionsWrong : ChangeSpec := { name := "fnExactFreePositions", fn := fun _ => fun
  | [d1, d2, d3, d4] => { results := [.lit (.bool false)], args := [d1, d2, d3, d4] }
  | _ => none }
def FnExactFreePositionsWrongFalsely : Prop := fnExactFreePositionsRow.holds Try.pinned (OpenSpec.ofChange fnExactFreePositionsWrong)

/-- 'laws.FnExactIsSite': WHATEVER THE INPUT: true; the input reads as it did. -/
def fnExactIsSiteSpec : ChangeSpec := { name := "fnExactIsSite", fn := fun _ => fun
  | [d] => { results := [.lit (.bool true)], args := [d] }
  | _ => none }
def fnExactIsSiteRow : OpenClaim := { program := "ytffkcgdgiggfoaa", sum := "055734dd58b1de5904958ad783c7135a8c8378ea2a577f001207d087b5965f44", func := "loop.example/g00948/laws.FnExactIsSite", spec := "fnExactIsSite", apart := false }
def FnExactIsSiteSaid : Prop := fnExactIsSiteRow.holds Try.pinned (OpenSpec.ofChange fnExactIsSiteSpec)

/-- ITS FALSE NEIGHBOUR: 'it returns false'. Refute it at one input. -/
def fnExactIsSiteWrong : ChangeSpec := { name := "fnExactIsSite", fn := fun _ => fun
  | [d] => { results := [.lit (.bool false)], args := [d] }
  | _ => none }
def FnExactIsSiteWrongFalsely : Prop := fnExactIsSiteRow.holds Try.pinned (OpenSpec.ofChange fnExactIsSiteWrong)

/-- 'laws.FnExactShadeOf': WHATEVER THE INPUT: true; the input reads as it did. -/
def fnExactShadeOfSpec : ChangeSpec := { name := "fnExactShadeOf", fn := fun _ => fun
  | [d1, d2] => { results := [.lit (.bool true)], args := [d1, d2] }
  | _ => none }
def fnExactShadeOfRow : OpenClaim := { program := "ytffkcgdgiggfoaa", sum := "055734dd58b1de5904958ad783c7135a8c8378ea2a577f001207d087b5965f44", func := "loop.example/g00948/laws.FnExactShadeOf", spec := "fnExactShadeOf", apart := false }
def FnExactShadeOfSaid : Prop := fnExactShadeOfRow.holds Try.pinned (OpenSpec.ofChange fnExactShadeOfSpec)

/-- ITS FALSE NEIGHBOUR: 'it returns false'. Refute it at one input. -/
def fnExactShadeOfWrong : ChangeSpec := { name := "fnExactShadeOf", fn := fun _ => fun
  | [d1, d2] => { results := [.lit (.bool false)], args := [d1, d2] }
  | _ => none }
def FnExactShadeOfWrongFalsely : Prop := fnExactShadeOfRow.holds Try.pinned (OpenSpec.ofChange fnExactShadeOfWrong)

/-- 'laws.FnFaces': WHATEVER THE INPUT: true; the input reads as it did. -/
def fnFacesSpec : ChangeSpec := { name := "fnFaces", fn := fun _ => fun
  | [d] => { results := [.lit (.bool true)], args := [d] }
  | _ => none }
def fnFacesRow : OpenClaim := { program := "ytffkcgdgiggfoaa", sum := "055734dd58b1de5904958ad783c7135a8c8378ea2a577f001207d087b5965f44", func := "loop.example/g00948/laws.FnFaces", spec := "fnFaces", apart := false }
def FnFacesSaid : Prop := fnFacesRow.holds Try.pinned (OpenSpec.ofChange fnFacesSpec)

/-- ITS FALSE NEIGHBOUR: 'it returns false'. Refute it at one input. -/
def fnFacesWrong : ChangeSpec := { name := "fnFaces", fn := fun _ => fun
  | [d] => { results := [.lit (.bool false)], args := [d] }
  | _ => none }
def FnFacesWrongFalsely : Prop := fnFacesRow.holds Try.pinned (OpenSpec.ofChange fnFacesWrong)

/-- 'laws.FnExactMoveBody': WHATEVER THE INPUT: true; the input reads as it did. -/
def fnExactMoveBodySpec : ChangeSpec := { name := "fnExactMoveBody", fn := fun _ => fun
  | [d1, d2] => { results := [.lit (.bool true)], args := [d1, d2] }
  | _ => none }
def fnExactMoveBodyRow : OpenClaim := { program := "ytffkcgdgiggfoaa", sum := "055734dd58b1de5904958ad783c7135a8c8378ea2a577f001207d087b5965f44", func := "loop.example/g00948/laws.FnExactMoveBody", spec := "fnExactMoveBody", apart := false }
def FnExactMoveBodySaid : Prop := fnExactMoveBodyRow.holds Try.pinned (OpenSpec.ofChange fnExactMoveBodySpec)

/-- ITS FALSE NEIGHBOUR: 'it returns false'. Refute it at one input. -/
def fnExactMoveBodyWrong : ChangeSpec := { name := "fnExactMoveBody", fn := fun _ => fun
  | [d1, d2] => { results := [.lit (.bool false)], args := [d1, d2] }
  | _ => none }
def FnExactMoveBodyWrongFalsely : Prop := fnExactMoveBodyRow.holds Try.pinned (OpenSpec.ofChange fnExactMoveBodyWrong)

/- THE SECOND FORM. 'bulk': how many values and letters a reading holds, each counted each time it is reached (what is shared counts as often as it is met; a slice's spare places count too). A statement '..UptoSaid' is the law's where the arguments, and the package variables that the reading takes, are together of bulk at most 1048576: NARROWER than '..Said'. Prove '..Said' where nothing that the law and all that it calls make is longer than what came in: it says more and counts as full. Else prove '..UptoSaid'. A law counts once. -/
mutual
def uptoBulk {H : Type} : DataW H → Nat
  | .lit (.string bytes) => bytes.length + 1
  | .lit _ => 1
  | .nil => 1
  | .ptr d => uptoBulk d + 1
  | .slice elems spare => uptoBulkAll elems + uptoBulkAll spare + 1
  | .agg parts => uptoBulkAll parts + 1
  | .iface _ d => uptoBulk d + 1
  | .map entries => uptoBulkEntries entries + 1
  | .held _ => 1
def uptoBulkAll {H : Type} : List (DataW H) → Nat
  | [] => 0
  | d :: r => uptoBulk d + uptoBulkAll r
def uptoBulkEntries {H : Type} : List (Lit × DataW H) → Nat
  | [] => 0
  | x :: r => uptoBulkEntry x + uptoBulkEntries r
def uptoBulkEntry {H : Type} : Lit × DataW H → Nat
  | (.string bytes, d) => bytes.length + uptoBulk d + 1
  | (_, d) => uptoBulk d + 1
 end
def uptoSmall : (H : Type) → List (DataW H) → Bool := fun _ ds => decide (uptoBulkAll ds ≤ 1048576)
def OpenSpec.upto (s : _root_.Go.ChangeSpec) : _root_.Go.OpenSpec := { _root_.Go.OpenSpec.ofChange s with cond := some uptoSmall }

/-- 'laws.FnExactAreObservations', WHERE WHAT IT READS IS OF BULK AT MOST 1048576: true; the input reads as it did. -/
def fnExactAreObservationsUptoRow : OpenClaim := { program := "ytffkcgdgiggfoaa", sum := "055734dd58b1de5904958ad783c7135a8c8378ea2a577f001207d087b5965f44", func := "loop.example/g00948/laws.FnExactAreObservations", spec := "fnExactAreObservations", unfollowed := true, recurses := true, apart := false, narrowed := true }
def FnExactAreObservationsUptoSaid : Prop := fnExactAreObservationsUptoRow.holds Try.pinned (OpenSpec.upto fnExactAreObservationsSpec)

/-- 'laws.FnPlaces', WHERE WHAT IT READS IS OF BULK AT MOST 1048576: true; the input reads as it did. -/
def fnPlacesUptoRow : OpenClaim := { program := "ytffkcgdgiggfoaa", sum := "055734dd58b1de5904958ad783c7135a8c8378ea2a577f001207d087b5965f44", func := "loop.example/g00948/laws.FnPlaces", spec := "fnPlaces", apart := false, narrowed := true }
def FnPlacesUptoSaid : Prop := fnPlacesUptoRow.holds Try.pinned (OpenSpec.upto fnPlacesSpec)

/-- 'laws.FnExactIsPlacement', WHERE WHAT IT READS IS OF BULK AT MOST 1048576: true; the input reads as it did. -/
def fnExactIsPlacementUptoRow : OpenClaim := { program := "ytffkcgdgiggfoaa", sum := "055734dd58b1de5904958ad783c7135a8c8378ea2a577f001207d087b5965f44", func := "loop.example/g00948/laws.FnExactIsPlacement", spec := "fnExactIsPlacement", apart := false, narrowed := true }
def FnExactIsPlacementUptoSaid : Prop := fnExactIsPlacementUptoRow.holds Try.pinned (OpenSpec.upto fnExactIsPlacementSpec)

/-- 'laws.FnExactCountPlacements', WHERE WHAT IT READS IS OF BULK AT MOST 1048576: true; the input reads as it did. -/
def fnExactCountPlacementsUptoRow : OpenClaim := { program := "ytffkcgdgiggfoaa", sum := "055734dd58b1de5904958ad783c7135a8c8378ea2a577f001207d087b5965f44", func := "loop.example/g00948/laws.FnExactCountPlacements", spec := "fnExactCountPlacements", unfollowed := true, recurses := true, apart := false, narrowed := true }
def FnExactCountPlacementsUptoSaid : Prop := fnExactCountPlacementsUptoRow.holds Try.pinned (OpenSpec.upto fnExactCountPlacementsSpec)

/-- 'laws.FnExactGreedyPlacement', WHERE WHAT IT READS IS OF BULK AT MOST 1048576: true; the input reads as it did. -/
def fnExactGreedyPlacementUptoRow : OpenClaim := { program := "ytffkcgdgiggfoaa", sum := "055734dd58b1de5904958ad783c7135a8c8378ea2a577f001207d087b5965f44", func := "loop.example/g00948/laws.FnExactGreedyPlacement", spec := "fnExactGreedyPlacement", apart := false, narrowed := true }
def FnExactGreedyPlacementUptoSaid : Prop := fnExactGreedyPlacementUptoRow.holds Try.pinned (OpenSpec.upto fnExactGreedyPlacementSpec)

/-- 'laws.FnExactFreePositions', WHERE WHAT IT READS IS OF BULK AT MOST 1048576: true; the input reads as it did. -/
def fnExactFreePositionsUptoRow : OpenClaim := { program := "ytffkcgdgiggfoaa", sum := "055734dd58b1de5904958ad783c7135a8c8378ea2a577f001207d087b5965f44", func := "loop.example/g00948/laws.FnExactFreePositions", spec := "fnExactFreePositions", apart := false, narrowed := true }
def FnExactFreePositionsUptoSaid : Prop := fnExactFreePositionsUptoRow.holds Try.pinned (OpenSpec.upto fnExactFreePositionsSpec)

/-- 'laws.FnExactIsSite', WHERE WHAT IT READS IS OF BULK AT MOST 1048576: true; the input reads as it did. -/
def fnExactIsSiteUptoRow : OpenClaim := { program := "ytffkcgdgiggfoaa", sum := "055734dd58b1de5904958ad783c7135a8c8378ea2a577f001207d087b5965f44", func := "loop.example/g00948/laws.FnExactIsSite", spec := "fnExactIsSite", apart := false, narrowed := true }
def FnExactIsSiteUptoSaid : Prop := fnExactIsSiteUptoRow.holds Try.pinned (OpenSpec.upto fnExactIsSiteSpec)

/-- 'laws.FnExactShadeOf', WHERE WHAT IT READS IS OF BULK AT MOST 1048576: true; the input reads as it did. -/
def fnExactShadeOfUptoRow : OpenClaim := { program := "ytffkcgdgiggfoaa", sum := "055734dd58b1de5904958ad783c7135a8c8378ea2a577f001207d087b5965f44", func := "loop.example/g00948/laws.FnExactShadeOf", spec := "fnExactShadeOf", apart := false, narrowed := true }
def FnExactShadeOfUptoSaid : Prop := fnExactShadeOfUptoRow.holds Try.pinned (OpenSpec.upto fnExactShadeOfSpec)

/-- 'laws.FnFaces', WHERE WHAT IT READS IS OF BULK AT MOST 1048576: true; the input reads as it did. -/
def fnFacesUptoRow : OpenClaim := { program := "ytffkcgdgiggfoaa", sum := "055734dd58b1de5904958ad783c7135a8c8378ea2a577f001207d087b5965f44", func := "loop.example/g00948/laws.FnFaces", spec := "fnFaces", apart := false, narrowed := true }
def FnFacesUptoSaid : Prop := fnFacesUptoRow.holds Try.pinned (OpenSpec.upto fnFacesSpec)

/-- 'laws.FnExactMoveBody', WHERE WHAT IT READS IS OF BULK AT MOST 1048576: true; the input reads as it did. -/
def fnExactMoveBodyUptoRow : OpenClaim := { program := "ytffkcgdgiggfoaa", sum := "055734dd58b1de5904958ad783c7135a8c8378ea2a577f001207d087b5965f44", func := "loop.example/g00948/laws.FnExactMoveBody", spec := "fnExactMoveBody", apart := false, narrowed := true }
def FnExactMoveBodyUptoSaid : Prop := fnExactMoveBodyUptoRow.holds Try.pinned (OpenSpec.upto fnExactMoveBodySpec)

end Rows
end Go.Proofs.Ytffkcgdgiggfoaa
