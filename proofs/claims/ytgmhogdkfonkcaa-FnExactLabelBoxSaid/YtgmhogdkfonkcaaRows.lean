/-
  No cell of these rows narrows 'for every input' (looked for: loops, veiled, ifaces, maps, wideKeys, modest, calm, conditions, laid).
  DERIVED. THE GIVEN ROWS OF THIS SEAT. 8 by the template 'for every input the law returns true; each argument reads behind the call as it read before'; 0 by the template 'total and deterministic' (their statements: YtgmhogdkfonkcaaTotals.lean).
  GIVEN WITH THE SEED: the statements are not yours to turn. If you find one false, say at which input.
  Laid BY PROGRAM, IN A SANDBOX (cutbox-rows.mjs): the forced cells as the released guide's own fill.sh prints them over the translation f032c5bf2f0542e9… (all of the seat's roots in one cut). By AI agents, Wed Nov 11 2026. No macro, syntax, notation, axiom, sorry.
-/
import Derived.Test.YtgmhogdkfonkcaaChecked
import GoSem.Claim
import GoSem.ClaimJoined
import GoSem.ClaimMapViews
import Derived.JoinedTies
import Derived.KernelRfl
namespace Go.Proofs.Ytgmhogdkfonkcaa
/- THE CELL 'sum', in the pinned program and in every row, IS THE sha256 OF THE DUMP (.gsa) THAT YtgmhogdkfonkcaaProg.lean LOADS. Nothing in Lean hashes anything: it is a label: what it is worth is what the hold of that sum in a sandbox is worth. -/
noncomputable def Try.pinned : Pinned := { name := "ytgmhogdkfonkcaa", sum := "f032c5bf2f0542e9c2cabd92dd7a3a5a353046886042c7370c34c9f56288ec96", checked := Try.checked }
namespace Rows
def none {H : Type} : Left H := { results := [], args := [] }

/-- 'laws.FnExactLabelBox': WHATEVER THE INPUT: true; the input reads as it did. -/
def fnExactLabelBoxSpec : ChangeSpec := { name := "fnExactLabelBox", fn := fun _ => fun
  | [d1, d2] => { results := [.lit (.bool true)], args := [d1, d2] }
  | _ => none }
def fnExactLabelBoxRow : OpenClaim := { program := "ytgmhogdkfonkcaa", sum := "f032c5bf2f0542e9c2cabd92dd7a3a5a353046886042c7370c34c9f56288ec96", func := "loop.example/g00948/laws.FnExactLabelBox", spec := "fnExactLabelBox", apart := false }
def FnExactLabelBoxSaid : Prop := fnExactLabelBoxRow.holds Try.pinned (OpenSpec.ofChange fnExactLabelBoxSpec)

/-- ITS FALSE NEIGHBOUR: 'it returns false'. Refute it at one input. -/
def fnExactLabelBoxWrong : ChangeSpec := { name := "fnExactLabelBox", fn := fun _ => fun
  | [d1, d2] => { results := [.lit (.bool false)], args := [d1, d2] }
  | _ => none }
def FnExactLabelBoxWrongFalsely : Prop := fnExactLabelBoxRow.holds Try.pinned (OpenSpec.ofChange fnExactLabelBoxWrong)

/-- 'laws.FnExactIsPlacement': WHATEVER THE INPUT: true; the input reads as it did. -/
def fnExactIsPlacementSpec : ChangeSpec := { name := "fnExactIsPlacement", fn := fun _ => fun
  | [d1, d2, d3] => { results := [.lit (.bool true)], args := [d1, d2, d3] }
  | _ => none }
def fnExactIsPlacementRow : OpenClaim := { program := "ytgmhogdkfonkcaa", sum := "f032c5bf2f0542e9c2cabd92dd7a3a5a353046886042c7370c34c9f56288ec96", func := "loop.example/g00948/laws.FnExactIsPlacement", spec := "fnExactIsPlacement", apart := false }
def FnExactIsPlacementSaid : Prop := fnExactIsPlacementRow.holds Try.pinned (OpenSpec.ofChange fnExactIsPlacementSpec)

/-- ITS FALSE NEIGHBOUR: 'it returns false'. Refute it at one input. -/
def fnExactIsPlacementWrong : ChangeSpec := { name := "fnExactIsPlacement", fn := fun _ => fun
  | [d1, d2, d3] => { results := [.lit (.bool false)], args := [d1, d2, d3] }
  | _ => none }
def FnExactIsPlacementWrongFalsely : Prop := fnExactIsPlacementRow.holds Try.pinned (OpenSpec.ofChange fnExactIsPlacementWrong)

/-- 'laws.FnExactCountPlacements': WHATEVER THE INPUT: true; the input reads as it did. -/
def fnExactCountPlacementsSpec : ChangeSpec := { name := "fnExactCountPlacements", fn := fun _ => fun
  | [d1, d2] => { results := [.lit (.bool true)], args := [d1, d2] }
  | _ => none }
def fnExactCountPlacementsRow : OpenClaim := { program := "ytgmhogdkfonkcaa", sum := "f032c5bf2f0542e9c2cabd92dd7a3a5a353046886042c7370c34c9f56288ec96", func := "loop.example/g00948/laws.FnExactCountPlacements", spec := "fnExactCountPlacements", unfollowed := true, recurses := true, apart := false }
def FnExactCountPlacementsSaid : Prop := fnExactCountPlacementsRow.holds Try.pinned (OpenSpec.ofChange fnExactCountPlacementsSpec)

/-- ITS FALSE NEIGHBOUR: 'it returns false'. Refute it at one input. -/
def fnExactCountPlacementsWrong : ChangeSpec := { name := "fnExactCountPlacements", fn := fun _ => fun
  | [d1, d2] => { results := [.lit (.bool false)], args := [d1, d2] }
  | _ => none }
def FnExactCountPlacementsWrongFalsely : Prop := fnExactCountPlacementsRow.holds Try.pinned (OpenSpec.ofChange fnExactCountPlacementsWrong)

/-- 'laws.FnExactGreedyPlacement': WHATEVER THE INPUT: true; the input reads as it did. -/
def fnExactGreedyPlacementSpec : ChangeSpec := { name := "fnExactGreedyPlacement", fn := fun _ => fun
  | [d1, d2] => { results := [.lit (.bool true)], args := [d1, d2] }
  | _ => none }
def fnExactGreedyPlacementRow : OpenClaim := { program := "ytgmhogdkfonkcaa", sum := "f032c5bf2f0542e9c2cabd92dd7a3a5a353046886042c7370c34c9f56288ec96", func := "loop.example/g00948/laws.FnExactGreedyPlacement", spec := "fnExactGreedyPlacement", apart := false }
def FnExactGreedyPlacementSaid : Prop := fnExactGreedyPlacementRow.holds Try.pinned (OpenSpec.ofChange fnExactGreedyPlacementSpec)

/-- ITS FALSE NEIGHBOUR: 'it returns false'. Refute it at one input. -/
def fnExactGreedyPlacementWrong : ChangeSpec := { name := "fnExactGreedyPlacement", fn := fun _ => fun
  | [d1, d2] => { results := [.lit (.bool false)], args := [d1, d2] }
  | _ => none }
def FnExactGreedyPlacementWrongFalsely : Prop := fnExactGreedyPlacementRow.holds Try.pinned (OpenSpec.ofChange fnExactGreedyPlacementWrong)

/-- 'laws.FnExactBestPlacement': WHATEVER THE INPUT: true; the input reads as it did. -/
def fnExactBestPlacementSpec : ChangeSpec := { name := "fnExactBestPlacement", fn := fun _ => fun
  | [d1, d2] => { results := [.lit (.bool true)], args := [d1, d2] }
  | _ => none }
def fnExactBestPlacementRow : OpenClaim := { program := "ytgmhogdkfonkcaa", sum := "f032c5bf2f0542e9c2cabd92dd7a3a5a353046886042c7370c34c9f56288ec96", func := "loop.example/g00948/laws.FnExactBestPlacement", spec := "fnExactBestPlacement", unfollowed := true, recurses := true, apart := false }
def FnExactBestPlacementSaid : Prop := fnExactBestPlacementRow.holds Try.pinned (OpenSpec.ofChange fnExactBestPlacementSpec)

/-- ITS FALSE NEIGHBOUR: 'it returns false'. Refute it at one input. -/
def fnExactBestPlacementWrong : ChangeSpec := { name := "fnExactBestPlacement", fn := fun _ => fun
  | [d1, d2] => { results := [.lit (.bool false)], args := [d1, d2] }
  | _ => none }
def FnExactBestPlacementWrongFalsely : Prop := fnExactBestPlacementRow.holds Try.pinned (OpenSpec.ofChange fnExactBestPlacementWrong)

/-- 'laws.FnExactFreePositions': WHATEVER THE INPUT: true; the input reads as it did. -/
def fnExactFreePositionsSpec : ChangeSpec := { name := "fnExactFreePositions", fn := fun _ => fun
  | [d1, d2, d3, d4] => { results := [.lit (.bool true)], args := [d1, d2, d3, d4] }
  | _ => none }
def fnExactFreePositionsRow : OpenClaim := { program := "ytgmhogdkfonkcaa", sum := "f032c5bf2f0542e9c2cabd92dd7a3a5a353046886042c7370c34c9f56288ec96", func := "loop.example/g00948/laws.FnExactFreePositions", spec := "fnExactFreePositions", apart := false }
def FnExactFreePositionsSaid : Prop := fnExactFreePositionsRow.holds Try.pinned (OpenSpec.ofChange fnExactFreePositionsSpec)

/-- ITS FALSE NEIGHBOUR: 'it returns false'. Refute it at one input. -/
def fnExactFreePositionsWrong : ChangeSpec := { name := "fnExactFreePositions", fn := fun _ => fun
  | [d1, d2, d3, d4] => { results := [.lit (.bool false)], args := [d1, d2, d3, d4] }
  | _ => none }
def FnExactFreePositionsWrongFalsely : Prop := fnExactFreePositionsRow.holds Try.pinned (OpenSpec.ofChange fnExactFreePositionsWrong)

/-- 'laws.FnLabels': WHATEVER THE INPUT: true; the input reads as it did. -/
def fnLabelsSpec : ChangeSpec := { name := "fnLabels", fn := fun _ => fun
  | [d] => { results := [.lit (.bool true)], args := [d] }
  | _ => none }
def fnLabelsRow : OpenClaim := { program := "ytgmhogdkfonkcaa", sum := "f032c5bf2f0542e9c2cabd92dd7a3a5a353046886042c7370c34c9f56288ec96", func := "loop.example/g00948/laws.FnLabels", spec := "fnLabels", unfollowed := true, recurses := true, apart := false }
def FnLabelsSaid : Prop := fnLabelsRow.holds Try.pinned (OpenSpec.ofChange fnLabelsSpec)

/-- ITS FALSE NEIGHBOUR: 'it returns false'. Refute it at one input. -/
def fnLabelsWrong : ChangeSpec := { name := "fnLabels", fn := fun _ => fun
  | [d] => { results := [.lit (.bool false)], args := [d] }
  | _ => none }
def FnLabelsWrongFalsely : Prop := fnLabelsRow.holds Try.pinned (OpenSpec.ofChange fnLabelsWrong)

/-- 'laws.FnPositions': WHATEVER THE INPUT: true; the input reads as it did. -/
def fnPositionsSpec : ChangeSpec := { name := "fnPositions", fn := fun _ => fun
  | [d] => { results := [.lit (.bool true)], args := [d] }
  | _ => none }
def fnPositionsRow : OpenClaim := { program := "ytgmhogdkfonkcaa", sum := "f032c5bf2f0542e9c2cabd92dd7a3a5a353046886042c7370c34c9f56288ec96", func := "loop.example/g00948/laws.FnPositions", spec := "fnPositions", apart := false }
def FnPositionsSaid : Prop := fnPositionsRow.holds Try.pinned (OpenSpec.ofChange fnPositionsSpec)

/-- ITS FALSE NEIGHBOUR: 'it returns false'. Refute it at one input. -/
def fnPositionsWrong : ChangeSpec := { name := "fnPositions", fn := fun _ => fun
  | [d] => { results := [.lit (.bool false)], args := [d] }
  | _ => none }
def FnPositionsWrongFalsely : Prop := fnPositionsRow.holds Try.pinned (OpenSpec.ofChange fnPositionsWrong)

/- THE SECOND FORM. 'bulk': how many values and letters a reading holds, each counted each time it is reached (what is shared counts as often as it is met; a slice's spare places count too). A statement '..UptoSaid' is the law's where the arguments, and the package variables that the reading takes, are together of bulk at most 1048576: NARROWER than '..Said'. Prove '..Said' where nothing that the law and all that it calls make is longer than what came in: it says more and counts as full. Else prove '..UptoSaid'. A law counts once. -/
mutual
def uptoBulk {H : Type} : DataW H → Nat
  | .lit (.string bytes) => bytes.length + 1
  | .lit _ => 1
  | .nil => 1
  | .ptr d => uptoBulk d + 1
  | .slice elems spare => uptoBulkAll elems + uptoBulkAll spare + 1
  | .agg parts => uptoBulkAll parts + 1
  | .iface _ d => uptoBulk d + 1
  | .map entries => uptoBulkEntries entries + 1
  | .held _ => 1
def uptoBulkAll {H : Type} : List (DataW H) → Nat
  | [] => 0
  | d :: r => uptoBulk d + uptoBulkAll r
def uptoBulkEntries {H : Type} : List (Lit × DataW H) → Nat
  | [] => 0
  | x :: r => uptoBulkEntry x + uptoBulkEntries r
def uptoBulkEntry {H : Type} : Lit × DataW H → Nat
  | (.string bytes, d) => bytes.length + uptoBulk d + 1
  | (_, d) => uptoBulk d + 1
 end
def uptoSmall : (H : Type) → List (DataW H) → Bool := fun _ ds => decide (uptoBulkAll ds ≤ 1048576)
def OpenSpec.upto (s : _root_.Go.ChangeSpec) : _root_.Go.OpenSpec := { _root_.Go.OpenSpec.ofChange s with cond := some uptoSmall }

/-- 'laws.FnExactLabelBox', WHERE WHAT IT READS IS OF BULK AT MOST 1048576: true; the input reads as it did. -/
def fnExactLabelBoxUptoRow : OpenClaim := { program := "ytgmhogdkfonkcaa", sum := "f032c5bf2f0542e9c2cabd92dd7a3a5a353046886042c7370c34c9f56288ec96", func := "loop.example/g00948/laws.FnExactLabelBox", spec := "fnExactLabelBox", apart := false, narrowed := true }
def FnExactLabelBoxUptoSaid : Prop := fnExactLabelBoxUptoRow.holds Try.pinned (OpenSpec.upto fnExactLabelBoxSpec)

/-- 'laws.FnExactIsPlacement', WHERE WHAT IT READS IS OF BULK AT MOST 1048576: true; the input reads as it did. -/
def fnExactIsPlacementUptoRow : OpenClaim := { program := "ytgmhogdkfonkcaa", sum := "f032c5bf2f0542e9c2cabd92dd7a3a5a353046886042c7370c34c9f56288ec96", func := "loop.example/g00948/laws.FnExactIsPlacement", spec := "fnExactIsPlacement", apart := false, narrowed := true }
def FnExactIsPlacementUptoSaid : Prop := fnExactIsPlacementUptoRow.holds Try.pinned (OpenSpec.upto fnExactIsPlacementSpec)

/-- 'laws.FnExactCountPlacements', WHERE WHAT IT READS IS OF BULK AT MOST 1048576: true; the input reads as it did. -/
def fnExactCountPlacementsUptoRow : OpenClaim := { program := "ytgmhogdkfonkcaa", sum := "f032c5bf2f0542e9c2cabd92dd7a3a5a353046886042c7370c34c9f56288ec96", func := "loop.example/g00948/laws.FnExactCountPlacements", spec := "fnExactCountPlacements", unfollowed := true, recurses := true, apart := false, narrowed := true }
def FnExactCountPlacementsUptoSaid : Prop := fnExactCountPlacementsUptoRow.holds Try.pinned (OpenSpec.upto fnExactCountPlacementsSpec)

/-- 'laws.FnExactGreedyPlacement', WHERE WHAT IT READS IS OF BULK AT MOST 1048576: true; the input reads as it did. -/
def fnExactGreedyPlacementUptoRow : OpenClaim := { program := "ytgmhogdkfonkcaa", sum := "f032c5bf2f0542e9c2cabd92dd7a3a5a353046886042c7370c34c9f56288ec96", func := "loop.example/g00948/laws.FnExactGreedyPlacement", spec := "fnExactGreedyPlacement", apart := false, narrowed := true }
def FnExactGreedyPlacementUptoSaid : Prop := fnExactGreedyPlacementUptoRow.holds Try.pinned (OpenSpec.upto fnExactGreedyPlacementSpec)

/-- 'laws.FnExactBestPlacement', WHERE WHAT IT READS IS OF BULK AT MOST 1048576: true; the input reads as it did. -/
def fnExactBestPlacementUptoRow : OpenClaim := { program := "ytgmhogdkfonkcaa", sum := "f032c5bf2f0542e9c2cabd92dd7a3a5a353046886042c7370c34c9f56288ec96", func := "loop.example/g00948/laws.FnExactBestPlacement", spec := "fnExactBestPlacement", unfollowed := true, recurses := true, apart := false, narrowed := true }
def FnExactBestPlacementUptoSaid : Prop := fnExactBestPlacementUptoRow.holds Try.pinned (OpenSpec.upto fnExactBestPlacementSpec)

/-- 'laws.FnExactFreePositions', WHERE WHAT IT READS IS OF BULK AT MOST 1048576: true; the input reads as it did. -/
def fnExactFreePositionsUptoRow : OpenClaim := { program := "ytgmhogdkfonkcaa", sum := "f032c5bf2f0542e9c2cabd92dd7a3a5a353046886042c7370c34c9f56288ec96", func := "loop.example/g00948/laws.FnExactFreePositions", spec := "fnExactFreePositions", apart := false, narrowed := true }
def FnExactFreePositionsUptoSaid : Prop := fnExactFreePositionsUptoRow.holds Try.pinned (OpenSpec.upto fnExactFreePositionsSpec)

/-- 'laws.FnLabels', WHERE WHAT IT READS IS OF BULK AT MOST 1048576: true; the input reads as it did. -/
def fnLabelsUptoRow : OpenClaim := { program := "ytgmhogdkfonkcaa", sum := "f032c5bf2f0542e9c2cabd92dd7a3a5a353046886042c7370c34c9f56288ec96", func := "loop.example/g00948/laws.FnLabels", spec := "fnLabels", unfollowed := true, recurses := true, apart := false, narrowed := true }
def FnLabelsUptoSaid : Prop := fnLabelsUptoRow.holds Try.pinned (OpenSpec.upto fnLabelsSpec)

/-- 'laws.FnPositions', WHERE WHAT IT READS IS OF BULK AT MOST 1048576: true; the input reads as it did. -/
def fnPositionsUptoRow : OpenClaim := { program := "ytgmhogdkfonkcaa", sum := "f032c5bf2f0542e9c2cabd92dd7a3a5a353046886042c7370c34c9f56288ec96", func := "loop.example/g00948/laws.FnPositions", spec := "fnPositions", apart := false, narrowed := true }
def FnPositionsUptoSaid : Prop := fnPositionsUptoRow.holds Try.pinned (OpenSpec.upto fnPositionsSpec)

end Rows
end Go.Proofs.Ytgmhogdkfonkcaa
