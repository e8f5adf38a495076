/-
  No cell of these rows narrows 'for every input' (looked for: loops, veiled, ifaces, maps, wideKeys, modest, calm, conditions, laid).
  DERIVED. THE GIVEN ROWS OF THIS SEAT. 12 by the template 'for every input the law returns true; each argument reads behind the call as it read before'; 0 by the template 'total and deterministic' (their statements: YtanafhmjmfkpmaaTotals.lean).
  GIVEN WITH THE SEED: the statements are not yours to turn. If you find one false, say at which input.
  Laid BY PROGRAM, IN A SANDBOX (cutbox-rows.mjs): the forced cells as the released guide's own fill.sh prints them over the translation 41881e76bb88660f… (all of the seat's roots in one cut). By AI agents, Wed Nov 11 2026. No macro, syntax, notation, axiom, sorry.
-/
import Derived.Test.YtanafhmjmfkpmaaChecked
import GoSem.Claim
import GoSem.ClaimJoined
import GoSem.ClaimMapViews
import Derived.JoinedTies
import Derived.KernelRfl
namespace Go.Proofs.Ytanafhmjmfkpmaa
/- THE CELL 'sum', in the pinned program and in every row, IS THE sha256 OF THE DUMP (.gsa) THAT YtanafhmjmfkpmaaProg.lean LOADS. Nothing in Lean hashes anything: it is a label: what it is worth is what the hold of that sum in a sandbox is worth. -/
noncomputable def Try.pinned : Pinned := { name := "ytanafhmjmfkpmaa", sum := "41881e76bb88660fcd7734ab077b30b1bffac94e231dbfcce09fd213d2c02928", checked := Try.checked }
namespace Rows
def none {H : Type} : Left H := { results := [], args := [] }

/-- 'laws.FnExactLengthSquare': WHATEVER THE INPUT: true; the input reads as it did. -/
def fnExactLengthSquareSpec : ChangeSpec := { name := "fnExactLengthSquare", fn := fun _ => fun
  | [d] => { results := [.lit (.bool true)], args := [d] }
  | _ => none }
def fnExactLengthSquareRow : OpenClaim := { program := "ytanafhmjmfkpmaa", sum := "41881e76bb88660fcd7734ab077b30b1bffac94e231dbfcce09fd213d2c02928", func := "loop.example/g00948/laws.FnExactLengthSquare", spec := "fnExactLengthSquare", apart := false }
def FnExactLengthSquareSaid : Prop := fnExactLengthSquareRow.holds Try.pinned (OpenSpec.ofChange fnExactLengthSquareSpec)

/-- ITS FALSE NEIGHBOUR: 'it returns false'. Refute it at one input. -/
def fnExactLengthSquareWrong : ChangeSpec := { name := "fnExactLengthSquare", fn := fun _ => fun
  | [d] => { results := [.lit (.bool false)], args := [d] }
  | _ => none }
def FnExactLengthSquareWrongFalsely : Prop := fnExactLengthSquareRow.holds Try.pinned (OpenSpec.ofChange fnExactLengthSquareWrong)

/-- 'laws.FnExactDivideIntervals': WHATEVER THE INPUT: true; the input reads as it did. -/
def fnExactDivideIntervalsSpec : ChangeSpec := { name := "fnExactDivideIntervals", fn := fun _ => fun
  | [d1, d2] => { results := [.lit (.bool true)], args := [d1, d2] }
  | _ => none }
def fnExactDivideIntervalsRow : OpenClaim := { program := "ytanafhmjmfkpmaa", sum := "41881e76bb88660fcd7734ab077b30b1bffac94e231dbfcce09fd213d2c02928", func := "loop.example/g00948/laws.FnExactDivideIntervals", spec := "fnExactDivideIntervals", apart := false }
def FnExactDivideIntervalsSaid : Prop := fnExactDivideIntervalsRow.holds Try.pinned (OpenSpec.ofChange fnExactDivideIntervalsSpec)

/-- ITS FALSE NEIGHBOUR: 'it returns false'. Refute it at one input. -/
def fnExactDivideIntervalsWrong : ChangeSpec := { name := "fnExactDivideIntervals", fn := fun _ => fun
  | [d1, d2] => { results := [.lit (.bool false)], args := [d1, d2] }
  | _ => none }
def FnExactDivideIntervalsWrongFalsely : Prop := fnExactDivideIntervalsRow.holds Try.pinned (OpenSpec.ofChange fnExactDivideIntervalsWrong)

/-- 'laws.FnSums': WHATEVER THE INPUT: true; the input reads as it did. -/
def fnSumsSpec : ChangeSpec := { name := "fnSums", fn := fun _ => fun
  | [d] => { results := [.lit (.bool true)], args := [d] }
  | _ => none }
def fnSumsRow : OpenClaim := { program := "ytanafhmjmfkpmaa", sum := "41881e76bb88660fcd7734ab077b30b1bffac94e231dbfcce09fd213d2c02928", func := "loop.example/g00948/laws.FnSums", spec := "fnSums", apart := false }
def FnSumsSaid : Prop := fnSumsRow.holds Try.pinned (OpenSpec.ofChange fnSumsSpec)

/-- ITS FALSE NEIGHBOUR: 'it returns false'. Refute it at one input. -/
def fnSumsWrong : ChangeSpec := { name := "fnSums", fn := fun _ => fun
  | [d] => { results := [.lit (.bool false)], args := [d] }
  | _ => none }
def FnSumsWrongFalsely : Prop := fnSumsRow.holds Try.pinned (OpenSpec.ofChange fnSumsWrong)

/-- 'laws.FnProducts': WHATEVER THE INPUT: true; the input reads as it did. -/
def fnProductsSpec : ChangeSpec := { name := "fnProducts", fn := fun _ => fun
  | [d] => { results := [.lit (.bool true)], args := [d] }
  | _ => none }
def fnProductsRow : OpenClaim := { program := "ytanafhmjmfkpmaa", sum := "41881e76bb88660fcd7734ab077b30b1bffac94e231dbfcce09fd213d2c02928", func := "loop.example/g00948/laws.FnProducts", spec := "fnProducts", apart := false }
def FnProductsSaid : Prop := fnProductsRow.holds Try.pinned (OpenSpec.ofChange fnProductsSpec)

/-- ITS FALSE NEIGHBOUR: 'it returns false'. Refute it at one input. -/
def fnProductsWrong : ChangeSpec := { name := "fnProducts", fn := fun _ => fun
  | [d] => { results := [.lit (.bool false)], args := [d] }
  | _ => none }
def FnProductsWrongFalsely : Prop := fnProductsRow.holds Try.pinned (OpenSpec.ofChange fnProductsWrong)

/-- 'laws.FnExactTangentOf': WHATEVER THE INPUT: true; the input reads as it did. -/
def fnExactTangentOfSpec : ChangeSpec := { name := "fnExactTangentOf", fn := fun _ => fun
  | [d] => { results := [.lit (.bool true)], args := [d] }
  | _ => none }
def fnExactTangentOfRow : OpenClaim := { program := "ytanafhmjmfkpmaa", sum := "41881e76bb88660fcd7734ab077b30b1bffac94e231dbfcce09fd213d2c02928", func := "loop.example/g00948/laws.FnExactTangentOf", spec := "fnExactTangentOf", apart := false }
def FnExactTangentOfSaid : Prop := fnExactTangentOfRow.holds Try.pinned (OpenSpec.ofChange fnExactTangentOfSpec)

/-- ITS FALSE NEIGHBOUR: 'it returns false'. Refute it at one input. -/
def fnExactTangentOfWrong : ChangeSpec := { name := "fnExactTangentOf", fn := fun _ => fun
  | [d] => { results := [.lit (.bool false)], args := [d] }
  | _ => none }
def FnExactTangentOfWrongFalsely : Prop := fnExactTangentOfRow.holds Try.pinned (OpenSpec.ofChange fnExactTangentOfWrong)

/-- 'laws.FnHulls': WHATEVER THE INPUT: true; the input reads as it did. -/
def fnHullsSpec : ChangeSpec := { name := "fnHulls", fn := fun _ => fun
  | [d] => { results := [.lit (.bool true)], args := [d] }
  | _ => none }
def fnHullsRow : OpenClaim := { program := "ytanafhmjmfkpmaa", sum := "41881e76bb88660fcd7734ab077b30b1bffac94e231dbfcce09fd213d2c02928", func := "loop.example/g00948/laws.FnHulls", spec := "fnHulls", apart := false }
def FnHullsSaid : Prop := fnHullsRow.holds Try.pinned (OpenSpec.ofChange fnHullsSpec)

/-- ITS FALSE NEIGHBOUR: 'it returns false'. Refute it at one input. -/
def fnHullsWrong : ChangeSpec := { name := "fnHulls", fn := fun _ => fun
  | [d] => { results := [.lit (.bool false)], args := [d] }
  | _ => none }
def FnHullsWrongFalsely : Prop := fnHullsRow.holds Try.pinned (OpenSpec.ofChange fnHullsWrong)

/-- 'laws.FnVectors': WHATEVER THE INPUT: true; the input reads as it did. -/
def fnVectorsSpec : ChangeSpec := { name := "fnVectors", fn := fun _ => fun
  | [d] => { results := [.lit (.bool true)], args := [d] }
  | _ => none }
def fnVectorsRow : OpenClaim := { program := "ytanafhmjmfkpmaa", sum := "41881e76bb88660fcd7734ab077b30b1bffac94e231dbfcce09fd213d2c02928", func := "loop.example/g00948/laws.FnVectors", spec := "fnVectors", apart := false }
def FnVectorsSaid : Prop := fnVectorsRow.holds Try.pinned (OpenSpec.ofChange fnVectorsSpec)

/-- ITS FALSE NEIGHBOUR: 'it returns false'. Refute it at one input. -/
def fnVectorsWrong : ChangeSpec := { name := "fnVectors", fn := fun _ => fun
  | [d] => { results := [.lit (.bool false)], args := [d] }
  | _ => none }
def FnVectorsWrongFalsely : Prop := fnVectorsRow.holds Try.pinned (OpenSpec.ofChange fnVectorsWrong)

/-- 'laws.FnExactAzimuthOf': WHATEVER THE INPUT: true; the input reads as it did. -/
def fnExactAzimuthOfSpec : ChangeSpec := { name := "fnExactAzimuthOf", fn := fun _ => fun
  | [d] => { results := [.lit (.bool true)], args := [d] }
  | _ => none }
def fnExactAzimuthOfRow : OpenClaim := { program := "ytanafhmjmfkpmaa", sum := "41881e76bb88660fcd7734ab077b30b1bffac94e231dbfcce09fd213d2c02928", func := "loop.example/g00948/laws.FnExactAzimuthOf", spec := "fnExactAzimuthOf", unfollowed := true, recurses := true, apart := false }
def FnExactAzimuthOfSaid : Prop := fnExactAzimuthOfRow.holds Try.pinned (OpenSpec.ofChange fnExactAzimuthOfSpec)

/-- ITS FALSE NEIGHBOUR: 'it returns false'. Refute it at one input. -/
def fnExactAzimuthOfWrong : ChangeSpec := { name := "fnExactAzimuthOf", fn := fun _ => fun
  | [d] => { results := [.lit (.bool false)], args := [d] }
  | _ => none }
def FnExactAzimuthOfWrongFalsely : Prop := fnExactAzimuthOfRow.holds Try.pinned (OpenSpec.ofChange fnExactAzimuthOfWrong)

/-- 'laws.FnDirections': WHATEVER THE INPUT: true; the input reads as it did. -/
def fnDirectionsSpec : ChangeSpec := { name := "fnDirections", fn := fun _ => fun
  | [d] => { results := [.lit (.bool true)], args := [d] }
  | _ => none }
def fnDirectionsRow : OpenClaim := { program := "ytanafhmjmfkpmaa", sum := "41881e76bb88660fcd7734ab077b30b1bffac94e231dbfcce09fd213d2c02928", func := "loop.example/g00948/laws.FnDirections", spec := "fnDirections", apart := false }
def FnDirectionsSaid : Prop := fnDirectionsRow.holds Try.pinned (OpenSpec.ofChange fnDirectionsSpec)

/-- ITS FALSE NEIGHBOUR: 'it returns false'. Refute it at one input. -/
def fnDirectionsWrong : ChangeSpec := { name := "fnDirections", fn := fun _ => fun
  | [d] => { results := [.lit (.bool false)], args := [d] }
  | _ => none }
def FnDirectionsWrongFalsely : Prop := fnDirectionsRow.holds Try.pinned (OpenSpec.ofChange fnDirectionsWrong)

/-- 'laws.FnSky': WHATEVER THE INPUT: true; the input reads as it did. -/
def fnSkySpec : ChangeSpec := { name := "fnSky", fn := fun _ => fun
  | [d] => { results := [.lit (.bool true)], args := [d] }
  | _ => none }
def fnSkyRow : OpenClaim := { program := "ytanafhmjmfkpmaa", sum := "41881e76bb88660fcd7734ab077b30b1bffac94e231dbfcce09fd213d2c02928", func := "loop.example/g00948/laws.FnSky", spec := "fnSky", unfollowed := true, recurses := true, apart := false }
def FnSkySaid : Prop := fnSkyRow.holds Try.pinned (OpenSpec.ofChange fnSkySpec)

/-- ITS FALSE NEIGHBOUR: 'it returns false'. Refute it at one input. -/
def fnSkyWrong : ChangeSpec := { name := "fnSky", fn := fun _ => fun
  | [d] => { results := [.lit (.bool false)], args := [d] }
  | _ => none }
def FnSkyWrongFalsely : Prop := fnSkyRow.holds Try.pinned (OpenSpec.ofChange fnSkyWrong)

/-- 'laws.FnAzimuths': WHATEVER THE INPUT: true; the input reads as it did. -/
def fnAzimuthsSpec : ChangeSpec := { name := "fnAzimuths", fn := fun _ => fun
  | [d] => { results := [.lit (.bool true)], args := [d] }
  | _ => none }
def fnAzimuthsRow : OpenClaim := { program := "ytanafhmjmfkpmaa", sum := "41881e76bb88660fcd7734ab077b30b1bffac94e231dbfcce09fd213d2c02928", func := "loop.example/g00948/laws.FnAzimuths", spec := "fnAzimuths", unfollowed := true, recurses := true, apart := false }
def FnAzimuthsSaid : Prop := fnAzimuthsRow.holds Try.pinned (OpenSpec.ofChange fnAzimuthsSpec)

/-- ITS FALSE NEIGHBOUR: 'it returns false'. Refute it at one input. -/
def fnAzimuthsWrong : ChangeSpec := { name := "fnAzimuths", fn := fun _ => fun
  | [d] => { results := [.lit (.bool false)], args := [d] }
  | _ => none }
def FnAzimuthsWrongFalsely : Prop := fnAzimuthsRow.holds Try.pinned (OpenSpec.ofChange fnAzimuthsWrong)

/-- 'laws.FnSineRanges': WHATEVER THE INPUT: true; the input reads as it did. -/
def fnSineRangesSpec : ChangeSpec := { name := "fnSineRanges", fn := fun _ => fun
  | [d] => { results := [.lit (.bool true)], args := [d] }
  | _ => none }
def fnSineRangesRow : OpenClaim := { program := "ytanafhmjmfkpmaa", sum := "41881e76bb88660fcd7734ab077b30b1bffac94e231dbfcce09fd213d2c02928", func := "loop.example/g00948/laws.FnSineRanges", spec := "fnSineRanges", unfollowed := true, recurses := true, apart := false }
def FnSineRangesSaid : Prop := fnSineRangesRow.holds Try.pinned (OpenSpec.ofChange fnSineRangesSpec)

/-- ITS FALSE NEIGHBOUR: 'it returns false'. Refute it at one input. -/
def fnSineRangesWrong : ChangeSpec := { name := "fnSineRanges", fn := fun _ => fun
  | [d] => { results := [.lit (.bool false)], args := [d] }
  | _ => none }
def FnSineRangesWrongFalsely : Prop := fnSineRangesRow.holds Try.pinned (OpenSpec.ofChange fnSineRangesWrong)

/- THE SECOND FORM. 'bulk': how many values and letters a reading holds, each counted each time it is reached (what is shared counts as often as it is met; a slice's spare places count too). A statement '..UptoSaid' is the law's where the arguments, and the package variables that the reading takes, are together of bulk at most 1048576: NARROWER than '..Said'. Prove '..Said' where nothing that the law and all that it calls make is longer than what came in: it says more and counts as full. Else prove '..UptoSaid'. A law counts once. -/
mutual
def uptoBulk {H : Type} : DataW H → Nat
  | .lit (.string bytes) => bytes.length + 1
  | .lit _ => 1
  | .nil => 1
  | .ptr d => uptoBulk d + 1
  | .slice elems spare => uptoBulkAll elems + uptoBulkAll spare + 1
  | .agg parts => uptoBulkAll parts + 1
  | .iface _ d => uptoBulk d + 1
  | .map entries => uptoBulkEntries entries + 1
  | .held _ => 1
def uptoBulkAll {H : Type} : List (DataW H) → Nat
  | [] => 0
  | d :: r => uptoBulk d + uptoBulkAll r
def uptoBulkEntries {H : Type} : List (Lit × DataW H) → Nat
  | [] => 0
  | x :: r => uptoBulkEntry x + uptoBulkEntries r
def uptoBulkEntry {H : Type} : Lit × DataW H → Nat
  | (.string bytes, d) => bytes.length + uptoBulk d + 1
  | (_, d) => uptoBulk d + 1
 end
def uptoSmall : (H : Type) → List (DataW H) → Bool := fun _ ds => decide (uptoBulkAll ds ≤ 1048576)
def OpenSpec.upto (s : _root_.Go.ChangeSpec) : _root_.Go.OpenSpec := { _root_.Go.OpenSpec.ofChange s with cond := some uptoSmall }

/-- 'laws.FnExactLengthSquare', WHERE WHAT IT READS IS OF BULK AT MOST 1048576: true; the input reads as it did. -/
def fnExactLengthSquareUptoRow : OpenClaim := { program := "ytanafhmjmfkpmaa", sum := "41881e76bb88660fcd7734ab077b30b1bffac94e231dbfcce09fd213d2c02928", func := "loop.example/g00948/laws.FnExactLengthSquare", spec := "fnExactLengthSquare", apart := false, narrowed := true }
def FnExactLengthSquareUptoSaid : Prop := fnExactLengthSquareUptoRow.holds Try.pinned (OpenSpec.upto fnExactLengthSquareSpec)

/-- 'laws.FnExactDivideIntervals', WHERE WHAT IT READS IS OF BULK AT MOST 1048576: true; the input reads as it did. -/
def fnExactDivideIntervalsUptoRow : OpenClaim := { program := "ytanafhmjmfkpmaa", sum := "41881e76bb88660fcd7734ab077b30b1bffac94e231dbfcce09fd213d2c02928", func := "loop.example/g00948/laws.FnExactDivideIntervals", spec := "fnExactDivideIntervals", apart := false, narrowed := true }
def FnExactDivideIntervalsUptoSaid : Prop := fnExactDivideIntervalsUptoRow.holds Try.pinned (OpenSpec.upto fnExactDivideIntervalsSpec)

/-- 'laws.FnSums', WHERE WHAT IT READS IS OF BULK AT MOST 1048576: true; the input reads as it did. -/
def fnSumsUptoRow : OpenClaim := { program := "ytanafhmjmfkpmaa", sum := "41881e76bb88660fcd7734ab077b30b1bffac94e231dbfcce09fd213d2c02928", func := "loop.example/g00948/laws.FnSums", spec := "fnSums", apart := false, narrowed := true }
def FnSumsUptoSaid : Prop := fnSumsUptoRow.holds Try.pinned (OpenSpec.upto fnSumsSpec)

/-- 'laws.FnProducts', WHERE WHAT IT READS IS OF BULK AT MOST 1048576: true; the input reads as it did. -/
def fnProductsUptoRow : OpenClaim := { program := "ytanafhmjmfkpmaa", sum := "41881e76bb88660fcd7734ab077b30b1bffac94e231dbfcce09fd213d2c02928", func := "loop.example/g00948/laws.FnProducts", spec := "fnProducts", apart := false, narrowed := true }
def FnProductsUptoSaid : Prop := fnProductsUptoRow.holds Try.pinned (OpenSpec.upto fnProductsSpec)

/-- 'laws.FnExactTangentOf', WHERE WHAT IT READS IS OF BULK AT MOST 1048576: true; the input reads as it did. -/
def fnExactTangentOfUptoRow : OpenClaim := { program := "ytanafhmjmfkpmaa", sum := "41881e76bb88660fcd7734ab077b30b1bffac94e231dbfcce09fd213d2c02928", func := "loop.example/g00948/laws.FnExactTangentOf", spec := "fnExactTangentOf", apart := false, narrowed := true }
def FnExactTangentOfUptoSaid : Prop := fnExactTangentOfUptoRow.holds Try.pinned (OpenSpec.upto fnExactTangentOfSpec)

/-- 'laws.FnHulls', WHERE WHAT IT READS IS OF BULK AT MOST 1048576: true; the input reads as it did. -/
def fnHullsUptoRow : OpenClaim := { program := "ytanafhmjmfkpmaa", sum := "41881e76bb88660fcd7734ab077b30b1bffac94e231dbfcce09fd213d2c02928", func := "loop.example/g00948/laws.FnHulls", spec := "fnHulls", apart := false, narrowed := true }
def FnHullsUptoSaid : Prop := fnHullsUptoRow.holds Try.pinned (OpenSpec.upto fnHullsSpec)

/-- 'laws.FnVectors', WHERE WHAT IT READS IS OF BULK AT MOST 1048576: true; the input reads as it did. -/
def fnVectorsUptoRow : OpenClaim := { program := "ytanafhmjmfkpmaa", sum := "41881e76bb88660fcd7734ab077b30b1bffac94e231dbfcce09fd213d2c02928", func := "loop.example/g00948/laws.FnVectors", spec := "fnVectors", apart := false, narrowed := true }
def FnVectorsUptoSaid : Prop := fnVectorsUptoRow.holds Try.pinned (OpenSpec.upto fnVectorsSpec)

/-- 'laws.FnExactAzimuthOf', WHERE WHAT IT READS IS OF BULK AT MOST 1048576: true; the input reads as it did. -/
def fnExactAzimuthOfUptoRow : OpenClaim := { program := "ytanafhmjmfkpmaa", sum := "41881e76bb88660fcd7734ab077b30b1bffac94e231dbfcce09fd213d2c02928", func := "loop.example/g00948/laws.FnExactAzimuthOf", spec := "fnExactAzimuthOf", unfollowed := true, recurses := true, apart := false, narrowed := true }
def FnExactAzimuthOfUptoSaid : Prop := fnExactAzimuthOfUptoRow.holds Try.pinned (OpenSpec.upto fnExactAzimuthOfSpec)

/-- 'laws.FnDirections', WHERE WHAT IT READS IS OF BULK AT MOST 1048576: true; the input reads as it did. -/
def fnDirectionsUptoRow : OpenClaim := { program := "ytanafhmjmfkpmaa", sum := "41881e76bb88660fcd7734ab077b30b1bffac94e231dbfcce09fd213d2c02928", func := "loop.example/g00948/laws.FnDirections", spec := "fnDirections", apart := false, narrowed := true }
def FnDirectionsUptoSaid : Prop := fnDirectionsUptoRow.holds Try.pinned (OpenSpec.upto fnDirectionsSpec)

/-- 'laws.FnSky', WHERE WHAT IT READS IS OF BULK AT MOST 1048576: true; the input reads as it did. -/
def fnSkyUptoRow : OpenClaim := { program := "ytanafhmjmfkpmaa", sum := "41881e76bb88660fcd7734ab077b30b1bffac94e231dbfcce09fd213d2c02928", func := "loop.example/g00948/laws.FnSky", spec := "fnSky", unfollowed := true, recurses := true, apart := false, narrowed := true }
def FnSkyUptoSaid : Prop := fnSkyUptoRow.holds Try.pinned (OpenSpec.upto fnSkySpec)

/-- 'laws.FnAzimuths', WHERE WHAT IT READS IS OF BULK AT MOST 1048576: true; the input reads as it did. -/
def fnAzimuthsUptoRow : OpenClaim := { program := "ytanafhmjmfkpmaa", sum := "41881e76bb88660fcd7734ab077b30b1bffac94e231dbfcce09fd213d2c02928", func := "loop.example/g00948/laws.FnAzimuths", spec := "fnAzimuths", unfollowed := true, recurses := true, apart := false, narrowed := true }
def FnAzimuthsUptoSaid : Prop := fnAzimuthsUptoRow.holds Try.pinned (OpenSpec.upto fnAzimuthsSpec)

/-- 'laws.FnSineRanges', WHERE WHAT IT READS IS OF BULK AT MOST 1048576: true; the input reads as it did. -/
def fnSineRangesUptoRow : OpenClaim := { program := "ytanafhmjmfkpmaa", sum := "41881e76bb88660fcd7734ab077b30b1bffac94e231dbfcce09fd213d2c02928", func := "loop.example/g00948/laws.FnSineRanges", spec := "fnSineRanges", unfollowed := true, recurses := true, apart := false, narrowed := true }
def FnSineRangesUptoSaid : Prop := fnSineRangesUptoRow.holds Try.pinned (OpenSpec.upto fnSineRangesSpec)

end Rows
end Go.Proofs.Ytanafhmjmfkpmaa
