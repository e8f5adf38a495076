/-
  No cell of these rows narrows 'for every input' (looked for: loops, veiled, ifaces, maps, wideKeys, modest, calm, conditions, laid).
  DERIVED. THE GIVEN ROWS OF THIS SEAT. 8 by the template 'for every input the law returns true; each argument reads behind the call as it read before'; 0 by the template 'total and deterministic' (their statements: YtconjcfefdbgnaaTotals.lean).
  GIVEN WITH THE SEED: the statements are not yours to turn. If you find one false, say at which input.
  Laid BY PROGRAM, IN A SANDBOX (cutbox-rows.mjs): the forced cells as the released guide's own fill.sh prints them over the translation e1c6f965e031c808… (all of the seat's roots in one cut). By AI agents, Wed Nov 11 2026. No macro, syntax, notation, axiom, sorry.
-/
import Derived.Test.YtconjcfefdbgnaaChecked
import GoSem.Claim
import GoSem.ClaimJoined
import GoSem.ClaimMapViews
import Derived.JoinedTies
import Derived.KernelRfl
namespace Go.Proofs.Ytconjcfefdbgnaa
/- THE CELL 'sum', in the pinned program and in every row, IS THE sha256 OF THE DUMP (.gsa) THAT YtconjcfefdbgnaaProg.lean LOADS. Nothing in Lean hashes anything: it is a label: what it is worth is what the hold of that sum in a sandbox is worth. -/
noncomputable def Try.pinned : Pinned := { name := "ytconjcfefdbgnaa", sum := "e1c6f965e031c8085981f7fb0294732a121355c58aad26ef0ed9d6498d2c3b03", checked := Try.checked }
namespace Rows
def none {H : Type} : Left H := { results := [], args := [] }

/-- 'laws.FnExactIsLabel': WHATEVER THE INPUT: true; the input reads as it did. -/
def fnExactIsLabelSpec : ChangeSpec := { name := "fnExactIsLabel", fn := fun _ => fun
  | [d] => { results := [.lit (.bool true)], args := [d] }
  | _ => none }
def fnExactIsLabelRow : OpenClaim := { program := "ytconjcfefdbgnaa", sum := "e1c6f965e031c8085981f7fb0294732a121355c58aad26ef0ed9d6498d2c3b03", func := "loop.example/g00948/laws.FnExactIsLabel", spec := "fnExactIsLabel", apart := false }
def FnExactIsLabelSaid : Prop := fnExactIsLabelRow.holds Try.pinned (OpenSpec.ofChange fnExactIsLabelSpec)

/-- ITS FALSE NEIGHBOUR: 'it returns false'. Refute it at one input. -/
def fnExactIsLabelWrong : ChangeSpec := { name := "fnExactIsLabel", fn := fun _ => fun
  | [d] => { results := [.lit (.bool false)], args := [d] }
  | _ => none }
def FnExactIsLabelWrongFalsely : Prop := fnExactIsLabelRow.holds Try.pinned (OpenSpec.ofChange fnExactIsLabelWrong)

/-- 'laws.FnExactIsSet': WHATEVER THE INPUT: true; the input reads as it did. -/
def fnExactIsSetSpec : ChangeSpec := { name := "fnExactIsSet", fn := fun _ => fun
  | [d] => { results := [.lit (.bool true)], args := [d] }
  | _ => none }
def fnExactIsSetRow : OpenClaim := { program := "ytconjcfefdbgnaa", sum := "e1c6f965e031c8085981f7fb0294732a121355c58aad26ef0ed9d6498d2c3b03", func := "loop.example/g00948/laws.FnExactIsSet", spec := "fnExactIsSet", apart := false }
def FnExactIsSetSaid : Prop := fnExactIsSetRow.holds Try.pinned (OpenSpec.ofChange fnExactIsSetSpec)

/-- ITS FALSE NEIGHBOUR: 'it returns false'. Refute it at one input. -/
def fnExactIsSetWrong : ChangeSpec := { name := "fnExactIsSet", fn := fun _ => fun
  | [d] => { results := [.lit (.bool false)], args := [d] }
  | _ => none }
def FnExactIsSetWrongFalsely : Prop := fnExactIsSetRow.holds Try.pinned (OpenSpec.ofChange fnExactIsSetWrong)

/-- 'laws.FnExactNoonAltitude': WHATEVER THE INPUT: true; the input reads as it did. -/
def fnExactNoonAltitudeSpec : ChangeSpec := { name := "fnExactNoonAltitude", fn := fun _ => fun
  | [d1, d2] => { results := [.lit (.bool true)], args := [d1, d2] }
  | _ => none }
def fnExactNoonAltitudeRow : OpenClaim := { program := "ytconjcfefdbgnaa", sum := "e1c6f965e031c8085981f7fb0294732a121355c58aad26ef0ed9d6498d2c3b03", func := "loop.example/g00948/laws.FnExactNoonAltitude", spec := "fnExactNoonAltitude", apart := false }
def FnExactNoonAltitudeSaid : Prop := fnExactNoonAltitudeRow.holds Try.pinned (OpenSpec.ofChange fnExactNoonAltitudeSpec)

/-- ITS FALSE NEIGHBOUR: 'it returns false'. Refute it at one input. -/
def fnExactNoonAltitudeWrong : ChangeSpec := { name := "fnExactNoonAltitude", fn := fun _ => fun
  | [d1, d2] => { results := [.lit (.bool false)], args := [d1, d2] }
  | _ => none }
def FnExactNoonAltitudeWrongFalsely : Prop := fnExactNoonAltitudeRow.holds Try.pinned (OpenSpec.ofChange fnExactNoonAltitudeWrong)

/-- 'laws.FnExactCountMinutes': WHATEVER THE INPUT: true; the input reads as it did. -/
def fnExactCountMinutesSpec : ChangeSpec := { name := "fnExactCountMinutes", fn := fun _ => fun
  | [d] => { results := [.lit (.bool true)], args := [d] }
  | _ => none }
def fnExactCountMinutesRow : OpenClaim := { program := "ytconjcfefdbgnaa", sum := "e1c6f965e031c8085981f7fb0294732a121355c58aad26ef0ed9d6498d2c3b03", func := "loop.example/g00948/laws.FnExactCountMinutes", spec := "fnExactCountMinutes", apart := false }
def FnExactCountMinutesSaid : Prop := fnExactCountMinutesRow.holds Try.pinned (OpenSpec.ofChange fnExactCountMinutesSpec)

/-- ITS FALSE NEIGHBOUR: 'it returns false'. Refute it at one input. -/
def fnExactCountMinutesWrong : ChangeSpec := { name := "fnExactCountMinutes", fn := fun _ => fun
  | [d] => { results := [.lit (.bool false)], args := [d] }
  | _ => none }
def FnExactCountMinutesWrongFalsely : Prop := fnExactCountMinutesRow.holds Try.pinned (OpenSpec.ofChange fnExactCountMinutesWrong)

/-- 'laws.FnExactHasMinute': WHATEVER THE INPUT: true; the input reads as it did. -/
def fnExactHasMinuteSpec : ChangeSpec := { name := "fnExactHasMinute", fn := fun _ => fun
  | [d1, d2] => { results := [.lit (.bool true)], args := [d1, d2] }
  | _ => none }
def fnExactHasMinuteRow : OpenClaim := { program := "ytconjcfefdbgnaa", sum := "e1c6f965e031c8085981f7fb0294732a121355c58aad26ef0ed9d6498d2c3b03", func := "loop.example/g00948/laws.FnExactHasMinute", spec := "fnExactHasMinute", apart := false }
def FnExactHasMinuteSaid : Prop := fnExactHasMinuteRow.holds Try.pinned (OpenSpec.ofChange fnExactHasMinuteSpec)

/-- ITS FALSE NEIGHBOUR: 'it returns false'. Refute it at one input. -/
def fnExactHasMinuteWrong : ChangeSpec := { name := "fnExactHasMinute", fn := fun _ => fun
  | [d1, d2] => { results := [.lit (.bool false)], args := [d1, d2] }
  | _ => none }
def FnExactHasMinuteWrongFalsely : Prop := fnExactHasMinuteRow.holds Try.pinned (OpenSpec.ofChange fnExactHasMinuteWrong)

/-- 'laws.FnExactFaceAround': WHATEVER THE INPUT: true; the input reads as it did. -/
def fnExactFaceAroundSpec : ChangeSpec := { name := "fnExactFaceAround", fn := fun _ => fun
  | [d1, d2] => { results := [.lit (.bool true)], args := [d1, d2] }
  | _ => none }
def fnExactFaceAroundRow : OpenClaim := { program := "ytconjcfefdbgnaa", sum := "e1c6f965e031c8085981f7fb0294732a121355c58aad26ef0ed9d6498d2c3b03", func := "loop.example/g00948/laws.FnExactFaceAround", spec := "fnExactFaceAround", apart := false }
def FnExactFaceAroundSaid : Prop := fnExactFaceAroundRow.holds Try.pinned (OpenSpec.ofChange fnExactFaceAroundSpec)

/-- ITS FALSE NEIGHBOUR: 'it returns false'. Refute it at one input. -/
def fnExactFaceAroundWrong : ChangeSpec := { name := "fnExactFaceAround", fn := fun _ => fun
  | [d1, d2] => { results := [.lit (.bool false)], args := [d1, d2] }
  | _ => none }
def FnExactFaceAroundWrongFalsely : Prop := fnExactFaceAroundRow.holds Try.pinned (OpenSpec.ofChange fnExactFaceAroundWrong)

/-- 'laws.FnExactCornersOf': WHATEVER THE INPUT: true; the input reads as it did. -/
def fnExactCornersOfSpec : ChangeSpec := { name := "fnExactCornersOf", fn := fun _ => fun
  | [d] => { results := [.lit (.bool true)], args := [d] }
  | _ => none }
def fnExactCornersOfRow : OpenClaim := { program := "ytconjcfefdbgnaa", sum := "e1c6f965e031c8085981f7fb0294732a121355c58aad26ef0ed9d6498d2c3b03", func := "loop.example/g00948/laws.FnExactCornersOf", spec := "fnExactCornersOf", apart := false }
def FnExactCornersOfSaid : Prop := fnExactCornersOfRow.holds Try.pinned (OpenSpec.ofChange fnExactCornersOfSpec)

/-- ITS FALSE NEIGHBOUR: 'it returns false'. Refute it at one input. -/
def fnExactCornersOfWrong : ChangeSpec := { name := "fnExactCornersOf", fn := fun _ => fun
  | [d] => { results := [.lit (.bool false)], args := [d] }
  | _ => none }
def FnExactCornersOfWrongFalsely : Prop := fnExactCornersOfRow.holds Try.pinned (OpenSpec.ofChange fnExactCornersOfWrong)

/-- 'laws.FnExactIsBody': WHATEVER THE INPUT: true; the input reads as it did. -/
def fnExactIsBodySpec : ChangeSpec := { name := "fnExactIsBody", fn := fun _ => fun
  | [d] => { results := [.lit (.bool true)], args := [d] }
  | _ => none }
def fnExactIsBodyRow : OpenClaim := { program := "ytconjcfefdbgnaa", sum := "e1c6f965e031c8085981f7fb0294732a121355c58aad26ef0ed9d6498d2c3b03", func := "loop.example/g00948/laws.FnExactIsBody", spec := "fnExactIsBody", apart := false }
def FnExactIsBodySaid : Prop := fnExactIsBodyRow.holds Try.pinned (OpenSpec.ofChange fnExactIsBodySpec)

/-- ITS FALSE NEIGHBOUR: 'it returns false'. Refute it at one input. -/
def fnExactIsBodyWrong : ChangeSpec := { name := "fnExactIsBody", fn := fun _ => fun
  | [d] => { results := [.lit (.bool false)], args := [d] }
  | _ => none }
def FnExactIsBodyWrongFalsely : Prop := fnExactIsBodyRow.holds Try.pinned (OpenSpec.ofChange fnExactIsBodyWrong)

/- THE SECOND FORM. 'bulk': how many values and letters a reading holds, each counted each time it is reached (what is shared counts as often as it is met; a slice's spare places count too). A statement '..UptoSaid' is the law's where the arguments, and the package variables that the reading takes, are together of bulk at most 1048576: NARROWER than '..Said'. Prove '..Said' where nothing that the law and all that it calls make is longer than what came in: it says more and counts as full. Else prove '..UptoSaid'. A law counts once. -/
mutual
def uptoBulk {H : Type} : DataW H → Nat
  | .lit (.string bytes) => bytes.length + 1
  | .lit _ => 1
  | .nil => 1
  | .ptr d => uptoBulk d + 1
  | .slice elems spare => uptoBulkAll elems + uptoBulkAll spare + 1
  | .agg parts => uptoBulkAll parts + 1
  | .iface _ d => uptoBulk d + 1
  | .map entries => uptoBulkEntries entries + 1
  | .held _ => 1
def uptoBulkAll {H : Type} : List (DataW H) → Nat
  | [] => 0
  | d :: r => uptoBulk d + uptoBulkAll r
def uptoBulkEntries {H : Type} : List (Lit × DataW H) → Nat
  | [] => 0
  | x :: r => uptoBulkEntry x + uptoBulkEntries r
def uptoBulkEntry {H : Type} : Lit × DataW H → Nat
  | (.string bytes, d) => bytes.length + uptoBulk d + 1
  | (_, d) => uptoBulk d + 1
 end
def uptoSmall : (H : Type) → List (DataW H) → Bool := fun _ ds => decide (uptoBulkAll ds ≤ 1048576)
def OpenSpec.upto (s : _root_.Go.ChangeSpec) : _root_.Go.OpenSpec := { _root_.Go.OpenSpec.ofChange s with cond := some uptoSmall }

/-- 'laws.FnExactIsLabel', WHERE WHAT IT READS IS OF BULK AT MOST 1048576: true; the input reads as it did. -/
def fnExactIsLabelUptoRow : OpenClaim := { program := "ytconjcfefdbgnaa", sum := "e1c6f965e031c8085981f7fb0294732a121355c58aad26ef0ed9d6498d2c3b03", func := "loop.example/g00948/laws.FnExactIsLabel", spec := "fnExactIsLabel", apart := false, narrowed := true }
def FnExactIsLabelUptoSaid : Prop := fnExactIsLabelUptoRow.holds Try.pinned (OpenSpec.upto fnExactIsLabelSpec)

/-- 'laws.FnExactIsSet', WHERE WHAT IT READS IS OF BULK AT MOST 1048576: true; the input reads as it did. -/
def fnExactIsSetUptoRow : OpenClaim := { program := "ytconjcfefdbgnaa", sum := "e1c6f965e031c8085981f7fb0294732a121355c58aad26ef0ed9d6498d2c3b03", func := "loop.example/g00948/laws.FnExactIsSet", spec := "fnExactIsSet", apart := false, narrowed := true }
def FnExactIsSetUptoSaid : Prop := fnExactIsSetUptoRow.holds Try.pinned (OpenSpec.upto fnExactIsSetSpec)

/-- 'laws.FnExactNoonAltitude', WHERE WHAT IT READS IS OF BULK AT MOST 1048576: true; the input reads as it did. -/
def fnExactNoonAltitudeUptoRow : OpenClaim := { program := "ytconjcfefdbgnaa", sum := "e1c6f965e031c8085981f7fb0294732a121355c58aad26ef0ed9d6498d2c3b03", func := "loop.example/g00948/laws.FnExactNoonAltitude", spec := "fnExactNoonAltitude", apart := false, narrowed := true }
def FnExactNoonAltitudeUptoSaid : Prop := fnExactNoonAltitudeUptoRow.holds Try.pinned (OpenSpec.upto fnExactNoonAltitudeSpec)

/-- 'laws.FnExactCountMinutes', WHERE WHAT IT READS IS OF BULK AT MOST 1048576: true; the input reads as it did. -/
def fnExactCountMinutesUptoRow : OpenClaim := { program := "ytconjcfefdbgnaa", sum := "e1c6f965e031c8085981f7fb0294732a121355c58aad26ef0ed9d6498d2c3b03", func := "loop.example/g00948/laws.FnExactCountMinutes", spec := "fnExactCountMinutes", apart := false, narrowed := true }
def FnExactCountMinutesUptoSaid : Prop := fnExactCountMinutesUptoRow.holds Try.pinned (OpenSpec.upto fnExactCountMinutesSpec)

/-- 'laws.FnExactHasMinute', WHERE WHAT IT READS IS OF BULK AT MOST 1048576: true; the input reads as it did. -/
def fnExactHasMinuteUptoRow : OpenClaim := { program := "ytconjcfefdbgnaa", sum := "e1c6f965e031c8085981f7fb0294732a121355c58aad26ef0ed9d6498d2c3b03", func := "loop.example/g00948/laws.FnExactHasMinute", spec := "fnExactHasMinute", apart := false, narrowed := true }
def FnExactHasMinuteUptoSaid : Prop := fnExactHasMinuteUptoRow.holds Try.pinned (OpenSpec.upto fnExactHasMinuteSpec)

/-- 'laws.FnExactFaceAround', WHERE WHAT IT READS IS OF BULK AT MOST 1048576: true; the input reads as it did. -/
def fnExactFaceAroundUptoRow : OpenClaim := { program := "ytconjcfefdbgnaa", sum := "e1c6f965e031c8085981f7fb0294732a121355c58aad26ef0ed9d6498d2c3b03", func := "loop.example/g00948/laws.FnExactFaceAround", spec := "fnExactFaceAround", apart := false, narrowed := true }
def FnExactFaceAroundUptoSaid : Prop := fnExactFaceAroundUptoRow.holds Try.pinned (OpenSpec.upto fnExactFaceAroundSpec)

/-- 'laws.FnExactCornersOf', WHERE WHAT IT READS IS OF BULK AT MOST 1048576: true; the input reads as it did. -/
def fnExactCornersOfUptoRow : OpenClaim := { program := "ytconjcfefdbgnaa", sum := "e1c6f965e031c8085981f7fb0294732a121355c58aad26ef0ed9d6498d2c3b03", func := "loop.example/g00948/laws.FnExactCornersOf", spec := "fnExactCornersOf", apart := false, narrowed := true }
def FnExactCornersOfUptoSaid : Prop := fnExactCornersOfUptoRow.holds Try.pinned (OpenSpec.upto fnExactCornersOfSpec)

/-- 'laws.FnExactIsBody', WHERE WHAT IT READS IS OF BULK AT MOST 1048576: true; the input reads as it did. -/
def fnExactIsBodyUptoRow : OpenClaim := { program := "ytconjcfefdbgnaa", sum := "e1c6f965e031c8085981f7fb0294732a121355c58aad26ef0ed9d6498d2c3b03", func := "loop.example/g00948/laws.FnExactIsBody", spec := "fnExactIsBody", apart := false, narrowed := true }
def FnExactIsBodyUptoSaid : Prop := fnExactIsBodyUptoRow.holds Try.pinned (OpenSpec.upto fnExactIsBodySpec)

end Rows
end Go.Proofs.Ytconjcfefdbgnaa
