/-
  No cell of these rows narrows 'for every input' (looked for: loops, veiled, ifaces, maps, wideKeys, modest, calm, conditions, laid).
  DERIVED. THE GIVEN ROWS OF THIS SEAT. 8 by the template 'for every input the law returns true; each argument reads behind the call as it read before'; 0 by the template 'total and deterministic' (their statements: YthjcdojnhcnjfaaTotals.lean).
  GIVEN WITH THE SEED: the statements are not yours to turn. If you find one false, say at which input.
  Laid BY PROGRAM, IN A SANDBOX (cutbox-rows.mjs): the forced cells as the released guide's own fill.sh prints them over the translation 7a4d44684f8658c9… (all of the seat's roots in one cut). By AI agents, Wed Nov 11 2026. No macro, syntax, notation, axiom, sorry.
-/
import Derived.Test.YthjcdojnhcnjfaaChecked
import GoSem.Claim
import GoSem.ClaimJoined
import GoSem.ClaimMapViews
import Derived.JoinedTies
import Derived.KernelRfl
namespace Go.Proofs.Ythjcdojnhcnjfaa
/- THE CELL 'sum', in the pinned program and in every row, IS THE sha256 OF THE DUMP (.gsa) THAT YthjcdojnhcnjfaaProg.lean LOADS. Nothing in Lean hashes anything: it is a label: what it is worth is what the hold of that sum in a sandbox is worth. -/
noncomputable def Try.pinned : Pinned := { name := "ythjcdojnhcnjfaa", sum := "7a4d44684f8658c932b1cd71b734e893caa7be7d919e720efd5f7e19ef85484b", checked := Try.checked }
namespace Rows
def none {H : Type} : Left H := { results := [], args := [] }

/-- 'laws.FnExactHoldsNodus': WHATEVER THE INPUT: true; the input reads as it did. -/
def fnExactHoldsNodusSpec : ChangeSpec := { name := "fnExactHoldsNodus", fn := fun _ => fun
  | [d] => { results := [.lit (.bool true)], args := [d] }
  | _ => none }
def fnExactHoldsNodusRow : OpenClaim := { program := "ythjcdojnhcnjfaa", sum := "7a4d44684f8658c932b1cd71b734e893caa7be7d919e720efd5f7e19ef85484b", func := "loop.example/g00948/laws.FnExactHoldsNodus", spec := "fnExactHoldsNodus", apart := false }
def FnExactHoldsNodusSaid : Prop := fnExactHoldsNodusRow.holds Try.pinned (OpenSpec.ofChange fnExactHoldsNodusSpec)

/-- ITS FALSE NEIGHBOUR: 'it returns false'. Refute it at one input. -/
def fnExactHoldsNodusWrong : ChangeSpec := { name := "fnExactHoldsNodus", fn := fun _ => fun
  | [d] => { results := [.lit (.bool false)], args := [d] }
  | _ => none }
def FnExactHoldsNodusWrongFalsely : Prop := fnExactHoldsNodusRow.holds Try.pinned (OpenSpec.ofChange fnExactHoldsNodusWrong)

/-- 'laws.FnExactMoveBody': WHATEVER THE INPUT: true; the input reads as it did. -/
def fnExactMoveBodySpec : ChangeSpec := { name := "fnExactMoveBody", fn := fun _ => fun
  | [d1, d2] => { results := [.lit (.bool true)], args := [d1, d2] }
  | _ => none }
def fnExactMoveBodyRow : OpenClaim := { program := "ythjcdojnhcnjfaa", sum := "7a4d44684f8658c932b1cd71b734e893caa7be7d919e720efd5f7e19ef85484b", func := "loop.example/g00948/laws.FnExactMoveBody", spec := "fnExactMoveBody", apart := false }
def FnExactMoveBodySaid : Prop := fnExactMoveBodyRow.holds Try.pinned (OpenSpec.ofChange fnExactMoveBodySpec)

/-- ITS FALSE NEIGHBOUR: 'it returns false'. Refute it at one input. -/
def fnExactMoveBodyWrong : ChangeSpec := { name := "fnExactMoveBody", fn := fun _ => fun
  | [d1, d2] => { results := [.lit (.bool false)], args := [d1, d2] }
  | _ => none }
def FnExactMoveBodyWrongFalsely : Prop := fnExactMoveBodyRow.holds Try.pinned (OpenSpec.ofChange fnExactMoveBodyWrong)

/-- 'laws.FnExactShadeOf': WHATEVER THE INPUT: true; the input reads as it did. -/
def fnExactShadeOfSpec : ChangeSpec := { name := "fnExactShadeOf", fn := fun _ => fun
  | [d1, d2] => { results := [.lit (.bool true)], args := [d1, d2] }
  | _ => none }
def fnExactShadeOfRow : OpenClaim := { program := "ythjcdojnhcnjfaa", sum := "7a4d44684f8658c932b1cd71b734e893caa7be7d919e720efd5f7e19ef85484b", func := "loop.example/g00948/laws.FnExactShadeOf", spec := "fnExactShadeOf", apart := false }
def FnExactShadeOfSaid : Prop := fnExactShadeOfRow.holds Try.pinned (OpenSpec.ofChange fnExactShadeOfSpec)

/-- ITS FALSE NEIGHBOUR: 'it returns false'. Refute it at one input. -/
def fnExactShadeOfWrong : ChangeSpec := { name := "fnExactShadeOf", fn := fun _ => fun
  | [d1, d2] => { results := [.lit (.bool false)], args := [d1, d2] }
  | _ => none }
def FnExactShadeOfWrongFalsely : Prop := fnExactShadeOfRow.holds Try.pinned (OpenSpec.ofChange fnExactShadeOfWrong)

/-- 'laws.FnExactShadeOfAll': WHATEVER THE INPUT: true; the input reads as it did. -/
def fnExactShadeOfAllSpec : ChangeSpec := { name := "fnExactShadeOfAll", fn := fun _ => fun
  | [d1, d2] => { results := [.lit (.bool true)], args := [d1, d2] }
  | _ => none }
def fnExactShadeOfAllRow : OpenClaim := { program := "ythjcdojnhcnjfaa", sum := "7a4d44684f8658c932b1cd71b734e893caa7be7d919e720efd5f7e19ef85484b", func := "loop.example/g00948/laws.FnExactShadeOfAll", spec := "fnExactShadeOfAll", apart := false }
def FnExactShadeOfAllSaid : Prop := fnExactShadeOfAllRow.holds Try.pinned (OpenSpec.ofChange fnExactShadeOfAllSpec)

/-- ITS FALSE NEIGHBOUR: 'it returns false'. Refute it at one input. -/
def fnExactShadeOfAllWrong : ChangeSpec := { name := "fnExactShadeOfAll", fn := fun _ => fun
  | [d1, d2] => { results := [.lit (.bool false)], args := [d1, d2] }
  | _ => none }
def FnExactShadeOfAllWrongFalsely : Prop := fnExactShadeOfAllRow.holds Try.pinned (OpenSpec.ofChange fnExactShadeOfAllWrong)

/-- 'laws.FnExactIsSite': WHATEVER THE INPUT: true; the input reads as it did. -/
def fnExactIsSiteSpec : ChangeSpec := { name := "fnExactIsSite", fn := fun _ => fun
  | [d] => { results := [.lit (.bool true)], args := [d] }
  | _ => none }
def fnExactIsSiteRow : OpenClaim := { program := "ythjcdojnhcnjfaa", sum := "7a4d44684f8658c932b1cd71b734e893caa7be7d919e720efd5f7e19ef85484b", func := "loop.example/g00948/laws.FnExactIsSite", spec := "fnExactIsSite", apart := false }
def FnExactIsSiteSaid : Prop := fnExactIsSiteRow.holds Try.pinned (OpenSpec.ofChange fnExactIsSiteSpec)

/-- ITS FALSE NEIGHBOUR: 'it returns false'. Refute it at one input. -/
def fnExactIsSiteWrong : ChangeSpec := { name := "fnExactIsSite", fn := fun _ => fun
  | [d] => { results := [.lit (.bool false)], args := [d] }
  | _ => none }
def FnExactIsSiteWrongFalsely : Prop := fnExactIsSiteRow.holds Try.pinned (OpenSpec.ofChange fnExactIsSiteWrong)

/-- 'laws.FnBodies': WHATEVER THE INPUT: true; the input reads as it did. -/
def fnBodiesSpec : ChangeSpec := { name := "fnBodies", fn := fun _ => fun
  | [d] => { results := [.lit (.bool true)], args := [d] }
  | _ => none }
def fnBodiesRow : OpenClaim := { program := "ythjcdojnhcnjfaa", sum := "7a4d44684f8658c932b1cd71b734e893caa7be7d919e720efd5f7e19ef85484b", func := "loop.example/g00948/laws.FnBodies", spec := "fnBodies", apart := false }
def FnBodiesSaid : Prop := fnBodiesRow.holds Try.pinned (OpenSpec.ofChange fnBodiesSpec)

/-- ITS FALSE NEIGHBOUR: 'it returns false'. Refute it at one input. -/
def fnBodiesWrong : ChangeSpec := { name := "fnBodies", fn := fun _ => fun
  | [d] => { results := [.lit (.bool false)], args := [d] }
  | _ => none }
def FnBodiesWrongFalsely : Prop := fnBodiesRow.holds Try.pinned (OpenSpec.ofChange fnBodiesWrong)

/-- 'laws.FnShades': WHATEVER THE INPUT: true; the input reads as it did. -/
def fnShadesSpec : ChangeSpec := { name := "fnShades", fn := fun _ => fun
  | [d] => { results := [.lit (.bool true)], args := [d] }
  | _ => none }
def fnShadesRow : OpenClaim := { program := "ythjcdojnhcnjfaa", sum := "7a4d44684f8658c932b1cd71b734e893caa7be7d919e720efd5f7e19ef85484b", func := "loop.example/g00948/laws.FnShades", spec := "fnShades", apart := false }
def FnShadesSaid : Prop := fnShadesRow.holds Try.pinned (OpenSpec.ofChange fnShadesSpec)

/-- ITS FALSE NEIGHBOUR: 'it returns false'. Refute it at one input. -/
def fnShadesWrong : ChangeSpec := { name := "fnShades", fn := fun _ => fun
  | [d] => { results := [.lit (.bool false)], args := [d] }
  | _ => none }
def FnShadesWrongFalsely : Prop := fnShadesRow.holds Try.pinned (OpenSpec.ofChange fnShadesWrong)

/-- 'laws.FnExactSkyLine': WHATEVER THE INPUT: true; the input reads as it did. -/
def fnExactSkyLineSpec : ChangeSpec := { name := "fnExactSkyLine", fn := fun _ => fun
  | [d1, d2] => { results := [.lit (.bool true)], args := [d1, d2] }
  | _ => none }
def fnExactSkyLineRow : OpenClaim := { program := "ythjcdojnhcnjfaa", sum := "7a4d44684f8658c932b1cd71b734e893caa7be7d919e720efd5f7e19ef85484b", func := "loop.example/g00948/laws.FnExactSkyLine", spec := "fnExactSkyLine", apart := false }
def FnExactSkyLineSaid : Prop := fnExactSkyLineRow.holds Try.pinned (OpenSpec.ofChange fnExactSkyLineSpec)

/-- ITS FALSE NEIGHBOUR: 'it returns false'. Refute it at one input. -/
def fnExactSkyLineWrong : ChangeSpec := { name := "fnExactSkyLine", fn := fun _ => fun
  | [d1, d2] => { results := [.lit (.bool false)], args := [d1, d2] }
  | _ => none }
def FnExactSkyLineWrongFalsely : Prop := fnExactSkyLineRow.holds Try.pinned (OpenSpec.ofChange fnExactSkyLineWrong)

/- THE SECOND FORM. 'bulk': how many values and letters a reading holds, each counted each time it is reached (what is shared counts as often as it is met; a slice's spare places count too). A statement '..UptoSaid' is the law's where the arguments, and the package variables that the reading takes, are together of bulk at most 1048576: NARROWER than '..Said'. Prove '..Said' where nothing that the law and all that it calls make is longer than what came in: it says more and counts as full. Else prove '..UptoSaid'. A law counts once. -/
mutual
def uptoBulk {H : Type} : DataW H → Nat
  | .lit (.string bytes) => bytes.length + 1
  | .lit _ => 1
  | .nil => 1
  | .ptr d => uptoBulk d + 1
  | .slice elems spare => uptoBulkAll elems + uptoBulkAll spare + 1
  | .agg parts => uptoBulkAll parts + 1
  | .iface _ d => uptoBulk d + 1
  | .map entries => uptoBulkEntries entries + 1
  | .held _ => 1
def uptoBulkAll {H : Type} : List (DataW H) → Nat
  | [] => 0
  | d :: r => uptoBulk d + uptoBulkAll r
def uptoBulkEntries {H : Type} : List (Lit × DataW H) → Nat
  | [] => 0
  | x :: r => uptoBulkEntry x + uptoBulkEntries r
def uptoBulkEntry {H : Type} : Lit × DataW H → Nat
  | (.string bytes, d) => bytes.length + uptoBulk d + 1
  | (_, d) => uptoBulk d + 1
 end
def uptoSmall : (H : Type) → List (DataW H) → Bool := fun _ ds => decide (uptoBulkAll ds ≤ 1048576)
def OpenSpec.upto (s : _root_.Go.ChangeSpec) : _root_.Go.OpenSpec := { _root_.Go.OpenSpec.ofChange s with cond := some uptoSmall }

/-- 'laws.FnExactHoldsNodus', WHERE WHAT IT READS IS OF BULK AT MOST 1048576: true; the input reads as it did. -/
def fnExactHoldsNodusUptoRow : OpenClaim := { program := "ythjcdojnhcnjfaa", sum := "7a4d44684f8658c932b1cd71b734e893caa7be7d919e720efd5f7e19ef85484b", func := "loop.example/g00948/laws.FnExactHoldsNodus", spec := "fnExactHoldsNodus", apart := false, narrowed := true }
def FnExactHoldsNodusUptoSaid : Prop := fnExactHoldsNodusUptoRow.holds Try.pinned (OpenSpec.upto fnExactHoldsNodusSpec)

/-- 'laws.FnExactMoveBody', WHERE WHAT IT READS IS OF BULK AT MOST 1048576: true; the input reads as it did. -/
def fnExactMoveBodyUptoRow : OpenClaim := { program := "ythjcdojnhcnjfaa", sum := "7a4d44684f8658c932b1cd71b734e893caa7be7d919e720efd5f7e19ef85484b", func := "loop.example/g00948/laws.FnExactMoveBody", spec := "fnExactMoveBody", apart := false, narrowed := true }
def FnExactMoveBodyUptoSaid : Prop := fnExactMoveBodyUptoRow.holds Try.pinned (OpenSpec.upto fnExactMoveBodySpec)

/-- 'laws.FnExactShadeOf', WHERE WHAT IT READS IS OF BULK AT MOST 1048576: true; the input reads as it did. -/
def fnExactShadeOfUptoRow : OpenClaim := { program := "ythjcdojnhcnjfaa", sum := "7a4d44684f8658c932b1cd71b734e893caa7be7d919e720efd5f7e19ef85484b", func := "loop.example/g00948/laws.FnExactShadeOf", spec := "fnExactShadeOf", apart := false, narrowed := true }
def FnExactShadeOfUptoSaid : Prop := fnExactShadeOfUptoRow.holds Try.pinned (OpenSpec.upto fnExactShadeOfSpec)

/-- 'laws.FnExactShadeOfAll', WHERE WHAT IT READS IS OF BULK AT MOST 1048576: true; the input reads as it did. -/
def fnExactShadeOfAllUptoRow : OpenClaim := { program := "ythjcdojnhcnjfaa", sum := "7a4d44684f8658c932b1cd71b734e893caa7be7d919e720efd5f7e19ef85484b", func := "loop.example/g00948/laws.FnExactShadeOfAll", spec := "fnExactShadeOfAll", apart := false, narrowed := true }
def FnExactShadeOfAllUptoSaid : Prop := fnExactShadeOfAllUptoRow.holds Try.pinned (OpenSpec.upto fnExactShadeOfAllSpec)

/-- 'laws.FnExactIsSite', WHERE WHAT IT READS IS OF BULK AT MOST 1048576: true; the input reads as it did. -/
def fnExactIsSiteUptoRow : OpenClaim := { program := "ythjcdojnhcnjfaa", sum := "7a4d44684f8658c932b1cd71b734e893caa7be7d919e720efd5f7e19ef85484b", func := "loop.example/g00948/laws.FnExactIsSite", spec := "fnExactIsSite", apart := false, narrowed := true }
def FnExactIsSiteUptoSaid : Prop := fnExactIsSiteUptoRow.holds Try.pinned (OpenSpec.upto fnExactIsSiteSpec)

/-- 'laws.FnBodies', WHERE WHAT IT READS IS OF BULK AT MOST 1048576: true; the input reads as it did. -/
def fnBodiesUptoRow : OpenClaim := { program := "ythjcdojnhcnjfaa", sum := "7a4d44684f8658c932b1cd71b734e893caa7be7d919e720efd5f7e19ef85484b", func := "loop.example/g00948/laws.FnBodies", spec := "fnBodies", apart := false, narrowed := true }
def FnBodiesUptoSaid : Prop := fnBodiesUptoRow.holds Try.pinned (OpenSpec.upto fnBodiesSpec)

/-- 'laws.FnShades', WHERE WHAT IT READS IS OF BULK AT MOST 1048576: true; the input reads as it did. -/
def fnShadesUptoRow : OpenClaim := { program := "ythjcdojnhcnjfaa", sum := "7a4d44684f8658c932b1cd71b734e893caa7be7d919e720efd5f7e19ef85484b", func := "loop.example/g00948/laws.FnShades", spec := "fnShades", apart := false, narrowed := true }
def FnShadesUptoSaid : Prop := fnShadesUptoRow.holds Try.pinned (OpenSpec.upto fnShadesSpec)

/-- 'laws.FnExactSkyLine', WHERE WHAT IT READS IS OF BULK AT MOST 1048576: true; the input reads as it did. -/
def fnExactSkyLineUptoRow : OpenClaim := { program := "ythjcdojnhcnjfaa", sum := "7a4d44684f8658c932b1cd71b734e893caa7be7d919e720efd5f7e19ef85484b", func := "loop.example/g00948/laws.FnExactSkyLine", spec := "fnExactSkyLine", apart := false, narrowed := true }
def FnExactSkyLineUptoSaid : Prop := fnExactSkyLineUptoRow.holds Try.pinned (OpenSpec.upto fnExactSkyLineSpec)

end Rows
end Go.Proofs.Ythjcdojnhcnjfaa
