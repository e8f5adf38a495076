import Derived.Test.YtgmhogdkfonkcaaNum
/- The contracts of the functions on intervals, places and faces. -/
namespace Go.Proofs.Ytgmhogdkfonkcaa
set_option linter.unusedSimpArgs false
set_option linter.unusedVariables false
open Go.RowKit
attribute [local go_sem] cell_allocI frz_allocI

def isIvB (a b : Int) : Bool := inB a (-1000000000000) 1000000000000 && inB b (-1000000000000) 1000000000000 && decide (a ≤ b)
theorem isIvB_iff {a b : Int} : isIvB a b = true ↔ (-1000000000000 ≤ a ∧ b ≤ 1000000000000 ∧ a ≤ b) := by simp [isIvB, inB]; omega
def isDeclB (a b : Int) : Bool := isIvB a b && (inB a (-324000) 324000 && inB b (-324000) 324000)
theorem isDeclB_iff {a b : Int} : isDeclB a b = true ↔ (-324000 ≤ a ∧ b ≤ 324000 ∧ a ≤ b) := by simp [isDeclB, isIvB, inB]; omega
end Go.Proofs.Ytgmhogdkfonkcaa
