import Derived.Test.YthjcdojnhcnjfaaEq
/- The contracts of the functions on points, places, faces and labels. -/
namespace Go.Proofs.Ythjcdojnhcnjfaa
set_option linter.unusedSimpArgs false
set_option linter.unusedVariables false
open Go.RowKit
attribute [local go_sem] cell_allocI frz_allocI

def spotB (a : Int) : Bool := inB a (-1000000) 1000000
def isPlaceB (a b c d : Int) : Bool := spotB a && spotB b && (spotB c && spotB d) && decide (a ≤ b) && decide (c ≤ d)
theorem isPlaceB_iff {a b c d : Int} : isPlaceB a b c d = true ↔ (-1000000 ≤ a ∧ b ≤ 1000000 ∧ a ≤ b ∧ -1000000 ≤ c ∧ d ≤ 1000000 ∧ c ≤ d) := by
  simp [isPlaceB, spotB, inB]; omega
def isFaceB (a b c d : Int) : Bool := spotB a && spotB b && spotB c && spotB d && decide (a < c) && decide (b < d)
theorem isFaceB_iff {a b c d : Int} : isFaceB a b c d = true ↔ (-1000000 ≤ a ∧ c ≤ 1000000 ∧ a < c ∧ -1000000 ≤ b ∧ d ≤ 1000000 ∧ b < d) := by
  simp [isFaceB, spotB, inB]; omega
/-- a coordinate's test -/
def coordB (a b : Int) : Bool := inB a (-1000000) b && inB b (-1000000) 1000000
theorem coordB_iff {a b : Int} : coordB a b = true ↔ (-1000000 ≤ a ∧ a ≤ b ∧ b ≤ 1000000) := by simp [coordB, inB]; omega
theorem isPlaceB_coord (a b c d : Int) : isPlaceB a b c d = (coordB a b && coordB c d) := by
  rw [Bool.eq_iff_iff, isPlaceB_iff, Bool.and_eq_true, coordB_iff, coordB_iff]; omega
def pointB (a b : Int) : Bool := inB a (-1000000) 1000000 && inB b (-1000000) 1000000
theorem isFaceB_point (a b c d : Int) : isFaceB a b c d = (pointB a b && pointB c d && decide (a < c) && decide (b < d)) := by
  rw [Bool.eq_iff_iff, isFaceB_iff]; simp [pointB, inB]; omega
/-- a label's test, 'n' the length of its text -/
def isLabelB (n : Nat) (a b : Int) : Bool := decide (1 ≤ n) && decide (n ≤ 8) && (spotB a && spotB b)
theorem isLabelB_iff {n : Nat} {a b : Int} : isLabelB n a b = true ↔ (1 ≤ n ∧ n ≤ 8 ∧ -1000000 ≤ a ∧ a ≤ 1000000 ∧ -1000000 ≤ b ∧ b ≤ 1000000) := by
  simp [isLabelB, spotB, inB]; omega
end Go.Proofs.Ythjcdojnhcnjfaa
