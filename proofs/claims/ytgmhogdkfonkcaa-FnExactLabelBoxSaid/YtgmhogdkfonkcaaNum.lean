import Derived.Test.YtgmhogdkfonkcaaRows
import Derived.Test.YtgmhogdkfonkcaaWords
import Derived.Test.YtgmhogdkfonkcaaArith
/- The contracts of the functions on numbers. -/
namespace Go.Proofs.Ytgmhogdkfonkcaa
set_option linter.unusedSimpArgs false
set_option linter.unusedVariables false
open Go.RowKit
attribute [local go_sem] cell_allocI frz_allocI

/-- b ≤ a ≤ c -/
def inB (a b c : Int) : Bool := decide (b ≤ a) && decide (a ≤ c)
/-- what is left of a budget -/
def szS (left n : Int) : Int := if left - n < 0 then -1 else left - n
theorem szS_le {left n : Int} (h : 0 ≤ n) : szS left n ≤ left ∨ szS left n = -1 := by unfold szS; split <;> omega
theorem szS_ok {left n : Int} (h : n ≤ left) : szS left n = left - n := by unfold szS; split <;> omega
theorem szS_no {left n : Int} (h : left < n) : szS left n = -1 := by unfold szS; split <;> omega
theorem inB_iff {a b c : Int} : inB a b c = true ↔ b ≤ a ∧ a ≤ c := by simp [inB]
theorem i_in (a b c : Int) (w : World) :
    Calls Try.prog 49 #[.int .i64 a, .int .i64 b, .int .i64 c] w fun e w' => e = .returned (.bool (inB a b c)) ∧ w = w' := by
  go_enter Try.func49, Try.ntmps49
  go_wp2
  all_goals (go_ret; refine ⟨ret_bool ?_, rfl⟩; simp [*, inB]; try omega)
theorem s_l01In (a b c : Int) (w : World) :
    Calls Try.prog 45 #[.int .i64 a, .int .i64 b, .int .i64 c] w fun e w' => e = .returned (.bool (inB a b c)) ∧ w = w' := by
  go_enter Try.func45, Try.ntmps45
  go_wp2
  all_goals (go_ret; refine ⟨ret_bool ?_, rfl⟩; simp [*, inB]; try omega)
theorem i_isSpot (a : Int) (w : World) :
    Calls Try.prog 73 #[.int .i64 a] w fun e w' => e = .returned (.bool (inB a (-1000000) 1000000)) ∧ w = w' := by
  go_enter Try.func73, Try.ntmps73
  go_wp2_with (go_at_call 49; refine (i_in _ _ _ _).mono ?_; rintro e w' ⟨rfl, rfl⟩)
  go_ret
  exact ⟨rfl, rfl⟩
theorem s_l14Point (a b : Int) (w : World) :
    Calls Try.prog 70 #[.int .i64 a, .int .i64 b] w fun e w' => e = .returned (.bool (inB a (-1000000) 1000000 && inB b (-1000000) 1000000)) ∧ w = w' := by
  go_enter Try.func70, Try.ntmps70
  go_wp2_with (go_at_call 45; refine (s_l01In _ _ _ _).mono ?_; rintro e w' ⟨rfl, rfl⟩)
  all_goals (go_ret; refine ⟨ret_bool ?_, rfl⟩; simp [*])
end Go.Proofs.Ytgmhogdkfonkcaa
