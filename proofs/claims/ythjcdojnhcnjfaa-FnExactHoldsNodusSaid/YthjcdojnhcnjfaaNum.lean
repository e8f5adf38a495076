import Derived.Test.YthjcdojnhcnjfaaRows
import Derived.Test.YthjcdojnhcnjfaaWords
import Derived.Test.YthjcdojnhcnjfaaArith
/- The contracts of the functions on numbers. -/
namespace Go.Proofs.Ythjcdojnhcnjfaa
set_option linter.unusedSimpArgs false
set_option linter.unusedVariables false
open Go.RowKit
attribute [local go_sem] cell_allocI frz_allocI

/-- b ≤ a ≤ c -/
def inB (a b c : Int) : Bool := decide (b ≤ a) && decide (a ≤ c)
/-- what is left of a budget -/
def szS (left n : Int) : Int := if left - n < 0 then -1 else left - n
theorem szS_le {left n : Int} (h : 0 ≤ n) : szS left n ≤ left ∨ szS left n = -1 := by unfold szS; split <;> omega
theorem szS_ok {left n : Int} (h : n ≤ left) : szS left n = left - n := by unfold szS; split <;> omega
theorem szS_no {left n : Int} (h : left < n) : szS left n = -1 := by unfold szS; split <;> omega
theorem inB_iff {a b c : Int} : inB a b c = true ↔ b ≤ a ∧ a ≤ c := by simp [inB]
theorem i_in (a b c : Int) (w : World) :
    Calls Try.prog 51 #[.int .i64 a, .int .i64 b, .int .i64 c] w fun e w' => e = .returned (.bool (inB a b c)) ∧ w = w' := by
  go_enter Try.func51, Try.ntmps51
  go_wp2
  all_goals (go_ret; refine ⟨ret_bool ?_, rfl⟩; simp [*, inB]; try omega)
theorem s_l01In (a b c : Int) (w : World) :
    Calls Try.prog 50 #[.int .i64 a, .int .i64 b, .int .i64 c] w fun e w' => e = .returned (.bool (inB a b c)) ∧ w = w' := by
  go_enter Try.func50, Try.ntmps50
  go_wp2
  all_goals (go_ret; refine ⟨ret_bool ?_, rfl⟩; simp [*, inB]; try omega)
theorem i_isValue (a : Int) (w : World) :
    Calls Try.prog 100 #[.int .i64 a] w fun e w' => e = .returned (.bool (inB a (-1000000000000) 1000000000000)) ∧ w = w' := by
  go_enter Try.func100, Try.ntmps100
  go_wp2_with (go_at_call 51; refine (i_in _ _ _ _).mono ?_; rintro e w' ⟨rfl, rfl⟩)
  go_ret
  exact ⟨rfl, rfl⟩
theorem i_isLatitude (a : Int) (w : World) :
    Calls Try.prog 85 #[.int .i64 a] w fun e w' => e = .returned (.bool (inB a (-324000) 324000)) ∧ w = w' := by
  go_enter Try.func85, Try.ntmps85
  go_wp2_with (go_at_call 51; refine (i_in _ _ _ _).mono ?_; rintro e w' ⟨rfl, rfl⟩)
  go_ret
  exact ⟨rfl, rfl⟩
theorem s_l09Latitude (a : Int) (w : World) :
    Calls Try.prog 81 #[.int .i64 a] w fun e w' => e = .returned (.bool (inB a (-324000) 324000)) ∧ w = w' := by
  go_enter Try.func81, Try.ntmps81
  go_wp2_with (go_at_call 50; refine (s_l01In _ _ _ _).mono ?_; rintro e w' ⟨rfl, rfl⟩)
  go_ret
  exact ⟨rfl, rfl⟩
end Go.Proofs.Ythjcdojnhcnjfaa
