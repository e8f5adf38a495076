import Derived.Test.YtffkcgdgiggfoaaRows
import Derived.Test.YtffkcgdgiggfoaaWords
import Derived.Test.YtffkcgdgiggfoaaArith
/- The contracts of the functions on numbers. -/
namespace Go.Proofs.Ytffkcgdgiggfoaa
set_option linter.unusedSimpArgs false
set_option linter.unusedVariables false
open Go.RowKit
attribute [local go_sem] cell_allocI frz_allocI

/-- b ≤ a ≤ c -/
def inB (a b c : Int) : Bool := decide (b ≤ a) && decide (a ≤ c)
/-- what is left of a budget -/
def szS (left n : Int) : Int := if left - n < 0 then -1 else left - n
theorem szS_le {left n : Int} (h : 0 ≤ n) : szS left n ≤ left ∨ szS left n = -1 := by unfold szS; split <;> omega
theorem szS_ok {left n : Int} (h : n ≤ left) : szS left n = left - n := by unfold szS; split <;> omega
theorem szS_no {left n : Int} (h : left < n) : szS left n = -1 := by unfold szS; split <;> omega
theorem inB_iff {a b c : Int} : inB a b c = true ↔ b ≤ a ∧ a ≤ c := by simp [inB]
theorem i_in (a b c : Int) (w : World) :
    Calls Try.prog 80 #[.int .i64 a, .int .i64 b, .int .i64 c] w fun e w' => e = .returned (.bool (inB a b c)) ∧ w = w' := by
  go_enter Try.func80, Try.ntmps80
  go_wp2
  all_goals (go_ret; refine ⟨ret_bool ?_, rfl⟩; simp [*, inB]; try omega)
theorem s_l01In (a b c : Int) (w : World) :
    Calls Try.prog 83 #[.int .i64 a, .int .i64 b, .int .i64 c] w fun e w' => e = .returned (.bool (inB a b c)) ∧ w = w' := by
  go_enter Try.func83, Try.ntmps83
  go_wp2
  all_goals (go_ret; refine ⟨ret_bool ?_, rfl⟩; simp [*, inB]; try omega)
theorem i_isValue (a : Int) (w : World) :
    Calls Try.prog 164 #[.int .i64 a] w fun e w' => e = .returned (.bool (inB a (-1000000000000) 1000000000000)) ∧ w = w' := by
  go_enter Try.func164, Try.ntmps164
  go_wp2_with (go_at_call 80; refine (i_in _ _ _ _).mono ?_; rintro e w' ⟨rfl, rfl⟩)
  go_ret
  exact ⟨rfl, rfl⟩
theorem i_isSpot (a : Int) (w : World) :
    Calls Try.prog 86 #[.int .i64 a] w fun e w' => e = .returned (.bool (inB a (-1000000) 1000000)) ∧ w = w' := by
  go_enter Try.func86, Try.ntmps86
  go_wp2_with (go_at_call 80; refine (i_in _ _ _ _).mono ?_; rintro e w' ⟨rfl, rfl⟩)
  go_ret
  exact ⟨rfl, rfl⟩
theorem i_isMinute (a : Int) (w : World) :
    Calls Try.prog 160 #[.int .i64 a] w fun e w' => e = .returned (.bool (inB a 0 1439)) ∧ w = w' := by
  go_enter Try.func160, Try.ntmps160
  go_wp2_with (go_at_call 80; refine (i_in _ _ _ _).mono ?_; rintro e w' ⟨rfl, rfl⟩)
  go_ret
  exact ⟨rfl, rfl⟩
theorem s_l09Minute (a : Int) (w : World) :
    Calls Try.prog 157 #[.int .i64 a] w fun e w' => e = .returned (.bool (inB a 0 1439)) ∧ w = w' := by
  go_enter Try.func157, Try.ntmps157
  go_wp2_with (go_at_call 83; refine (s_l01In _ _ _ _).mono ?_; rintro e w' ⟨rfl, rfl⟩)
  go_ret
  exact ⟨rfl, rfl⟩
theorem i_isLatitude (a : Int) (w : World) :
    Calls Try.prog 147 #[.int .i64 a] w fun e w' => e = .returned (.bool (inB a (-324000) 324000)) ∧ w = w' := by
  go_enter Try.func147, Try.ntmps147
  go_wp2_with (go_at_call 80; refine (i_in _ _ _ _).mono ?_; rintro e w' ⟨rfl, rfl⟩)
  go_ret
  exact ⟨rfl, rfl⟩
theorem s_l09Latitude (a : Int) (w : World) :
    Calls Try.prog 143 #[.int .i64 a] w fun e w' => e = .returned (.bool (inB a (-324000) 324000)) ∧ w = w' := by
  go_enter Try.func143, Try.ntmps143
  go_wp2_with (go_at_call 83; refine (s_l01In _ _ _ _).mono ?_; rintro e w' ⟨rfl, rfl⟩)
  go_ret
  exact ⟨rfl, rfl⟩
theorem s_l14Point (a b : Int) (w : World) :
    Calls Try.prog 88 #[.int .i64 a, .int .i64 b] w fun e w' => e = .returned (.bool (inB a (-1000000) 1000000 && inB b (-1000000) 1000000)) ∧ w = w' := by
  go_enter Try.func88, Try.ntmps88
  go_wp2_with (go_at_call 83; refine (s_l01In _ _ _ _).mono ?_; rintro e w' ⟨rfl, rfl⟩)
  all_goals (go_ret; refine ⟨ret_bool ?_, rfl⟩; simp [*])
end Go.Proofs.Ytffkcgdgiggfoaa
