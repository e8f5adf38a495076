import Derived.Test.YtffkcgdgiggfoaaNum
/- The contracts of the functions on intervals, places and faces. -/
namespace Go.Proofs.Ytffkcgdgiggfoaa
set_option linter.unusedSimpArgs false
set_option linter.unusedVariables false
open Go.RowKit
attribute [local go_sem] cell_allocI frz_allocI

def isIvB (a b : Int) : Bool := inB a (-1000000000000) 1000000000000 && inB b (-1000000000000) 1000000000000 && decide (a ≤ b)
theorem isIvB_iff {a b : Int} : isIvB a b = true ↔ (-1000000000000 ≤ a ∧ b ≤ 1000000000000 ∧ a ≤ b) := by simp [isIvB, inB]; omega
def isDeclB (a b : Int) : Bool := isIvB a b && (inB a (-324000) 324000 && inB b (-324000) 324000)
theorem isDeclB_iff {a b : Int} : isDeclB a b = true ↔ (-324000 ≤ a ∧ b ≤ 324000 ∧ a ≤ b) := by simp [isDeclB, isIvB, inB]; omega
theorem i_IsInterval (a b : Int) (w : World) :
    Calls Try.prog 161 #[.agg #[.int .i64 a, .int .i64 b]] w fun e w' => e = .returned (.bool (isIvB a b)) ∧ Up w w' := by
  go_enter Try.func161, Try.ntmps161
  go_wp2_with (go_at_call 164; refine (i_isValue _ _).mono ?_; rintro e w' ⟨rfl, rfl⟩)
  all_goals (go_ret; refine ⟨ret_bool ?_, ?_⟩; · simp [*, isIvB]
             (repeat' (first | with_reducible exact Up.refl _ | with_reducible assumption | with_reducible refine Up.alloc ?_ _ | with_reducible refine Up.drew ?_ | with_reducible refine Up.drewN ?_ _ | with_reducible refine Up.setCell ?_ (by (try simp only [World.size_alloc, World.size_setCell, World.heap_drewN, World.size_drew]); omega) _ | (with_reducible refine Up.trans ?_ (by with_reducible assumption)))))
theorem im_Interval_within (a b m : Int) (h0 : 0 ≤ m) (h1 : m ≤ 1000000000000) (w : World) :
    Calls Try.prog 134 #[.agg #[.int .i64 a, .int .i64 b], .int .i64 m] w fun e w' => e = .returned (.bool (inB a (-m) m && inB b (-m) m)) ∧ Up w w' := by
  go_enter Try.func134, Try.ntmps134
  go_wp2_with (go_at_call 80; refine (i_in _ _ _ _).mono ?_; rintro e w' ⟨rfl, rfl⟩)
  all_goals (go_ret; refine ⟨ret_bool ?_, ?_⟩; · simp [*]
             (repeat' (first | with_reducible exact Up.refl _ | with_reducible assumption | with_reducible refine Up.alloc ?_ _ | with_reducible refine Up.drew ?_ | with_reducible refine Up.drewN ?_ _ | with_reducible refine Up.setCell ?_ (by (try simp only [World.size_alloc, World.size_setCell, World.heap_drewN, World.size_drew]); omega) _ | (with_reducible refine Up.trans ?_ (by with_reducible assumption)))))
theorem im_Interval_has (a b x : Int) (w : World) :
    Calls Try.prog 87 #[.agg #[.int .i64 a, .int .i64 b], .int .i64 x] w fun e w' => e = .returned (.bool (inB x a b)) ∧ Up w w' := by
  go_enter Try.func87, Try.ntmps87
  go_wp2_with (go_at_call 80; refine (i_in _ _ _ _).mono ?_; rintro e w' ⟨rfl, rfl⟩)
  all_goals (go_ret; refine ⟨ret_bool ?_, ?_⟩; · simp [*]
             (repeat' (first | with_reducible exact Up.refl _ | with_reducible assumption | with_reducible refine Up.alloc ?_ _ | with_reducible refine Up.drew ?_ | with_reducible refine Up.drewN ?_ _ | with_reducible refine Up.setCell ?_ (by (try simp only [World.size_alloc, World.size_setCell, World.heap_drewN, World.size_drew]); omega) _ | (with_reducible refine Up.trans ?_ (by with_reducible assumption)))))
end Go.Proofs.Ytffkcgdgiggfoaa
