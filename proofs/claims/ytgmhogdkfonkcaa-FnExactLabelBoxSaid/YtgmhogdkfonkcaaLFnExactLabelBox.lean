import Derived.Test.YtgmhogdkfonkcaaLabels
import Derived.Test.YtgmhogdkfonkcaaOpen
/- The walk of the law FnExactLabelBox. -/
namespace Go.Proofs.Ytgmhogdkfonkcaa
set_option linter.unusedSimpArgs false
set_option linter.unusedVariables false
open Go.RowKit
attribute [local go_sem] cell_allocI frz_allocI later_cell later_frz
attribute [local go_sem] cell_setI cell_drewI frz_drewI
set_option maxHeartbeats 1000000 in
theorem walk_FnExactLabelBox (w : World) (s : ByteArray) (a b : Int) (hs : s.size ≤ maxLen) (_ua : I64 a) (_ub : I64 b) (k : Int) (_uk : I64 k) :
    Calls Try.prog 3 #[.agg #[.string s, .int .i64 a, .int .i64 b], .int .i64 k] w fun e w' => e = .returned (.bool true) ∧ Up w w' := by
  obtain ⟨x1, x2, x3, x4, x5, hb⟩ := boxR_shape s.size a b k
  have hS := fun w => s_LabelBox s a b k hs w
  have hI := fun w => i_LabelBox s a b k hs w
  rw [hb] at hS hI
  clear hb
  go_enter Try.func3, Try.ntmps3
  go_wp2_with (first
    | (go_at_call 11; refine (l_szLabel _ _ _ _ hs (by omega) (by omega) _).mono ?_; rintro e wn ⟨rfl, hu⟩; obtain ⟨N, J, JF, hn1, hn2, hz, hc, hf⟩ := hu.facts; (try simp only [World.size_alloc, World.size_setCell, World.heap_drewN, World.size_drew] at hn1 hn2))
    | (go_at_call 13; refine (l_toLabel _ _ _ _).mono ?_; rintro e wn ⟨rfl, hu⟩; obtain ⟨N, J, JF, hn1, hn2, hz, hc, hf⟩ := hu.facts; (try simp only [World.size_alloc, World.size_setCell, World.heap_drewN, World.size_drew] at hn1 hn2))
    | (go_at_call 12; refine (hS _).mono ?_; rintro e wn ⟨rfl, hu⟩; obtain ⟨N, J, JF, hn1, hn2, hz, hc, hf⟩ := hu.facts; (try simp only [World.size_alloc, World.size_setCell, World.heap_drewN, World.size_drew] at hn1 hn2))
    | (go_at_call 14; refine (hI _).mono ?_; rintro e wn ⟨rfl, hu⟩; obtain ⟨N, J, JF, hn1, hn2, hz, hc, hf⟩ := hu.facts; (try simp only [World.size_alloc, World.size_setCell, World.heap_drewN, World.size_drew] at hn1 hn2))
    | (go_at_call 15; refine (l_eqFace _ _ _ _ _).mono ?_; rintro e wn ⟨rfl, hu⟩; obtain ⟨N, J, JF, hn1, hn2, hz, hc, hf⟩ := hu.facts; (try simp only [World.size_alloc, World.size_setCell, World.heap_drewN, World.size_drew] at hn1 hn2)))
  all_goals (go_ret; refine ⟨rfl, ?_⟩; (repeat' (first | with_reducible exact Up.refl _ | with_reducible assumption | with_reducible refine Up.alloc ?_ _ | with_reducible refine Up.drew ?_ | with_reducible refine Up.drewN ?_ _ | with_reducible refine Up.setCell ?_ (by (try simp only [World.size_alloc, World.size_setCell, World.heap_drewN, World.size_drew]); omega) _ | (with_reducible refine Up.trans ?_ (by with_reducible assumption)))))
end Go.Proofs.Ytgmhogdkfonkcaa
