import Derived.Test.YtconjcfefdbgnaaNoon
import Derived.Test.YtconjcfefdbgnaaEq
import Derived.Test.YtconjcfefdbgnaaOpen
/- The walk of the law FnExactNoonAltitude. -/
namespace Go.Proofs.Ytconjcfefdbgnaa
open Go.RowKit
attribute [local go_sem] cell_allocI frz_allocI
theorem walk_FnExactNoonAltitude (w : World) (x : Int) (_ux : I64 x) (a b : Int) (_ua : I64 a) (_ub : I64 b) :
    Calls Try.prog 5 #[.int .i64 x, .agg #[.int .i64 a, .int .i64 b]] w fun e w' => e = .returned (.bool true) ∧ Up w w' := by
  go_enter Try.func5, Try.ntmps5
  go_wp2_with (first
    | (go_at_call 20; refine (l_toInterval _ _ _).mono ?_; rintro e wn ⟨rfl, hu⟩; obtain ⟨N, J, JF, hn1, hn2, hz, hc, hf⟩ := hu.facts; (try simp only [World.size_alloc, World.size_setCell, World.heap_drewN, World.size_drew] at hn1 hn2))
    | (go_at_call 19; refine (s_NoonAltitude _ _ _ _).mono ?_; rintro e wn ⟨rfl, hu⟩; obtain ⟨N, J, JF, hn1, hn2, hz, hc, hf⟩ := hu.facts; (try simp only [World.size_alloc, World.size_setCell, World.heap_drewN, World.size_drew] at hn1 hn2))
    | (go_at_call 21; refine (i_NoonAltitude _ _ _ _).mono ?_; rintro e wn ⟨rfl, hu⟩; obtain ⟨N, J, JF, hn1, hn2, hz, hc, hf⟩ := hu.facts; (try simp only [World.size_alloc, World.size_setCell, World.heap_drewN, World.size_drew] at hn1 hn2))
    | (go_at_call 22; refine (l_eqInterval _ _ _).mono ?_; rintro e wn ⟨rfl, hu⟩; obtain ⟨N, J, JF, hn1, hn2, hz, hc, hf⟩ := hu.facts; (try simp only [World.size_alloc, World.size_setCell, World.heap_drewN, World.size_drew] at hn1 hn2)))
  go_ret
  refine ⟨rfl, ?_⟩
  (repeat' (first | exact Up.refl _ | assumption | (refine Up.trans ?_ (by assumption)) | refine Up.alloc ?_ _ | refine Up.drew ?_ | refine Up.drewN ?_ _ | refine Up.setCell ?_ (by (try simp only [World.size_alloc, World.size_setCell, World.heap_drewN, World.size_drew]); omega) _))
end Go.Proofs.Ytconjcfefdbgnaa
