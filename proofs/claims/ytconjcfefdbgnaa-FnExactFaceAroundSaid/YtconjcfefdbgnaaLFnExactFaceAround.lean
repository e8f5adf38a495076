import Derived.Test.YtconjcfefdbgnaaFaceFns
import Derived.Test.YtconjcfefdbgnaaOpen
/- The walk of the law FnExactFaceAround. -/
namespace Go.Proofs.Ytconjcfefdbgnaa
open Go.RowKit
attribute [local go_sem] cell_allocI frz_allocI later_cell later_frz
theorem walk_FnExactFaceAround (w : World) (a b c d : Int) (_ua : I64 a) (_ub : I64 b) (_uc : I64 c) (_ud : I64 d) (m : Int) (_um : I64 m) :
    Calls Try.prog 8 #[.agg #[.int .i64 a, .int .i64 b, .int .i64 c, .int .i64 d], .int .i64 m] w fun e w' => e = .returned (.bool true) ∧ Up w w' := by
  go_enter Try.func8, Try.ntmps8
  go_wp2_with (first
    | (go_at_call 28; refine (l_toPlace _ _ _ _ _).mono ?_; rintro e wn ⟨rfl, hu⟩; obtain ⟨N, J, JF, hn1, hn2, hz, hc, hf⟩ := hu.facts; (try simp only [World.size_alloc, World.size_setCell, World.heap_drewN, World.size_drew] at hn1 hn2))
    | (go_at_call 27; refine (s_FaceAround _ _ _ _ _ _).mono ?_; rintro e wn ⟨rfl, hu⟩; obtain ⟨N, J, JF, hn1, hn2, hz, hc, hf⟩ := hu.facts; (try simp only [World.size_alloc, World.size_setCell, World.heap_drewN, World.size_drew] at hn1 hn2))
    | (go_at_call 29; refine (i_FaceAround _ _ _ _ _ _).mono ?_; rintro e wn ⟨rfl, hu⟩; obtain ⟨N, J, JF, hn1, hn2, hz, hc, hf⟩ := hu.facts; (try simp only [World.size_alloc, World.size_setCell, World.heap_drewN, World.size_drew] at hn1 hn2))
    | (go_at_call 30; refine (l_eqFace _ _ _ _ _).mono ?_; rintro e wn ⟨rfl, hu⟩; obtain ⟨N, J, JF, hn1, hn2, hz, hc, hf⟩ := hu.facts; (try simp only [World.size_alloc, World.size_setCell, World.heap_drewN, World.size_drew] at hn1 hn2)))
  go_ret
  refine ⟨rfl, ?_⟩
  (repeat' (first | with_reducible exact Up.refl _ | with_reducible assumption | with_reducible refine Up.alloc ?_ _ | with_reducible refine Up.drew ?_ | with_reducible refine Up.drewN ?_ _ | with_reducible refine Up.setCell ?_ (by (try simp only [World.size_alloc, World.size_setCell, World.heap_drewN, World.size_drew]); omega) _ | (with_reducible refine Up.trans ?_ (by with_reducible assumption))))
end Go.Proofs.Ytconjcfefdbgnaa
