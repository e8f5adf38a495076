import Derived.Test.YtconjcfefdbgnaaFaceFns
import Derived.Test.YtconjcfefdbgnaaSlices
import Derived.Test.YtconjcfefdbgnaaOpen
/- The walk of the law FnExactCornersOf. -/
namespace Go.Proofs.Ytconjcfefdbgnaa
open Go.RowKit
attribute [local go_sem] cell_allocI frz_allocI later_cell later_frz
theorem walk_FnExactCornersOf (w : World) (a b c d : Int) (_ua : I64 a) (_ub : I64 b) (_uc : I64 c) (_ud : I64 d) :
    Calls Try.prog 9 #[.agg #[.int .i64 a, .int .i64 b, .int .i64 c, .int .i64 d]] w fun e w' => e = .returned (.bool true) ∧ Up w w' := by
  by_cases hF : isFaceB a b c d = true
  · go_enter Try.func9, Try.ntmps9
    go_wp2_with (go_at_call 32; refine (l_toFace _ _ _ _ _).mono ?_; rintro e wn ⟨rfl, hu⟩; obtain ⟨N, J, JF, hn1, hn2, hz, hc, hf⟩ := hu.facts; (try simp only [World.size_alloc, World.size_setCell, World.heap_drewN, World.size_drew] at hn1 hn2))
    refine (s_CornersOf_yes _ _ _ _ hF _).mono ?_
    rintro e w1 ⟨gs, rfl, l1, F1, hu⟩; obtain ⟨N, J, JF, hn1, hn2, hz, hc, hf⟩ := hu.facts; (try simp only [World.size_alloc, World.size_setCell, World.heap_drewN, World.size_drew] at hn1 hn2)
    go_wp2_with (go_at_call 32; refine (l_toFace _ _ _ _ _).mono ?_; rintro e wn ⟨rfl, hu⟩; obtain ⟨N, J, JF, hn1, hn2, hz, hc, hf⟩ := hu.facts; (try simp only [World.size_alloc, World.size_setCell, World.heap_drewN, World.size_drew] at hn1 hn2))
    have F1 := F1.up hu
    have q1 := F1.lt
    refine (i_CornersOf_yes _ _ _ _ hF _).mono ?_
    rintro e w2 ⟨gi, rfl, l2, F2, hu⟩; obtain ⟨N, J, JF, hn1, hn2, hz, hc, hf⟩ := hu.facts; (try simp only [World.size_alloc, World.size_setCell, World.heap_drewN, World.size_drew] at hn1 hn2)
    have F1 := F1.up hu
    have hne : gs < gi := Nat.lt_of_lt_of_le q1 l2
    clear q1
    go_wp2_with fail
    refine (l_eqPointS _ _ 4 _ _ (cornersF a b c d) _ F2.rdF F1.rdF (by omega)).mono ?_
    rintro e w3 ⟨rfl, hu⟩; obtain ⟨N, J, JF, hn1, hn2, hz, hc, hf⟩ := hu.facts; (try simp only [World.size_alloc, World.size_setCell, World.heap_drewN, World.size_drew] at hn1 hn2)
    have F1 := F1.up hu
    have F2 := F2.up hu
    have hU : Up (w.alloc (.cells #[.int .i64 a, .int .i64 b, .int .i64 c, .int .i64 d] 61)) w3 := by (repeat' (first | with_reducible exact Up.refl _ | with_reducible assumption | with_reducible refine Up.alloc ?_ _ | with_reducible refine Up.drew ?_ | with_reducible refine Up.drewN ?_ _ | with_reducible refine Up.setCell ?_ (by (try simp only [World.size_alloc, World.size_setCell, World.heap_drewN, World.size_drew]); omega) _ | (with_reducible refine Up.trans ?_ (by with_reducible assumption))))
    go_wp2_with fail
    refine (l_markPointS gi 4 _ _ _ _ F2 (by omega) (by omega) (by omega)).mono ?_
    rintro e w4 ⟨rfl, F2, hg⟩
    have F1 := F1.grown hg (by simp; omega)
    have hu := hU.only hg (by simp only [World.size_alloc, World.size_setCell, World.heap_drewN, World.size_drew]; omega); clear hU; obtain ⟨N, J, JF, hn1, hn2, hz, hc, hf⟩ := hu.facts; (try simp only [World.size_alloc, World.size_setCell, World.heap_drewN, World.size_drew] at hn1 hn2)
    go_wp2_with fail
    refine (l_heldPointS gi 4 _ _ _ F2 (by omega) (by omega) (by omega)).mono ?_
    rintro e w' ⟨rfl, rfl⟩
    go_wp2_with (go_at_call 32; refine (l_toFace _ _ _ _ _).mono ?_; rintro e wn ⟨rfl, hu⟩; obtain ⟨N, J, JF, hn1, hn2, hz, hc, hf⟩ := hu.facts; (try simp only [World.size_alloc, World.size_setCell, World.heap_drewN, World.size_drew] at hn1 hn2))
    have F1 := F1.up hu
    have F2 := F2.up hu
    refine (i_CornersOf_yes _ _ _ _ hF _).mono ?_
    rintro e w5 ⟨gh, rfl, l3, F3, hu⟩; obtain ⟨N, J, JF, hn1, hn2, hz, hc, hf⟩ := hu.facts; (try simp only [World.size_alloc, World.size_setCell, World.heap_drewN, World.size_drew] at hn1 hn2)
    have F1 := F1.up hu
    have F2 := F2.up hu
    go_wp2_with fail
    refine (l_eqPointS _ _ 4 _ _ (cornersF a b c d) _ F3.rdF F1.rdF (by omega)).mono ?_
    rintro e w6 ⟨rfl, hu⟩; obtain ⟨N, J, JF, hn1, hn2, hz, hc, hf⟩ := hu.facts; (try simp only [World.size_alloc, World.size_setCell, World.heap_drewN, World.size_drew] at hn1 hn2)
    have F2 := F2.up hu
    go_wp2_with fail
    refine (l_heldPointS gi 4 _ _ _ F2 (by omega) (by omega) (by omega)).mono ?_
    rintro e w' ⟨rfl, rfl⟩
    go_wp2
    go_ret
    refine ⟨rfl, ?_⟩
    (repeat' (first | with_reducible exact Up.refl _ | with_reducible assumption | with_reducible refine Up.alloc ?_ _ | with_reducible refine Up.drew ?_ | with_reducible refine Up.drewN ?_ _ | with_reducible refine Up.setCell ?_ (by (try simp only [World.size_alloc, World.size_setCell, World.heap_drewN, World.size_drew]); omega) _ | (with_reducible refine Up.trans ?_ (by with_reducible assumption))))
  · have hF : isFaceB a b c d = false := by simpa using hF
    go_enter Try.func9, Try.ntmps9
    go_wp2_with (first
      | (go_at_call 32; refine (l_toFace _ _ _ _ _).mono ?_; rintro e wn ⟨rfl, hu⟩; obtain ⟨N, J, JF, hn1, hn2, hz, hc, hf⟩ := hu.facts; (try simp only [World.size_alloc, World.size_setCell, World.heap_drewN, World.size_drew] at hn1 hn2))
      | (go_at_call 31; refine (s_CornersOf_no _ _ _ _ hF _).mono ?_; rintro e wn ⟨rfl, hu⟩; obtain ⟨N, J, JF, hn1, hn2, hz, hc, hf⟩ := hu.facts; (try simp only [World.size_alloc, World.size_setCell, World.heap_drewN, World.size_drew] at hn1 hn2))
      | (go_at_call 33; refine (i_CornersOf_no _ _ _ _ hF _).mono ?_; rintro e wn ⟨rfl, hu⟩; obtain ⟨N, J, JF, hn1, hn2, hz, hc, hf⟩ := hu.facts; (try simp only [World.size_alloc, World.size_setCell, World.heap_drewN, World.size_drew] at hn1 hn2))
      | (go_at_call 34; refine (l_eqPointS _ _ 0 _ _ (fun _ => 0) _ (RdF.zero _ _ _) (RdF.zero _ _ _) (by omega)).mono ?_; rintro e wn ⟨rfl, hu⟩; obtain ⟨N, J, JF, hn1, hn2, hz, hc, hf⟩ := hu.facts; (try simp only [World.size_alloc, World.size_setCell, World.heap_drewN, World.size_drew] at hn1 hn2))
      | (go_at_call 35; refine (l_markPointS_nil _ _ _ (by omega) (by omega) _).mono ?_; rintro e w' ⟨rfl, rfl⟩)
      | (go_at_call 36; refine (l_heldPointS_nil _ _ _ (by omega) (by omega) _).mono ?_; rintro e w' ⟨rfl, rfl⟩))
    go_ret
    refine ⟨rfl, ?_⟩
    (repeat' (first | with_reducible exact Up.refl _ | with_reducible assumption | with_reducible refine Up.alloc ?_ _ | with_reducible refine Up.drew ?_ | with_reducible refine Up.drewN ?_ _ | with_reducible refine Up.setCell ?_ (by (try simp only [World.size_alloc, World.size_setCell, World.heap_drewN, World.size_drew]); omega) _ | (with_reducible refine Up.trans ?_ (by with_reducible assumption))))
end Go.Proofs.Ytconjcfefdbgnaa
