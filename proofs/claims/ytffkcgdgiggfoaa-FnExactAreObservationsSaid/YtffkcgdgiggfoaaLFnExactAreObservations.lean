import Derived.Test.YtffkcgdgiggfoaaObs
import Derived.Test.YtffkcgdgiggfoaaOpenObs
/- The walk of the law FnExactAreObservations. -/
namespace Go.Proofs.Ytffkcgdgiggfoaa
set_option linter.unusedSimpArgs false
set_option linter.unusedVariables false
open Go.RowKit
attribute [local go_sem] cell_allocI frz_allocI later_cell later_frz
attribute [local go_sem] cell_setI cell_drewI frz_drewI
set_option maxHeartbeats 1000000 in
theorem walk_FnExactAreObservations (w : World) (A : Option Addr) (n c : Nat) (f : Nat → Int) (h : RdF w A (n * 4) (fun i => .int .i64 (f i))) (hm : n ≤ maxLen) :
    Calls Try.prog 3 #[.slice A n c] w fun e w' => e = .returned (.bool true) ∧ Up w w' := by
  by_cases hn : n ≤ 1048576
  · have e1 := hide (szS_ok (left := 1048576) (n := (n : Int)) (by omega))
    go_enter Try.func3, Try.ntmps3
    go_wp2_with fail
    refine (l_szObservationS _ _ _ _ hm (by omega) (by omega) _).mono ?_
    rintro e w' ⟨rfl, rfl⟩
    rw [e1.out]
    go_wp2_with fail
    refine (l_toObservationS _ _ _ f _ h hn).mono ?_
    rintro e w1 ⟨rfl, F1, hu1⟩; obtain ⟨N1, J1, JF1, ha1, hb1, hz1, hc1, hf1⟩ := hu1.facts; (try simp only [World.size_alloc, World.size_setCell, World.heap_drewN, World.size_drew] at ha1 hb1); (try simp only [cell_drewI] at hc1); (try simp only [frz_drewI] at hf1)
    go_wp2_with (go_at_call 14; refine (s_AreObservations _ _ _ f _ F1.rdF hn).mono ?_; rintro e w2 ⟨rfl, hu2⟩; obtain ⟨N2, J2, JF2, ha2, hb2, hz2, hc2, hf2⟩ := hu2.facts; (try simp only [World.size_alloc, World.size_setCell, World.heap_drewN, World.size_drew] at ha2 hb2); (try simp only [cell_drewI] at hc2); (try simp only [frz_drewI] at hf2))
    refine (l_toObservationS _ _ _ f _ (h.up (by (repeat' (first | with_reducible exact Up.refl _ | with_reducible assumption | with_reducible refine Up.alloc ?_ _ | with_reducible refine Up.drew ?_ | with_reducible refine Up.drewN ?_ _ | with_reducible refine Up.setCell ?_ (by (try simp only [World.size_alloc, World.size_setCell, World.heap_drewN, World.size_drew]); omega) _ | (with_reducible refine Up.trans ?_ (by with_reducible assumption)))))) hn).mono ?_
    rintro e w3 ⟨rfl, F3, hu3⟩; obtain ⟨N3, J3, JF3, ha3, hb3, hz3, hc3, hf3⟩ := hu3.facts; (try simp only [World.size_alloc, World.size_setCell, World.heap_drewN, World.size_drew] at ha3 hb3); (try simp only [cell_drewI] at hc3); (try simp only [frz_drewI] at hf3)
    go_wp2_with (go_at_call 16; refine (i_AreObservations _ _ _ f _ F3.rdF hn).mono ?_; rintro e w4 ⟨rfl, hu4⟩; obtain ⟨N4, J4, JF4, ha4, hb4, hz4, hc4, hf4⟩ := hu4.facts; (try simp only [World.size_alloc, World.size_setCell, World.heap_drewN, World.size_drew] at ha4 hb4); (try simp only [cell_drewI] at hc4); (try simp only [frz_drewI] at hf4))
    refine (l_toObservationS _ _ _ f _ (h.up (by (repeat' (first | with_reducible exact Up.refl _ | with_reducible assumption | with_reducible refine Up.alloc ?_ _ | with_reducible refine Up.drew ?_ | with_reducible refine Up.drewN ?_ _ | with_reducible refine Up.setCell ?_ (by (try simp only [World.size_alloc, World.size_setCell, World.heap_drewN, World.size_drew]); omega) _ | (with_reducible refine Up.trans ?_ (by with_reducible assumption)))))) hn).mono ?_
    rintro e w5 ⟨rfl, F5, hu5⟩; obtain ⟨N5, J5, JF5, ha5, hb5, hz5, hc5, hf5⟩ := hu5.facts; (try simp only [World.size_alloc, World.size_setCell, World.heap_drewN, World.size_drew] at ha5 hb5); (try simp only [cell_drewI] at hc5); (try simp only [frz_drewI] at hf5)
    go_wp2_with (go_at_call 17; refine (l_eqObservationS _ _ _ _ _ f _ ((F3.up hu4).up hu5).rdF F5.rdF hn).mono ?_; rintro e w6 ⟨rfl, hu6⟩; obtain ⟨N6, J6, JF6, ha6, hb6, hz6, hc6, hf6⟩ := hu6.facts; (try simp only [World.size_alloc, World.size_setCell, World.heap_drewN, World.size_drew] at ha6 hb6); (try simp only [cell_drewI] at hc6); (try simp only [frz_drewI] at hf6))
    go_ret
    exact ⟨rfl, by (repeat' (first | with_reducible exact Up.refl _ | with_reducible assumption | with_reducible refine Up.alloc ?_ _ | with_reducible refine Up.drew ?_ | with_reducible refine Up.drewN ?_ _ | with_reducible refine Up.setCell ?_ (by (try simp only [World.size_alloc, World.size_setCell, World.heap_drewN, World.size_drew]); omega) _ | (with_reducible refine Up.trans ?_ (by with_reducible assumption))))⟩
  · have e1 := hide (szS_no (left := 1048576) (n := (n : Int)) (by omega))
    go_enter Try.func3, Try.ntmps3
    go_wp2_with fail
    refine (l_szObservationS _ _ _ _ hm (by omega) (by omega) _).mono ?_
    rintro e w' ⟨rfl, rfl⟩
    rw [e1.out]
    go_wp2
    go_ret
    exact ⟨rfl, Up.refl _⟩
end Go.Proofs.Ytffkcgdgiggfoaa
