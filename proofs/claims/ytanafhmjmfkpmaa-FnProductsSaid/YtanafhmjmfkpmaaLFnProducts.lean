import Derived.Test.YtanafhmjmfkpmaaIvArith
import Derived.Test.YtanafhmjmfkpmaaDice
import Derived.Test.YtanafhmjmfkpmaaIvDraws
import Derived.Test.YtanafhmjmfkpmaaOpenB
/- The walk of the law FnProducts. -/
namespace Go.Proofs.Ytanafhmjmfkpmaa
set_option linter.unusedSimpArgs false
set_option linter.unusedVariables false
open Go.RowKit
attribute [local go_sem] cell_allocI frz_allocI later_cell later_frz
attribute [local go_sem] cell_setI cell_drewI frz_drewI
theorem tdiv_any {x y M : Int} (hy : y ≠ 0) (h1 : -M ≤ x) (h2 : x ≤ M) : -M ≤ x.tdiv y ∧ x.tdiv y ≤ M := by
  rcases Int.lt_or_gt_of_ne hy with h | h
  · exact tdiv_bdN h h1 h2
  · exact tdiv_bd h h1 h2
set_option maxRecDepth 100000 in
set_option maxHeartbeats 4000000 in
theorem walk_FnProducts (w : World) (A : Option Addr) (n c : Nat) (hR : RdB w A n) (hm : n ≤ maxLen) :
    Calls Try.prog 6 #[.slice A n c] w fun e w' => e = .returned (.bool true) ∧ Up w w' := by
  by_cases hn : n ≤ 4096
  · have g0 : decide (4096 < (n : Int)) = false := by simp; omega
    go_enter Try.func6, Try.ntmps6
    go_upto_region 6 with (first
      | (go_at_call 22; refine (l_big _ _ _ _ hm).mono ?_; rintro e w' ⟨rfl, rfl⟩)
      | (go_at_call 35; refine (s_DrawMultiplyIntervals _ _ _ w _ hR (by (repeat' (first | with_reducible exact Up.refl _ | with_reducible assumption | with_reducible refine Up.alloc ?_ _ | with_reducible refine Up.drew ?_ | with_reducible refine Up.drewN ?_ _ | with_reducible refine Up.setCell ?_ (by (try simp only [World.size_alloc, World.size_setCell, World.heap_drewN, World.size_drew]); omega) _ | (with_reducible refine Up.trans ?_ (by with_reducible assumption))))) hn).mono ?_; rintro e w1 ⟨⟨a1, b1, c1, d1, rfl, ia, ib, ic, id⟩, hu1⟩; obtain ⟨N1, J1, JF1, ha1, hb1, hz1, hc1, hf1⟩ := hu1.facts; (try simp only [World.size_alloc, World.size_setCell, World.heap_drewN, World.size_drew] at ha1 hb1); (try simp only [cell_drewI] at hc1); (try simp only [frz_drewI] at hf1))
      | (go_at_call 36; refine (i_MultiplyIntervals _ _ _ _ _).mono ?_; rintro e w2 ⟨rfl, hu2⟩; obtain ⟨N2, J2, JF2, ha2, hb2, hz2, hc2, hf2⟩ := hu2.facts; (try simp only [World.size_alloc, World.size_setCell, World.heap_drewN, World.size_drew] at ha2 hb2); (try simp only [cell_drewI] at hc2); (try simp only [frz_drewI] at hf2))
      | (go_at_call 37; refine (s_MultiplyIntervals _ _ _ _ _).mono ?_; rintro e w3 ⟨rfl, hu3⟩; obtain ⟨N3, J3, JF3, ha3, hb3, hz3, hc3, hf3⟩ := hu3.facts; (try simp only [World.size_alloc, World.size_setCell, World.heap_drewN, World.size_drew] at ha3 hb3); (try simp only [cell_drewI] at hc3); (try simp only [frz_drewI] at hf3)))
    refine wp_gen ?_
    intro W0 hW0
    have p1 : W0.cell? ⟨w1.heap.size, 0, none⟩ = some (.int .i64 a1) := by rw [hW0]; (simp [isSome_setCell, cell_setI, cell_drewI, cell_allocI, ↓IntWalk.iteOmega, *])
    have p2 : W0.cell? ⟨w1.heap.size, 1, none⟩ = some (.int .i64 b1) := by rw [hW0]; (simp [isSome_setCell, cell_setI, cell_drewI, cell_allocI, ↓IntWalk.iteOmega, *])
    have p3 : W0.cell? ⟨(w1.heap.size + 1), 0, none⟩ = some (.int .i64 c1) := by rw [hW0]; (simp [isSome_setCell, cell_setI, cell_drewI, cell_allocI, ↓IntWalk.iteOmega, *])
    have p4 : W0.cell? ⟨(w1.heap.size + 1), 1, none⟩ = some (.int .i64 d1) := by rw [hW0]; (simp [isSome_setCell, cell_setI, cell_drewI, cell_allocI, ↓IntWalk.iteOmega, *])
    have p5 : W0.cell? ⟨w2.heap.size, 0, none⟩ = some (.int .i64 (mulR a1 b1 c1 d1).1) := by rw [hW0]; (simp [isSome_setCell, cell_setI, cell_drewI, cell_allocI, ↓IntWalk.iteOmega, *])
    have p6 : W0.cell? ⟨w2.heap.size, 1, none⟩ = some (.int .i64 (mulR a1 b1 c1 d1).2.1) := by rw [hW0]; (simp [isSome_setCell, cell_setI, cell_drewI, cell_allocI, ↓IntWalk.iteOmega, *])
    have p7 : W0.cell? ⟨w3.heap.size, 0, none⟩ = some (.int .i64 (mulR a1 b1 c1 d1).1) := by rw [hW0]; (simp [isSome_setCell, cell_setI, cell_drewI, cell_allocI, ↓IntWalk.iteOmega, *])
    have p8 : W0.cell? ⟨w3.heap.size, 1, none⟩ = some (.int .i64 (mulR a1 b1 c1 d1).2.1) := by rw [hW0]; (simp [isSome_setCell, cell_setI, cell_drewI, cell_allocI, ↓IntWalk.iteOmega, *])
    have hU0 : Up w W0 := by rw [hW0]; (repeat' (first | with_reducible exact Up.refl _ | with_reducible assumption | with_reducible refine Up.alloc ?_ _ | with_reducible refine Up.drew ?_ | with_reducible refine Up.drewN ?_ _ | with_reducible refine Up.setCell ?_ (by (try simp only [World.size_alloc, World.size_setCell, World.heap_drewN, World.size_drew]); omega) _ | (with_reducible refine Up.trans ?_ (by with_reducible assumption))))
    have hs1 : w3.heap.size < W0.heap.size := by rw [hW0]; (try simp only [World.size_alloc, World.size_setCell, World.heap_drewN, World.size_drew]); omega
    have hs2 : w2.heap.size < w3.heap.size := by omega
    have hs3 : w1.heap.size + 1 < w2.heap.size := by omega
    have hs4 : w.heap.size ≤ w1.heap.size := by omega
    clear hW0 hu1 ha1 hb1 hc1 hf1 hu2 ha2 hb2 hc2 hf2 hu3 ha3 hb3 hc3 hf3
    go_upto_region 9 with (first
      | (go_at_call 38; refine (s_DrawDivideIntervals _ _ _ w _ hR (by (repeat' (first | with_reducible exact Up.refl _ | with_reducible assumption | with_reducible refine Up.alloc ?_ _ | with_reducible refine Up.drew ?_ | with_reducible refine Up.drewN ?_ _ | with_reducible refine Up.setCell ?_ (by (try simp only [World.size_alloc, World.size_setCell, World.heap_drewN, World.size_drew]); omega) _ | (with_reducible refine Up.trans ?_ (by with_reducible assumption))))) hn).mono ?_; rintro e w4 ⟨⟨a4, b4, c4, d4, rfl, ie, jf, ig, ih⟩, hu4⟩; obtain ⟨N4, J4, JF4, ha4, hb4, hz4, hc4, hf4⟩ := hu4.facts; (try simp only [World.size_alloc, World.size_setCell, World.heap_drewN, World.size_drew] at ha4 hb4); (try simp only [cell_drewI] at hc4); (try simp only [frz_drewI] at hf4))
      | (go_at_call 21; refine (i_DivideIntervals _ _ _ _ _).mono ?_; rintro e w5 ⟨rfl, hu5⟩; obtain ⟨N5, J5, JF5, ha5, hb5, hz5, hc5, hf5⟩ := hu5.facts; (try simp only [World.size_alloc, World.size_setCell, World.heap_drewN, World.size_drew] at ha5 hb5); (try simp only [cell_drewI] at hc5); (try simp only [frz_drewI] at hf5))
      | (go_at_call 19; refine (s_DivideIntervals _ _ _ _ _).mono ?_; rintro e w6 ⟨rfl, hu6⟩; obtain ⟨N6, J6, JF6, ha6, hb6, hz6, hc6, hf6⟩ := hu6.facts; (try simp only [World.size_alloc, World.size_setCell, World.heap_drewN, World.size_drew] at ha6 hb6); (try simp only [cell_drewI] at hc6); (try simp only [frz_drewI] at hf6)))
    refine wp_gen ?_
    intro W1 hW1
    have q1 : W1.cell? ⟨w1.heap.size, 0, none⟩ = some (.int .i64 a1) := by rw [hW1]; (simp [isSome_setCell, cell_setI, cell_drewI, cell_allocI, ↓IntWalk.iteOmega, *])
    have q2 : W1.cell? ⟨w1.heap.size, 1, none⟩ = some (.int .i64 b1) := by rw [hW1]; (simp [isSome_setCell, cell_setI, cell_drewI, cell_allocI, ↓IntWalk.iteOmega, *])
    have q3 : W1.cell? ⟨(w1.heap.size + 1), 0, none⟩ = some (.int .i64 c1) := by rw [hW1]; (simp [isSome_setCell, cell_setI, cell_drewI, cell_allocI, ↓IntWalk.iteOmega, *])
    have q4 : W1.cell? ⟨(w1.heap.size + 1), 1, none⟩ = some (.int .i64 d1) := by rw [hW1]; (simp [isSome_setCell, cell_setI, cell_drewI, cell_allocI, ↓IntWalk.iteOmega, *])
    have q5 : W1.cell? ⟨w2.heap.size, 0, none⟩ = some (.int .i64 (mulR a1 b1 c1 d1).1) := by rw [hW1]; (simp [isSome_setCell, cell_setI, cell_drewI, cell_allocI, ↓IntWalk.iteOmega, *])
    have q6 : W1.cell? ⟨w2.heap.size, 1, none⟩ = some (.int .i64 (mulR a1 b1 c1 d1).2.1) := by rw [hW1]; (simp [isSome_setCell, cell_setI, cell_drewI, cell_allocI, ↓IntWalk.iteOmega, *])
    have q7 : W1.cell? ⟨w3.heap.size, 0, none⟩ = some (.int .i64 (mulR a1 b1 c1 d1).1) := by rw [hW1]; (simp [isSome_setCell, cell_setI, cell_drewI, cell_allocI, ↓IntWalk.iteOmega, *])
    have q8 : W1.cell? ⟨w3.heap.size, 1, none⟩ = some (.int .i64 (mulR a1 b1 c1 d1).2.1) := by rw [hW1]; (simp [isSome_setCell, cell_setI, cell_drewI, cell_allocI, ↓IntWalk.iteOmega, *])
    have r1 : W1.cell? ⟨w4.heap.size, 0, none⟩ = some (.int .i64 a4) := by rw [hW1]; (simp [isSome_setCell, cell_setI, cell_drewI, cell_allocI, ↓IntWalk.iteOmega, *])
    have r2 : W1.cell? ⟨w4.heap.size, 1, none⟩ = some (.int .i64 b4) := by rw [hW1]; (simp [isSome_setCell, cell_setI, cell_drewI, cell_allocI, ↓IntWalk.iteOmega, *])
    have r3 : W1.cell? ⟨(w4.heap.size + 1), 0, none⟩ = some (.int .i64 c4) := by rw [hW1]; (simp [isSome_setCell, cell_setI, cell_drewI, cell_allocI, ↓IntWalk.iteOmega, *])
    have r4 : W1.cell? ⟨(w4.heap.size + 1), 1, none⟩ = some (.int .i64 d4) := by rw [hW1]; (simp [isSome_setCell, cell_setI, cell_drewI, cell_allocI, ↓IntWalk.iteOmega, *])
    have r5 : W1.cell? ⟨w5.heap.size, 0, none⟩ = some (.int .i64 (divR a4 b4 c4 d4).1) := by rw [hW1]; (simp [isSome_setCell, cell_setI, cell_drewI, cell_allocI, ↓IntWalk.iteOmega, *])
    have r6 : W1.cell? ⟨w5.heap.size, 1, none⟩ = some (.int .i64 (divR a4 b4 c4 d4).2.1) := by rw [hW1]; (simp [isSome_setCell, cell_setI, cell_drewI, cell_allocI, ↓IntWalk.iteOmega, *])
    have r7 : W1.cell? ⟨w6.heap.size, 0, none⟩ = some (.int .i64 (divR a4 b4 c4 d4).1) := by rw [hW1]; (simp [isSome_setCell, cell_setI, cell_drewI, cell_allocI, ↓IntWalk.iteOmega, *])
    have r8 : W1.cell? ⟨w6.heap.size, 1, none⟩ = some (.int .i64 (divR a4 b4 c4 d4).2.1) := by rw [hW1]; (simp [isSome_setCell, cell_setI, cell_drewI, cell_allocI, ↓IntWalk.iteOmega, *])
    have hU1 : Up w W1 := by rw [hW1]; (repeat' (first | with_reducible exact Up.refl _ | with_reducible assumption | with_reducible refine Up.alloc ?_ _ | with_reducible refine Up.drew ?_ | with_reducible refine Up.drewN ?_ _ | with_reducible refine Up.setCell ?_ (by (try simp only [World.size_alloc, World.size_setCell, World.heap_drewN, World.size_drew]); omega) _ | (with_reducible refine Up.trans ?_ (by with_reducible assumption))))
    have hs5 : w6.heap.size < W1.heap.size := by rw [hW1]; (try simp only [World.size_alloc, World.size_setCell, World.heap_drewN, World.size_drew]); omega
    have hs6 : w5.heap.size < w6.heap.size := by omega
    have hs8 : w4.heap.size + 1 < w5.heap.size := by omega
    have hs7 : w3.heap.size < w4.heap.size := by omega
    clear hW1 hu4 ha4 hb4 hc4 hf4 hu5 ha5 hb5 hc5 hf5 hu6 ha6 hb6 hc6 hf6 p1 p2 p3 p4 p5 p6 p7 p8 hU0 hs1
    go_upto_region 12 with (go_at_call 31; refine (l_roll _ _ _ _ _ (hR.up (by (repeat' (first | with_reducible exact Up.refl _ | with_reducible assumption | with_reducible refine Up.alloc ?_ _ | with_reducible refine Up.drew ?_ | with_reducible refine Up.drewN ?_ _ | with_reducible refine Up.setCell ?_ (by (try simp only [World.size_alloc, World.size_setCell, World.heap_drewN, World.size_drew]); omega) _ | (with_reducible refine Up.trans ?_ (by with_reducible assumption)))))) hn (by omega) (by omega)).mono ?_; rintro e w7 ⟨rfl, hD, hu7⟩; obtain ⟨N7, J7, JF7, ha7, hb7, hz7, hc7, hf7⟩ := hu7.facts; (try simp only [World.size_alloc, World.size_setCell, World.heap_drewN, World.size_drew] at ha7 hb7); (try simp only [cell_drewI] at hc7); (try simp only [frz_drewI] at hf7))
    refine wp_gen ?_
    intro W2 hW2
    have hW3 : Up w7 W2 := by rw [hW2]; (repeat' (first | with_reducible exact Up.refl _ | with_reducible assumption | with_reducible refine Up.alloc ?_ _ | with_reducible refine Up.drew ?_ | with_reducible refine Up.drewN ?_ _ | with_reducible refine Up.setCell ?_ (by (try simp only [World.size_alloc, World.size_setCell, World.heap_drewN, World.size_drew]); omega) _ | (with_reducible refine Up.trans ?_ (by with_reducible assumption))))
    have q1 : W2.cell? ⟨w1.heap.size, 0, none⟩ = some (.int .i64 a1) := (hW3.cells _ _ (by have := cell_lt q1; have := hu7.size; (try simp only [World.size_alloc, World.size_setCell, World.heap_drewN, World.size_drew] at this); omega)).trans ((hu7.cells _ _ (by have := cell_lt q1; (try simp only [World.size_alloc, World.size_setCell, World.heap_drewN, World.size_drew]); omega)).trans (by simpa [cell_drewI] using q1))
    have q2 : W2.cell? ⟨w1.heap.size, 1, none⟩ = some (.int .i64 b1) := (hW3.cells _ _ (by have := cell_lt q2; have := hu7.size; (try simp only [World.size_alloc, World.size_setCell, World.heap_drewN, World.size_drew] at this); omega)).trans ((hu7.cells _ _ (by have := cell_lt q2; (try simp only [World.size_alloc, World.size_setCell, World.heap_drewN, World.size_drew]); omega)).trans (by simpa [cell_drewI] using q2))
    have q3 : W2.cell? ⟨(w1.heap.size + 1), 0, none⟩ = some (.int .i64 c1) := (hW3.cells _ _ (by have := cell_lt q3; have := hu7.size; (try simp only [World.size_alloc, World.size_setCell, World.heap_drewN, World.size_drew] at this); omega)).trans ((hu7.cells _ _ (by have := cell_lt q3; (try simp only [World.size_alloc, World.size_setCell, World.heap_drewN, World.size_drew]); omega)).trans (by simpa [cell_drewI] using q3))
    have q4 : W2.cell? ⟨(w1.heap.size + 1), 1, none⟩ = some (.int .i64 d1) := (hW3.cells _ _ (by have := cell_lt q4; have := hu7.size; (try simp only [World.size_alloc, World.size_setCell, World.heap_drewN, World.size_drew] at this); omega)).trans ((hu7.cells _ _ (by have := cell_lt q4; (try simp only [World.size_alloc, World.size_setCell, World.heap_drewN, World.size_drew]); omega)).trans (by simpa [cell_drewI] using q4))
    have q5 : W2.cell? ⟨w2.heap.size, 0, none⟩ = some (.int .i64 (mulR a1 b1 c1 d1).1) := (hW3.cells _ _ (by have := cell_lt q5; have := hu7.size; (try simp only [World.size_alloc, World.size_setCell, World.heap_drewN, World.size_drew] at this); omega)).trans ((hu7.cells _ _ (by have := cell_lt q5; (try simp only [World.size_alloc, World.size_setCell, World.heap_drewN, World.size_drew]); omega)).trans (by simpa [cell_drewI] using q5))
    have q6 : W2.cell? ⟨w2.heap.size, 1, none⟩ = some (.int .i64 (mulR a1 b1 c1 d1).2.1) := (hW3.cells _ _ (by have := cell_lt q6; have := hu7.size; (try simp only [World.size_alloc, World.size_setCell, World.heap_drewN, World.size_drew] at this); omega)).trans ((hu7.cells _ _ (by have := cell_lt q6; (try simp only [World.size_alloc, World.size_setCell, World.heap_drewN, World.size_drew]); omega)).trans (by simpa [cell_drewI] using q6))
    have r1 : W2.cell? ⟨w4.heap.size, 0, none⟩ = some (.int .i64 a4) := (hW3.cells _ _ (by have := cell_lt r1; have := hu7.size; (try simp only [World.size_alloc, World.size_setCell, World.heap_drewN, World.size_drew] at this); omega)).trans ((hu7.cells _ _ (by have := cell_lt r1; (try simp only [World.size_alloc, World.size_setCell, World.heap_drewN, World.size_drew]); omega)).trans (by simpa [cell_drewI] using r1))
    have r2 : W2.cell? ⟨w4.heap.size, 1, none⟩ = some (.int .i64 b4) := (hW3.cells _ _ (by have := cell_lt r2; have := hu7.size; (try simp only [World.size_alloc, World.size_setCell, World.heap_drewN, World.size_drew] at this); omega)).trans ((hu7.cells _ _ (by have := cell_lt r2; (try simp only [World.size_alloc, World.size_setCell, World.heap_drewN, World.size_drew]); omega)).trans (by simpa [cell_drewI] using r2))
    have r3 : W2.cell? ⟨(w4.heap.size + 1), 0, none⟩ = some (.int .i64 c4) := (hW3.cells _ _ (by have := cell_lt r3; have := hu7.size; (try simp only [World.size_alloc, World.size_setCell, World.heap_drewN, World.size_drew] at this); omega)).trans ((hu7.cells _ _ (by have := cell_lt r3; (try simp only [World.size_alloc, World.size_setCell, World.heap_drewN, World.size_drew]); omega)).trans (by simpa [cell_drewI] using r3))
    have r4 : W2.cell? ⟨(w4.heap.size + 1), 1, none⟩ = some (.int .i64 d4) := (hW3.cells _ _ (by have := cell_lt r4; have := hu7.size; (try simp only [World.size_alloc, World.size_setCell, World.heap_drewN, World.size_drew] at this); omega)).trans ((hu7.cells _ _ (by have := cell_lt r4; (try simp only [World.size_alloc, World.size_setCell, World.heap_drewN, World.size_drew]); omega)).trans (by simpa [cell_drewI] using r4))
    have r5 : W2.cell? ⟨w5.heap.size, 0, none⟩ = some (.int .i64 (divR a4 b4 c4 d4).1) := (hW3.cells _ _ (by have := cell_lt r5; have := hu7.size; (try simp only [World.size_alloc, World.size_setCell, World.heap_drewN, World.size_drew] at this); omega)).trans ((hu7.cells _ _ (by have := cell_lt r5; (try simp only [World.size_alloc, World.size_setCell, World.heap_drewN, World.size_drew]); omega)).trans (by simpa [cell_drewI] using r5))
    have r6 : W2.cell? ⟨w5.heap.size, 1, none⟩ = some (.int .i64 (divR a4 b4 c4 d4).2.1) := (hW3.cells _ _ (by have := cell_lt r6; have := hu7.size; (try simp only [World.size_alloc, World.size_setCell, World.heap_drewN, World.size_drew] at this); omega)).trans ((hu7.cells _ _ (by have := cell_lt r6; (try simp only [World.size_alloc, World.size_setCell, World.heap_drewN, World.size_drew]); omega)).trans (by simpa [cell_drewI] using r6))
    have hUv : Up w W2 := (hU1.trans (by first | exact hu7 | exact ((Up.refl W1).drew).trans hu7)).trans hW3
    have hD := hD.up hW3
    (try simp only [World.size_alloc, World.size_setCell, World.heap_drewN, World.size_drew] at hD)
    have hlD := hD.lt
    clear hW2 hW3 hu7 ha7 hb7 hc7 hf7 q7 q8 r7 r8
    by_cases h0 : (mulR a1 b1 c1 d1).2.2 = 0
    · obtain ⟨hx, ⟨x1, x2, x3, x4, x5, x6⟩, y1, y2, y3, y4⟩ := mulR_ok h0
      have e1 : (mulR a1 b1 c1 d1).1 = mulLo a1 b1 c1 d1 := by rw [hx]
      have e2 : (mulR a1 b1 c1 d1).2.1 = mulHi a1 b1 c1 d1 := by rw [hx]
      rw [e1] at q5
      rw [e2] at q6
      simp only [h0]
      clear hx e1 e2 h0
      by_cases h1 : (divR a4 b4 c4 d4).2.2 = 0
      · obtain ⟨hx, ⟨x1', x2', x3', x4', x5', x6'⟩, z0⟩ := divR_ok h1
        have e1 : (divR a4 b4 c4 d4).1 = divLo a4 b4 c4 d4 := by rw [hx]
        have e2 : (divR a4 b4 c4 d4).2.1 = divHi a4 b4 c4 d4 := by rw [hx]
        rw [e1] at r5
        rw [e2] at r6
        simp only [h1]
        clear hx e1 e2 h1
        go_upto_region 13 with fail
        have wA : IntKind.i64.wrap (b1 - a1) = b1 - a1 := wr (by omega) (by omega)
        have wB : IntKind.i64.wrap (b1 - a1 + 1) = b1 - a1 + 1 := wr (by omega) (by omega)
        have wC : IntKind.i64.wrap (d1 - c1) = d1 - c1 := wr (by omega) (by omega)
        have wD : IntKind.i64.wrap (d1 - c1 + 1) = d1 - c1 + 1 := wr (by omega) (by omega)
        go_cut [16] (fun s16 wx => ∃ m : Int, s16 = .int .i64 m ∧ (mulLo a1 b1 c1 d1 * 1000000 ≤ m ∧ m ≤ mulHi a1 b1 c1 d1 * 1000000) ∧ Dice wx W1.heap.size 81 ∧ World.grownBy W2 wx (some W1.heap.size))
        case first =>
          go_region_held3 (fun w' => w'.cell? ⟨w1.heap.size, 0, none⟩ = some (.int .i64 a1) ∧ w'.cell? ⟨w1.heap.size, 1, none⟩ = some (.int .i64 b1) ∧ w'.cell? ⟨(w1.heap.size + 1), 0, none⟩ = some (.int .i64 c1) ∧ w'.cell? ⟨(w1.heap.size + 1), 1, none⟩ = some (.int .i64 d1))
            (first | ((try dsimp only); (repeat' apply And.intro) <;> (first | (simp [cell_drewI, ↓IntWalk.iteOmega, *]; done))))
            (first | (go_at_call 32; (try simp only [wA, wB, wC, wD]); refine (l_below _ _ _ (by (first | with_reducible assumption | (with_reducible refine Dice.up (by with_reducible assumption) ?_; (repeat' (first | with_reducible exact Up.refl _ | with_reducible assumption | with_reducible refine Up.alloc ?_ _ | with_reducible refine Up.drew ?_ | with_reducible refine Up.drewN ?_ _ | with_reducible refine Up.setCell ?_ (by (try simp only [World.size_alloc, World.size_setCell, World.heap_drewN, World.size_drew]); omega) _ | (with_reducible refine Up.trans ?_ (by with_reducible assumption)))); done))) (by omega) (by omega)).mono ?_; rintro e w8 ⟨⟨r, rfl, r0, r1⟩, hD, hg⟩; obtain ⟨N, J, JF, hn1, hn2, hz, hc, hf⟩ := grown_facts hg; (try simp only [World.size_alloc, World.size_setCell, World.heap_drewN, World.size_drew] at hn1 hn2); (try simp only [cell_drewI] at hc); (try simp only [frz_drewI] at hf)))
          all_goals (go_wp2_with fail; go_meet; refine ⟨_, rfl, ?_, by assumption, by (repeat' (first | with_reducible exact grown_refl _ _ | with_reducible assumption | with_reducible refine grown_new ?_ (by (try dsimp only); (try simp only [World.size_alloc, World.size_setCell, World.heap_drewN, World.size_drew]); omega) _ | with_reducible refine grown_set ?_ _ _ | with_reducible refine grown_up ?_ ((Up.refl _).drew) | with_reducible refine grown_up ?_ (Up.alloc (Up.refl _) _) | with_reducible refine grown_trans ?_ (by with_reducible assumption)))⟩; exact prod_wrap (by omega) (by omega) (by omega) (by omega) (by omega) (by omega) (by omega) (by omega))
        case rest =>
          obtain ⟨m, rfl, ⟨m1, m2⟩, hD, hg⟩ := hcut
          obtain ⟨WX, hWX⟩ : ∃ WX, WX = wc := ⟨_, rfl⟩
          subst hWX
          clear wA wB wC wD
          have hUv : Up w WX := Up.only hUv hg (by omega)
          have hcx : ∀ b o, b < W2.heap.size → b ≠ W1.heap.size → WX.cell? ⟨b, o, none⟩ = World.cell? W2 ⟨b, o, none⟩ := fun b o hb hne => by
            have hh := hg.block b hb (by simpa using hne)
            simp only [World.cell?, hh]
          have q5 := (hcx _ _ (cell_lt q5) (by omega)).trans q5
          have q6 := (hcx _ _ (cell_lt q6) (by omega)).trans q6
          have r1 := (hcx _ _ (cell_lt r1) (by omega)).trans r1
          have r2 := (hcx _ _ (cell_lt r2) (by omega)).trans r2
          have r3 := (hcx _ _ (cell_lt r3) (by omega)).trans r3
          have r4 := (hcx _ _ (cell_lt r4) (by omega)).trans r4
          have r5 := (hcx _ _ (cell_lt r5) (by omega)).trans r5
          have r6 := (hcx _ _ (cell_lt r6) (by omega)).trans r6
          have hsx := hg.size
          clear hcx hg q1 q2 q3 q4
          have f3 : decide (m < mulLo a1 b1 c1 d1 * 1000000) = false := by simpa using m1
          have f4 : decide (mulHi a1 b1 c1 d1 * 1000000 < m) = false := by simpa using m2
          go_upto_region 18 with fail
          have wA : IntKind.i64.wrap (b4 - a4) = b4 - a4 := wr (by omega) (by omega)
          have wB : IntKind.i64.wrap (b4 - a4 + 1) = b4 - a4 + 1 := wr (by omega) (by omega)
          have wC : IntKind.i64.wrap (d4 - c4) = d4 - c4 := wr (by omega) (by omega)
          have wD : IntKind.i64.wrap (d4 - c4 + 1) = d4 - c4 + 1 := wr (by omega) (by omega)
          go_cut [17, 18] (fun s17 s18 wx => ∃ m n : Int, s17 = .int .i64 m ∧ s18 = .int .i64 n ∧ (a4 ≤ m ∧ m ≤ b4) ∧ (c4 ≤ n ∧ n ≤ d4) ∧ World.grownBy WX wx (some W1.heap.size))
          case first =>
            go_region_held3 (fun w' => w'.cell? ⟨w4.heap.size, 0, none⟩ = some (.int .i64 a4) ∧ w'.cell? ⟨w4.heap.size, 1, none⟩ = some (.int .i64 b4) ∧ w'.cell? ⟨(w4.heap.size + 1), 0, none⟩ = some (.int .i64 c4) ∧ w'.cell? ⟨(w4.heap.size + 1), 1, none⟩ = some (.int .i64 d4))
              (first | ((try dsimp only); (repeat' apply And.intro) <;> (first | (simp [cell_drewI, ↓IntWalk.iteOmega, *]; done))))
              (first | (go_at_call 32; (try simp only [wA, wB, wC, wD]); refine (l_below _ _ _ (by (first | with_reducible assumption | (with_reducible refine Dice.up (by with_reducible assumption) ?_; (repeat' (first | with_reducible exact Up.refl _ | with_reducible assumption | with_reducible refine Up.alloc ?_ _ | with_reducible refine Up.drew ?_ | with_reducible refine Up.drewN ?_ _ | with_reducible refine Up.setCell ?_ (by (try simp only [World.size_alloc, World.size_setCell, World.heap_drewN, World.size_drew]); omega) _ | (with_reducible refine Up.trans ?_ (by with_reducible assumption)))); done))) (by omega) (by omega)).mono ?_; rintro e w8 ⟨⟨r, rfl, r0, r1⟩, hD, hg⟩; obtain ⟨N, J, JF, hn1, hn2, hz, hc, hf⟩ := grown_facts hg; (try simp only [World.size_alloc, World.size_setCell, World.heap_drewN, World.size_drew] at hn1 hn2); (try simp only [cell_drewI] at hc); (try simp only [frz_drewI] at hf)))
            all_goals (go_wp2_with fail; go_meet; exact ⟨_, _, rfl, rfl, (by rw [wr (by omega) (by omega)]; omega), (by rw [wr (by omega) (by omega)]; omega), by (repeat' (first | with_reducible exact grown_refl _ _ | with_reducible assumption | with_reducible refine grown_new ?_ (by (try dsimp only); (try simp only [World.size_alloc, World.size_setCell, World.heap_drewN, World.size_drew]); omega) _ | with_reducible refine grown_set ?_ _ _ | with_reducible refine grown_up ?_ ((Up.refl _).drew) | with_reducible refine grown_up ?_ (Up.alloc (Up.refl _) _) | with_reducible refine grown_trans ?_ (by with_reducible assumption)))⟩)
          case rest =>
            obtain ⟨m, k, rfl, rfl, ⟨m1, m2⟩, ⟨k1, k2⟩, hg⟩ := hcut
            have hUx : Up w wc := Up.only hUv hg (by omega)
            have hcx : ∀ b o, b < WX.heap.size → b ≠ W1.heap.size → wc.cell? ⟨b, o, none⟩ = World.cell? WX ⟨b, o, none⟩ := fun b o hb hne => by
              have hh := hg.block b hb (by simpa using hne)
              simp only [World.cell?, hh]
            have t5 := (hcx _ _ (cell_lt r5) (by omega)).trans r5
            have t6 := (hcx _ _ (cell_lt r6) (by omega)).trans r6
            clear hcx hg
            obtain ⟨g1, g2⟩ := quo_in m1 m2 k1 k2 z0
            have g3 : -1000000000 ≤ m := by omega
            have g4 : m ≤ 1000000000 := by omega
            have kz : k ≠ 0 := by omega
            have kb : (k == 0) = false := by simpa using kz
            have td := tdiv_any (x := m * 1000000) (y := k) (M := 1000000000000000) kz (by omega) (by omega)
            have f1 : decide (divLo a4 b4 c4 d4 ≤ (m * 1000000).tdiv k + 1) = true := by simpa using g1
            have f2 : decide ((m * 1000000).tdiv k - 1 ≤ divHi a4 b4 c4 d4) = true := by simpa using g2
            go_wp2_with fail
            go_quiet (fail)
            go_wp2_with fail
            go_ret
            exact ⟨rfl, by (repeat' (first | with_reducible exact Up.refl _ | with_reducible assumption | with_reducible refine Up.alloc ?_ _ | with_reducible refine Up.drew ?_ | with_reducible refine Up.drewN ?_ _ | with_reducible refine Up.setCell ?_ (by (try simp only [World.size_alloc, World.size_setCell, World.heap_drewN, World.size_drew]); omega) _ | (with_reducible refine Up.trans ?_ (by with_reducible assumption))))⟩
      · have h1 : ((divR a4 b4 c4 d4).2.2 != 0) = true := by simpa using h1
        go_upto_region 13 with fail
        have wA : IntKind.i64.wrap (b1 - a1) = b1 - a1 := wr (by omega) (by omega)
        have wB : IntKind.i64.wrap (b1 - a1 + 1) = b1 - a1 + 1 := wr (by omega) (by omega)
        have wC : IntKind.i64.wrap (d1 - c1) = d1 - c1 := wr (by omega) (by omega)
        have wD : IntKind.i64.wrap (d1 - c1 + 1) = d1 - c1 + 1 := wr (by omega) (by omega)
        go_cut [16] (fun s16 wx => ∃ m : Int, s16 = .int .i64 m ∧ (mulLo a1 b1 c1 d1 * 1000000 ≤ m ∧ m ≤ mulHi a1 b1 c1 d1 * 1000000) ∧ Dice wx W1.heap.size 81 ∧ World.grownBy W2 wx (some W1.heap.size))
        case first =>
          go_region_held3 (fun w' => w'.cell? ⟨w1.heap.size, 0, none⟩ = some (.int .i64 a1) ∧ w'.cell? ⟨w1.heap.size, 1, none⟩ = some (.int .i64 b1) ∧ w'.cell? ⟨(w1.heap.size + 1), 0, none⟩ = some (.int .i64 c1) ∧ w'.cell? ⟨(w1.heap.size + 1), 1, none⟩ = some (.int .i64 d1))
            (first | ((try dsimp only); (repeat' apply And.intro) <;> (first | (simp [cell_drewI, ↓IntWalk.iteOmega, *]; done))))
            (first | (go_at_call 32; (try simp only [wA, wB, wC, wD]); refine (l_below _ _ _ (by (first | with_reducible assumption | (with_reducible refine Dice.up (by with_reducible assumption) ?_; (repeat' (first | with_reducible exact Up.refl _ | with_reducible assumption | with_reducible refine Up.alloc ?_ _ | with_reducible refine Up.drew ?_ | with_reducible refine Up.drewN ?_ _ | with_reducible refine Up.setCell ?_ (by (try simp only [World.size_alloc, World.size_setCell, World.heap_drewN, World.size_drew]); omega) _ | (with_reducible refine Up.trans ?_ (by with_reducible assumption)))); done))) (by omega) (by omega)).mono ?_; rintro e w8 ⟨⟨r, rfl, r0, r1⟩, hD, hg⟩; obtain ⟨N, J, JF, hn1, hn2, hz, hc, hf⟩ := grown_facts hg; (try simp only [World.size_alloc, World.size_setCell, World.heap_drewN, World.size_drew] at hn1 hn2); (try simp only [cell_drewI] at hc); (try simp only [frz_drewI] at hf)))
          all_goals (go_wp2_with fail; go_meet; refine ⟨_, rfl, ?_, by assumption, by (repeat' (first | with_reducible exact grown_refl _ _ | with_reducible assumption | with_reducible refine grown_new ?_ (by (try dsimp only); (try simp only [World.size_alloc, World.size_setCell, World.heap_drewN, World.size_drew]); omega) _ | with_reducible refine grown_set ?_ _ _ | with_reducible refine grown_up ?_ ((Up.refl _).drew) | with_reducible refine grown_up ?_ (Up.alloc (Up.refl _) _) | with_reducible refine grown_trans ?_ (by with_reducible assumption)))⟩; exact prod_wrap (by omega) (by omega) (by omega) (by omega) (by omega) (by omega) (by omega) (by omega))
        case rest =>
          obtain ⟨m, rfl, ⟨m1, m2⟩, hD, hg⟩ := hcut
          obtain ⟨WX, hWX⟩ : ∃ WX, WX = wc := ⟨_, rfl⟩
          subst hWX
          clear wA wB wC wD
          have hUv : Up w WX := Up.only hUv hg (by omega)
          have hcx : ∀ b o, b < W2.heap.size → b ≠ W1.heap.size → WX.cell? ⟨b, o, none⟩ = World.cell? W2 ⟨b, o, none⟩ := fun b o hb hne => by
            have hh := hg.block b hb (by simpa using hne)
            simp only [World.cell?, hh]
          have q5 := (hcx _ _ (cell_lt q5) (by omega)).trans q5
          have q6 := (hcx _ _ (cell_lt q6) (by omega)).trans q6
          have r1 := (hcx _ _ (cell_lt r1) (by omega)).trans r1
          have r2 := (hcx _ _ (cell_lt r2) (by omega)).trans r2
          have r3 := (hcx _ _ (cell_lt r3) (by omega)).trans r3
          have r4 := (hcx _ _ (cell_lt r4) (by omega)).trans r4
          have r5 := (hcx _ _ (cell_lt r5) (by omega)).trans r5
          have r6 := (hcx _ _ (cell_lt r6) (by omega)).trans r6
          have hsx := hg.size
          clear hcx hg q1 q2 q3 q4
          have f3 : decide (m < mulLo a1 b1 c1 d1 * 1000000) = false := by simpa using m1
          have f4 : decide (mulHi a1 b1 c1 d1 * 1000000 < m) = false := by simpa using m2
          go_wp2_with fail
          go_ret
          exact ⟨rfl, by (repeat' (first | with_reducible exact Up.refl _ | with_reducible assumption | with_reducible refine Up.alloc ?_ _ | with_reducible refine Up.drew ?_ | with_reducible refine Up.drewN ?_ _ | with_reducible refine Up.setCell ?_ (by (try simp only [World.size_alloc, World.size_setCell, World.heap_drewN, World.size_drew]); omega) _ | (with_reducible refine Up.trans ?_ (by with_reducible assumption))))⟩
    · have h0 : ((mulR a1 b1 c1 d1).2.2 == 0) = false := by simpa using h0
      by_cases h1 : (divR a4 b4 c4 d4).2.2 = 0
      · obtain ⟨hx, ⟨x1', x2', x3', x4', x5', x6'⟩, z0⟩ := divR_ok h1
        have e1 : (divR a4 b4 c4 d4).1 = divLo a4 b4 c4 d4 := by rw [hx]
        have e2 : (divR a4 b4 c4 d4).2.1 = divHi a4 b4 c4 d4 := by rw [hx]
        rw [e1] at r5
        rw [e2] at r6
        simp only [h1]
        clear hx e1 e2 h1
        go_upto_region 18 with fail
        have wA : IntKind.i64.wrap (b4 - a4) = b4 - a4 := wr (by omega) (by omega)
        have wB : IntKind.i64.wrap (b4 - a4 + 1) = b4 - a4 + 1 := wr (by omega) (by omega)
        have wC : IntKind.i64.wrap (d4 - c4) = d4 - c4 := wr (by omega) (by omega)
        have wD : IntKind.i64.wrap (d4 - c4 + 1) = d4 - c4 + 1 := wr (by omega) (by omega)
        go_cut [17, 18] (fun s17 s18 wx => ∃ m n : Int, s17 = .int .i64 m ∧ s18 = .int .i64 n ∧ (a4 ≤ m ∧ m ≤ b4) ∧ (c4 ≤ n ∧ n ≤ d4) ∧ World.grownBy W2 wx (some W1.heap.size))
        case first =>
          go_region_held3 (fun w' => w'.cell? ⟨w4.heap.size, 0, none⟩ = some (.int .i64 a4) ∧ w'.cell? ⟨w4.heap.size, 1, none⟩ = some (.int .i64 b4) ∧ w'.cell? ⟨(w4.heap.size + 1), 0, none⟩ = some (.int .i64 c4) ∧ w'.cell? ⟨(w4.heap.size + 1), 1, none⟩ = some (.int .i64 d4))
            (first | ((try dsimp only); (repeat' apply And.intro) <;> (first | (simp [cell_drewI, ↓IntWalk.iteOmega, *]; done))))
            (first | (go_at_call 32; (try simp only [wA, wB, wC, wD]); refine (l_below _ _ _ (by (first | with_reducible assumption | (with_reducible refine Dice.up (by with_reducible assumption) ?_; (repeat' (first | with_reducible exact Up.refl _ | with_reducible assumption | with_reducible refine Up.alloc ?_ _ | with_reducible refine Up.drew ?_ | with_reducible refine Up.drewN ?_ _ | with_reducible refine Up.setCell ?_ (by (try simp only [World.size_alloc, World.size_setCell, World.heap_drewN, World.size_drew]); omega) _ | (with_reducible refine Up.trans ?_ (by with_reducible assumption)))); done))) (by omega) (by omega)).mono ?_; rintro e w8 ⟨⟨r, rfl, r0, r1⟩, hD, hg⟩; obtain ⟨N, J, JF, hn1, hn2, hz, hc, hf⟩ := grown_facts hg; (try simp only [World.size_alloc, World.size_setCell, World.heap_drewN, World.size_drew] at hn1 hn2); (try simp only [cell_drewI] at hc); (try simp only [frz_drewI] at hf)))
          all_goals (go_wp2_with fail; go_meet; exact ⟨_, _, rfl, rfl, (by rw [wr (by omega) (by omega)]; omega), (by rw [wr (by omega) (by omega)]; omega), by (repeat' (first | with_reducible exact grown_refl _ _ | with_reducible assumption | with_reducible refine grown_new ?_ (by (try dsimp only); (try simp only [World.size_alloc, World.size_setCell, World.heap_drewN, World.size_drew]); omega) _ | with_reducible refine grown_set ?_ _ _ | with_reducible refine grown_up ?_ ((Up.refl _).drew) | with_reducible refine grown_up ?_ (Up.alloc (Up.refl _) _) | with_reducible refine grown_trans ?_ (by with_reducible assumption)))⟩)
        case rest =>
          obtain ⟨m, k, rfl, rfl, ⟨m1, m2⟩, ⟨k1, k2⟩, hg⟩ := hcut
          have hUx : Up w wc := Up.only hUv hg (by omega)
          have hcx : ∀ b o, b < W2.heap.size → b ≠ W1.heap.size → wc.cell? ⟨b, o, none⟩ = World.cell? W2 ⟨b, o, none⟩ := fun b o hb hne => by
            have hh := hg.block b hb (by simpa using hne)
            simp only [World.cell?, hh]
          have t5 := (hcx _ _ (cell_lt r5) (by omega)).trans r5
          have t6 := (hcx _ _ (cell_lt r6) (by omega)).trans r6
          clear hcx hg
          obtain ⟨g1, g2⟩ := quo_in m1 m2 k1 k2 z0
          have g3 : -1000000000 ≤ m := by omega
          have g4 : m ≤ 1000000000 := by omega
          have kz : k ≠ 0 := by omega
          have kb : (k == 0) = false := by simpa using kz
          have td := tdiv_any (x := m * 1000000) (y := k) (M := 1000000000000000) kz (by omega) (by omega)
          have f1 : decide (divLo a4 b4 c4 d4 ≤ (m * 1000000).tdiv k + 1) = true := by simpa using g1
          have f2 : decide ((m * 1000000).tdiv k - 1 ≤ divHi a4 b4 c4 d4) = true := by simpa using g2
          go_wp2_with fail
          go_quiet (fail)
          go_wp2_with fail
          go_ret
          exact ⟨rfl, by (repeat' (first | with_reducible exact Up.refl _ | with_reducible assumption | with_reducible refine Up.alloc ?_ _ | with_reducible refine Up.drew ?_ | with_reducible refine Up.drewN ?_ _ | with_reducible refine Up.setCell ?_ (by (try simp only [World.size_alloc, World.size_setCell, World.heap_drewN, World.size_drew]); omega) _ | (with_reducible refine Up.trans ?_ (by with_reducible assumption))))⟩
      · have h1 : ((divR a4 b4 c4 d4).2.2 != 0) = true := by simpa using h1
        go_wp2_with fail
        go_ret
        exact ⟨rfl, by (repeat' (first | with_reducible exact Up.refl _ | with_reducible assumption | with_reducible refine Up.alloc ?_ _ | with_reducible refine Up.drew ?_ | with_reducible refine Up.drewN ?_ _ | with_reducible refine Up.setCell ?_ (by (try simp only [World.size_alloc, World.size_setCell, World.heap_drewN, World.size_drew]); omega) _ | (with_reducible refine Up.trans ?_ (by with_reducible assumption))))⟩
  · have g0 : decide (4096 < (n : Int)) = true := by simp; omega
    go_enter Try.func6, Try.ntmps6
    go_wp2_with (go_at_call 22; refine (l_big _ _ _ _ hm).mono ?_; rintro e w' ⟨rfl, rfl⟩)
    go_ret
    exact ⟨rfl, Up.refl _⟩
end Go.Proofs.Ytanafhmjmfkpmaa
