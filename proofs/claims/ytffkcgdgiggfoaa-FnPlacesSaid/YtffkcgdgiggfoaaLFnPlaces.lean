import Derived.Test.YtffkcgdgiggfoaaPlaces
import Derived.Test.YtffkcgdgiggfoaaDice
import Derived.Test.YtffkcgdgiggfoaaPlaceDraws
import Derived.Test.YtffkcgdgiggfoaaOpenB
/- The walk of the law FnPlaces. -/
namespace Go.Proofs.Ytffkcgdgiggfoaa
set_option linter.unusedSimpArgs false
set_option linter.unusedVariables false
open Go.RowKit
attribute [local go_sem] cell_allocI frz_allocI later_cell later_frz
attribute [local go_sem] cell_setI cell_drewI frz_drewI
theorem l_inside (a b c d : Int) (w : World) :
    Calls Try.prog 25 #[.agg #[.int .i64 a, .int .i64 b], .agg #[.int .i64 c, .int .i64 d]] w fun e w' => e = .returned (.bool (decide (c ≤ a) && decide (b ≤ d))) ∧ Up w w' := by
  go_enter Try.func25, Try.ntmps25
  go_wp2
  all_goals (go_ret; refine ⟨ret_bool ?_, ?_⟩; · (simp [*] <;> omega)
             (repeat' (first | with_reducible exact Up.refl _ | with_reducible assumption | with_reducible refine Up.alloc ?_ _ | with_reducible refine Up.drew ?_ | with_reducible refine Up.drewN ?_ _ | with_reducible refine Up.setCell ?_ (by (try simp only [World.size_alloc, World.size_setCell, World.heap_drewN, World.size_drew]); omega) _ | (with_reducible refine Up.trans ?_ (by with_reducible assumption)))))
theorem widPR_ok {a b c d y : Int} (h : (widPR a b c d y).2.2.2.2 = 0) : widPR a b c d y = (a - y, b + y, c - y, d + y, 0) ∧ isPlaceB a b c d = true ∧ inB y 0 1000000 = true := by
  unfold widPR at h ⊢
  by_cases k : isPlaceB a b c d = true
  · rw [if_pos k] at h ⊢
    by_cases l : inB y 0 1000000 = true
    · rw [if_pos l] at h ⊢
      split at h
      · rename_i m; rw [if_pos m]; exact ⟨rfl, k, l⟩
      · simp at h
    · rw [if_neg l] at h; simp at h
  · rw [if_neg k] at h; simp at h
theorem mayR_two (a b c d x y : Int) : (mayR a b c d x y).2 ≠ 0 ∨ mayR a b c d x y = (inB x a b && inB y c d, 0) := by
  unfold mayR; split
  · split
    · exact Or.inr rfl
    · exact Or.inl (by simp)
  · exact Or.inl (by simp)
set_option maxRecDepth 100000 in
set_option maxHeartbeats 4000000 in
theorem walk_FnPlaces (w : World) (A : Option Addr) (n c : Nat) (hR : RdB w A n) (hm : n ≤ maxLen) :
    Calls Try.prog 4 #[.slice A n c] w fun e w' => e = .returned (.bool true) ∧ Up w w' := by
  by_cases hn : n ≤ 4096
  · have g0 : decide (4096 < (n : Int)) = false := by simp; omega
    go_enter Try.func4, Try.ntmps4
    go_upto_region 6 with (first
      | (go_at_call 18; refine (l_big _ _ _ _ hm).mono ?_; rintro e w' ⟨rfl, rfl⟩)
      | (go_at_call 19; refine (s_DrawWidenPlace _ _ _ w _ hR (by (repeat' (first | with_reducible exact Up.refl _ | with_reducible assumption | with_reducible refine Up.alloc ?_ _ | with_reducible refine Up.drew ?_ | with_reducible refine Up.drewN ?_ _ | with_reducible refine Up.setCell ?_ (by (try simp only [World.size_alloc, World.size_setCell, World.heap_drewN, World.size_drew]); omega) _ | (with_reducible refine Up.trans ?_ (by with_reducible assumption))))) hn).mono ?_; rintro e w1 ⟨⟨a1, b1, c1, d1, y1, rfl, ia, ib, ic, id⟩, hu1⟩; obtain ⟨N1, J1, JF1, ha1, hb1, hz1, hc1, hf1⟩ := hu1.facts; (try simp only [World.size_alloc, World.size_setCell, World.heap_drewN, World.size_drew] at ha1 hb1); (try simp only [cell_drewI] at hc1); (try simp only [frz_drewI] at hf1))
      | (go_at_call 20; refine (i_WidenPlace _ _ _ _ _ _).mono ?_; rintro e w2 ⟨rfl, hu2⟩; obtain ⟨N2, J2, JF2, ha2, hb2, hz2, hc2, hf2⟩ := hu2.facts; (try simp only [World.size_alloc, World.size_setCell, World.heap_drewN, World.size_drew] at ha2 hb2); (try simp only [cell_drewI] at hc2); (try simp only [frz_drewI] at hf2))
      | (go_at_call 21; refine (s_WidenPlace _ _ _ _ _ _).mono ?_; rintro e w3 ⟨rfl, hu3⟩; obtain ⟨N3, J3, JF3, ha3, hb3, hz3, hc3, hf3⟩ := hu3.facts; (try simp only [World.size_alloc, World.size_setCell, World.heap_drewN, World.size_drew] at ha3 hb3); (try simp only [cell_drewI] at hc3); (try simp only [frz_drewI] at hf3)))
    refine wp_gen ?_
    intro W0 hW0
    have p0 : W0.cell? ⟨w1.heap.size, 0, none⟩ = some (.int .i64 a1) := by rw [hW0]; (simp [isSome_setCell, cell_setI, cell_drewI, cell_allocI, ↓IntWalk.iteOmega, *])
    have p1 : W0.cell? ⟨w1.heap.size, 1, none⟩ = some (.int .i64 b1) := by rw [hW0]; (simp [isSome_setCell, cell_setI, cell_drewI, cell_allocI, ↓IntWalk.iteOmega, *])
    have p2 : W0.cell? ⟨w1.heap.size, 2, none⟩ = some (.int .i64 c1) := by rw [hW0]; (simp [isSome_setCell, cell_setI, cell_drewI, cell_allocI, ↓IntWalk.iteOmega, *])
    have p3 : W0.cell? ⟨w1.heap.size, 3, none⟩ = some (.int .i64 d1) := by rw [hW0]; (simp [isSome_setCell, cell_setI, cell_drewI, cell_allocI, ↓IntWalk.iteOmega, *])
    have p4 : W0.cell? ⟨w2.heap.size, 0, none⟩ = some (.int .i64 ((widPR a1 b1 c1 d1 y1).1)) := by rw [hW0]; (simp [isSome_setCell, cell_setI, cell_drewI, cell_allocI, ↓IntWalk.iteOmega, *])
    have p5 : W0.cell? ⟨w2.heap.size, 1, none⟩ = some (.int .i64 ((widPR a1 b1 c1 d1 y1).2.1)) := by rw [hW0]; (simp [isSome_setCell, cell_setI, cell_drewI, cell_allocI, ↓IntWalk.iteOmega, *])
    have p6 : W0.cell? ⟨w2.heap.size, 2, none⟩ = some (.int .i64 ((widPR a1 b1 c1 d1 y1).2.2.1)) := by rw [hW0]; (simp [isSome_setCell, cell_setI, cell_drewI, cell_allocI, ↓IntWalk.iteOmega, *])
    have p7 : W0.cell? ⟨w2.heap.size, 3, none⟩ = some (.int .i64 ((widPR a1 b1 c1 d1 y1).2.2.2.1)) := by rw [hW0]; (simp [isSome_setCell, cell_setI, cell_drewI, cell_allocI, ↓IntWalk.iteOmega, *])
    have p8 : W0.cell? ⟨w3.heap.size, 0, none⟩ = some (.int .i64 ((widPR a1 b1 c1 d1 y1).1)) := by rw [hW0]; (simp [isSome_setCell, cell_setI, cell_drewI, cell_allocI, ↓IntWalk.iteOmega, *])
    have p9 : W0.cell? ⟨w3.heap.size, 1, none⟩ = some (.int .i64 ((widPR a1 b1 c1 d1 y1).2.1)) := by rw [hW0]; (simp [isSome_setCell, cell_setI, cell_drewI, cell_allocI, ↓IntWalk.iteOmega, *])
    have p10 : W0.cell? ⟨w3.heap.size, 2, none⟩ = some (.int .i64 ((widPR a1 b1 c1 d1 y1).2.2.1)) := by rw [hW0]; (simp [isSome_setCell, cell_setI, cell_drewI, cell_allocI, ↓IntWalk.iteOmega, *])
    have p11 : W0.cell? ⟨w3.heap.size, 3, none⟩ = some (.int .i64 ((widPR a1 b1 c1 d1 y1).2.2.2.1)) := by rw [hW0]; (simp [isSome_setCell, cell_setI, cell_drewI, cell_allocI, ↓IntWalk.iteOmega, *])
    have hU0 : Up w W0 := by rw [hW0]; (repeat' (first | with_reducible exact Up.refl _ | with_reducible assumption | with_reducible refine Up.alloc ?_ _ | with_reducible refine Up.drew ?_ | with_reducible refine Up.drewN ?_ _ | with_reducible refine Up.setCell ?_ (by (try simp only [World.size_alloc, World.size_setCell, World.heap_drewN, World.size_drew]); omega) _ | (with_reducible refine Up.trans ?_ (by with_reducible assumption))))
    have hs1 : w3.heap.size < W0.heap.size := by rw [hW0]; (try simp only [World.size_alloc, World.size_setCell, World.heap_drewN, World.size_drew]); omega
    have hs2 : w2.heap.size < w3.heap.size := by omega
    have hs3 : w1.heap.size < w2.heap.size := by omega
    have hs4 : w.heap.size ≤ w1.heap.size := by omega
    clear hW0 hu1 ha1 hb1 hc1 hf1 hu2 ha2 hb2 hc2 hf2 hu3 ha3 hb3 hc3 hf3
    go_upto_region 9 with (first
      | (go_at_call 22; refine (s_DrawMayBeAt _ _ _ w _ hR (by (repeat' (first | with_reducible exact Up.refl _ | with_reducible assumption | with_reducible refine Up.alloc ?_ _ | with_reducible refine Up.drew ?_ | with_reducible refine Up.drewN ?_ _ | with_reducible refine Up.setCell ?_ (by (try simp only [World.size_alloc, World.size_setCell, World.heap_drewN, World.size_drew]); omega) _ | (with_reducible refine Up.trans ?_ (by with_reducible assumption))))) hn).mono ?_; rintro e w4 ⟨⟨a4, b4, c4, d4, x4, y4, rfl, ie, jf, ig, ih⟩, hu4⟩; obtain ⟨N4, J4, JF4, ha4, hb4, hz4, hc4, hf4⟩ := hu4.facts; (try simp only [World.size_alloc, World.size_setCell, World.heap_drewN, World.size_drew] at ha4 hb4); (try simp only [cell_drewI] at hc4); (try simp only [frz_drewI] at hf4))
      | (go_at_call 23; refine (i_MayBeAt _ _ _ _ _ _ _).mono ?_; rintro e w5 ⟨rfl, hu5⟩; obtain ⟨N5, J5, JF5, ha5, hb5, hz5, hc5, hf5⟩ := hu5.facts; (try simp only [World.size_alloc, World.size_setCell, World.heap_drewN, World.size_drew] at ha5 hb5); (try simp only [cell_drewI] at hc5); (try simp only [frz_drewI] at hf5))
      | (go_at_call 24; refine (s_MayBeAt _ _ _ _ _ _ _).mono ?_; rintro e w6 ⟨rfl, hu6⟩; obtain ⟨N6, J6, JF6, ha6, hb6, hz6, hc6, hf6⟩ := hu6.facts; (try simp only [World.size_alloc, World.size_setCell, World.heap_drewN, World.size_drew] at ha6 hb6); (try simp only [cell_drewI] at hc6); (try simp only [frz_drewI] at hf6)))
    refine wp_gen ?_
    intro W1 hW1
    have q0 : W1.cell? ⟨w1.heap.size, 0, none⟩ = some (.int .i64 a1) := by rw [hW1]; (simp [isSome_setCell, cell_setI, cell_drewI, cell_allocI, ↓IntWalk.iteOmega, *])
    have q1 : W1.cell? ⟨w1.heap.size, 1, none⟩ = some (.int .i64 b1) := by rw [hW1]; (simp [isSome_setCell, cell_setI, cell_drewI, cell_allocI, ↓IntWalk.iteOmega, *])
    have q2 : W1.cell? ⟨w1.heap.size, 2, none⟩ = some (.int .i64 c1) := by rw [hW1]; (simp [isSome_setCell, cell_setI, cell_drewI, cell_allocI, ↓IntWalk.iteOmega, *])
    have q3 : W1.cell? ⟨w1.heap.size, 3, none⟩ = some (.int .i64 d1) := by rw [hW1]; (simp [isSome_setCell, cell_setI, cell_drewI, cell_allocI, ↓IntWalk.iteOmega, *])
    have q4 : W1.cell? ⟨w2.heap.size, 0, none⟩ = some (.int .i64 ((widPR a1 b1 c1 d1 y1).1)) := by rw [hW1]; (simp [isSome_setCell, cell_setI, cell_drewI, cell_allocI, ↓IntWalk.iteOmega, *])
    have q5 : W1.cell? ⟨w2.heap.size, 1, none⟩ = some (.int .i64 ((widPR a1 b1 c1 d1 y1).2.1)) := by rw [hW1]; (simp [isSome_setCell, cell_setI, cell_drewI, cell_allocI, ↓IntWalk.iteOmega, *])
    have q6 : W1.cell? ⟨w2.heap.size, 2, none⟩ = some (.int .i64 ((widPR a1 b1 c1 d1 y1).2.2.1)) := by rw [hW1]; (simp [isSome_setCell, cell_setI, cell_drewI, cell_allocI, ↓IntWalk.iteOmega, *])
    have q7 : W1.cell? ⟨w2.heap.size, 3, none⟩ = some (.int .i64 ((widPR a1 b1 c1 d1 y1).2.2.2.1)) := by rw [hW1]; (simp [isSome_setCell, cell_setI, cell_drewI, cell_allocI, ↓IntWalk.iteOmega, *])
    have q8 : W1.cell? ⟨w3.heap.size, 0, none⟩ = some (.int .i64 ((widPR a1 b1 c1 d1 y1).1)) := by rw [hW1]; (simp [isSome_setCell, cell_setI, cell_drewI, cell_allocI, ↓IntWalk.iteOmega, *])
    have q9 : W1.cell? ⟨w3.heap.size, 1, none⟩ = some (.int .i64 ((widPR a1 b1 c1 d1 y1).2.1)) := by rw [hW1]; (simp [isSome_setCell, cell_setI, cell_drewI, cell_allocI, ↓IntWalk.iteOmega, *])
    have q10 : W1.cell? ⟨w3.heap.size, 2, none⟩ = some (.int .i64 ((widPR a1 b1 c1 d1 y1).2.2.1)) := by rw [hW1]; (simp [isSome_setCell, cell_setI, cell_drewI, cell_allocI, ↓IntWalk.iteOmega, *])
    have q11 : W1.cell? ⟨w3.heap.size, 3, none⟩ = some (.int .i64 ((widPR a1 b1 c1 d1 y1).2.2.2.1)) := by rw [hW1]; (simp [isSome_setCell, cell_setI, cell_drewI, cell_allocI, ↓IntWalk.iteOmega, *])
    have r0 : W1.cell? ⟨w4.heap.size, 0, none⟩ = some (.int .i64 a4) := by rw [hW1]; (simp [isSome_setCell, cell_setI, cell_drewI, cell_allocI, ↓IntWalk.iteOmega, *])
    have r1 : W1.cell? ⟨w4.heap.size, 1, none⟩ = some (.int .i64 b4) := by rw [hW1]; (simp [isSome_setCell, cell_setI, cell_drewI, cell_allocI, ↓IntWalk.iteOmega, *])
    have r2 : W1.cell? ⟨w4.heap.size, 2, none⟩ = some (.int .i64 c4) := by rw [hW1]; (simp [isSome_setCell, cell_setI, cell_drewI, cell_allocI, ↓IntWalk.iteOmega, *])
    have r3 : W1.cell? ⟨w4.heap.size, 3, none⟩ = some (.int .i64 d4) := by rw [hW1]; (simp [isSome_setCell, cell_setI, cell_drewI, cell_allocI, ↓IntWalk.iteOmega, *])
    have hU1 : Up w W1 := by rw [hW1]; (repeat' (first | with_reducible exact Up.refl _ | with_reducible assumption | with_reducible refine Up.alloc ?_ _ | with_reducible refine Up.drew ?_ | with_reducible refine Up.drewN ?_ _ | with_reducible refine Up.setCell ?_ (by (try simp only [World.size_alloc, World.size_setCell, World.heap_drewN, World.size_drew]); omega) _ | (with_reducible refine Up.trans ?_ (by with_reducible assumption))))
    have hs5 : w4.heap.size < W1.heap.size := by rw [hW1]; (try simp only [World.size_alloc, World.size_setCell, World.heap_drewN, World.size_drew]); omega
    have hs7 : w3.heap.size < w4.heap.size := by omega
    clear hW1 hu4 ha4 hb4 hc4 hf4 hu5 ha5 hb5 hc5 hf5 hu6 ha6 hb6 hc6 hf6 p0 p1 p2 p3 p4 p5 p6 p7 p8 p9 p10 p11 hU0 hs1
    go_upto_region 11 with fail
    by_cases h0 : (widPR a1 b1 c1 d1 y1).2.2.2.2 = 0
    · obtain ⟨hx, v1, v2⟩ := widPR_ok h0
      have e1 : (widPR a1 b1 c1 d1 y1).1 = a1 - y1 := by rw [hx]
      have e2 : (widPR a1 b1 c1 d1 y1).2.1 = b1 + y1 := by rw [hx]
      have e3 : (widPR a1 b1 c1 d1 y1).2.2.1 = c1 - y1 := by rw [hx]
      have e4 : (widPR a1 b1 c1 d1 y1).2.2.2.1 = d1 + y1 := by rw [hx]
      rw [e1] at q4
      rw [e2] at q5
      rw [e3] at q6
      rw [e4] at q7
      simp only [h0]
      clear hx e1 e2 e3 e4 h0 q8 q9 q10 q11
      obtain ⟨x1, x2, x3, x5, x6, x7⟩ := isPlaceB_iff.1 v1
      obtain ⟨y2, y3⟩ := inB_iff.1 v2
      have l1 : decide (a1 - y1 ≤ a1) = true := by simp; omega
      have l2 : decide (b1 ≤ b1 + y1) = true := by simp; omega
      have l3 : decide (c1 - y1 ≤ c1) = true := by simp; omega
      have l4 : decide (d1 ≤ d1 + y1) = true := by simp; omega
      rcases mayR_two a4 b4 c4 d4 x4 y4 with hm | hm
      · have hm : ((mayR a4 b4 c4 d4 x4 y4).2 == 0) = false := by simpa using hm
        go_wp2_with (first
          | (go_at_call 25; refine (l_inside _ _ _ _ _).mono ?_; rintro e wn ⟨rfl, hu⟩; obtain ⟨N, J, JF, hn1, hn2, hz, hc, hf⟩ := hu.facts; (try simp only [World.size_alloc, World.size_setCell, World.heap_drewN, World.size_drew] at hn1 hn2); (try simp only [cell_drewI] at hc); (try simp only [frz_drewI] at hf)))
        all_goals (go_ret; refine ⟨ret_bool (by first | rfl | (simp [*]; done) | (simp; omega)), ?_⟩; (repeat' (first | with_reducible exact Up.refl _ | with_reducible assumption | with_reducible refine Up.alloc ?_ _ | with_reducible refine Up.drew ?_ | with_reducible refine Up.drewN ?_ _ | with_reducible refine Up.setCell ?_ (by (try simp only [World.size_alloc, World.size_setCell, World.heap_drewN, World.size_drew]); omega) _ | (with_reducible refine Up.trans ?_ (by with_reducible assumption)))))
      · skip
        by_cases k0 : a4 ≤ x4
        · skip
          by_cases k1 : x4 ≤ b4
          · skip
            by_cases k2 : c4 ≤ y4
            · skip
              by_cases k3 : y4 ≤ d4
              · skip
                have hb : (inB x4 a4 b4 && inB y4 c4 d4) = true := by simp [inB, *]
                simp only [hm, hb]
                clear hm hb
                go_wp2_with (first
                  | (go_at_call 25; refine (l_inside _ _ _ _ _).mono ?_; rintro e wn ⟨rfl, hu⟩; obtain ⟨N, J, JF, hn1, hn2, hz, hc, hf⟩ := hu.facts; (try simp only [World.size_alloc, World.size_setCell, World.heap_drewN, World.size_drew] at hn1 hn2); (try simp only [cell_drewI] at hc); (try simp only [frz_drewI] at hf)))
                all_goals (go_ret; refine ⟨ret_bool (by first | rfl | (simp [*]; done) | (simp; omega)), ?_⟩; (repeat' (first | with_reducible exact Up.refl _ | with_reducible assumption | with_reducible refine Up.alloc ?_ _ | with_reducible refine Up.drew ?_ | with_reducible refine Up.drewN ?_ _ | with_reducible refine Up.setCell ?_ (by (try simp only [World.size_alloc, World.size_setCell, World.heap_drewN, World.size_drew]); omega) _ | (with_reducible refine Up.trans ?_ (by with_reducible assumption)))))
              · skip
                have hb : (inB x4 a4 b4 && inB y4 c4 d4) = false := by simp [inB, *]
                simp only [hm, hb]
                clear hm hb
                go_wp2_with (first
                  | (go_at_call 25; refine (l_inside _ _ _ _ _).mono ?_; rintro e wn ⟨rfl, hu⟩; obtain ⟨N, J, JF, hn1, hn2, hz, hc, hf⟩ := hu.facts; (try simp only [World.size_alloc, World.size_setCell, World.heap_drewN, World.size_drew] at hn1 hn2); (try simp only [cell_drewI] at hc); (try simp only [frz_drewI] at hf)))
                all_goals (go_ret; refine ⟨ret_bool (by first | rfl | (simp [*]; done) | (simp; omega)), ?_⟩; (repeat' (first | with_reducible exact Up.refl _ | with_reducible assumption | with_reducible refine Up.alloc ?_ _ | with_reducible refine Up.drew ?_ | with_reducible refine Up.drewN ?_ _ | with_reducible refine Up.setCell ?_ (by (try simp only [World.size_alloc, World.size_setCell, World.heap_drewN, World.size_drew]); omega) _ | (with_reducible refine Up.trans ?_ (by with_reducible assumption)))))
            · skip
              have hb : (inB x4 a4 b4 && inB y4 c4 d4) = false := by simp [inB, *]
              simp only [hm, hb]
              clear hm hb
              go_wp2_with (first
                | (go_at_call 25; refine (l_inside _ _ _ _ _).mono ?_; rintro e wn ⟨rfl, hu⟩; obtain ⟨N, J, JF, hn1, hn2, hz, hc, hf⟩ := hu.facts; (try simp only [World.size_alloc, World.size_setCell, World.heap_drewN, World.size_drew] at hn1 hn2); (try simp only [cell_drewI] at hc); (try simp only [frz_drewI] at hf)))
              all_goals (go_ret; refine ⟨ret_bool (by first | rfl | (simp [*]; done) | (simp; omega)), ?_⟩; (repeat' (first | with_reducible exact Up.refl _ | with_reducible assumption | with_reducible refine Up.alloc ?_ _ | with_reducible refine Up.drew ?_ | with_reducible refine Up.drewN ?_ _ | with_reducible refine Up.setCell ?_ (by (try simp only [World.size_alloc, World.size_setCell, World.heap_drewN, World.size_drew]); omega) _ | (with_reducible refine Up.trans ?_ (by with_reducible assumption)))))
          · skip
            have hb : (inB x4 a4 b4 && inB y4 c4 d4) = false := by simp [inB, *]
            simp only [hm, hb]
            clear hm hb
            go_wp2_with (first
              | (go_at_call 25; refine (l_inside _ _ _ _ _).mono ?_; rintro e wn ⟨rfl, hu⟩; obtain ⟨N, J, JF, hn1, hn2, hz, hc, hf⟩ := hu.facts; (try simp only [World.size_alloc, World.size_setCell, World.heap_drewN, World.size_drew] at hn1 hn2); (try simp only [cell_drewI] at hc); (try simp only [frz_drewI] at hf)))
            all_goals (go_ret; refine ⟨ret_bool (by first | rfl | (simp [*]; done) | (simp; omega)), ?_⟩; (repeat' (first | with_reducible exact Up.refl _ | with_reducible assumption | with_reducible refine Up.alloc ?_ _ | with_reducible refine Up.drew ?_ | with_reducible refine Up.drewN ?_ _ | with_reducible refine Up.setCell ?_ (by (try simp only [World.size_alloc, World.size_setCell, World.heap_drewN, World.size_drew]); omega) _ | (with_reducible refine Up.trans ?_ (by with_reducible assumption)))))
        · skip
          have hb : (inB x4 a4 b4 && inB y4 c4 d4) = false := by simp [inB, *]
          simp only [hm, hb]
          clear hm hb
          go_wp2_with (first
            | (go_at_call 25; refine (l_inside _ _ _ _ _).mono ?_; rintro e wn ⟨rfl, hu⟩; obtain ⟨N, J, JF, hn1, hn2, hz, hc, hf⟩ := hu.facts; (try simp only [World.size_alloc, World.size_setCell, World.heap_drewN, World.size_drew] at hn1 hn2); (try simp only [cell_drewI] at hc); (try simp only [frz_drewI] at hf)))
          all_goals (go_ret; refine ⟨ret_bool (by first | rfl | (simp [*]; done) | (simp; omega)), ?_⟩; (repeat' (first | with_reducible exact Up.refl _ | with_reducible assumption | with_reducible refine Up.alloc ?_ _ | with_reducible refine Up.drew ?_ | with_reducible refine Up.drewN ?_ _ | with_reducible refine Up.setCell ?_ (by (try simp only [World.size_alloc, World.size_setCell, World.heap_drewN, World.size_drew]); omega) _ | (with_reducible refine Up.trans ?_ (by with_reducible assumption)))))
    · have h1 : ((widPR a1 b1 c1 d1 y1).2.2.2.2 != 0) = true := by simpa using h0
      clear q4 q5 q6 q7 q8 q9 q10 q11
      rcases mayR_two a4 b4 c4 d4 x4 y4 with hm | hm
      · have hm : ((mayR a4 b4 c4 d4 x4 y4).2 == 0) = false := by simpa using hm
        go_wp2_with (first
          | (go_at_call 25; refine (l_inside _ _ _ _ _).mono ?_; rintro e wn ⟨rfl, hu⟩; obtain ⟨N, J, JF, hn1, hn2, hz, hc, hf⟩ := hu.facts; (try simp only [World.size_alloc, World.size_setCell, World.heap_drewN, World.size_drew] at hn1 hn2); (try simp only [cell_drewI] at hc); (try simp only [frz_drewI] at hf)))
        all_goals (go_ret; refine ⟨ret_bool (by first | rfl | (simp [*]; done) | (simp; omega)), ?_⟩; (repeat' (first | with_reducible exact Up.refl _ | with_reducible assumption | with_reducible refine Up.alloc ?_ _ | with_reducible refine Up.drew ?_ | with_reducible refine Up.drewN ?_ _ | with_reducible refine Up.setCell ?_ (by (try simp only [World.size_alloc, World.size_setCell, World.heap_drewN, World.size_drew]); omega) _ | (with_reducible refine Up.trans ?_ (by with_reducible assumption)))))
      · skip
        by_cases k0 : a4 ≤ x4
        · skip
          by_cases k1 : x4 ≤ b4
          · skip
            by_cases k2 : c4 ≤ y4
            · skip
              by_cases k3 : y4 ≤ d4
              · skip
                have hb : (inB x4 a4 b4 && inB y4 c4 d4) = true := by simp [inB, *]
                simp only [hm, hb]
                clear hm hb
                go_wp2_with (first
                  | (go_at_call 25; refine (l_inside _ _ _ _ _).mono ?_; rintro e wn ⟨rfl, hu⟩; obtain ⟨N, J, JF, hn1, hn2, hz, hc, hf⟩ := hu.facts; (try simp only [World.size_alloc, World.size_setCell, World.heap_drewN, World.size_drew] at hn1 hn2); (try simp only [cell_drewI] at hc); (try simp only [frz_drewI] at hf)))
                all_goals (go_ret; refine ⟨ret_bool (by first | rfl | (simp [*]; done) | (simp; omega)), ?_⟩; (repeat' (first | with_reducible exact Up.refl _ | with_reducible assumption | with_reducible refine Up.alloc ?_ _ | with_reducible refine Up.drew ?_ | with_reducible refine Up.drewN ?_ _ | with_reducible refine Up.setCell ?_ (by (try simp only [World.size_alloc, World.size_setCell, World.heap_drewN, World.size_drew]); omega) _ | (with_reducible refine Up.trans ?_ (by with_reducible assumption)))))
              · skip
                have hb : (inB x4 a4 b4 && inB y4 c4 d4) = false := by simp [inB, *]
                simp only [hm, hb]
                clear hm hb
                go_wp2_with (first
                  | (go_at_call 25; refine (l_inside _ _ _ _ _).mono ?_; rintro e wn ⟨rfl, hu⟩; obtain ⟨N, J, JF, hn1, hn2, hz, hc, hf⟩ := hu.facts; (try simp only [World.size_alloc, World.size_setCell, World.heap_drewN, World.size_drew] at hn1 hn2); (try simp only [cell_drewI] at hc); (try simp only [frz_drewI] at hf)))
                all_goals (go_ret; refine ⟨ret_bool (by first | rfl | (simp [*]; done) | (simp; omega)), ?_⟩; (repeat' (first | with_reducible exact Up.refl _ | with_reducible assumption | with_reducible refine Up.alloc ?_ _ | with_reducible refine Up.drew ?_ | with_reducible refine Up.drewN ?_ _ | with_reducible refine Up.setCell ?_ (by (try simp only [World.size_alloc, World.size_setCell, World.heap_drewN, World.size_drew]); omega) _ | (with_reducible refine Up.trans ?_ (by with_reducible assumption)))))
            · skip
              have hb : (inB x4 a4 b4 && inB y4 c4 d4) = false := by simp [inB, *]
              simp only [hm, hb]
              clear hm hb
              go_wp2_with (first
                | (go_at_call 25; refine (l_inside _ _ _ _ _).mono ?_; rintro e wn ⟨rfl, hu⟩; obtain ⟨N, J, JF, hn1, hn2, hz, hc, hf⟩ := hu.facts; (try simp only [World.size_alloc, World.size_setCell, World.heap_drewN, World.size_drew] at hn1 hn2); (try simp only [cell_drewI] at hc); (try simp only [frz_drewI] at hf)))
              all_goals (go_ret; refine ⟨ret_bool (by first | rfl | (simp [*]; done) | (simp; omega)), ?_⟩; (repeat' (first | with_reducible exact Up.refl _ | with_reducible assumption | with_reducible refine Up.alloc ?_ _ | with_reducible refine Up.drew ?_ | with_reducible refine Up.drewN ?_ _ | with_reducible refine Up.setCell ?_ (by (try simp only [World.size_alloc, World.size_setCell, World.heap_drewN, World.size_drew]); omega) _ | (with_reducible refine Up.trans ?_ (by with_reducible assumption)))))
          · skip
            have hb : (inB x4 a4 b4 && inB y4 c4 d4) = false := by simp [inB, *]
            simp only [hm, hb]
            clear hm hb
            go_wp2_with (first
              | (go_at_call 25; refine (l_inside _ _ _ _ _).mono ?_; rintro e wn ⟨rfl, hu⟩; obtain ⟨N, J, JF, hn1, hn2, hz, hc, hf⟩ := hu.facts; (try simp only [World.size_alloc, World.size_setCell, World.heap_drewN, World.size_drew] at hn1 hn2); (try simp only [cell_drewI] at hc); (try simp only [frz_drewI] at hf)))
            all_goals (go_ret; refine ⟨ret_bool (by first | rfl | (simp [*]; done) | (simp; omega)), ?_⟩; (repeat' (first | with_reducible exact Up.refl _ | with_reducible assumption | with_reducible refine Up.alloc ?_ _ | with_reducible refine Up.drew ?_ | with_reducible refine Up.drewN ?_ _ | with_reducible refine Up.setCell ?_ (by (try simp only [World.size_alloc, World.size_setCell, World.heap_drewN, World.size_drew]); omega) _ | (with_reducible refine Up.trans ?_ (by with_reducible assumption)))))
        · skip
          have hb : (inB x4 a4 b4 && inB y4 c4 d4) = false := by simp [inB, *]
          simp only [hm, hb]
          clear hm hb
          go_wp2_with (first
            | (go_at_call 25; refine (l_inside _ _ _ _ _).mono ?_; rintro e wn ⟨rfl, hu⟩; obtain ⟨N, J, JF, hn1, hn2, hz, hc, hf⟩ := hu.facts; (try simp only [World.size_alloc, World.size_setCell, World.heap_drewN, World.size_drew] at hn1 hn2); (try simp only [cell_drewI] at hc); (try simp only [frz_drewI] at hf)))
          all_goals (go_ret; refine ⟨ret_bool (by first | rfl | (simp [*]; done) | (simp; omega)), ?_⟩; (repeat' (first | with_reducible exact Up.refl _ | with_reducible assumption | with_reducible refine Up.alloc ?_ _ | with_reducible refine Up.drew ?_ | with_reducible refine Up.drewN ?_ _ | with_reducible refine Up.setCell ?_ (by (try simp only [World.size_alloc, World.size_setCell, World.heap_drewN, World.size_drew]); omega) _ | (with_reducible refine Up.trans ?_ (by with_reducible assumption)))))
  · have g0 : decide (4096 < (n : Int)) = true := by simp; omega
    go_enter Try.func4, Try.ntmps4
    go_wp2_with (go_at_call 18; refine (l_big _ _ _ _ hm).mono ?_; rintro e w' ⟨rfl, rfl⟩)
    go_ret
    exact ⟨rfl, Up.refl _⟩
end Go.Proofs.Ytffkcgdgiggfoaa
