import Derived.Test.YtanafhmjmfkpmaaIvLaws
import Derived.Test.YtanafhmjmfkpmaaDice
import Derived.Test.YtanafhmjmfkpmaaIvDraws
import Derived.Test.YtanafhmjmfkpmaaOpenB
/- The walk of the law FnSums. -/
namespace Go.Proofs.Ytanafhmjmfkpmaa
set_option linter.unusedSimpArgs false
set_option linter.unusedVariables false
open Go.RowKit
attribute [local go_sem] cell_allocI frz_allocI later_cell later_frz
attribute [local go_sem] cell_setI cell_drewI frz_drewI
theorem l_inside (a b c d : Int) (w : World) :
    Calls Try.prog 34 #[.agg #[.int .i64 a, .int .i64 b], .agg #[.int .i64 c, .int .i64 d]] w fun e w' => e = .returned (.bool (decide (c ≤ a) && decide (b ≤ d))) ∧ Up w w' := by
  go_enter Try.func34, Try.ntmps34
  go_wp2
  all_goals (go_ret; refine ⟨ret_bool ?_, ?_⟩; · (simp [*] <;> omega)
             (repeat' (first | with_reducible exact Up.refl _ | with_reducible assumption | with_reducible refine Up.alloc ?_ _ | with_reducible refine Up.drew ?_ | with_reducible refine Up.drewN ?_ _ | with_reducible refine Up.setCell ?_ (by (try simp only [World.size_alloc, World.size_setCell, World.heap_drewN, World.size_drew]); omega) _ | (with_reducible refine Up.trans ?_ (by with_reducible assumption)))))
theorem wr {x : Int} (h1 : -9000000000000000000 ≤ x) (h2 : x ≤ 9000000000000000000) : IntKind.i64.wrap x = x := by simp only [IntKind.wrap_i64]; omega
theorem addR_ok {a b c d : Int} (h : (addR a b c d).2.2 = 0) : addR a b c d = (a + c, b + d, 0) ∧ isIvB a b = true ∧ isIvB c d = true ∧ inB (a + c) (-1000000000000) 1000000000000 = true ∧ inB (b + d) (-1000000000000) 1000000000000 = true := by
  by_cases k : (isIvB a b && isIvB c d) = true
  · have e : addR a b c d = toldR (a + c) (b + d) := by unfold addR; rw [if_pos k]
    rw [e] at h ⊢
    by_cases l : (inB (a + c) (-1000000000000) 1000000000000 && inB (b + d) (-1000000000000) 1000000000000) = true
    · rw [Bool.and_eq_true] at k l
      exact ⟨by unfold toldR; rw [if_pos (by rw [Bool.and_eq_true]; exact l)], k.1, k.2, l.1, l.2⟩
    · unfold toldR at h; rw [if_neg l] at h; simp at h
  · unfold addR at h; rw [if_neg k] at h; simp at h
theorem subR_two {a b c d : Int} (h1 : isIvB a b = true) (h2 : isIvB c d = true) : subR a b c d = (a - d, b - c, 0) ∨ subR a b c d = (0, 0, 3) := by
  unfold subR
  rw [if_pos (by simp [h1, h2])]
  unfold toldR
  split
  · exact Or.inl rfl
  · exact Or.inr rfl
theorem has_ok {a b x : Int} (h1 : -1000000000000 ≤ a) (h2 : b ≤ 1000000000000) (h3 : a ≤ x) (h4 : x ≤ b) : (isIvB a b && inB x a b) = true := by
  rw [Bool.and_eq_true, isIvB_iff, inB_iff]; omega
set_option maxRecDepth 100000 in
set_option maxHeartbeats 4000000 in
theorem walk_FnSums (w : World) (A : Option Addr) (n c : Nat) (hR : RdB w A n) (hm : n ≤ maxLen) :
    Calls Try.prog 5 #[.slice A n c] w fun e w' => e = .returned (.bool true) ∧ Up w w' := by
  by_cases hn : n ≤ 4096
  · have g0 : decide (4096 < (n : Int)) = false := by simp; omega
    go_enter Try.func5, Try.ntmps5
    go_upto_region 6 with (first
      | (go_at_call 22; refine (l_big _ _ _ _ hm).mono ?_; rintro e w' ⟨rfl, rfl⟩)
      | (go_at_call 23; refine (s_DrawAddIntervals _ _ _ w _ hR (by (repeat' (first | with_reducible exact Up.refl _ | with_reducible assumption | with_reducible refine Up.alloc ?_ _ | with_reducible refine Up.drew ?_ | with_reducible refine Up.drewN ?_ _ | with_reducible refine Up.setCell ?_ (by (try simp only [World.size_alloc, World.size_setCell, World.heap_drewN, World.size_drew]); omega) _ | (with_reducible refine Up.trans ?_ (by with_reducible assumption))))) hn).mono ?_; rintro e w1 ⟨⟨a1, b1, c1, d1, rfl, ia, ib, ic, id⟩, hu1⟩; obtain ⟨N1, J1, JF1, ha1, hb1, hz1, hc1, hf1⟩ := hu1.facts; (try simp only [World.size_alloc, World.size_setCell, World.heap_drewN, World.size_drew] at ha1 hb1); (try simp only [cell_drewI] at hc1); (try simp only [frz_drewI] at hf1))
      | (go_at_call 24; refine (i_AddIntervals _ _ _ _ _).mono ?_; rintro e w2 ⟨rfl, hu2⟩; obtain ⟨N2, J2, JF2, ha2, hb2, hz2, hc2, hf2⟩ := hu2.facts; (try simp only [World.size_alloc, World.size_setCell, World.heap_drewN, World.size_drew] at ha2 hb2); (try simp only [cell_drewI] at hc2); (try simp only [frz_drewI] at hf2))
      | (go_at_call 25; refine (s_AddIntervals _ _ _ _ _).mono ?_; rintro e w3 ⟨rfl, hu3⟩; obtain ⟨N3, J3, JF3, ha3, hb3, hz3, hc3, hf3⟩ := hu3.facts; (try simp only [World.size_alloc, World.size_setCell, World.heap_drewN, World.size_drew] at ha3 hb3); (try simp only [cell_drewI] at hc3); (try simp only [frz_drewI] at hf3)))
    refine wp_gen ?_
    intro W0 hW0
    have p1 : W0.cell? ⟨w1.heap.size, 0, none⟩ = some (.int .i64 a1) := by rw [hW0]; (simp [isSome_setCell, cell_setI, cell_drewI, cell_allocI, ↓IntWalk.iteOmega, *])
    have p2 : W0.cell? ⟨w1.heap.size, 1, none⟩ = some (.int .i64 b1) := by rw [hW0]; (simp [isSome_setCell, cell_setI, cell_drewI, cell_allocI, ↓IntWalk.iteOmega, *])
    have p3 : W0.cell? ⟨(w1.heap.size + 1), 0, none⟩ = some (.int .i64 c1) := by rw [hW0]; (simp [isSome_setCell, cell_setI, cell_drewI, cell_allocI, ↓IntWalk.iteOmega, *])
    have p4 : W0.cell? ⟨(w1.heap.size + 1), 1, none⟩ = some (.int .i64 d1) := by rw [hW0]; (simp [isSome_setCell, cell_setI, cell_drewI, cell_allocI, ↓IntWalk.iteOmega, *])
    have p5 : W0.cell? ⟨w2.heap.size, 0, none⟩ = some (.int .i64 (addR a1 b1 c1 d1).1) := by rw [hW0]; (simp [isSome_setCell, cell_setI, cell_drewI, cell_allocI, ↓IntWalk.iteOmega, *])
    have p6 : W0.cell? ⟨w2.heap.size, 1, none⟩ = some (.int .i64 (addR a1 b1 c1 d1).2.1) := by rw [hW0]; (simp [isSome_setCell, cell_setI, cell_drewI, cell_allocI, ↓IntWalk.iteOmega, *])
    have p7 : W0.cell? ⟨w3.heap.size, 0, none⟩ = some (.int .i64 (addR a1 b1 c1 d1).1) := by rw [hW0]; (simp [isSome_setCell, cell_setI, cell_drewI, cell_allocI, ↓IntWalk.iteOmega, *])
    have p8 : W0.cell? ⟨w3.heap.size, 1, none⟩ = some (.int .i64 (addR a1 b1 c1 d1).2.1) := by rw [hW0]; (simp [isSome_setCell, cell_setI, cell_drewI, cell_allocI, ↓IntWalk.iteOmega, *])
    have hU0 : Up w W0 := by rw [hW0]; (repeat' (first | with_reducible exact Up.refl _ | with_reducible assumption | with_reducible refine Up.alloc ?_ _ | with_reducible refine Up.drew ?_ | with_reducible refine Up.drewN ?_ _ | with_reducible refine Up.setCell ?_ (by (try simp only [World.size_alloc, World.size_setCell, World.heap_drewN, World.size_drew]); omega) _ | (with_reducible refine Up.trans ?_ (by with_reducible assumption))))
    have hs1 : w3.heap.size < W0.heap.size := by rw [hW0]; (try simp only [World.size_alloc, World.size_setCell, World.heap_drewN, World.size_drew]); omega
    have hs2 : w2.heap.size < w3.heap.size := by omega
    have hs3 : w1.heap.size + 1 < w2.heap.size := by omega
    have hs4 : w.heap.size ≤ w1.heap.size := by omega
    clear hW0 hu1 ha1 hb1 hc1 hf1 hu2 ha2 hb2 hc2 hf2 hu3 ha3 hb3 hc3 hf3
    go_upto_region 9 with (first
      | (go_at_call 26; refine (s_DrawSubtractIntervals _ _ _ w _ hR (by (repeat' (first | with_reducible exact Up.refl _ | with_reducible assumption | with_reducible refine Up.alloc ?_ _ | with_reducible refine Up.drew ?_ | with_reducible refine Up.drewN ?_ _ | with_reducible refine Up.setCell ?_ (by (try simp only [World.size_alloc, World.size_setCell, World.heap_drewN, World.size_drew]); omega) _ | (with_reducible refine Up.trans ?_ (by with_reducible assumption))))) hn).mono ?_; rintro e w4 ⟨⟨a4, b4, c4, d4, rfl, ie, jf, ig, ih⟩, hu4⟩; obtain ⟨N4, J4, JF4, ha4, hb4, hz4, hc4, hf4⟩ := hu4.facts; (try simp only [World.size_alloc, World.size_setCell, World.heap_drewN, World.size_drew] at ha4 hb4); (try simp only [cell_drewI] at hc4); (try simp only [frz_drewI] at hf4))
      | (go_at_call 27; refine (i_SubtractIntervals _ _ _ _ _).mono ?_; rintro e w5 ⟨rfl, hu5⟩; obtain ⟨N5, J5, JF5, ha5, hb5, hz5, hc5, hf5⟩ := hu5.facts; (try simp only [World.size_alloc, World.size_setCell, World.heap_drewN, World.size_drew] at ha5 hb5); (try simp only [cell_drewI] at hc5); (try simp only [frz_drewI] at hf5))
      | (go_at_call 28; refine (s_SubtractIntervals _ _ _ _ _).mono ?_; rintro e w6 ⟨rfl, hu6⟩; obtain ⟨N6, J6, JF6, ha6, hb6, hz6, hc6, hf6⟩ := hu6.facts; (try simp only [World.size_alloc, World.size_setCell, World.heap_drewN, World.size_drew] at ha6 hb6); (try simp only [cell_drewI] at hc6); (try simp only [frz_drewI] at hf6)))
    refine wp_gen ?_
    intro W1 hW1
    have q1 : W1.cell? ⟨w1.heap.size, 0, none⟩ = some (.int .i64 a1) := by rw [hW1]; (simp [isSome_setCell, cell_setI, cell_drewI, cell_allocI, ↓IntWalk.iteOmega, *])
    have q2 : W1.cell? ⟨w1.heap.size, 1, none⟩ = some (.int .i64 b1) := by rw [hW1]; (simp [isSome_setCell, cell_setI, cell_drewI, cell_allocI, ↓IntWalk.iteOmega, *])
    have q3 : W1.cell? ⟨(w1.heap.size + 1), 0, none⟩ = some (.int .i64 c1) := by rw [hW1]; (simp [isSome_setCell, cell_setI, cell_drewI, cell_allocI, ↓IntWalk.iteOmega, *])
    have q4 : W1.cell? ⟨(w1.heap.size + 1), 1, none⟩ = some (.int .i64 d1) := by rw [hW1]; (simp [isSome_setCell, cell_setI, cell_drewI, cell_allocI, ↓IntWalk.iteOmega, *])
    have q5 : W1.cell? ⟨w2.heap.size, 0, none⟩ = some (.int .i64 (addR a1 b1 c1 d1).1) := by rw [hW1]; (simp [isSome_setCell, cell_setI, cell_drewI, cell_allocI, ↓IntWalk.iteOmega, *])
    have q6 : W1.cell? ⟨w2.heap.size, 1, none⟩ = some (.int .i64 (addR a1 b1 c1 d1).2.1) := by rw [hW1]; (simp [isSome_setCell, cell_setI, cell_drewI, cell_allocI, ↓IntWalk.iteOmega, *])
    have q7 : W1.cell? ⟨w3.heap.size, 0, none⟩ = some (.int .i64 (addR a1 b1 c1 d1).1) := by rw [hW1]; (simp [isSome_setCell, cell_setI, cell_drewI, cell_allocI, ↓IntWalk.iteOmega, *])
    have q8 : W1.cell? ⟨w3.heap.size, 1, none⟩ = some (.int .i64 (addR a1 b1 c1 d1).2.1) := by rw [hW1]; (simp [isSome_setCell, cell_setI, cell_drewI, cell_allocI, ↓IntWalk.iteOmega, *])
    have r1 : W1.cell? ⟨w5.heap.size, 0, none⟩ = some (.int .i64 (subR a4 b4 c4 d4).1) := by rw [hW1]; (simp [isSome_setCell, cell_setI, cell_drewI, cell_allocI, ↓IntWalk.iteOmega, *])
    have r2 : W1.cell? ⟨w5.heap.size, 1, none⟩ = some (.int .i64 (subR a4 b4 c4 d4).2.1) := by rw [hW1]; (simp [isSome_setCell, cell_setI, cell_drewI, cell_allocI, ↓IntWalk.iteOmega, *])
    have r3 : W1.cell? ⟨w6.heap.size, 0, none⟩ = some (.int .i64 (subR a4 b4 c4 d4).1) := by rw [hW1]; (simp [isSome_setCell, cell_setI, cell_drewI, cell_allocI, ↓IntWalk.iteOmega, *])
    have r4 : W1.cell? ⟨w6.heap.size, 1, none⟩ = some (.int .i64 (subR a4 b4 c4 d4).2.1) := by rw [hW1]; (simp [isSome_setCell, cell_setI, cell_drewI, cell_allocI, ↓IntWalk.iteOmega, *])
    have hU1 : Up w W1 := by rw [hW1]; (repeat' (first | with_reducible exact Up.refl _ | with_reducible assumption | with_reducible refine Up.alloc ?_ _ | with_reducible refine Up.drew ?_ | with_reducible refine Up.drewN ?_ _ | with_reducible refine Up.setCell ?_ (by (try simp only [World.size_alloc, World.size_setCell, World.heap_drewN, World.size_drew]); omega) _ | (with_reducible refine Up.trans ?_ (by with_reducible assumption))))
    have hs5 : w6.heap.size < W1.heap.size := by rw [hW1]; (try simp only [World.size_alloc, World.size_setCell, World.heap_drewN, World.size_drew]); omega
    have hs6 : w5.heap.size < w6.heap.size := by omega
    have hs7 : w3.heap.size < w5.heap.size := by omega
    clear hW1 hu4 ha4 hb4 hc4 hf4 hu5 ha5 hb5 hc5 hf5 hu6 ha6 hb6 hc6 hf6 p1 p2 p3 p4 p5 p6 p7 p8 hU0 hs1
    refine wp_region_later (by kernel_rfl) (by kernel_rfl) ?_
    repeat (go_big_quiet_step (first | ((go_at_call 29; exact later_call (i_IsInterval _ _ _))) | ((go_at_call 30; exact later_call (s_IsInterval _ _ _)))))
    refine wpQuiet_nil ?_; intro _ hw'; obtain ⟨x, hw''⟩ := hw'; subst hw''; obtain ⟨wn, hu⟩ := x; dsimp only; obtain ⟨N, J, JF, hn1, hn2, hz, hc, hf⟩ := hu.facts; (try simp only [World.size_alloc, World.size_setCell, World.heap_drewN, World.size_drew] at hn1 hn2)
    go_upto_region 11 with fail
    have hUw : Up w wn := hU1.trans hu
    have u1 := (hu.cells _ _ (cell_lt q1)).trans q1
    have u2 := (hu.cells _ _ (cell_lt q2)).trans q2
    have u3 := (hu.cells _ _ (cell_lt q3)).trans q3
    have u4 := (hu.cells _ _ (cell_lt q4)).trans q4
    have u5 := (hu.cells _ _ (cell_lt q5)).trans q5
    have u6 := (hu.cells _ _ (cell_lt q6)).trans q6
    have hsw := hu.size
    clear hc hf hu hz hn1 hn2 q1 q2 q3 q4 q5 q6 q7 q8 r1 r2 r3 r4 hU1
    by_cases h0 : (addR a1 b1 c1 d1).2.2 = 0
    · obtain ⟨hx, v1, v2, v3, v4⟩ := addR_ok h0
      have e1 : (addR a1 b1 c1 d1).1 = a1 + c1 := by rw [hx]
      have e2 : (addR a1 b1 c1 d1).2.1 = b1 + d1 := by rw [hx]
      rw [e1] at u5
      rw [e2] at u6
      simp only [h0]
      clear hx e1 e2 h0
      obtain ⟨x1, x2, x3⟩ := isIvB_iff.1 v1
      obtain ⟨y1, y2, y3⟩ := isIvB_iff.1 v2
      obtain ⟨z1, z2⟩ := inB_iff.1 v3
      obtain ⟨z3, z4⟩ := inB_iff.1 v4
      have hV : isIvB (a1 + c1) (b1 + d1) = true := isIvB_iff.2 (by omega)
      go_upto_region 14 with (go_at_call 31; refine (l_roll _ _ _ _ _ (hR.up hUw) hn (by omega) (by omega)).mono ?_; rintro e w7 ⟨rfl, hD, hu7⟩; obtain ⟨N7, J7, JF7, ha7, hb7, hz7, hc7, hf7⟩ := hu7.facts; (try simp only [World.size_alloc, World.size_setCell, World.heap_drewN, World.size_drew] at ha7 hb7); (try simp only [cell_drewI] at hc7); (try simp only [frz_drewI] at hf7))
      have hUv : Up w w7 := hUw.trans hu7
      have u1 := (hu7.cells _ _ (cell_lt u1)).trans u1
      have u2 := (hu7.cells _ _ (cell_lt u2)).trans u2
      have u3 := (hu7.cells _ _ (cell_lt u3)).trans u3
      have u4 := (hu7.cells _ _ (cell_lt u4)).trans u4
      have u5 := (hu7.cells _ _ (cell_lt u5)).trans u5
      have u6 := (hu7.cells _ _ (cell_lt u6)).trans u6
      have hs8 := hD.lt
      clear hu7 ha7 hb7 hc7 hf7
      have wA : IntKind.i64.wrap (b1 - a1) = b1 - a1 := wr (by omega) (by omega)
      have wB : IntKind.i64.wrap (b1 - a1 + 1) = b1 - a1 + 1 := wr (by omega) (by omega)
      have wC : IntKind.i64.wrap (d1 - c1) = d1 - c1 := wr (by omega) (by omega)
      have wD : IntKind.i64.wrap (d1 - c1 + 1) = d1 - c1 + 1 := wr (by omega) (by omega)
      go_cut [16, 17] (fun s16 s17 wx => ∃ m n : Int, s16 = .int .i64 m ∧ s17 = .int .i64 n ∧ (a1 ≤ m ∧ m ≤ b1) ∧ (c1 ≤ n ∧ n ≤ d1) ∧ w7.grownBy wx (some wn.heap.size))
      case first =>
        go_region_held3 (fun w' => w'.cell? ⟨w1.heap.size, 0, none⟩ = some (.int .i64 a1) ∧ w'.cell? ⟨w1.heap.size, 1, none⟩ = some (.int .i64 b1) ∧ w'.cell? ⟨w1.heap.size + 1, 0, none⟩ = some (.int .i64 c1) ∧ w'.cell? ⟨w1.heap.size + 1, 1, none⟩ = some (.int .i64 d1) ∧ w'.cell? ⟨w2.heap.size, 0, none⟩ = some (.int .i64 (a1 + c1)) ∧ w'.cell? ⟨w2.heap.size, 1, none⟩ = some (.int .i64 (b1 + d1)))
          (first | ((try dsimp only); (repeat' apply And.intro) <;> (first | (simp [cell_drewI, ↓IntWalk.iteOmega, *]; done))))
          (first | (go_at_call 32; (try simp only [wA, wB, wC, wD]); refine (l_below _ _ _ (by (first | with_reducible assumption | (with_reducible refine Dice.up (by with_reducible assumption) ?_; (repeat' (first | with_reducible exact Up.refl _ | with_reducible assumption | with_reducible refine Up.alloc ?_ _ | with_reducible refine Up.drew ?_ | with_reducible refine Up.drewN ?_ _ | with_reducible refine Up.setCell ?_ (by (try simp only [World.size_alloc, World.size_setCell, World.heap_drewN, World.size_drew]); omega) _ | (with_reducible refine Up.trans ?_ (by with_reducible assumption)))); done))) (by omega) (by omega)).mono ?_; rintro e w8 ⟨⟨r, rfl, r0, r1⟩, hD, hg⟩; obtain ⟨N, J, JF, hn1, hn2, hz, hc, hf⟩ := grown_facts hg; (try simp only [World.size_alloc, World.size_setCell, World.heap_drewN, World.size_drew] at hn1 hn2); (try simp only [cell_drewI] at hc); (try simp only [frz_drewI] at hf)))
        all_goals (go_wp2_with fail; go_meet; exact ⟨_, _, rfl, rfl, (by rw [wr (by omega) (by omega)]; omega), (by rw [wr (by omega) (by omega)]; omega), by (repeat' (first | with_reducible exact grown_refl _ _ | with_reducible assumption | with_reducible refine grown_up ?_ ((Up.refl _).drew) | with_reducible refine grown_up ?_ (Up.alloc (Up.refl _) _) | with_reducible refine grown_set ?_ _ _ | with_reducible refine grown_trans ?_ (by with_reducible assumption) | with_reducible refine grown_new ?_ (by (try simp only [World.size_alloc, World.size_setCell, World.heap_drewN, World.size_drew]); omega) _))⟩)
      case rest =>
        obtain ⟨m, k, rfl, rfl, ⟨m1, m2⟩, ⟨k1, k2⟩, hg⟩ := hcut
        have hUx : Up w wc := Up.only hUv hg (by omega)
        have hc : ∀ b o, b < w7.heap.size → b ≠ wn.heap.size → wc.cell? ⟨b, o, none⟩ = w7.cell? ⟨b, o, none⟩ := fun b o hb hne => by
          have hh := hg.block b hb (by simpa using hne)
          simp only [World.cell?, hh]
        have t1 := (hc _ _ (cell_lt u1) (by omega)).trans u1
        have t2 := (hc _ _ (cell_lt u2) (by omega)).trans u2
        have t3 := (hc _ _ (cell_lt u3) (by omega)).trans u3
        have t4 := (hc _ _ (cell_lt u4) (by omega)).trans u4
        have t5 := (hc _ _ (cell_lt u5) (by omega)).trans u5
        have t6 := (hc _ _ (cell_lt u6) (by omega)).trans u6
        have hsx := hg.size
        clear hc u1 u2 u3 u4 u5 u6 hUv hD
        have hHas := has_ok (a := a1 + c1) (b := b1 + d1) (x := m + k) z1 z4 (by omega) (by omega)
        have hI := fun w => i_SubtractIntervals (a1 + c1) (b1 + d1) c1 d1 w
        rcases subR_two hV v2 with hb | hb
        all_goals
          rw [hb] at hI
          clear hb
          go_wp2_with (first
            | (go_at_call 33; refine (i_HasNumber _ _ _ _).mono ?_; rw [hHas]; rintro e w8 ⟨rfl, hu8⟩; obtain ⟨N8, J8, JF8, ha8, hb8, hz8, hc8, hf8⟩ := hu8.facts; (try simp only [World.size_alloc, World.size_setCell, World.heap_drewN, World.size_drew] at ha8 hb8); (try simp only [cell_drewI] at hc8); (try simp only [frz_drewI] at hf8))
            | (go_at_call 27; refine (hI _).mono ?_; rintro e w9 ⟨rfl, hu9⟩; obtain ⟨N9, J9, JF9, ha9, hb9, hz9, hc9, hf9⟩ := hu9.facts; (try simp only [World.size_alloc, World.size_setCell, World.heap_drewN, World.size_drew] at ha9 hb9); (try simp only [cell_drewI] at hc9); (try simp only [frz_drewI] at hf9))
            | (go_at_call 34; refine (l_inside _ _ _ _ _).mono ?_; rintro e wn ⟨rfl, hu⟩; obtain ⟨N, J, JF, hn1, hn2, hz, hc, hf⟩ := hu.facts; (try simp only [World.size_alloc, World.size_setCell, World.heap_drewN, World.size_drew] at hn1 hn2); (try simp only [cell_drewI] at hc); (try simp only [frz_drewI] at hf)))
          go_ret
          have hUx := hUx
          refine ⟨ret_bool (by (first | rfl | (rw [Bool.and_eq_true, decide_eq_true_eq, decide_eq_true_eq]; omega))), ?_⟩
          (repeat' (first | with_reducible exact Up.refl _ | with_reducible assumption | with_reducible refine Up.alloc ?_ _ | with_reducible refine Up.drew ?_ | with_reducible refine Up.drewN ?_ _ | with_reducible refine Up.setCell ?_ (by (try simp only [World.size_alloc, World.size_setCell, World.heap_drewN, World.size_drew]); omega) _ | (with_reducible refine Up.trans ?_ (by with_reducible assumption))))
    · have h1 : ((addR a1 b1 c1 d1).2.2 != 0) = true := by simpa using h0
      go_wp2_with fail
      go_ret
      exact ⟨rfl, hUw⟩
  · have g0 : decide (4096 < (n : Int)) = true := by simp; omega
    go_enter Try.func5, Try.ntmps5
    go_wp2_with (go_at_call 22; refine (l_big _ _ _ _ hm).mono ?_; rintro e w' ⟨rfl, rfl⟩)
    go_ret
    exact ⟨rfl, Up.refl _⟩
end Go.Proofs.Ytanafhmjmfkpmaa
