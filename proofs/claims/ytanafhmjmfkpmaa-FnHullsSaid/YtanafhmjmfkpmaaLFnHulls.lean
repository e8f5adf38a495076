import Derived.Test.YtanafhmjmfkpmaaHullLaws
import Derived.Test.YtanafhmjmfkpmaaHullDraws
import Derived.Test.YtanafhmjmfkpmaaDice
import Derived.Test.YtanafhmjmfkpmaaOpenB
/- The walk of the law FnHulls. -/
namespace Go.Proofs.Ytanafhmjmfkpmaa
set_option linter.unusedSimpArgs false
set_option linter.unusedVariables false
open Go.RowKit
attribute [local go_sem] cell_allocI frz_allocI later_cell later_frz
attribute [local go_sem] cell_setI cell_drewI frz_drewI
theorem l_insideH (a b c d : Int) (w : World) :
    Calls Try.prog 34 #[.agg #[.int .i64 a, .int .i64 b], .agg #[.int .i64 c, .int .i64 d]] w fun e w' => e = .returned (.bool (decide (c ≤ a) && decide (b ≤ d))) ∧ Up w w' := by
  go_enter Try.func34, Try.ntmps34
  go_wp2
  all_goals (go_ret; refine ⟨ret_bool ?_, ?_⟩; · (simp [*] <;> omega)
             (repeat' (first | with_reducible exact Up.refl _ | with_reducible assumption | with_reducible refine Up.alloc ?_ _ | with_reducible refine Up.drew ?_ | with_reducible refine Up.drewN ?_ _ | with_reducible refine Up.setCell ?_ (by (try simp only [World.size_alloc, World.size_setCell, World.heap_drewN, World.size_drew]); omega) _ | (with_reducible refine Up.trans ?_ (by with_reducible assumption)))))
theorem wrH {x : Int} (h1 : -9000000000000000000 ≤ x) (h2 : x ≤ 9000000000000000000) : IntKind.i64.wrap x = x := by simp only [IntKind.wrap_i64]; omega
theorem hullR_ok {f : Nat → Int} {n : Nat} (h : (hullR f n).2.2 = 0) : hullR f n = (hl f n, hh f n, 0) := by
  unfold hullR at h ⊢
  split at h
  · rename_i k; rw [if_pos k]
    split at h
    · simp at h
    · rename_i l; rw [if_neg l]
      split at h
      · simp at h
      · rename_i q; rw [if_neg q]
  · simp at h
theorem widR_ok {a b y : Int} (h : (widR a b y).2.2 = 0) : widR a b y = (a - y, b + y, 0) ∧ 0 ≤ y := by
  unfold widR at h ⊢
  split at h
  · rename_i k; rw [if_pos k]
    split at h
    · rename_i l; rw [if_pos l]
      unfold toldR at h ⊢
      split at h
      · rename_i q; rw [if_pos q]; exact ⟨rfl, (inB_iff.1 l).1⟩
      · simp at h
    · simp at h
  · simp at h
theorem meetR_three (a b c d : Int) : (meetR a b c d).2.2 = 1 ∨ (isIvB a b = true ∧ isIvB c d = true ∧ max a c ≤ min b d ∧ meetR a b c d = (max a c, min b d, 0)) ∨ (isIvB a b = true ∧ isIvB c d = true ∧ min b d < max a c ∧ meetR a b c d = (0, 0, 4)) := by
  unfold meetR
  by_cases h : (isIvB a b && isIvB c d) = true
  · rw [if_pos h]
    rw [Bool.and_eq_true] at h
    by_cases k : max a c ≤ min b d
    · rw [if_pos k]; exact Or.inr (Or.inl ⟨h.1, h.2, k, rfl⟩)
    · rw [if_neg k]; exact Or.inr (Or.inr ⟨h.1, h.2, by omega, rfl⟩)
  · rw [if_neg h]; exact Or.inl rfl
theorem meet_has {a b c d x : Int} (h1 : isIvB a b = true) (h2 : isIvB c d = true) (k : max a c ≤ min b d) (x1 : a ≤ x) (x2 : x ≤ b) : (isIvB (max a c) (min b d) && inB x (max a c) (min b d)) = (isIvB c d && inB x c d) := by
  rw [isIvB_iff] at h1
  have h3 := isIvB_iff.1 h2
  rw [Bool.eq_iff_iff, Bool.and_eq_true, Bool.and_eq_true, isIvB_iff, isIvB_iff, inB_iff, inB_iff]
  omega
theorem meet_no {a b c d x : Int} (k : min b d < max a c) (x1 : a ≤ x) (x2 : x ≤ b) : (isIvB c d && inB x c d) = false := by
  rw [Bool.eq_false_iff]
  intro h
  rw [Bool.and_eq_true, isIvB_iff, inB_iff] at h
  omega
set_option maxRecDepth 100000 in
set_option maxHeartbeats 8000000 in
theorem walk_FnHulls (w : World) (A : Option Addr) (n c : Nat) (hR : RdB w A n) (hm : n ≤ maxLen) :
    Calls Try.prog 8 #[.slice A n c] w fun e w' => e = .returned (.bool true) ∧ Up w w' := by
  by_cases hn : n ≤ 4096
  · have g0 : decide (4096 < (n : Int)) = false := by simp; omega
    go_enter Try.func8, Try.ntmps8
    go_upto_region 6 with (first
      | (go_at_call 22; refine (l_big _ _ _ _ hm).mono ?_; rintro e w' ⟨rfl, rfl⟩)
      | (go_at_call 41; refine (s_DrawHullOf _ _ _ w _ hR (by (repeat' (first | with_reducible exact Up.refl _ | with_reducible assumption | with_reducible refine Up.alloc ?_ _ | with_reducible refine Up.drew ?_ | with_reducible refine Up.drewN ?_ _ | with_reducible refine Up.setCell ?_ (by (try simp only [World.size_alloc, World.size_setCell, World.heap_drewN, World.size_drew]); omega) _ | (with_reducible refine Up.trans ?_ (by with_reducible assumption))))) hn).mono ?_; rintro e w1 ⟨⟨B, m, dd, f, rfl, hm101, hL⟩, hu1⟩; obtain ⟨N1, J1, JF1, ha1, hb1, hz1, hc1, hf1⟩ := hu1.facts; (try simp only [World.size_alloc, World.size_setCell, World.heap_drewN, World.size_drew] at ha1 hb1); (try simp only [cell_drewI] at hc1); (try simp only [frz_drewI] at hf1))
      | (go_at_call 42; refine (i_HullOf _ _ _ f _ (hL.up (by (repeat' (first | with_reducible exact Up.refl _ | with_reducible assumption | with_reducible refine Up.alloc ?_ _ | with_reducible refine Up.drew ?_ | with_reducible refine Up.drewN ?_ _ | with_reducible refine Up.setCell ?_ (by (try simp only [World.size_alloc, World.size_setCell, World.heap_drewN, World.size_drew]); omega) _ | (with_reducible refine Up.trans ?_ (by with_reducible assumption)))))) (by omega)).mono ?_; rintro e w2 ⟨rfl, hu2⟩; obtain ⟨N2, J2, JF2, ha2, hb2, hz2, hc2, hf2⟩ := hu2.facts; (try simp only [World.size_alloc, World.size_setCell, World.heap_drewN, World.size_drew] at ha2 hb2); (try simp only [cell_drewI] at hc2); (try simp only [frz_drewI] at hf2))
      | (go_at_call 43; refine (s_HullOf _ _ _ f _ (hL.up (by (repeat' (first | with_reducible exact Up.refl _ | with_reducible assumption | with_reducible refine Up.alloc ?_ _ | with_reducible refine Up.drew ?_ | with_reducible refine Up.drewN ?_ _ | with_reducible refine Up.setCell ?_ (by (try simp only [World.size_alloc, World.size_setCell, World.heap_drewN, World.size_drew]); omega) _ | (with_reducible refine Up.trans ?_ (by with_reducible assumption)))))) (by omega)).mono ?_; rintro e w3 ⟨rfl, hu3⟩; obtain ⟨N3, J3, JF3, ha3, hb3, hz3, hc3, hf3⟩ := hu3.facts; (try simp only [World.size_alloc, World.size_setCell, World.heap_drewN, World.size_drew] at ha3 hb3); (try simp only [cell_drewI] at hc3); (try simp only [frz_drewI] at hf3)))
    refine wp_gen ?_
    intro W0 hW0
    have ta0 : W0.cell? ⟨w2.heap.size, 0, none⟩ = some (.int .i64 (hullR f m).1) := by rw [hW0]; (simp [isSome_setCell, cell_setI, cell_drewI, cell_allocI, ↓IntWalk.iteOmega, *])
    have ta1 : W0.cell? ⟨w2.heap.size, 1, none⟩ = some (.int .i64 (hullR f m).2.1) := by rw [hW0]; (simp [isSome_setCell, cell_setI, cell_drewI, cell_allocI, ↓IntWalk.iteOmega, *])
    have tb0 : W0.cell? ⟨w3.heap.size, 0, none⟩ = some (.int .i64 (hullR f m).1) := by rw [hW0]; (simp [isSome_setCell, cell_setI, cell_drewI, cell_allocI, ↓IntWalk.iteOmega, *])
    have tb1 : W0.cell? ⟨w3.heap.size, 1, none⟩ = some (.int .i64 (hullR f m).2.1) := by rw [hW0]; (simp [isSome_setCell, cell_setI, cell_drewI, cell_allocI, ↓IntWalk.iteOmega, *])
    have hU0 : Up w W0 := by rw [hW0]; (repeat' (first | with_reducible exact Up.refl _ | with_reducible assumption | with_reducible refine Up.alloc ?_ _ | with_reducible refine Up.drew ?_ | with_reducible refine Up.drewN ?_ _ | with_reducible refine Up.setCell ?_ (by (try simp only [World.size_alloc, World.size_setCell, World.heap_drewN, World.size_drew]); omega) _ | (with_reducible refine Up.trans ?_ (by with_reducible assumption))))
    have hL := hL.up (w' := W0) (by rw [hW0]; (repeat' (first | with_reducible exact Up.refl _ | with_reducible assumption | with_reducible refine Up.alloc ?_ _ | with_reducible refine Up.drew ?_ | with_reducible refine Up.drewN ?_ _ | with_reducible refine Up.setCell ?_ (by (try simp only [World.size_alloc, World.size_setCell, World.heap_drewN, World.size_drew]); omega) _ | (with_reducible refine Up.trans ?_ (by with_reducible assumption)))))
    have hs1 : w3.heap.size < W0.heap.size := by rw [hW0]; (try simp only [World.size_alloc, World.size_setCell, World.heap_drewN, World.size_drew]); omega
    have hs2 : w2.heap.size < w3.heap.size := by omega
    have hs4 : w.heap.size ≤ w2.heap.size := by omega
    clear hW0 hu1 ha1 hb1 hc1 hf1 hu2 ha2 hb2 hc2 hf2 hu3 ha3 hb3 hc3 hf3
    go_upto_region 9 with (first
      | (go_at_call 44; refine (s_DrawMeetIntervals _ _ _ w _ hR (by (repeat' (first | with_reducible exact Up.refl _ | with_reducible assumption | with_reducible refine Up.alloc ?_ _ | with_reducible refine Up.drew ?_ | with_reducible refine Up.drewN ?_ _ | with_reducible refine Up.setCell ?_ (by (try simp only [World.size_alloc, World.size_setCell, World.heap_drewN, World.size_drew]); omega) _ | (with_reducible refine Up.trans ?_ (by with_reducible assumption))))) hn).mono ?_; rintro e w4 ⟨⟨a4, b4, c4, d4, rfl⟩, hu4⟩; obtain ⟨N4, J4, JF4, ha4, hb4, hz4, hc4, hf4⟩ := hu4.facts; (try simp only [World.size_alloc, World.size_setCell, World.heap_drewN, World.size_drew] at ha4 hb4); (try simp only [cell_drewI] at hc4); (try simp only [frz_drewI] at hf4))
      | (go_at_call 45; refine (i_MeetIntervals _ _ _ _ _).mono ?_; rintro e w5 ⟨rfl, hu5⟩; obtain ⟨N5, J5, JF5, ha5, hb5, hz5, hc5, hf5⟩ := hu5.facts; (try simp only [World.size_alloc, World.size_setCell, World.heap_drewN, World.size_drew] at ha5 hb5); (try simp only [cell_drewI] at hc5); (try simp only [frz_drewI] at hf5))
      | (go_at_call 46; refine (s_MeetIntervals _ _ _ _ _).mono ?_; rintro e w6 ⟨rfl, hu6⟩; obtain ⟨N6, J6, JF6, ha6, hb6, hz6, hc6, hf6⟩ := hu6.facts; (try simp only [World.size_alloc, World.size_setCell, World.heap_drewN, World.size_drew] at ha6 hb6); (try simp only [cell_drewI] at hc6); (try simp only [frz_drewI] at hf6)))
    refine wp_gen ?_
    intro W1 hW1
    have uta0 : W1.cell? ⟨w2.heap.size, 0, none⟩ = some (.int .i64 (hullR f m).1) := by rw [hW1]; (simp [isSome_setCell, cell_setI, cell_drewI, cell_allocI, ↓IntWalk.iteOmega, *])
    have uta1 : W1.cell? ⟨w2.heap.size, 1, none⟩ = some (.int .i64 (hullR f m).2.1) := by rw [hW1]; (simp [isSome_setCell, cell_setI, cell_drewI, cell_allocI, ↓IntWalk.iteOmega, *])
    have utb0 : W1.cell? ⟨w3.heap.size, 0, none⟩ = some (.int .i64 (hullR f m).1) := by rw [hW1]; (simp [isSome_setCell, cell_setI, cell_drewI, cell_allocI, ↓IntWalk.iteOmega, *])
    have utb1 : W1.cell? ⟨w3.heap.size, 1, none⟩ = some (.int .i64 (hullR f m).2.1) := by rw [hW1]; (simp [isSome_setCell, cell_setI, cell_drewI, cell_allocI, ↓IntWalk.iteOmega, *])
    have utc0 : W1.cell? ⟨w4.heap.size, 0, none⟩ = some (.int .i64 a4) := by rw [hW1]; (simp [isSome_setCell, cell_setI, cell_drewI, cell_allocI, ↓IntWalk.iteOmega, *])
    have utc1 : W1.cell? ⟨w4.heap.size, 1, none⟩ = some (.int .i64 b4) := by rw [hW1]; (simp [isSome_setCell, cell_setI, cell_drewI, cell_allocI, ↓IntWalk.iteOmega, *])
    have utd0 : W1.cell? ⟨(w4.heap.size + 1), 0, none⟩ = some (.int .i64 c4) := by rw [hW1]; (simp [isSome_setCell, cell_setI, cell_drewI, cell_allocI, ↓IntWalk.iteOmega, *])
    have utd1 : W1.cell? ⟨(w4.heap.size + 1), 1, none⟩ = some (.int .i64 d4) := by rw [hW1]; (simp [isSome_setCell, cell_setI, cell_drewI, cell_allocI, ↓IntWalk.iteOmega, *])
    have ute0 : W1.cell? ⟨w5.heap.size, 0, none⟩ = some (.int .i64 (meetR a4 b4 c4 d4).1) := by rw [hW1]; (simp [isSome_setCell, cell_setI, cell_drewI, cell_allocI, ↓IntWalk.iteOmega, *])
    have ute1 : W1.cell? ⟨w5.heap.size, 1, none⟩ = some (.int .i64 (meetR a4 b4 c4 d4).2.1) := by rw [hW1]; (simp [isSome_setCell, cell_setI, cell_drewI, cell_allocI, ↓IntWalk.iteOmega, *])
    have utf0 : W1.cell? ⟨w6.heap.size, 0, none⟩ = some (.int .i64 (meetR a4 b4 c4 d4).1) := by rw [hW1]; (simp [isSome_setCell, cell_setI, cell_drewI, cell_allocI, ↓IntWalk.iteOmega, *])
    have utf1 : W1.cell? ⟨w6.heap.size, 1, none⟩ = some (.int .i64 (meetR a4 b4 c4 d4).2.1) := by rw [hW1]; (simp [isSome_setCell, cell_setI, cell_drewI, cell_allocI, ↓IntWalk.iteOmega, *])
    have hU1 : Up w W1 := by rw [hW1]; (repeat' (first | with_reducible exact Up.refl _ | with_reducible assumption | with_reducible refine Up.alloc ?_ _ | with_reducible refine Up.drew ?_ | with_reducible refine Up.drewN ?_ _ | with_reducible refine Up.setCell ?_ (by (try simp only [World.size_alloc, World.size_setCell, World.heap_drewN, World.size_drew]); omega) _ | (with_reducible refine Up.trans ?_ (by with_reducible assumption))))
    have hL := hL.up (w' := W1) (by rw [hW1]; (repeat' (first | with_reducible exact Up.refl _ | with_reducible assumption | with_reducible refine Up.alloc ?_ _ | with_reducible refine Up.drew ?_ | with_reducible refine Up.drewN ?_ _ | with_reducible refine Up.setCell ?_ (by (try simp only [World.size_alloc, World.size_setCell, World.heap_drewN, World.size_drew]); omega) _ | (with_reducible refine Up.trans ?_ (by with_reducible assumption)))))
    have hs5 : w6.heap.size < W1.heap.size := by rw [hW1]; (try simp only [World.size_alloc, World.size_setCell, World.heap_drewN, World.size_drew]); omega
    have hs6 : w5.heap.size < w6.heap.size := by omega
    have hs7 : w4.heap.size + 1 < w5.heap.size := by omega
    have hs8 : w3.heap.size < w4.heap.size := by omega
    clear hW1 hu4 ha4 hb4 hc4 hf4 hu5 ha5 hb5 hc5 hf5 hu6 ha6 hb6 hc6 hf6 ta0 ta1 tb0 tb1 hU0 hs1
    go_upto_region 13 with (first
      | (go_at_call 47; refine (s_DrawHasNumber _ _ _ w _ hR (by (repeat' (first | with_reducible exact Up.refl _ | with_reducible assumption | with_reducible refine Up.alloc ?_ _ | with_reducible refine Up.drew ?_ | with_reducible refine Up.drewN ?_ _ | with_reducible refine Up.setCell ?_ (by (try simp only [World.size_alloc, World.size_setCell, World.heap_drewN, World.size_drew]); omega) _ | (with_reducible refine Up.trans ?_ (by with_reducible assumption))))) hn).mono ?_; rintro e w7 ⟨⟨a7, b7, y7, rfl⟩, hu7⟩; obtain ⟨N7, J7, JF7, ha7, hb7, hz7, hc7, hf7⟩ := hu7.facts; (try simp only [World.size_alloc, World.size_setCell, World.heap_drewN, World.size_drew] at ha7 hb7); (try simp only [cell_drewI] at hc7); (try simp only [frz_drewI] at hf7))
      | (go_at_call 48; refine (s_DrawWidenInterval _ _ _ w _ hR (by (repeat' (first | with_reducible exact Up.refl _ | with_reducible assumption | with_reducible refine Up.alloc ?_ _ | with_reducible refine Up.drew ?_ | with_reducible refine Up.drewN ?_ _ | with_reducible refine Up.setCell ?_ (by (try simp only [World.size_alloc, World.size_setCell, World.heap_drewN, World.size_drew]); omega) _ | (with_reducible refine Up.trans ?_ (by with_reducible assumption))))) hn).mono ?_; rintro e w8 ⟨⟨a8, b8, y8, rfl⟩, hu8⟩; obtain ⟨N8, J8, JF8, ha8, hb8, hz8, hc8, hf8⟩ := hu8.facts; (try simp only [World.size_alloc, World.size_setCell, World.heap_drewN, World.size_drew] at ha8 hb8); (try simp only [cell_drewI] at hc8); (try simp only [frz_drewI] at hf8))
      | (go_at_call 49; refine (i_WidenInterval _ _ _ _).mono ?_; rintro e w9 ⟨rfl, hu9⟩; obtain ⟨N9, J9, JF9, ha9, hb9, hz9, hc9, hf9⟩ := hu9.facts; (try simp only [World.size_alloc, World.size_setCell, World.heap_drewN, World.size_drew] at ha9 hb9); (try simp only [cell_drewI] at hc9); (try simp only [frz_drewI] at hf9))
      | (go_at_call 50; refine (s_WidenInterval _ _ _ _).mono ?_; rintro e w10 ⟨rfl, hu10⟩; obtain ⟨N10, J10, JF10, ha10, hb10, hz10, hc10, hf10⟩ := hu10.facts; (try simp only [World.size_alloc, World.size_setCell, World.heap_drewN, World.size_drew] at ha10 hb10); (try simp only [cell_drewI] at hc10); (try simp only [frz_drewI] at hf10)))
    refine wp_gen ?_
    intro W2 hW2
    have vta0 : W2.cell? ⟨w2.heap.size, 0, none⟩ = some (.int .i64 (hullR f m).1) := by rw [hW2]; (simp [isSome_setCell, cell_setI, cell_drewI, cell_allocI, ↓IntWalk.iteOmega, *])
    have vta1 : W2.cell? ⟨w2.heap.size, 1, none⟩ = some (.int .i64 (hullR f m).2.1) := by rw [hW2]; (simp [isSome_setCell, cell_setI, cell_drewI, cell_allocI, ↓IntWalk.iteOmega, *])
    have vtb0 : W2.cell? ⟨w3.heap.size, 0, none⟩ = some (.int .i64 (hullR f m).1) := by rw [hW2]; (simp [isSome_setCell, cell_setI, cell_drewI, cell_allocI, ↓IntWalk.iteOmega, *])
    have vtb1 : W2.cell? ⟨w3.heap.size, 1, none⟩ = some (.int .i64 (hullR f m).2.1) := by rw [hW2]; (simp [isSome_setCell, cell_setI, cell_drewI, cell_allocI, ↓IntWalk.iteOmega, *])
    have vtc0 : W2.cell? ⟨w4.heap.size, 0, none⟩ = some (.int .i64 a4) := by rw [hW2]; (simp [isSome_setCell, cell_setI, cell_drewI, cell_allocI, ↓IntWalk.iteOmega, *])
    have vtc1 : W2.cell? ⟨w4.heap.size, 1, none⟩ = some (.int .i64 b4) := by rw [hW2]; (simp [isSome_setCell, cell_setI, cell_drewI, cell_allocI, ↓IntWalk.iteOmega, *])
    have vtd0 : W2.cell? ⟨(w4.heap.size + 1), 0, none⟩ = some (.int .i64 c4) := by rw [hW2]; (simp [isSome_setCell, cell_setI, cell_drewI, cell_allocI, ↓IntWalk.iteOmega, *])
    have vtd1 : W2.cell? ⟨(w4.heap.size + 1), 1, none⟩ = some (.int .i64 d4) := by rw [hW2]; (simp [isSome_setCell, cell_setI, cell_drewI, cell_allocI, ↓IntWalk.iteOmega, *])
    have vte0 : W2.cell? ⟨w5.heap.size, 0, none⟩ = some (.int .i64 (meetR a4 b4 c4 d4).1) := by rw [hW2]; (simp [isSome_setCell, cell_setI, cell_drewI, cell_allocI, ↓IntWalk.iteOmega, *])
    have vte1 : W2.cell? ⟨w5.heap.size, 1, none⟩ = some (.int .i64 (meetR a4 b4 c4 d4).2.1) := by rw [hW2]; (simp [isSome_setCell, cell_setI, cell_drewI, cell_allocI, ↓IntWalk.iteOmega, *])
    have vtf0 : W2.cell? ⟨w6.heap.size, 0, none⟩ = some (.int .i64 (meetR a4 b4 c4 d4).1) := by rw [hW2]; (simp [isSome_setCell, cell_setI, cell_drewI, cell_allocI, ↓IntWalk.iteOmega, *])
    have vtf1 : W2.cell? ⟨w6.heap.size, 1, none⟩ = some (.int .i64 (meetR a4 b4 c4 d4).2.1) := by rw [hW2]; (simp [isSome_setCell, cell_setI, cell_drewI, cell_allocI, ↓IntWalk.iteOmega, *])
    have vtg0 : W2.cell? ⟨w7.heap.size, 0, none⟩ = some (.int .i64 a7) := by rw [hW2]; (simp [isSome_setCell, cell_setI, cell_drewI, cell_allocI, ↓IntWalk.iteOmega, *])
    have vtg1 : W2.cell? ⟨w7.heap.size, 1, none⟩ = some (.int .i64 b7) := by rw [hW2]; (simp [isSome_setCell, cell_setI, cell_drewI, cell_allocI, ↓IntWalk.iteOmega, *])
    have vth0 : W2.cell? ⟨w8.heap.size, 0, none⟩ = some (.int .i64 a8) := by rw [hW2]; (simp [isSome_setCell, cell_setI, cell_drewI, cell_allocI, ↓IntWalk.iteOmega, *])
    have vth1 : W2.cell? ⟨w8.heap.size, 1, none⟩ = some (.int .i64 b8) := by rw [hW2]; (simp [isSome_setCell, cell_setI, cell_drewI, cell_allocI, ↓IntWalk.iteOmega, *])
    have vti0 : W2.cell? ⟨w9.heap.size, 0, none⟩ = some (.int .i64 (widR a8 b8 y8).1) := by rw [hW2]; (simp [isSome_setCell, cell_setI, cell_drewI, cell_allocI, ↓IntWalk.iteOmega, *])
    have vti1 : W2.cell? ⟨w9.heap.size, 1, none⟩ = some (.int .i64 (widR a8 b8 y8).2.1) := by rw [hW2]; (simp [isSome_setCell, cell_setI, cell_drewI, cell_allocI, ↓IntWalk.iteOmega, *])
    have vtj0 : W2.cell? ⟨w10.heap.size, 0, none⟩ = some (.int .i64 (widR a8 b8 y8).1) := by rw [hW2]; (simp [isSome_setCell, cell_setI, cell_drewI, cell_allocI, ↓IntWalk.iteOmega, *])
    have vtj1 : W2.cell? ⟨w10.heap.size, 1, none⟩ = some (.int .i64 (widR a8 b8 y8).2.1) := by rw [hW2]; (simp [isSome_setCell, cell_setI, cell_drewI, cell_allocI, ↓IntWalk.iteOmega, *])
    have hU2 : Up w W2 := by rw [hW2]; (repeat' (first | with_reducible exact Up.refl _ | with_reducible assumption | with_reducible refine Up.alloc ?_ _ | with_reducible refine Up.drew ?_ | with_reducible refine Up.drewN ?_ _ | with_reducible refine Up.setCell ?_ (by (try simp only [World.size_alloc, World.size_setCell, World.heap_drewN, World.size_drew]); omega) _ | (with_reducible refine Up.trans ?_ (by with_reducible assumption))))
    have hL := hL.up (w' := W2) (by rw [hW2]; (repeat' (first | with_reducible exact Up.refl _ | with_reducible assumption | with_reducible refine Up.alloc ?_ _ | with_reducible refine Up.drew ?_ | with_reducible refine Up.drewN ?_ _ | with_reducible refine Up.setCell ?_ (by (try simp only [World.size_alloc, World.size_setCell, World.heap_drewN, World.size_drew]); omega) _ | (with_reducible refine Up.trans ?_ (by with_reducible assumption)))))
    have hs9 : w10.heap.size < W2.heap.size := by rw [hW2]; (try simp only [World.size_alloc, World.size_setCell, World.heap_drewN, World.size_drew]); omega
    have hs10 : w9.heap.size < w10.heap.size := by omega
    have hs11 : w8.heap.size < w9.heap.size := by omega
    have hs12 : w7.heap.size < w8.heap.size := by omega
    have hs13 : w6.heap.size < w7.heap.size := by omega
    clear hW2 hu7 ha7 hb7 hc7 hf7 hu8 ha8 hb8 hc8 hf8 hu9 ha9 hb9 hc9 hf9 hu10 ha10 hb10 hc10 hf10 uta0 uta1 utb0 utb1 utc0 utc1 utd0 utd1 ute0 ute1 utf0 utf1 hU1 hs5
    refine wp_region_later (by kernel_rfl) (by kernel_rfl) ?_
    repeat (go_big_quiet_step (first | ((go_at_call 33; exact later_call (i_HasNumber _ _ _ _))) | ((go_at_call 51; exact later_call (s_HasNumber _ _ _ _)))))
    refine wpQuiet_nil ?_; intro _ hw'; obtain ⟨x, hw''⟩ := hw'; subst hw''; obtain ⟨W3, hu⟩ := x; dsimp only
    have hU3 : Up w W3 := hU2.trans hu
    have hL := hL.up hu
    have hsz3 := hu.size
    have vta0 := (hu.cells _ _ (cell_lt vta0)).trans vta0
    have vta1 := (hu.cells _ _ (cell_lt vta1)).trans vta1
    have vtc0 := (hu.cells _ _ (cell_lt vtc0)).trans vtc0
    have vtc1 := (hu.cells _ _ (cell_lt vtc1)).trans vtc1
    have vtd0 := (hu.cells _ _ (cell_lt vtd0)).trans vtd0
    have vtd1 := (hu.cells _ _ (cell_lt vtd1)).trans vtd1
    have vte0 := (hu.cells _ _ (cell_lt vte0)).trans vte0
    have vte1 := (hu.cells _ _ (cell_lt vte1)).trans vte1
    have vtf0 := (hu.cells _ _ (cell_lt vtf0)).trans vtf0
    have vtf1 := (hu.cells _ _ (cell_lt vtf1)).trans vtf1
    have vth0 := (hu.cells _ _ (cell_lt vth0)).trans vth0
    have vth1 := (hu.cells _ _ (cell_lt vth1)).trans vth1
    have vti0 := (hu.cells _ _ (cell_lt vti0)).trans vti0
    have vti1 := (hu.cells _ _ (cell_lt vti1)).trans vti1
    have vtj0 := (hu.cells _ _ (cell_lt vtj0)).trans vtj0
    have vtj1 := (hu.cells _ _ (cell_lt vtj1)).trans vtj1
    clear hu hU2
    by_cases hhu : (hullR f m).2.2 = 0
    · have hx := hullR_ok hhu
      rw [hx] at vta0 vta1
      simp only [hhu]
      clear hx hhu
      by_cases hwi : (widR a8 b8 y8).2.2 = 0
      · obtain ⟨hx, hy⟩ := widR_ok hwi
        rw [hx] at vti0 vti1 vtj0 vtj1
        simp only [hwi]
        clear hx hwi
        rcases meetR_three a4 b4 c4 d4 with hme | ⟨v1, v2, k5, hme⟩ | ⟨v1, v2, k5, hme⟩
        · simp only [hme]
          clear hme
          go_wp2_with fail
          go_loopw [22] (fun i wr => ∃ k : Nat, k ≤ m ∧ i = .int .i64 k ∧ Up W3 wr) (fun i _ => m - (intOf i).toNat)
          case atStart => exact ⟨0, Nat.zero_le _, rfl, Up.refl _⟩
          case round =>
            obtain ⟨j, hj, rfl, hb⟩ := hrel
            obtain ⟨WR, hWR⟩ : ∃ WR, WR = wr := ⟨_, rfl⟩
            subst hWR
            have vta0 := (hb.cells _ _ (cell_lt vta0)).trans vta0
            have vta1 := (hb.cells _ _ (cell_lt vta1)).trans vta1
            have vtc0 := (hb.cells _ _ (cell_lt vtc0)).trans vtc0
            have vtc1 := (hb.cells _ _ (cell_lt vtc1)).trans vtc1
            have vtd0 := (hb.cells _ _ (cell_lt vtd0)).trans vtd0
            have vtd1 := (hb.cells _ _ (cell_lt vtd1)).trans vtd1
            have vte0 := (hb.cells _ _ (cell_lt vte0)).trans vte0
            have vte1 := (hb.cells _ _ (cell_lt vte1)).trans vte1
            have vth0 := (hb.cells _ _ (cell_lt vth0)).trans vth0
            have vth1 := (hb.cells _ _ (cell_lt vth1)).trans vth1
            have vti0 := (hb.cells _ _ (cell_lt vti0)).trans vti0
            have vti1 := (hb.cells _ _ (cell_lt vti1)).trans vti1
            have vtj0 := (hb.cells _ _ (cell_lt vtj0)).trans vtj0
            have vtj1 := (hb.cells _ _ (cell_lt vtj1)).trans vtj1
            have hbs := hb.size
            by_cases hlt : j < m
            · obtain ⟨bb, oo, rfl, hbl, hcc⟩ := (hL.up hb).at_ (by omega)
              have kc0 := hcc (j * 2) (by omega)
              have kc1 := hcc (j * 2 + 1) (by omega)
              rw [← Nat.add_assoc] at kc1
              have hl' : (j : Int) < (m : Int) := by omega
              obtain ⟨i1, i2⟩ := hull_in (f := f) hlt
              have l1 : decide (hl f m ≤ f (j * 2)) = true := by simpa using i1
              have l2 : decide (f (j * 2 + 1) ≤ hh f m) = true := by simpa using i2
              clear hcc hL
              go_wp2
              refine wp_region_later (by kernel_rfl) (by kernel_rfl) ?_
              repeat (go_big_quiet_step ((go_at_call 34; exact later_call (l_insideH _ _ _ _ _))))
              refine wpQuiet_nil ?_; intro _ hw'; obtain ⟨x, hw''⟩ := hw'; subst hw''; obtain ⟨wn, hu⟩ := x; dsimp only; obtain ⟨N, J, JF, hn1, hn2, hz, hc, hf⟩ := hu.facts; (try simp only [World.size_alloc, World.size_setCell, World.heap_drewN, World.size_drew] at hn1 hn2)
              go_wp2
              go_roundw
              case rel => exact ⟨j + 1, by omega, by go_num, by (repeat' (first | with_reducible exact Up.refl _ | with_reducible assumption | with_reducible refine Up.alloc ?_ _ | with_reducible refine Up.drew ?_ | with_reducible refine Up.drewN ?_ _ | with_reducible refine Up.setCell ?_ (by (try simp only [World.size_alloc, World.size_setCell, World.heap_drewN, World.size_drew]); omega) _ | (with_reducible refine Up.trans ?_ (by with_reducible assumption))))⟩
              case measure => simp [intOf]; omega
            · obtain rfl : j = m := by omega
              have hUr := hU3.trans hb
              have n1 : decide (a8 - y8 ≤ a8) = true := by simp; omega
              have n2 : decide (b8 ≤ b8 + y8) = true := by simp; omega
              go_upto_region 22 with (first
                | (go_at_call 34; refine (l_insideH _ _ _ _ _).mono ?_; rintro e w12 ⟨rfl, hu12⟩; obtain ⟨N12, J12, JF12, ha12, hb12, hz12, hc12, hf12⟩ := hu12.facts; (try simp only [World.size_alloc, World.size_setCell, World.heap_drewN, World.size_drew] at ha12 hb12); (try simp only [cell_drewI] at hc12); (try simp only [frz_drewI] at hf12)))
              have hUv := hUr.trans (show Up WR w12 by (repeat' (first | with_reducible exact Up.refl _ | with_reducible assumption | with_reducible refine Up.alloc ?_ _ | with_reducible refine Up.drew ?_ | with_reducible refine Up.drewN ?_ _ | with_reducible refine Up.setCell ?_ (by (try simp only [World.size_alloc, World.size_setCell, World.heap_drewN, World.size_drew]); omega) _ | (with_reducible refine Up.trans ?_ (by with_reducible assumption)))))
              have hv12 : Up WR w12 := by (repeat' (first | with_reducible exact Up.refl _ | with_reducible assumption | with_reducible refine Up.alloc ?_ _ | with_reducible refine Up.drew ?_ | with_reducible refine Up.drewN ?_ _ | with_reducible refine Up.setCell ?_ (by (try simp only [World.size_alloc, World.size_setCell, World.heap_drewN, World.size_drew]); omega) _ | (with_reducible refine Up.trans ?_ (by with_reducible assumption))))
              have vtc0 := (hv12.cells _ _ (cell_lt vtc0)).trans vtc0
              have vtc1 := (hv12.cells _ _ (cell_lt vtc1)).trans vtc1
              have vtd0 := (hv12.cells _ _ (cell_lt vtd0)).trans vtd0
              have vtd1 := (hv12.cells _ _ (cell_lt vtd1)).trans vtd1
              have vte0 := (hv12.cells _ _ (cell_lt vte0)).trans vte0
              have vte1 := (hv12.cells _ _ (cell_lt vte1)).trans vte1
              have vtj0 := (hv12.cells _ _ (cell_lt vtj0)).trans vtj0
              have vtj1 := (hv12.cells _ _ (cell_lt vtj1)).trans vtj1
              clear hu12 ha12 hb12 hc12 hf12 hv12
              go_wp2_with fail
              go_ret
              exact ⟨rfl, by (repeat' (first | with_reducible exact Up.refl _ | with_reducible assumption | with_reducible refine Up.alloc ?_ _ | with_reducible refine Up.drew ?_ | with_reducible refine Up.drewN ?_ _ | with_reducible refine Up.setCell ?_ (by (try simp only [World.size_alloc, World.size_setCell, World.heap_drewN, World.size_drew]); omega) _ | (with_reducible refine Up.trans ?_ (by with_reducible assumption))))⟩
        · obtain ⟨q1, q2, q3⟩ := isIvB_iff.1 v1
          rw [hme] at vte0 vte1
          simp only [hme]
          clear hme vtf0 vtf1
          go_wp2_with fail
          go_loopw [22] (fun i wr => ∃ k : Nat, k ≤ m ∧ i = .int .i64 k ∧ Up W3 wr) (fun i _ => m - (intOf i).toNat)
          case atStart => exact ⟨0, Nat.zero_le _, rfl, Up.refl _⟩
          case round =>
            obtain ⟨j, hj, rfl, hb⟩ := hrel
            obtain ⟨WR, hWR⟩ : ∃ WR, WR = wr := ⟨_, rfl⟩
            subst hWR
            have vta0 := (hb.cells _ _ (cell_lt vta0)).trans vta0
            have vta1 := (hb.cells _ _ (cell_lt vta1)).trans vta1
            have vtc0 := (hb.cells _ _ (cell_lt vtc0)).trans vtc0
            have vtc1 := (hb.cells _ _ (cell_lt vtc1)).trans vtc1
            have vtd0 := (hb.cells _ _ (cell_lt vtd0)).trans vtd0
            have vtd1 := (hb.cells _ _ (cell_lt vtd1)).trans vtd1
            have vte0 := (hb.cells _ _ (cell_lt vte0)).trans vte0
            have vte1 := (hb.cells _ _ (cell_lt vte1)).trans vte1
            have vth0 := (hb.cells _ _ (cell_lt vth0)).trans vth0
            have vth1 := (hb.cells _ _ (cell_lt vth1)).trans vth1
            have vti0 := (hb.cells _ _ (cell_lt vti0)).trans vti0
            have vti1 := (hb.cells _ _ (cell_lt vti1)).trans vti1
            have vtj0 := (hb.cells _ _ (cell_lt vtj0)).trans vtj0
            have vtj1 := (hb.cells _ _ (cell_lt vtj1)).trans vtj1
            have hbs := hb.size
            by_cases hlt : j < m
            · obtain ⟨bb, oo, rfl, hbl, hcc⟩ := (hL.up hb).at_ (by omega)
              have kc0 := hcc (j * 2) (by omega)
              have kc1 := hcc (j * 2 + 1) (by omega)
              rw [← Nat.add_assoc] at kc1
              have hl' : (j : Int) < (m : Int) := by omega
              obtain ⟨i1, i2⟩ := hull_in (f := f) hlt
              have l1 : decide (hl f m ≤ f (j * 2)) = true := by simpa using i1
              have l2 : decide (f (j * 2 + 1) ≤ hh f m) = true := by simpa using i2
              clear hcc hL
              go_wp2
              refine wp_region_later (by kernel_rfl) (by kernel_rfl) ?_
              repeat (go_big_quiet_step ((go_at_call 34; exact later_call (l_insideH _ _ _ _ _))))
              refine wpQuiet_nil ?_; intro _ hw'; obtain ⟨x, hw''⟩ := hw'; subst hw''; obtain ⟨wn, hu⟩ := x; dsimp only; obtain ⟨N, J, JF, hn1, hn2, hz, hc, hf⟩ := hu.facts; (try simp only [World.size_alloc, World.size_setCell, World.heap_drewN, World.size_drew] at hn1 hn2)
              go_wp2
              go_roundw
              case rel => exact ⟨j + 1, by omega, by go_num, by (repeat' (first | with_reducible exact Up.refl _ | with_reducible assumption | with_reducible refine Up.alloc ?_ _ | with_reducible refine Up.drew ?_ | with_reducible refine Up.drewN ?_ _ | with_reducible refine Up.setCell ?_ (by (try simp only [World.size_alloc, World.size_setCell, World.heap_drewN, World.size_drew]); omega) _ | (with_reducible refine Up.trans ?_ (by with_reducible assumption))))⟩
              case measure => simp [intOf]; omega
            · obtain rfl : j = m := by omega
              have hUr := hU3.trans hb
              have n1 : decide (a8 - y8 ≤ a8) = true := by simp; omega
              have n2 : decide (b8 ≤ b8 + y8) = true := by simp; omega
              go_upto_region 22 with (first
                | (go_at_call 34; refine (l_insideH _ _ _ _ _).mono ?_; rintro e w12 ⟨rfl, hu12⟩; obtain ⟨N12, J12, JF12, ha12, hb12, hz12, hc12, hf12⟩ := hu12.facts; (try simp only [World.size_alloc, World.size_setCell, World.heap_drewN, World.size_drew] at ha12 hb12); (try simp only [cell_drewI] at hc12); (try simp only [frz_drewI] at hf12)))
              have hUv := hUr.trans (show Up WR w12 by (repeat' (first | with_reducible exact Up.refl _ | with_reducible assumption | with_reducible refine Up.alloc ?_ _ | with_reducible refine Up.drew ?_ | with_reducible refine Up.drewN ?_ _ | with_reducible refine Up.setCell ?_ (by (try simp only [World.size_alloc, World.size_setCell, World.heap_drewN, World.size_drew]); omega) _ | (with_reducible refine Up.trans ?_ (by with_reducible assumption)))))
              have hv12 : Up WR w12 := by (repeat' (first | with_reducible exact Up.refl _ | with_reducible assumption | with_reducible refine Up.alloc ?_ _ | with_reducible refine Up.drew ?_ | with_reducible refine Up.drewN ?_ _ | with_reducible refine Up.setCell ?_ (by (try simp only [World.size_alloc, World.size_setCell, World.heap_drewN, World.size_drew]); omega) _ | (with_reducible refine Up.trans ?_ (by with_reducible assumption))))
              have vtc0 := (hv12.cells _ _ (cell_lt vtc0)).trans vtc0
              have vtc1 := (hv12.cells _ _ (cell_lt vtc1)).trans vtc1
              have vtd0 := (hv12.cells _ _ (cell_lt vtd0)).trans vtd0
              have vtd1 := (hv12.cells _ _ (cell_lt vtd1)).trans vtd1
              have vte0 := (hv12.cells _ _ (cell_lt vte0)).trans vte0
              have vte1 := (hv12.cells _ _ (cell_lt vte1)).trans vte1
              have vtj0 := (hv12.cells _ _ (cell_lt vtj0)).trans vtj0
              have vtj1 := (hv12.cells _ _ (cell_lt vtj1)).trans vtj1
              clear hu12 ha12 hb12 hc12 hf12 hv12
              have wA : IntKind.i64.wrap (b4 - a4) = b4 - a4 := wrH (by omega) (by omega)
              have wB : IntKind.i64.wrap (b4 - a4 + 1) = b4 - a4 + 1 := wrH (by omega) (by omega)
              go_upto_region 24 with fail
              go_cut [23] (fun s23 wx => ∃ x : Int, s23 = .int .i64 x ∧ (a4 ≤ x ∧ x ≤ b4) ∧ Up w12 wx)
              case first =>
                have hXs : w10.heap.size < w12.heap.size := by have := cell_lt vtj0; omega
                have hY0 : ∀ y : Int, IntKind.i64.wrap y = IntKind.i64.wrap y := fun _ => rfl
                go_region_held3 (fun w' => w'.cell? ⟨w4.heap.size, 0, none⟩ = some (.int .i64 a4) ∧ w'.cell? ⟨w4.heap.size, 1, none⟩ = some (.int .i64 b4))
                  (first | ((try dsimp only); (repeat' apply And.intro) <;> (first | (simp [cell_drewI, ↓IntWalk.iteOmega, *]; done))))
                  (first
                    | (go_at_call 31; refine (l_roll _ _ _ _ _ (hR.up (by (repeat' (first | with_reducible exact Up.refl _ | with_reducible assumption | with_reducible refine Up.alloc ?_ _ | with_reducible refine Up.drew ?_ | with_reducible refine Up.drewN ?_ _ | with_reducible refine Up.setCell ?_ (by (try simp only [World.size_alloc, World.size_setCell, World.heap_drewN, World.size_drew]); omega) _ | (with_reducible refine Up.trans ?_ (by with_reducible assumption)))))) hn (by omega) (by omega)).mono ?_; rintro e wd ⟨rfl, hD, hu11⟩; (try simp only [World.size_alloc, World.size_setCell, World.heap_drewN, World.size_drew] at hD); obtain ⟨N11, J11, JF11, ha11, hb11, hz11, hc11, hf11⟩ := hu11.facts; (try simp only [World.size_alloc, World.size_setCell, World.heap_drewN, World.size_drew] at ha11 hb11); (try simp only [cell_drewI] at hc11); (try simp only [frz_drewI] at hf11); (have hDl := hD.lt); (have hsz11 := hu11.size); (try simp only [World.size_alloc, World.size_setCell, World.heap_drewN, World.size_drew] at hsz11))
                    | (go_at_call 32; (try simp only [wA, wB]); refine (l_below _ _ _ (by (first | with_reducible assumption | (with_reducible refine Dice.up (by with_reducible assumption) ?_; (repeat' (first | with_reducible exact Up.refl _ | with_reducible assumption | with_reducible refine Up.alloc ?_ _ | with_reducible refine Up.drew ?_ | with_reducible refine Up.drewN ?_ _ | with_reducible refine Up.setCell ?_ (by (try simp only [World.size_alloc, World.size_setCell, World.heap_drewN, World.size_drew]); omega) _ | (with_reducible refine Up.trans ?_ (by with_reducible assumption)))); done))) (by omega) (by omega)).mono ?_; rintro e we ⟨⟨r, rfl, r0, r1⟩, hD, hg⟩; obtain ⟨N, J, JF, hn1, hn2, hz, hc, hf⟩ := grown_facts hg; (try simp only [World.size_alloc, World.size_setCell, World.heap_drewN, World.size_drew] at hn1 hn2); (try simp only [cell_drewI] at hc); (try simp only [frz_drewI] at hf)))
                all_goals (go_wp2_with fail; go_meet; refine ⟨_, rfl, (by rw [wrH (by omega) (by omega)]; omega), ?_⟩; refine Up.only (a := w12) (w := wd) ?_ (show World.grownBy wd we (some (w12).heap.size) by (repeat' (first | with_reducible exact grown_refl _ _ | with_reducible assumption | with_reducible refine grown_new ?_ (by (try dsimp only); (try simp only [World.size_alloc, World.size_setCell, World.heap_drewN, World.size_drew]); omega) _ | with_reducible refine grown_set ?_ _ _ | with_reducible refine grown_up ?_ ((Up.refl _).drew) | with_reducible refine grown_up ?_ (Up.alloc (Up.refl _) _) | with_reducible refine grown_trans ?_ (by with_reducible assumption)))) (Nat.le_refl _); (repeat' (first | with_reducible exact Up.refl _ | with_reducible assumption | with_reducible refine Up.alloc ?_ _ | with_reducible refine Up.drew ?_ | with_reducible refine Up.drewN ?_ _ | with_reducible refine Up.setCell ?_ (by (try simp only [World.size_alloc, World.size_setCell, World.heap_drewN, World.size_drew]); omega) _ | (with_reducible refine Up.trans ?_ (by with_reducible assumption)))))
              case rest =>
                obtain ⟨x, rfl, ⟨x1, x2⟩, hux⟩ := hcut
                have hUx := hUv.trans hux
                have vtd0 := (hux.cells _ _ (cell_lt vtd0)).trans vtd0
                have vtd1 := (hux.cells _ _ (cell_lt vtd1)).trans vtd1
                have vte0 := (hux.cells _ _ (cell_lt vte0)).trans vte0
                have vte1 := (hux.cells _ _ (cell_lt vte1)).trans vte1
                have hszx := cell_lt vte0
                have hszy := cell_lt vtd0
                clear wA wB
                have hmh := meet_has v1 v2 k5 x1 x2
                go_upto_region 25 with fail
                refine wp_region_later (by kernel_rfl) (by kernel_rfl) ?_
                repeat (go_big_quiet_step ((go_at_call 33; exact later_call (i_HasNumber _ _ _ _))))
                refine wpQuiet_nil ?_; intro _ hw'; obtain ⟨xx, hw''⟩ := hw'; subst hw''; obtain ⟨W5, hu5⟩ := xx; dsimp only
                go_wp2_with fail
                go_ret
                exact ⟨ret_bool (by first | rfl | (simp [hmh]; done) | (rw [hmh]; simp; done) | (simp [v2] at hmh; simp [hmh]; done)), by (repeat' (first | with_reducible exact Up.refl _ | with_reducible assumption | with_reducible refine Up.alloc ?_ _ | with_reducible refine Up.drew ?_ | with_reducible refine Up.drewN ?_ _ | with_reducible refine Up.setCell ?_ (by (try simp only [World.size_alloc, World.size_setCell, World.heap_drewN, World.size_drew]); omega) _ | (with_reducible refine Up.trans ?_ (by with_reducible assumption))))⟩
        · obtain ⟨q1, q2, q3⟩ := isIvB_iff.1 v1
          rw [hme] at vte0 vte1
          simp only [hme]
          clear hme vtf0 vtf1
          go_wp2_with fail
          go_loopw [22] (fun i wr => ∃ k : Nat, k ≤ m ∧ i = .int .i64 k ∧ Up W3 wr) (fun i _ => m - (intOf i).toNat)
          case atStart => exact ⟨0, Nat.zero_le _, rfl, Up.refl _⟩
          case round =>
            obtain ⟨j, hj, rfl, hb⟩ := hrel
            obtain ⟨WR, hWR⟩ : ∃ WR, WR = wr := ⟨_, rfl⟩
            subst hWR
            have vta0 := (hb.cells _ _ (cell_lt vta0)).trans vta0
            have vta1 := (hb.cells _ _ (cell_lt vta1)).trans vta1
            have vtc0 := (hb.cells _ _ (cell_lt vtc0)).trans vtc0
            have vtc1 := (hb.cells _ _ (cell_lt vtc1)).trans vtc1
            have vtd0 := (hb.cells _ _ (cell_lt vtd0)).trans vtd0
            have vtd1 := (hb.cells _ _ (cell_lt vtd1)).trans vtd1
            have vte0 := (hb.cells _ _ (cell_lt vte0)).trans vte0
            have vte1 := (hb.cells _ _ (cell_lt vte1)).trans vte1
            have vth0 := (hb.cells _ _ (cell_lt vth0)).trans vth0
            have vth1 := (hb.cells _ _ (cell_lt vth1)).trans vth1
            have vti0 := (hb.cells _ _ (cell_lt vti0)).trans vti0
            have vti1 := (hb.cells _ _ (cell_lt vti1)).trans vti1
            have vtj0 := (hb.cells _ _ (cell_lt vtj0)).trans vtj0
            have vtj1 := (hb.cells _ _ (cell_lt vtj1)).trans vtj1
            have hbs := hb.size
            by_cases hlt : j < m
            · obtain ⟨bb, oo, rfl, hbl, hcc⟩ := (hL.up hb).at_ (by omega)
              have kc0 := hcc (j * 2) (by omega)
              have kc1 := hcc (j * 2 + 1) (by omega)
              rw [← Nat.add_assoc] at kc1
              have hl' : (j : Int) < (m : Int) := by omega
              obtain ⟨i1, i2⟩ := hull_in (f := f) hlt
              have l1 : decide (hl f m ≤ f (j * 2)) = true := by simpa using i1
              have l2 : decide (f (j * 2 + 1) ≤ hh f m) = true := by simpa using i2
              clear hcc hL
              go_wp2
              refine wp_region_later (by kernel_rfl) (by kernel_rfl) ?_
              repeat (go_big_quiet_step ((go_at_call 34; exact later_call (l_insideH _ _ _ _ _))))
              refine wpQuiet_nil ?_; intro _ hw'; obtain ⟨x, hw''⟩ := hw'; subst hw''; obtain ⟨wn, hu⟩ := x; dsimp only; obtain ⟨N, J, JF, hn1, hn2, hz, hc, hf⟩ := hu.facts; (try simp only [World.size_alloc, World.size_setCell, World.heap_drewN, World.size_drew] at hn1 hn2)
              go_wp2
              go_roundw
              case rel => exact ⟨j + 1, by omega, by go_num, by (repeat' (first | with_reducible exact Up.refl _ | with_reducible assumption | with_reducible refine Up.alloc ?_ _ | with_reducible refine Up.drew ?_ | with_reducible refine Up.drewN ?_ _ | with_reducible refine Up.setCell ?_ (by (try simp only [World.size_alloc, World.size_setCell, World.heap_drewN, World.size_drew]); omega) _ | (with_reducible refine Up.trans ?_ (by with_reducible assumption))))⟩
              case measure => simp [intOf]; omega
            · obtain rfl : j = m := by omega
              have hUr := hU3.trans hb
              have n1 : decide (a8 - y8 ≤ a8) = true := by simp; omega
              have n2 : decide (b8 ≤ b8 + y8) = true := by simp; omega
              go_upto_region 22 with (first
                | (go_at_call 34; refine (l_insideH _ _ _ _ _).mono ?_; rintro e w12 ⟨rfl, hu12⟩; obtain ⟨N12, J12, JF12, ha12, hb12, hz12, hc12, hf12⟩ := hu12.facts; (try simp only [World.size_alloc, World.size_setCell, World.heap_drewN, World.size_drew] at ha12 hb12); (try simp only [cell_drewI] at hc12); (try simp only [frz_drewI] at hf12)))
              have hUv := hUr.trans (show Up WR w12 by (repeat' (first | with_reducible exact Up.refl _ | with_reducible assumption | with_reducible refine Up.alloc ?_ _ | with_reducible refine Up.drew ?_ | with_reducible refine Up.drewN ?_ _ | with_reducible refine Up.setCell ?_ (by (try simp only [World.size_alloc, World.size_setCell, World.heap_drewN, World.size_drew]); omega) _ | (with_reducible refine Up.trans ?_ (by with_reducible assumption)))))
              have hv12 : Up WR w12 := by (repeat' (first | with_reducible exact Up.refl _ | with_reducible assumption | with_reducible refine Up.alloc ?_ _ | with_reducible refine Up.drew ?_ | with_reducible refine Up.drewN ?_ _ | with_reducible refine Up.setCell ?_ (by (try simp only [World.size_alloc, World.size_setCell, World.heap_drewN, World.size_drew]); omega) _ | (with_reducible refine Up.trans ?_ (by with_reducible assumption))))
              have vtc0 := (hv12.cells _ _ (cell_lt vtc0)).trans vtc0
              have vtc1 := (hv12.cells _ _ (cell_lt vtc1)).trans vtc1
              have vtd0 := (hv12.cells _ _ (cell_lt vtd0)).trans vtd0
              have vtd1 := (hv12.cells _ _ (cell_lt vtd1)).trans vtd1
              have vte0 := (hv12.cells _ _ (cell_lt vte0)).trans vte0
              have vte1 := (hv12.cells _ _ (cell_lt vte1)).trans vte1
              have vtj0 := (hv12.cells _ _ (cell_lt vtj0)).trans vtj0
              have vtj1 := (hv12.cells _ _ (cell_lt vtj1)).trans vtj1
              clear hu12 ha12 hb12 hc12 hf12 hv12
              have wA : IntKind.i64.wrap (b4 - a4) = b4 - a4 := wrH (by omega) (by omega)
              have wB : IntKind.i64.wrap (b4 - a4 + 1) = b4 - a4 + 1 := wrH (by omega) (by omega)
              go_upto_region 24 with fail
              go_cut [23] (fun s23 wx => ∃ x : Int, s23 = .int .i64 x ∧ (a4 ≤ x ∧ x ≤ b4) ∧ Up w12 wx)
              case first =>
                have hXs : w10.heap.size < w12.heap.size := by have := cell_lt vtj0; omega
                have hY0 : ∀ y : Int, IntKind.i64.wrap y = IntKind.i64.wrap y := fun _ => rfl
                go_region_held3 (fun w' => w'.cell? ⟨w4.heap.size, 0, none⟩ = some (.int .i64 a4) ∧ w'.cell? ⟨w4.heap.size, 1, none⟩ = some (.int .i64 b4))
                  (first | ((try dsimp only); (repeat' apply And.intro) <;> (first | (simp [cell_drewI, ↓IntWalk.iteOmega, *]; done))))
                  (first
                    | (go_at_call 31; refine (l_roll _ _ _ _ _ (hR.up (by (repeat' (first | with_reducible exact Up.refl _ | with_reducible assumption | with_reducible refine Up.alloc ?_ _ | with_reducible refine Up.drew ?_ | with_reducible refine Up.drewN ?_ _ | with_reducible refine Up.setCell ?_ (by (try simp only [World.size_alloc, World.size_setCell, World.heap_drewN, World.size_drew]); omega) _ | (with_reducible refine Up.trans ?_ (by with_reducible assumption)))))) hn (by omega) (by omega)).mono ?_; rintro e wd ⟨rfl, hD, hu11⟩; (try simp only [World.size_alloc, World.size_setCell, World.heap_drewN, World.size_drew] at hD); obtain ⟨N11, J11, JF11, ha11, hb11, hz11, hc11, hf11⟩ := hu11.facts; (try simp only [World.size_alloc, World.size_setCell, World.heap_drewN, World.size_drew] at ha11 hb11); (try simp only [cell_drewI] at hc11); (try simp only [frz_drewI] at hf11); (have hDl := hD.lt); (have hsz11 := hu11.size); (try simp only [World.size_alloc, World.size_setCell, World.heap_drewN, World.size_drew] at hsz11))
                    | (go_at_call 32; (try simp only [wA, wB]); refine (l_below _ _ _ (by (first | with_reducible assumption | (with_reducible refine Dice.up (by with_reducible assumption) ?_; (repeat' (first | with_reducible exact Up.refl _ | with_reducible assumption | with_reducible refine Up.alloc ?_ _ | with_reducible refine Up.drew ?_ | with_reducible refine Up.drewN ?_ _ | with_reducible refine Up.setCell ?_ (by (try simp only [World.size_alloc, World.size_setCell, World.heap_drewN, World.size_drew]); omega) _ | (with_reducible refine Up.trans ?_ (by with_reducible assumption)))); done))) (by omega) (by omega)).mono ?_; rintro e we ⟨⟨r, rfl, r0, r1⟩, hD, hg⟩; obtain ⟨N, J, JF, hn1, hn2, hz, hc, hf⟩ := grown_facts hg; (try simp only [World.size_alloc, World.size_setCell, World.heap_drewN, World.size_drew] at hn1 hn2); (try simp only [cell_drewI] at hc); (try simp only [frz_drewI] at hf)))
                all_goals (go_wp2_with fail; go_meet; refine ⟨_, rfl, (by rw [wrH (by omega) (by omega)]; omega), ?_⟩; refine Up.only (a := w12) (w := wd) ?_ (show World.grownBy wd we (some (w12).heap.size) by (repeat' (first | with_reducible exact grown_refl _ _ | with_reducible assumption | with_reducible refine grown_new ?_ (by (try dsimp only); (try simp only [World.size_alloc, World.size_setCell, World.heap_drewN, World.size_drew]); omega) _ | with_reducible refine grown_set ?_ _ _ | with_reducible refine grown_up ?_ ((Up.refl _).drew) | with_reducible refine grown_up ?_ (Up.alloc (Up.refl _) _) | with_reducible refine grown_trans ?_ (by with_reducible assumption)))) (Nat.le_refl _); (repeat' (first | with_reducible exact Up.refl _ | with_reducible assumption | with_reducible refine Up.alloc ?_ _ | with_reducible refine Up.drew ?_ | with_reducible refine Up.drewN ?_ _ | with_reducible refine Up.setCell ?_ (by (try simp only [World.size_alloc, World.size_setCell, World.heap_drewN, World.size_drew]); omega) _ | (with_reducible refine Up.trans ?_ (by with_reducible assumption)))))
              case rest =>
                obtain ⟨x, rfl, ⟨x1, x2⟩, hux⟩ := hcut
                have hUx := hUv.trans hux
                have vtd0 := (hux.cells _ _ (cell_lt vtd0)).trans vtd0
                have vtd1 := (hux.cells _ _ (cell_lt vtd1)).trans vtd1
                have vte0 := (hux.cells _ _ (cell_lt vte0)).trans vte0
                have vte1 := (hux.cells _ _ (cell_lt vte1)).trans vte1
                have hszx := cell_lt vte0
                have hszy := cell_lt vtd0
                clear wA wB
                have hmh := meet_no (c := c4) (d := d4) k5 x1 x2
                go_upto_region 25 with fail
                refine wp_region_later (by kernel_rfl) (by kernel_rfl) ?_
                repeat (go_big_quiet_step ((go_at_call 33; exact later_call (i_HasNumber _ _ _ _))))
                refine wpQuiet_nil ?_; intro _ hw'; obtain ⟨xx, hw''⟩ := hw'; subst hw''; obtain ⟨W5, hu5⟩ := xx; dsimp only
                go_wp2_with fail
                go_ret
                exact ⟨ret_bool (by first | rfl | (simp [hmh]; done) | (rw [hmh]; simp; done) | (simp [v2] at hmh; simp [hmh]; done)), by (repeat' (first | with_reducible exact Up.refl _ | with_reducible assumption | with_reducible refine Up.alloc ?_ _ | with_reducible refine Up.drew ?_ | with_reducible refine Up.drewN ?_ _ | with_reducible refine Up.setCell ?_ (by (try simp only [World.size_alloc, World.size_setCell, World.heap_drewN, World.size_drew]); omega) _ | (with_reducible refine Up.trans ?_ (by with_reducible assumption))))⟩
      · have hwi : ((widR a8 b8 y8).2.2 == 0) = false := by simpa using hwi
        rcases meetR_three a4 b4 c4 d4 with hme | ⟨v1, v2, k5, hme⟩ | ⟨v1, v2, k5, hme⟩
        · simp only [hme]
          clear hme
          go_wp2_with fail
          go_loopw [22] (fun i wr => ∃ k : Nat, k ≤ m ∧ i = .int .i64 k ∧ Up W3 wr) (fun i _ => m - (intOf i).toNat)
          case atStart => exact ⟨0, Nat.zero_le _, rfl, Up.refl _⟩
          case round =>
            obtain ⟨j, hj, rfl, hb⟩ := hrel
            obtain ⟨WR, hWR⟩ : ∃ WR, WR = wr := ⟨_, rfl⟩
            subst hWR
            have vta0 := (hb.cells _ _ (cell_lt vta0)).trans vta0
            have vta1 := (hb.cells _ _ (cell_lt vta1)).trans vta1
            have vtc0 := (hb.cells _ _ (cell_lt vtc0)).trans vtc0
            have vtc1 := (hb.cells _ _ (cell_lt vtc1)).trans vtc1
            have vtd0 := (hb.cells _ _ (cell_lt vtd0)).trans vtd0
            have vtd1 := (hb.cells _ _ (cell_lt vtd1)).trans vtd1
            have vte0 := (hb.cells _ _ (cell_lt vte0)).trans vte0
            have vte1 := (hb.cells _ _ (cell_lt vte1)).trans vte1
            have vth0 := (hb.cells _ _ (cell_lt vth0)).trans vth0
            have vth1 := (hb.cells _ _ (cell_lt vth1)).trans vth1
            have vti0 := (hb.cells _ _ (cell_lt vti0)).trans vti0
            have vti1 := (hb.cells _ _ (cell_lt vti1)).trans vti1
            have vtj0 := (hb.cells _ _ (cell_lt vtj0)).trans vtj0
            have vtj1 := (hb.cells _ _ (cell_lt vtj1)).trans vtj1
            have hbs := hb.size
            by_cases hlt : j < m
            · obtain ⟨bb, oo, rfl, hbl, hcc⟩ := (hL.up hb).at_ (by omega)
              have kc0 := hcc (j * 2) (by omega)
              have kc1 := hcc (j * 2 + 1) (by omega)
              rw [← Nat.add_assoc] at kc1
              have hl' : (j : Int) < (m : Int) := by omega
              obtain ⟨i1, i2⟩ := hull_in (f := f) hlt
              have l1 : decide (hl f m ≤ f (j * 2)) = true := by simpa using i1
              have l2 : decide (f (j * 2 + 1) ≤ hh f m) = true := by simpa using i2
              clear hcc hL
              go_wp2
              refine wp_region_later (by kernel_rfl) (by kernel_rfl) ?_
              repeat (go_big_quiet_step ((go_at_call 34; exact later_call (l_insideH _ _ _ _ _))))
              refine wpQuiet_nil ?_; intro _ hw'; obtain ⟨x, hw''⟩ := hw'; subst hw''; obtain ⟨wn, hu⟩ := x; dsimp only; obtain ⟨N, J, JF, hn1, hn2, hz, hc, hf⟩ := hu.facts; (try simp only [World.size_alloc, World.size_setCell, World.heap_drewN, World.size_drew] at hn1 hn2)
              go_wp2
              go_roundw
              case rel => exact ⟨j + 1, by omega, by go_num, by (repeat' (first | with_reducible exact Up.refl _ | with_reducible assumption | with_reducible refine Up.alloc ?_ _ | with_reducible refine Up.drew ?_ | with_reducible refine Up.drewN ?_ _ | with_reducible refine Up.setCell ?_ (by (try simp only [World.size_alloc, World.size_setCell, World.heap_drewN, World.size_drew]); omega) _ | (with_reducible refine Up.trans ?_ (by with_reducible assumption))))⟩
              case measure => simp [intOf]; omega
            · obtain rfl : j = m := by omega
              have hUr := hU3.trans hb
              go_wp2_with fail
              go_ret
              exact ⟨rfl, by (repeat' (first | with_reducible exact Up.refl _ | with_reducible assumption | with_reducible refine Up.alloc ?_ _ | with_reducible refine Up.drew ?_ | with_reducible refine Up.drewN ?_ _ | with_reducible refine Up.setCell ?_ (by (try simp only [World.size_alloc, World.size_setCell, World.heap_drewN, World.size_drew]); omega) _ | (with_reducible refine Up.trans ?_ (by with_reducible assumption))))⟩
        · obtain ⟨q1, q2, q3⟩ := isIvB_iff.1 v1
          rw [hme] at vte0 vte1
          simp only [hme]
          clear hme vtf0 vtf1
          go_wp2_with fail
          go_loopw [22] (fun i wr => ∃ k : Nat, k ≤ m ∧ i = .int .i64 k ∧ Up W3 wr) (fun i _ => m - (intOf i).toNat)
          case atStart => exact ⟨0, Nat.zero_le _, rfl, Up.refl _⟩
          case round =>
            obtain ⟨j, hj, rfl, hb⟩ := hrel
            obtain ⟨WR, hWR⟩ : ∃ WR, WR = wr := ⟨_, rfl⟩
            subst hWR
            have vta0 := (hb.cells _ _ (cell_lt vta0)).trans vta0
            have vta1 := (hb.cells _ _ (cell_lt vta1)).trans vta1
            have vtc0 := (hb.cells _ _ (cell_lt vtc0)).trans vtc0
            have vtc1 := (hb.cells _ _ (cell_lt vtc1)).trans vtc1
            have vtd0 := (hb.cells _ _ (cell_lt vtd0)).trans vtd0
            have vtd1 := (hb.cells _ _ (cell_lt vtd1)).trans vtd1
            have vte0 := (hb.cells _ _ (cell_lt vte0)).trans vte0
            have vte1 := (hb.cells _ _ (cell_lt vte1)).trans vte1
            have vth0 := (hb.cells _ _ (cell_lt vth0)).trans vth0
            have vth1 := (hb.cells _ _ (cell_lt vth1)).trans vth1
            have vti0 := (hb.cells _ _ (cell_lt vti0)).trans vti0
            have vti1 := (hb.cells _ _ (cell_lt vti1)).trans vti1
            have vtj0 := (hb.cells _ _ (cell_lt vtj0)).trans vtj0
            have vtj1 := (hb.cells _ _ (cell_lt vtj1)).trans vtj1
            have hbs := hb.size
            by_cases hlt : j < m
            · obtain ⟨bb, oo, rfl, hbl, hcc⟩ := (hL.up hb).at_ (by omega)
              have kc0 := hcc (j * 2) (by omega)
              have kc1 := hcc (j * 2 + 1) (by omega)
              rw [← Nat.add_assoc] at kc1
              have hl' : (j : Int) < (m : Int) := by omega
              obtain ⟨i1, i2⟩ := hull_in (f := f) hlt
              have l1 : decide (hl f m ≤ f (j * 2)) = true := by simpa using i1
              have l2 : decide (f (j * 2 + 1) ≤ hh f m) = true := by simpa using i2
              clear hcc hL
              go_wp2
              refine wp_region_later (by kernel_rfl) (by kernel_rfl) ?_
              repeat (go_big_quiet_step ((go_at_call 34; exact later_call (l_insideH _ _ _ _ _))))
              refine wpQuiet_nil ?_; intro _ hw'; obtain ⟨x, hw''⟩ := hw'; subst hw''; obtain ⟨wn, hu⟩ := x; dsimp only; obtain ⟨N, J, JF, hn1, hn2, hz, hc, hf⟩ := hu.facts; (try simp only [World.size_alloc, World.size_setCell, World.heap_drewN, World.size_drew] at hn1 hn2)
              go_wp2
              go_roundw
              case rel => exact ⟨j + 1, by omega, by go_num, by (repeat' (first | with_reducible exact Up.refl _ | with_reducible assumption | with_reducible refine Up.alloc ?_ _ | with_reducible refine Up.drew ?_ | with_reducible refine Up.drewN ?_ _ | with_reducible refine Up.setCell ?_ (by (try simp only [World.size_alloc, World.size_setCell, World.heap_drewN, World.size_drew]); omega) _ | (with_reducible refine Up.trans ?_ (by with_reducible assumption))))⟩
              case measure => simp [intOf]; omega
            · obtain rfl : j = m := by omega
              have hUr := hU3.trans hb
              have wA : IntKind.i64.wrap (b4 - a4) = b4 - a4 := wrH (by omega) (by omega)
              have wB : IntKind.i64.wrap (b4 - a4 + 1) = b4 - a4 + 1 := wrH (by omega) (by omega)
              go_upto_region 24 with fail
              go_cut [23] (fun s23 wx => ∃ x : Int, s23 = .int .i64 x ∧ (a4 ≤ x ∧ x ≤ b4) ∧ Up WR wx)
              case first =>
                have hXs : w10.heap.size < WR.heap.size := by have := cell_lt vtj0; omega
                have hY0 : ∀ y : Int, IntKind.i64.wrap y = IntKind.i64.wrap y := fun _ => rfl
                go_region_held3 (fun w' => w'.cell? ⟨w4.heap.size, 0, none⟩ = some (.int .i64 a4) ∧ w'.cell? ⟨w4.heap.size, 1, none⟩ = some (.int .i64 b4))
                  (first | ((try dsimp only); (repeat' apply And.intro) <;> (first | (simp [cell_drewI, ↓IntWalk.iteOmega, *]; done))))
                  (first
                    | (go_at_call 31; refine (l_roll _ _ _ _ _ (hR.up (by (repeat' (first | with_reducible exact Up.refl _ | with_reducible assumption | with_reducible refine Up.alloc ?_ _ | with_reducible refine Up.drew ?_ | with_reducible refine Up.drewN ?_ _ | with_reducible refine Up.setCell ?_ (by (try simp only [World.size_alloc, World.size_setCell, World.heap_drewN, World.size_drew]); omega) _ | (with_reducible refine Up.trans ?_ (by with_reducible assumption)))))) hn (by omega) (by omega)).mono ?_; rintro e wd ⟨rfl, hD, hu11⟩; (try simp only [World.size_alloc, World.size_setCell, World.heap_drewN, World.size_drew] at hD); obtain ⟨N11, J11, JF11, ha11, hb11, hz11, hc11, hf11⟩ := hu11.facts; (try simp only [World.size_alloc, World.size_setCell, World.heap_drewN, World.size_drew] at ha11 hb11); (try simp only [cell_drewI] at hc11); (try simp only [frz_drewI] at hf11); (have hDl := hD.lt); (have hsz11 := hu11.size); (try simp only [World.size_alloc, World.size_setCell, World.heap_drewN, World.size_drew] at hsz11))
                    | (go_at_call 32; (try simp only [wA, wB]); refine (l_below _ _ _ (by (first | with_reducible assumption | (with_reducible refine Dice.up (by with_reducible assumption) ?_; (repeat' (first | with_reducible exact Up.refl _ | with_reducible assumption | with_reducible refine Up.alloc ?_ _ | with_reducible refine Up.drew ?_ | with_reducible refine Up.drewN ?_ _ | with_reducible refine Up.setCell ?_ (by (try simp only [World.size_alloc, World.size_setCell, World.heap_drewN, World.size_drew]); omega) _ | (with_reducible refine Up.trans ?_ (by with_reducible assumption)))); done))) (by omega) (by omega)).mono ?_; rintro e we ⟨⟨r, rfl, r0, r1⟩, hD, hg⟩; obtain ⟨N, J, JF, hn1, hn2, hz, hc, hf⟩ := grown_facts hg; (try simp only [World.size_alloc, World.size_setCell, World.heap_drewN, World.size_drew] at hn1 hn2); (try simp only [cell_drewI] at hc); (try simp only [frz_drewI] at hf)))
                all_goals (go_wp2_with fail; go_meet; refine ⟨_, rfl, (by rw [wrH (by omega) (by omega)]; omega), ?_⟩; refine Up.only (a := WR) (w := wd) ?_ (show World.grownBy wd we (some (WR).heap.size) by (repeat' (first | with_reducible exact grown_refl _ _ | with_reducible assumption | with_reducible refine grown_new ?_ (by (try dsimp only); (try simp only [World.size_alloc, World.size_setCell, World.heap_drewN, World.size_drew]); omega) _ | with_reducible refine grown_set ?_ _ _ | with_reducible refine grown_up ?_ ((Up.refl _).drew) | with_reducible refine grown_up ?_ (Up.alloc (Up.refl _) _) | with_reducible refine grown_trans ?_ (by with_reducible assumption)))) (Nat.le_refl _); (repeat' (first | with_reducible exact Up.refl _ | with_reducible assumption | with_reducible refine Up.alloc ?_ _ | with_reducible refine Up.drew ?_ | with_reducible refine Up.drewN ?_ _ | with_reducible refine Up.setCell ?_ (by (try simp only [World.size_alloc, World.size_setCell, World.heap_drewN, World.size_drew]); omega) _ | (with_reducible refine Up.trans ?_ (by with_reducible assumption)))))
              case rest =>
                obtain ⟨x, rfl, ⟨x1, x2⟩, hux⟩ := hcut
                have hUx := hUr.trans hux
                have vtd0 := (hux.cells _ _ (cell_lt vtd0)).trans vtd0
                have vtd1 := (hux.cells _ _ (cell_lt vtd1)).trans vtd1
                have vte0 := (hux.cells _ _ (cell_lt vte0)).trans vte0
                have vte1 := (hux.cells _ _ (cell_lt vte1)).trans vte1
                have hszx := cell_lt vte0
                have hszy := cell_lt vtd0
                clear wA wB
                have hmh := meet_has v1 v2 k5 x1 x2
                go_upto_region 25 with fail
                refine wp_region_later (by kernel_rfl) (by kernel_rfl) ?_
                repeat (go_big_quiet_step ((go_at_call 33; exact later_call (i_HasNumber _ _ _ _))))
                refine wpQuiet_nil ?_; intro _ hw'; obtain ⟨xx, hw''⟩ := hw'; subst hw''; obtain ⟨W5, hu5⟩ := xx; dsimp only
                go_wp2_with fail
                go_ret
                exact ⟨ret_bool (by first | rfl | (simp [hmh]; done) | (rw [hmh]; simp; done) | (simp [v2] at hmh; simp [hmh]; done)), by (repeat' (first | with_reducible exact Up.refl _ | with_reducible assumption | with_reducible refine Up.alloc ?_ _ | with_reducible refine Up.drew ?_ | with_reducible refine Up.drewN ?_ _ | with_reducible refine Up.setCell ?_ (by (try simp only [World.size_alloc, World.size_setCell, World.heap_drewN, World.size_drew]); omega) _ | (with_reducible refine Up.trans ?_ (by with_reducible assumption))))⟩
        · obtain ⟨q1, q2, q3⟩ := isIvB_iff.1 v1
          rw [hme] at vte0 vte1
          simp only [hme]
          clear hme vtf0 vtf1
          go_wp2_with fail
          go_loopw [22] (fun i wr => ∃ k : Nat, k ≤ m ∧ i = .int .i64 k ∧ Up W3 wr) (fun i _ => m - (intOf i).toNat)
          case atStart => exact ⟨0, Nat.zero_le _, rfl, Up.refl _⟩
          case round =>
            obtain ⟨j, hj, rfl, hb⟩ := hrel
            obtain ⟨WR, hWR⟩ : ∃ WR, WR = wr := ⟨_, rfl⟩
            subst hWR
            have vta0 := (hb.cells _ _ (cell_lt vta0)).trans vta0
            have vta1 := (hb.cells _ _ (cell_lt vta1)).trans vta1
            have vtc0 := (hb.cells _ _ (cell_lt vtc0)).trans vtc0
            have vtc1 := (hb.cells _ _ (cell_lt vtc1)).trans vtc1
            have vtd0 := (hb.cells _ _ (cell_lt vtd0)).trans vtd0
            have vtd1 := (hb.cells _ _ (cell_lt vtd1)).trans vtd1
            have vte0 := (hb.cells _ _ (cell_lt vte0)).trans vte0
            have vte1 := (hb.cells _ _ (cell_lt vte1)).trans vte1
            have vth0 := (hb.cells _ _ (cell_lt vth0)).trans vth0
            have vth1 := (hb.cells _ _ (cell_lt vth1)).trans vth1
            have vti0 := (hb.cells _ _ (cell_lt vti0)).trans vti0
            have vti1 := (hb.cells _ _ (cell_lt vti1)).trans vti1
            have vtj0 := (hb.cells _ _ (cell_lt vtj0)).trans vtj0
            have vtj1 := (hb.cells _ _ (cell_lt vtj1)).trans vtj1
            have hbs := hb.size
            by_cases hlt : j < m
            · obtain ⟨bb, oo, rfl, hbl, hcc⟩ := (hL.up hb).at_ (by omega)
              have kc0 := hcc (j * 2) (by omega)
              have kc1 := hcc (j * 2 + 1) (by omega)
              rw [← Nat.add_assoc] at kc1
              have hl' : (j : Int) < (m : Int) := by omega
              obtain ⟨i1, i2⟩ := hull_in (f := f) hlt
              have l1 : decide (hl f m ≤ f (j * 2)) = true := by simpa using i1
              have l2 : decide (f (j * 2 + 1) ≤ hh f m) = true := by simpa using i2
              clear hcc hL
              go_wp2
              refine wp_region_later (by kernel_rfl) (by kernel_rfl) ?_
              repeat (go_big_quiet_step ((go_at_call 34; exact later_call (l_insideH _ _ _ _ _))))
              refine wpQuiet_nil ?_; intro _ hw'; obtain ⟨x, hw''⟩ := hw'; subst hw''; obtain ⟨wn, hu⟩ := x; dsimp only; obtain ⟨N, J, JF, hn1, hn2, hz, hc, hf⟩ := hu.facts; (try simp only [World.size_alloc, World.size_setCell, World.heap_drewN, World.size_drew] at hn1 hn2)
              go_wp2
              go_roundw
              case rel => exact ⟨j + 1, by omega, by go_num, by (repeat' (first | with_reducible exact Up.refl _ | with_reducible assumption | with_reducible refine Up.alloc ?_ _ | with_reducible refine Up.drew ?_ | with_reducible refine Up.drewN ?_ _ | with_reducible refine Up.setCell ?_ (by (try simp only [World.size_alloc, World.size_setCell, World.heap_drewN, World.size_drew]); omega) _ | (with_reducible refine Up.trans ?_ (by with_reducible assumption))))⟩
              case measure => simp [intOf]; omega
            · obtain rfl : j = m := by omega
              have hUr := hU3.trans hb
              have wA : IntKind.i64.wrap (b4 - a4) = b4 - a4 := wrH (by omega) (by omega)
              have wB : IntKind.i64.wrap (b4 - a4 + 1) = b4 - a4 + 1 := wrH (by omega) (by omega)
              go_upto_region 24 with fail
              go_cut [23] (fun s23 wx => ∃ x : Int, s23 = .int .i64 x ∧ (a4 ≤ x ∧ x ≤ b4) ∧ Up WR wx)
              case first =>
                have hXs : w10.heap.size < WR.heap.size := by have := cell_lt vtj0; omega
                have hY0 : ∀ y : Int, IntKind.i64.wrap y = IntKind.i64.wrap y := fun _ => rfl
                go_region_held3 (fun w' => w'.cell? ⟨w4.heap.size, 0, none⟩ = some (.int .i64 a4) ∧ w'.cell? ⟨w4.heap.size, 1, none⟩ = some (.int .i64 b4))
                  (first | ((try dsimp only); (repeat' apply And.intro) <;> (first | (simp [cell_drewI, ↓IntWalk.iteOmega, *]; done))))
                  (first
                    | (go_at_call 31; refine (l_roll _ _ _ _ _ (hR.up (by (repeat' (first | with_reducible exact Up.refl _ | with_reducible assumption | with_reducible refine Up.alloc ?_ _ | with_reducible refine Up.drew ?_ | with_reducible refine Up.drewN ?_ _ | with_reducible refine Up.setCell ?_ (by (try simp only [World.size_alloc, World.size_setCell, World.heap_drewN, World.size_drew]); omega) _ | (with_reducible refine Up.trans ?_ (by with_reducible assumption)))))) hn (by omega) (by omega)).mono ?_; rintro e wd ⟨rfl, hD, hu11⟩; (try simp only [World.size_alloc, World.size_setCell, World.heap_drewN, World.size_drew] at hD); obtain ⟨N11, J11, JF11, ha11, hb11, hz11, hc11, hf11⟩ := hu11.facts; (try simp only [World.size_alloc, World.size_setCell, World.heap_drewN, World.size_drew] at ha11 hb11); (try simp only [cell_drewI] at hc11); (try simp only [frz_drewI] at hf11); (have hDl := hD.lt); (have hsz11 := hu11.size); (try simp only [World.size_alloc, World.size_setCell, World.heap_drewN, World.size_drew] at hsz11))
                    | (go_at_call 32; (try simp only [wA, wB]); refine (l_below _ _ _ (by (first | with_reducible assumption | (with_reducible refine Dice.up (by with_reducible assumption) ?_; (repeat' (first | with_reducible exact Up.refl _ | with_reducible assumption | with_reducible refine Up.alloc ?_ _ | with_reducible refine Up.drew ?_ | with_reducible refine Up.drewN ?_ _ | with_reducible refine Up.setCell ?_ (by (try simp only [World.size_alloc, World.size_setCell, World.heap_drewN, World.size_drew]); omega) _ | (with_reducible refine Up.trans ?_ (by with_reducible assumption)))); done))) (by omega) (by omega)).mono ?_; rintro e we ⟨⟨r, rfl, r0, r1⟩, hD, hg⟩; obtain ⟨N, J, JF, hn1, hn2, hz, hc, hf⟩ := grown_facts hg; (try simp only [World.size_alloc, World.size_setCell, World.heap_drewN, World.size_drew] at hn1 hn2); (try simp only [cell_drewI] at hc); (try simp only [frz_drewI] at hf)))
                all_goals (go_wp2_with fail; go_meet; refine ⟨_, rfl, (by rw [wrH (by omega) (by omega)]; omega), ?_⟩; refine Up.only (a := WR) (w := wd) ?_ (show World.grownBy wd we (some (WR).heap.size) by (repeat' (first | with_reducible exact grown_refl _ _ | with_reducible assumption | with_reducible refine grown_new ?_ (by (try dsimp only); (try simp only [World.size_alloc, World.size_setCell, World.heap_drewN, World.size_drew]); omega) _ | with_reducible refine grown_set ?_ _ _ | with_reducible refine grown_up ?_ ((Up.refl _).drew) | with_reducible refine grown_up ?_ (Up.alloc (Up.refl _) _) | with_reducible refine grown_trans ?_ (by with_reducible assumption)))) (Nat.le_refl _); (repeat' (first | with_reducible exact Up.refl _ | with_reducible assumption | with_reducible refine Up.alloc ?_ _ | with_reducible refine Up.drew ?_ | with_reducible refine Up.drewN ?_ _ | with_reducible refine Up.setCell ?_ (by (try simp only [World.size_alloc, World.size_setCell, World.heap_drewN, World.size_drew]); omega) _ | (with_reducible refine Up.trans ?_ (by with_reducible assumption)))))
              case rest =>
                obtain ⟨x, rfl, ⟨x1, x2⟩, hux⟩ := hcut
                have hUx := hUr.trans hux
                have vtd0 := (hux.cells _ _ (cell_lt vtd0)).trans vtd0
                have vtd1 := (hux.cells _ _ (cell_lt vtd1)).trans vtd1
                have vte0 := (hux.cells _ _ (cell_lt vte0)).trans vte0
                have vte1 := (hux.cells _ _ (cell_lt vte1)).trans vte1
                have hszx := cell_lt vte0
                have hszy := cell_lt vtd0
                clear wA wB
                have hmh := meet_no (c := c4) (d := d4) k5 x1 x2
                go_upto_region 25 with fail
                refine wp_region_later (by kernel_rfl) (by kernel_rfl) ?_
                repeat (go_big_quiet_step ((go_at_call 33; exact later_call (i_HasNumber _ _ _ _))))
                refine wpQuiet_nil ?_; intro _ hw'; obtain ⟨xx, hw''⟩ := hw'; subst hw''; obtain ⟨W5, hu5⟩ := xx; dsimp only
                go_wp2_with fail
                go_ret
                exact ⟨ret_bool (by first | rfl | (simp [hmh]; done) | (rw [hmh]; simp; done) | (simp [v2] at hmh; simp [hmh]; done)), by (repeat' (first | with_reducible exact Up.refl _ | with_reducible assumption | with_reducible refine Up.alloc ?_ _ | with_reducible refine Up.drew ?_ | with_reducible refine Up.drewN ?_ _ | with_reducible refine Up.setCell ?_ (by (try simp only [World.size_alloc, World.size_setCell, World.heap_drewN, World.size_drew]); omega) _ | (with_reducible refine Up.trans ?_ (by with_reducible assumption))))⟩
    · have hhu : ((hullR f m).2.2 == 0) = false := by simpa using hhu
      by_cases hwi : (widR a8 b8 y8).2.2 = 0
      · obtain ⟨hx, hy⟩ := widR_ok hwi
        rw [hx] at vti0 vti1 vtj0 vtj1
        simp only [hwi]
        clear hx hwi
        rcases meetR_three a4 b4 c4 d4 with hme | ⟨v1, v2, k5, hme⟩ | ⟨v1, v2, k5, hme⟩
        · simp only [hme]
          clear hme
          go_wp2_with fail
          go_loopw [22] (fun i wr => i = .int .i64 0 ∧ Up W3 wr) (fun _ _ => 0)
          case atStart => exact ⟨rfl, Up.refl _⟩
          case round =>
            obtain ⟨rfl, hb⟩ := hrel
            obtain ⟨WR, hWR⟩ : ∃ WR, WR = wr := ⟨_, rfl⟩
            subst hWR
            have vtc0 := (hb.cells _ _ (cell_lt vtc0)).trans vtc0
            have vtc1 := (hb.cells _ _ (cell_lt vtc1)).trans vtc1
            have vtd0 := (hb.cells _ _ (cell_lt vtd0)).trans vtd0
            have vtd1 := (hb.cells _ _ (cell_lt vtd1)).trans vtd1
            have vte0 := (hb.cells _ _ (cell_lt vte0)).trans vte0
            have vte1 := (hb.cells _ _ (cell_lt vte1)).trans vte1
            have vth0 := (hb.cells _ _ (cell_lt vth0)).trans vth0
            have vth1 := (hb.cells _ _ (cell_lt vth1)).trans vth1
            have vti0 := (hb.cells _ _ (cell_lt vti0)).trans vti0
            have vti1 := (hb.cells _ _ (cell_lt vti1)).trans vti1
            have vtj0 := (hb.cells _ _ (cell_lt vtj0)).trans vtj0
            have vtj1 := (hb.cells _ _ (cell_lt vtj1)).trans vtj1
            have hbs := hb.size
            have hUr := hU3.trans hb
            have n1 : decide (a8 - y8 ≤ a8) = true := by simp; omega
            have n2 : decide (b8 ≤ b8 + y8) = true := by simp; omega
            go_upto_region 22 with (first
              | (go_at_call 34; refine (l_insideH _ _ _ _ _).mono ?_; rintro e w12 ⟨rfl, hu12⟩; obtain ⟨N12, J12, JF12, ha12, hb12, hz12, hc12, hf12⟩ := hu12.facts; (try simp only [World.size_alloc, World.size_setCell, World.heap_drewN, World.size_drew] at ha12 hb12); (try simp only [cell_drewI] at hc12); (try simp only [frz_drewI] at hf12)))
            have hUv := hUr.trans (show Up WR w12 by (repeat' (first | with_reducible exact Up.refl _ | with_reducible assumption | with_reducible refine Up.alloc ?_ _ | with_reducible refine Up.drew ?_ | with_reducible refine Up.drewN ?_ _ | with_reducible refine Up.setCell ?_ (by (try simp only [World.size_alloc, World.size_setCell, World.heap_drewN, World.size_drew]); omega) _ | (with_reducible refine Up.trans ?_ (by with_reducible assumption)))))
            have hv12 : Up WR w12 := by (repeat' (first | with_reducible exact Up.refl _ | with_reducible assumption | with_reducible refine Up.alloc ?_ _ | with_reducible refine Up.drew ?_ | with_reducible refine Up.drewN ?_ _ | with_reducible refine Up.setCell ?_ (by (try simp only [World.size_alloc, World.size_setCell, World.heap_drewN, World.size_drew]); omega) _ | (with_reducible refine Up.trans ?_ (by with_reducible assumption))))
            have vtc0 := (hv12.cells _ _ (cell_lt vtc0)).trans vtc0
            have vtc1 := (hv12.cells _ _ (cell_lt vtc1)).trans vtc1
            have vtd0 := (hv12.cells _ _ (cell_lt vtd0)).trans vtd0
            have vtd1 := (hv12.cells _ _ (cell_lt vtd1)).trans vtd1
            have vte0 := (hv12.cells _ _ (cell_lt vte0)).trans vte0
            have vte1 := (hv12.cells _ _ (cell_lt vte1)).trans vte1
            have vtj0 := (hv12.cells _ _ (cell_lt vtj0)).trans vtj0
            have vtj1 := (hv12.cells _ _ (cell_lt vtj1)).trans vtj1
            clear hu12 ha12 hb12 hc12 hf12 hv12
            go_wp2_with fail
            go_ret
            exact ⟨rfl, by (repeat' (first | with_reducible exact Up.refl _ | with_reducible assumption | with_reducible refine Up.alloc ?_ _ | with_reducible refine Up.drew ?_ | with_reducible refine Up.drewN ?_ _ | with_reducible refine Up.setCell ?_ (by (try simp only [World.size_alloc, World.size_setCell, World.heap_drewN, World.size_drew]); omega) _ | (with_reducible refine Up.trans ?_ (by with_reducible assumption))))⟩
        · obtain ⟨q1, q2, q3⟩ := isIvB_iff.1 v1
          rw [hme] at vte0 vte1
          simp only [hme]
          clear hme vtf0 vtf1
          go_wp2_with fail
          go_loopw [22] (fun i wr => i = .int .i64 0 ∧ Up W3 wr) (fun _ _ => 0)
          case atStart => exact ⟨rfl, Up.refl _⟩
          case round =>
            obtain ⟨rfl, hb⟩ := hrel
            obtain ⟨WR, hWR⟩ : ∃ WR, WR = wr := ⟨_, rfl⟩
            subst hWR
            have vtc0 := (hb.cells _ _ (cell_lt vtc0)).trans vtc0
            have vtc1 := (hb.cells _ _ (cell_lt vtc1)).trans vtc1
            have vtd0 := (hb.cells _ _ (cell_lt vtd0)).trans vtd0
            have vtd1 := (hb.cells _ _ (cell_lt vtd1)).trans vtd1
            have vte0 := (hb.cells _ _ (cell_lt vte0)).trans vte0
            have vte1 := (hb.cells _ _ (cell_lt vte1)).trans vte1
            have vth0 := (hb.cells _ _ (cell_lt vth0)).trans vth0
            have vth1 := (hb.cells _ _ (cell_lt vth1)).trans vth1
            have vti0 := (hb.cells _ _ (cell_lt vti0)).trans vti0
            have vti1 := (hb.cells _ _ (cell_lt vti1)).trans vti1
            have vtj0 := (hb.cells _ _ (cell_lt vtj0)).trans vtj0
            have vtj1 := (hb.cells _ _ (cell_lt vtj1)).trans vtj1
            have hbs := hb.size
            have hUr := hU3.trans hb
            have n1 : decide (a8 - y8 ≤ a8) = true := by simp; omega
            have n2 : decide (b8 ≤ b8 + y8) = true := by simp; omega
            go_upto_region 22 with (first
              | (go_at_call 34; refine (l_insideH _ _ _ _ _).mono ?_; rintro e w12 ⟨rfl, hu12⟩; obtain ⟨N12, J12, JF12, ha12, hb12, hz12, hc12, hf12⟩ := hu12.facts; (try simp only [World.size_alloc, World.size_setCell, World.heap_drewN, World.size_drew] at ha12 hb12); (try simp only [cell_drewI] at hc12); (try simp only [frz_drewI] at hf12)))
            have hUv := hUr.trans (show Up WR w12 by (repeat' (first | with_reducible exact Up.refl _ | with_reducible assumption | with_reducible refine Up.alloc ?_ _ | with_reducible refine Up.drew ?_ | with_reducible refine Up.drewN ?_ _ | with_reducible refine Up.setCell ?_ (by (try simp only [World.size_alloc, World.size_setCell, World.heap_drewN, World.size_drew]); omega) _ | (with_reducible refine Up.trans ?_ (by with_reducible assumption)))))
            have hv12 : Up WR w12 := by (repeat' (first | with_reducible exact Up.refl _ | with_reducible assumption | with_reducible refine Up.alloc ?_ _ | with_reducible refine Up.drew ?_ | with_reducible refine Up.drewN ?_ _ | with_reducible refine Up.setCell ?_ (by (try simp only [World.size_alloc, World.size_setCell, World.heap_drewN, World.size_drew]); omega) _ | (with_reducible refine Up.trans ?_ (by with_reducible assumption))))
            have vtc0 := (hv12.cells _ _ (cell_lt vtc0)).trans vtc0
            have vtc1 := (hv12.cells _ _ (cell_lt vtc1)).trans vtc1
            have vtd0 := (hv12.cells _ _ (cell_lt vtd0)).trans vtd0
            have vtd1 := (hv12.cells _ _ (cell_lt vtd1)).trans vtd1
            have vte0 := (hv12.cells _ _ (cell_lt vte0)).trans vte0
            have vte1 := (hv12.cells _ _ (cell_lt vte1)).trans vte1
            have vtj0 := (hv12.cells _ _ (cell_lt vtj0)).trans vtj0
            have vtj1 := (hv12.cells _ _ (cell_lt vtj1)).trans vtj1
            clear hu12 ha12 hb12 hc12 hf12 hv12
            have wA : IntKind.i64.wrap (b4 - a4) = b4 - a4 := wrH (by omega) (by omega)
            have wB : IntKind.i64.wrap (b4 - a4 + 1) = b4 - a4 + 1 := wrH (by omega) (by omega)
            go_upto_region 24 with fail
            go_cut [23] (fun s23 wx => ∃ x : Int, s23 = .int .i64 x ∧ (a4 ≤ x ∧ x ≤ b4) ∧ Up w12 wx)
            case first =>
              have hXs : w10.heap.size < w12.heap.size := by have := cell_lt vtj0; omega
              have hY0 : ∀ y : Int, IntKind.i64.wrap y = IntKind.i64.wrap y := fun _ => rfl
              go_region_held3 (fun w' => w'.cell? ⟨w4.heap.size, 0, none⟩ = some (.int .i64 a4) ∧ w'.cell? ⟨w4.heap.size, 1, none⟩ = some (.int .i64 b4))
                (first | ((try dsimp only); (repeat' apply And.intro) <;> (first | (simp [cell_drewI, ↓IntWalk.iteOmega, *]; done))))
                (first
                  | (go_at_call 31; refine (l_roll _ _ _ _ _ (hR.up (by (repeat' (first | with_reducible exact Up.refl _ | with_reducible assumption | with_reducible refine Up.alloc ?_ _ | with_reducible refine Up.drew ?_ | with_reducible refine Up.drewN ?_ _ | with_reducible refine Up.setCell ?_ (by (try simp only [World.size_alloc, World.size_setCell, World.heap_drewN, World.size_drew]); omega) _ | (with_reducible refine Up.trans ?_ (by with_reducible assumption)))))) hn (by omega) (by omega)).mono ?_; rintro e wd ⟨rfl, hD, hu11⟩; (try simp only [World.size_alloc, World.size_setCell, World.heap_drewN, World.size_drew] at hD); obtain ⟨N11, J11, JF11, ha11, hb11, hz11, hc11, hf11⟩ := hu11.facts; (try simp only [World.size_alloc, World.size_setCell, World.heap_drewN, World.size_drew] at ha11 hb11); (try simp only [cell_drewI] at hc11); (try simp only [frz_drewI] at hf11); (have hDl := hD.lt); (have hsz11 := hu11.size); (try simp only [World.size_alloc, World.size_setCell, World.heap_drewN, World.size_drew] at hsz11))
                  | (go_at_call 32; (try simp only [wA, wB]); refine (l_below _ _ _ (by (first | with_reducible assumption | (with_reducible refine Dice.up (by with_reducible assumption) ?_; (repeat' (first | with_reducible exact Up.refl _ | with_reducible assumption | with_reducible refine Up.alloc ?_ _ | with_reducible refine Up.drew ?_ | with_reducible refine Up.drewN ?_ _ | with_reducible refine Up.setCell ?_ (by (try simp only [World.size_alloc, World.size_setCell, World.heap_drewN, World.size_drew]); omega) _ | (with_reducible refine Up.trans ?_ (by with_reducible assumption)))); done))) (by omega) (by omega)).mono ?_; rintro e we ⟨⟨r, rfl, r0, r1⟩, hD, hg⟩; obtain ⟨N, J, JF, hn1, hn2, hz, hc, hf⟩ := grown_facts hg; (try simp only [World.size_alloc, World.size_setCell, World.heap_drewN, World.size_drew] at hn1 hn2); (try simp only [cell_drewI] at hc); (try simp only [frz_drewI] at hf)))
              all_goals (go_wp2_with fail; go_meet; refine ⟨_, rfl, (by rw [wrH (by omega) (by omega)]; omega), ?_⟩; refine Up.only (a := w12) (w := wd) ?_ (show World.grownBy wd we (some (w12).heap.size) by (repeat' (first | with_reducible exact grown_refl _ _ | with_reducible assumption | with_reducible refine grown_new ?_ (by (try dsimp only); (try simp only [World.size_alloc, World.size_setCell, World.heap_drewN, World.size_drew]); omega) _ | with_reducible refine grown_set ?_ _ _ | with_reducible refine grown_up ?_ ((Up.refl _).drew) | with_reducible refine grown_up ?_ (Up.alloc (Up.refl _) _) | with_reducible refine grown_trans ?_ (by with_reducible assumption)))) (Nat.le_refl _); (repeat' (first | with_reducible exact Up.refl _ | with_reducible assumption | with_reducible refine Up.alloc ?_ _ | with_reducible refine Up.drew ?_ | with_reducible refine Up.drewN ?_ _ | with_reducible refine Up.setCell ?_ (by (try simp only [World.size_alloc, World.size_setCell, World.heap_drewN, World.size_drew]); omega) _ | (with_reducible refine Up.trans ?_ (by with_reducible assumption)))))
            case rest =>
              obtain ⟨x, rfl, ⟨x1, x2⟩, hux⟩ := hcut
              have hUx := hUv.trans hux
              have vtd0 := (hux.cells _ _ (cell_lt vtd0)).trans vtd0
              have vtd1 := (hux.cells _ _ (cell_lt vtd1)).trans vtd1
              have vte0 := (hux.cells _ _ (cell_lt vte0)).trans vte0
              have vte1 := (hux.cells _ _ (cell_lt vte1)).trans vte1
              have hszx := cell_lt vte0
              have hszy := cell_lt vtd0
              clear wA wB
              have hmh := meet_has v1 v2 k5 x1 x2
              go_upto_region 25 with fail
              refine wp_region_later (by kernel_rfl) (by kernel_rfl) ?_
              repeat (go_big_quiet_step ((go_at_call 33; exact later_call (i_HasNumber _ _ _ _))))
              refine wpQuiet_nil ?_; intro _ hw'; obtain ⟨xx, hw''⟩ := hw'; subst hw''; obtain ⟨W5, hu5⟩ := xx; dsimp only
              go_wp2_with fail
              go_ret
              exact ⟨ret_bool (by first | rfl | (simp [hmh]; done) | (rw [hmh]; simp; done) | (simp [v2] at hmh; simp [hmh]; done)), by (repeat' (first | with_reducible exact Up.refl _ | with_reducible assumption | with_reducible refine Up.alloc ?_ _ | with_reducible refine Up.drew ?_ | with_reducible refine Up.drewN ?_ _ | with_reducible refine Up.setCell ?_ (by (try simp only [World.size_alloc, World.size_setCell, World.heap_drewN, World.size_drew]); omega) _ | (with_reducible refine Up.trans ?_ (by with_reducible assumption))))⟩
        · obtain ⟨q1, q2, q3⟩ := isIvB_iff.1 v1
          rw [hme] at vte0 vte1
          simp only [hme]
          clear hme vtf0 vtf1
          go_wp2_with fail
          go_loopw [22] (fun i wr => i = .int .i64 0 ∧ Up W3 wr) (fun _ _ => 0)
          case atStart => exact ⟨rfl, Up.refl _⟩
          case round =>
            obtain ⟨rfl, hb⟩ := hrel
            obtain ⟨WR, hWR⟩ : ∃ WR, WR = wr := ⟨_, rfl⟩
            subst hWR
            have vtc0 := (hb.cells _ _ (cell_lt vtc0)).trans vtc0
            have vtc1 := (hb.cells _ _ (cell_lt vtc1)).trans vtc1
            have vtd0 := (hb.cells _ _ (cell_lt vtd0)).trans vtd0
            have vtd1 := (hb.cells _ _ (cell_lt vtd1)).trans vtd1
            have vte0 := (hb.cells _ _ (cell_lt vte0)).trans vte0
            have vte1 := (hb.cells _ _ (cell_lt vte1)).trans vte1
            have vth0 := (hb.cells _ _ (cell_lt vth0)).trans vth0
            have vth1 := (hb.cells _ _ (cell_lt vth1)).trans vth1
            have vti0 := (hb.cells _ _ (cell_lt vti0)).trans vti0
            have vti1 := (hb.cells _ _ (cell_lt vti1)).trans vti1
            have vtj0 := (hb.cells _ _ (cell_lt vtj0)).trans vtj0
            have vtj1 := (hb.cells _ _ (cell_lt vtj1)).trans vtj1
            have hbs := hb.size
            have hUr := hU3.trans hb
            have n1 : decide (a8 - y8 ≤ a8) = true := by simp; omega
            have n2 : decide (b8 ≤ b8 + y8) = true := by simp; omega
            go_upto_region 22 with (first
              | (go_at_call 34; refine (l_insideH _ _ _ _ _).mono ?_; rintro e w12 ⟨rfl, hu12⟩; obtain ⟨N12, J12, JF12, ha12, hb12, hz12, hc12, hf12⟩ := hu12.facts; (try simp only [World.size_alloc, World.size_setCell, World.heap_drewN, World.size_drew] at ha12 hb12); (try simp only [cell_drewI] at hc12); (try simp only [frz_drewI] at hf12)))
            have hUv := hUr.trans (show Up WR w12 by (repeat' (first | with_reducible exact Up.refl _ | with_reducible assumption | with_reducible refine Up.alloc ?_ _ | with_reducible refine Up.drew ?_ | with_reducible refine Up.drewN ?_ _ | with_reducible refine Up.setCell ?_ (by (try simp only [World.size_alloc, World.size_setCell, World.heap_drewN, World.size_drew]); omega) _ | (with_reducible refine Up.trans ?_ (by with_reducible assumption)))))
            have hv12 : Up WR w12 := by (repeat' (first | with_reducible exact Up.refl _ | with_reducible assumption | with_reducible refine Up.alloc ?_ _ | with_reducible refine Up.drew ?_ | with_reducible refine Up.drewN ?_ _ | with_reducible refine Up.setCell ?_ (by (try simp only [World.size_alloc, World.size_setCell, World.heap_drewN, World.size_drew]); omega) _ | (with_reducible refine Up.trans ?_ (by with_reducible assumption))))
            have vtc0 := (hv12.cells _ _ (cell_lt vtc0)).trans vtc0
            have vtc1 := (hv12.cells _ _ (cell_lt vtc1)).trans vtc1
            have vtd0 := (hv12.cells _ _ (cell_lt vtd0)).trans vtd0
            have vtd1 := (hv12.cells _ _ (cell_lt vtd1)).trans vtd1
            have vte0 := (hv12.cells _ _ (cell_lt vte0)).trans vte0
            have vte1 := (hv12.cells _ _ (cell_lt vte1)).trans vte1
            have vtj0 := (hv12.cells _ _ (cell_lt vtj0)).trans vtj0
            have vtj1 := (hv12.cells _ _ (cell_lt vtj1)).trans vtj1
            clear hu12 ha12 hb12 hc12 hf12 hv12
            have wA : IntKind.i64.wrap (b4 - a4) = b4 - a4 := wrH (by omega) (by omega)
            have wB : IntKind.i64.wrap (b4 - a4 + 1) = b4 - a4 + 1 := wrH (by omega) (by omega)
            go_upto_region 24 with fail
            go_cut [23] (fun s23 wx => ∃ x : Int, s23 = .int .i64 x ∧ (a4 ≤ x ∧ x ≤ b4) ∧ Up w12 wx)
            case first =>
              have hXs : w10.heap.size < w12.heap.size := by have := cell_lt vtj0; omega
              have hY0 : ∀ y : Int, IntKind.i64.wrap y = IntKind.i64.wrap y := fun _ => rfl
              go_region_held3 (fun w' => w'.cell? ⟨w4.heap.size, 0, none⟩ = some (.int .i64 a4) ∧ w'.cell? ⟨w4.heap.size, 1, none⟩ = some (.int .i64 b4))
                (first | ((try dsimp only); (repeat' apply And.intro) <;> (first | (simp [cell_drewI, ↓IntWalk.iteOmega, *]; done))))
                (first
                  | (go_at_call 31; refine (l_roll _ _ _ _ _ (hR.up (by (repeat' (first | with_reducible exact Up.refl _ | with_reducible assumption | with_reducible refine Up.alloc ?_ _ | with_reducible refine Up.drew ?_ | with_reducible refine Up.drewN ?_ _ | with_reducible refine Up.setCell ?_ (by (try simp only [World.size_alloc, World.size_setCell, World.heap_drewN, World.size_drew]); omega) _ | (with_reducible refine Up.trans ?_ (by with_reducible assumption)))))) hn (by omega) (by omega)).mono ?_; rintro e wd ⟨rfl, hD, hu11⟩; (try simp only [World.size_alloc, World.size_setCell, World.heap_drewN, World.size_drew] at hD); obtain ⟨N11, J11, JF11, ha11, hb11, hz11, hc11, hf11⟩ := hu11.facts; (try simp only [World.size_alloc, World.size_setCell, World.heap_drewN, World.size_drew] at ha11 hb11); (try simp only [cell_drewI] at hc11); (try simp only [frz_drewI] at hf11); (have hDl := hD.lt); (have hsz11 := hu11.size); (try simp only [World.size_alloc, World.size_setCell, World.heap_drewN, World.size_drew] at hsz11))
                  | (go_at_call 32; (try simp only [wA, wB]); refine (l_below _ _ _ (by (first | with_reducible assumption | (with_reducible refine Dice.up (by with_reducible assumption) ?_; (repeat' (first | with_reducible exact Up.refl _ | with_reducible assumption | with_reducible refine Up.alloc ?_ _ | with_reducible refine Up.drew ?_ | with_reducible refine Up.drewN ?_ _ | with_reducible refine Up.setCell ?_ (by (try simp only [World.size_alloc, World.size_setCell, World.heap_drewN, World.size_drew]); omega) _ | (with_reducible refine Up.trans ?_ (by with_reducible assumption)))); done))) (by omega) (by omega)).mono ?_; rintro e we ⟨⟨r, rfl, r0, r1⟩, hD, hg⟩; obtain ⟨N, J, JF, hn1, hn2, hz, hc, hf⟩ := grown_facts hg; (try simp only [World.size_alloc, World.size_setCell, World.heap_drewN, World.size_drew] at hn1 hn2); (try simp only [cell_drewI] at hc); (try simp only [frz_drewI] at hf)))
              all_goals (go_wp2_with fail; go_meet; refine ⟨_, rfl, (by rw [wrH (by omega) (by omega)]; omega), ?_⟩; refine Up.only (a := w12) (w := wd) ?_ (show World.grownBy wd we (some (w12).heap.size) by (repeat' (first | with_reducible exact grown_refl _ _ | with_reducible assumption | with_reducible refine grown_new ?_ (by (try dsimp only); (try simp only [World.size_alloc, World.size_setCell, World.heap_drewN, World.size_drew]); omega) _ | with_reducible refine grown_set ?_ _ _ | with_reducible refine grown_up ?_ ((Up.refl _).drew) | with_reducible refine grown_up ?_ (Up.alloc (Up.refl _) _) | with_reducible refine grown_trans ?_ (by with_reducible assumption)))) (Nat.le_refl _); (repeat' (first | with_reducible exact Up.refl _ | with_reducible assumption | with_reducible refine Up.alloc ?_ _ | with_reducible refine Up.drew ?_ | with_reducible refine Up.drewN ?_ _ | with_reducible refine Up.setCell ?_ (by (try simp only [World.size_alloc, World.size_setCell, World.heap_drewN, World.size_drew]); omega) _ | (with_reducible refine Up.trans ?_ (by with_reducible assumption)))))
            case rest =>
              obtain ⟨x, rfl, ⟨x1, x2⟩, hux⟩ := hcut
              have hUx := hUv.trans hux
              have vtd0 := (hux.cells _ _ (cell_lt vtd0)).trans vtd0
              have vtd1 := (hux.cells _ _ (cell_lt vtd1)).trans vtd1
              have vte0 := (hux.cells _ _ (cell_lt vte0)).trans vte0
              have vte1 := (hux.cells _ _ (cell_lt vte1)).trans vte1
              have hszx := cell_lt vte0
              have hszy := cell_lt vtd0
              clear wA wB
              have hmh := meet_no (c := c4) (d := d4) k5 x1 x2
              go_upto_region 25 with fail
              refine wp_region_later (by kernel_rfl) (by kernel_rfl) ?_
              repeat (go_big_quiet_step ((go_at_call 33; exact later_call (i_HasNumber _ _ _ _))))
              refine wpQuiet_nil ?_; intro _ hw'; obtain ⟨xx, hw''⟩ := hw'; subst hw''; obtain ⟨W5, hu5⟩ := xx; dsimp only
              go_wp2_with fail
              go_ret
              exact ⟨ret_bool (by first | rfl | (simp [hmh]; done) | (rw [hmh]; simp; done) | (simp [v2] at hmh; simp [hmh]; done)), by (repeat' (first | with_reducible exact Up.refl _ | with_reducible assumption | with_reducible refine Up.alloc ?_ _ | with_reducible refine Up.drew ?_ | with_reducible refine Up.drewN ?_ _ | with_reducible refine Up.setCell ?_ (by (try simp only [World.size_alloc, World.size_setCell, World.heap_drewN, World.size_drew]); omega) _ | (with_reducible refine Up.trans ?_ (by with_reducible assumption))))⟩
      · have hwi : ((widR a8 b8 y8).2.2 == 0) = false := by simpa using hwi
        rcases meetR_three a4 b4 c4 d4 with hme | ⟨v1, v2, k5, hme⟩ | ⟨v1, v2, k5, hme⟩
        · simp only [hme]
          clear hme
          go_wp2_with fail
          go_loopw [22] (fun i wr => i = .int .i64 0 ∧ Up W3 wr) (fun _ _ => 0)
          case atStart => exact ⟨rfl, Up.refl _⟩
          case round =>
            obtain ⟨rfl, hb⟩ := hrel
            obtain ⟨WR, hWR⟩ : ∃ WR, WR = wr := ⟨_, rfl⟩
            subst hWR
            have vtc0 := (hb.cells _ _ (cell_lt vtc0)).trans vtc0
            have vtc1 := (hb.cells _ _ (cell_lt vtc1)).trans vtc1
            have vtd0 := (hb.cells _ _ (cell_lt vtd0)).trans vtd0
            have vtd1 := (hb.cells _ _ (cell_lt vtd1)).trans vtd1
            have vte0 := (hb.cells _ _ (cell_lt vte0)).trans vte0
            have vte1 := (hb.cells _ _ (cell_lt vte1)).trans vte1
            have vth0 := (hb.cells _ _ (cell_lt vth0)).trans vth0
            have vth1 := (hb.cells _ _ (cell_lt vth1)).trans vth1
            have vti0 := (hb.cells _ _ (cell_lt vti0)).trans vti0
            have vti1 := (hb.cells _ _ (cell_lt vti1)).trans vti1
            have vtj0 := (hb.cells _ _ (cell_lt vtj0)).trans vtj0
            have vtj1 := (hb.cells _ _ (cell_lt vtj1)).trans vtj1
            have hbs := hb.size
            have hUr := hU3.trans hb
            go_wp2_with fail
            go_ret
            exact ⟨rfl, by (repeat' (first | with_reducible exact Up.refl _ | with_reducible assumption | with_reducible refine Up.alloc ?_ _ | with_reducible refine Up.drew ?_ | with_reducible refine Up.drewN ?_ _ | with_reducible refine Up.setCell ?_ (by (try simp only [World.size_alloc, World.size_setCell, World.heap_drewN, World.size_drew]); omega) _ | (with_reducible refine Up.trans ?_ (by with_reducible assumption))))⟩
        · obtain ⟨q1, q2, q3⟩ := isIvB_iff.1 v1
          rw [hme] at vte0 vte1
          simp only [hme]
          clear hme vtf0 vtf1
          go_wp2_with fail
          go_loopw [22] (fun i wr => i = .int .i64 0 ∧ Up W3 wr) (fun _ _ => 0)
          case atStart => exact ⟨rfl, Up.refl _⟩
          case round =>
            obtain ⟨rfl, hb⟩ := hrel
            obtain ⟨WR, hWR⟩ : ∃ WR, WR = wr := ⟨_, rfl⟩
            subst hWR
            have vtc0 := (hb.cells _ _ (cell_lt vtc0)).trans vtc0
            have vtc1 := (hb.cells _ _ (cell_lt vtc1)).trans vtc1
            have vtd0 := (hb.cells _ _ (cell_lt vtd0)).trans vtd0
            have vtd1 := (hb.cells _ _ (cell_lt vtd1)).trans vtd1
            have vte0 := (hb.cells _ _ (cell_lt vte0)).trans vte0
            have vte1 := (hb.cells _ _ (cell_lt vte1)).trans vte1
            have vth0 := (hb.cells _ _ (cell_lt vth0)).trans vth0
            have vth1 := (hb.cells _ _ (cell_lt vth1)).trans vth1
            have vti0 := (hb.cells _ _ (cell_lt vti0)).trans vti0
            have vti1 := (hb.cells _ _ (cell_lt vti1)).trans vti1
            have vtj0 := (hb.cells _ _ (cell_lt vtj0)).trans vtj0
            have vtj1 := (hb.cells _ _ (cell_lt vtj1)).trans vtj1
            have hbs := hb.size
            have hUr := hU3.trans hb
            have wA : IntKind.i64.wrap (b4 - a4) = b4 - a4 := wrH (by omega) (by omega)
            have wB : IntKind.i64.wrap (b4 - a4 + 1) = b4 - a4 + 1 := wrH (by omega) (by omega)
            go_upto_region 24 with fail
            go_cut [23] (fun s23 wx => ∃ x : Int, s23 = .int .i64 x ∧ (a4 ≤ x ∧ x ≤ b4) ∧ Up WR wx)
            case first =>
              have hXs : w10.heap.size < WR.heap.size := by have := cell_lt vtj0; omega
              have hY0 : ∀ y : Int, IntKind.i64.wrap y = IntKind.i64.wrap y := fun _ => rfl
              go_region_held3 (fun w' => w'.cell? ⟨w4.heap.size, 0, none⟩ = some (.int .i64 a4) ∧ w'.cell? ⟨w4.heap.size, 1, none⟩ = some (.int .i64 b4))
                (first | ((try dsimp only); (repeat' apply And.intro) <;> (first | (simp [cell_drewI, ↓IntWalk.iteOmega, *]; done))))
                (first
                  | (go_at_call 31; refine (l_roll _ _ _ _ _ (hR.up (by (repeat' (first | with_reducible exact Up.refl _ | with_reducible assumption | with_reducible refine Up.alloc ?_ _ | with_reducible refine Up.drew ?_ | with_reducible refine Up.drewN ?_ _ | with_reducible refine Up.setCell ?_ (by (try simp only [World.size_alloc, World.size_setCell, World.heap_drewN, World.size_drew]); omega) _ | (with_reducible refine Up.trans ?_ (by with_reducible assumption)))))) hn (by omega) (by omega)).mono ?_; rintro e wd ⟨rfl, hD, hu11⟩; (try simp only [World.size_alloc, World.size_setCell, World.heap_drewN, World.size_drew] at hD); obtain ⟨N11, J11, JF11, ha11, hb11, hz11, hc11, hf11⟩ := hu11.facts; (try simp only [World.size_alloc, World.size_setCell, World.heap_drewN, World.size_drew] at ha11 hb11); (try simp only [cell_drewI] at hc11); (try simp only [frz_drewI] at hf11); (have hDl := hD.lt); (have hsz11 := hu11.size); (try simp only [World.size_alloc, World.size_setCell, World.heap_drewN, World.size_drew] at hsz11))
                  | (go_at_call 32; (try simp only [wA, wB]); refine (l_below _ _ _ (by (first | with_reducible assumption | (with_reducible refine Dice.up (by with_reducible assumption) ?_; (repeat' (first | with_reducible exact Up.refl _ | with_reducible assumption | with_reducible refine Up.alloc ?_ _ | with_reducible refine Up.drew ?_ | with_reducible refine Up.drewN ?_ _ | with_reducible refine Up.setCell ?_ (by (try simp only [World.size_alloc, World.size_setCell, World.heap_drewN, World.size_drew]); omega) _ | (with_reducible refine Up.trans ?_ (by with_reducible assumption)))); done))) (by omega) (by omega)).mono ?_; rintro e we ⟨⟨r, rfl, r0, r1⟩, hD, hg⟩; obtain ⟨N, J, JF, hn1, hn2, hz, hc, hf⟩ := grown_facts hg; (try simp only [World.size_alloc, World.size_setCell, World.heap_drewN, World.size_drew] at hn1 hn2); (try simp only [cell_drewI] at hc); (try simp only [frz_drewI] at hf)))
              all_goals (go_wp2_with fail; go_meet; refine ⟨_, rfl, (by rw [wrH (by omega) (by omega)]; omega), ?_⟩; refine Up.only (a := WR) (w := wd) ?_ (show World.grownBy wd we (some (WR).heap.size) by (repeat' (first | with_reducible exact grown_refl _ _ | with_reducible assumption | with_reducible refine grown_new ?_ (by (try dsimp only); (try simp only [World.size_alloc, World.size_setCell, World.heap_drewN, World.size_drew]); omega) _ | with_reducible refine grown_set ?_ _ _ | with_reducible refine grown_up ?_ ((Up.refl _).drew) | with_reducible refine grown_up ?_ (Up.alloc (Up.refl _) _) | with_reducible refine grown_trans ?_ (by with_reducible assumption)))) (Nat.le_refl _); (repeat' (first | with_reducible exact Up.refl _ | with_reducible assumption | with_reducible refine Up.alloc ?_ _ | with_reducible refine Up.drew ?_ | with_reducible refine Up.drewN ?_ _ | with_reducible refine Up.setCell ?_ (by (try simp only [World.size_alloc, World.size_setCell, World.heap_drewN, World.size_drew]); omega) _ | (with_reducible refine Up.trans ?_ (by with_reducible assumption)))))
            case rest =>
              obtain ⟨x, rfl, ⟨x1, x2⟩, hux⟩ := hcut
              have hUx := hUr.trans hux
              have vtd0 := (hux.cells _ _ (cell_lt vtd0)).trans vtd0
              have vtd1 := (hux.cells _ _ (cell_lt vtd1)).trans vtd1
              have vte0 := (hux.cells _ _ (cell_lt vte0)).trans vte0
              have vte1 := (hux.cells _ _ (cell_lt vte1)).trans vte1
              have hszx := cell_lt vte0
              have hszy := cell_lt vtd0
              clear wA wB
              have hmh := meet_has v1 v2 k5 x1 x2
              go_upto_region 25 with fail
              refine wp_region_later (by kernel_rfl) (by kernel_rfl) ?_
              repeat (go_big_quiet_step ((go_at_call 33; exact later_call (i_HasNumber _ _ _ _))))
              refine wpQuiet_nil ?_; intro _ hw'; obtain ⟨xx, hw''⟩ := hw'; subst hw''; obtain ⟨W5, hu5⟩ := xx; dsimp only
              go_wp2_with fail
              go_ret
              exact ⟨ret_bool (by first | rfl | (simp [hmh]; done) | (rw [hmh]; simp; done) | (simp [v2] at hmh; simp [hmh]; done)), by (repeat' (first | with_reducible exact Up.refl _ | with_reducible assumption | with_reducible refine Up.alloc ?_ _ | with_reducible refine Up.drew ?_ | with_reducible refine Up.drewN ?_ _ | with_reducible refine Up.setCell ?_ (by (try simp only [World.size_alloc, World.size_setCell, World.heap_drewN, World.size_drew]); omega) _ | (with_reducible refine Up.trans ?_ (by with_reducible assumption))))⟩
        · obtain ⟨q1, q2, q3⟩ := isIvB_iff.1 v1
          rw [hme] at vte0 vte1
          simp only [hme]
          clear hme vtf0 vtf1
          go_wp2_with fail
          go_loopw [22] (fun i wr => i = .int .i64 0 ∧ Up W3 wr) (fun _ _ => 0)
          case atStart => exact ⟨rfl, Up.refl _⟩
          case round =>
            obtain ⟨rfl, hb⟩ := hrel
            obtain ⟨WR, hWR⟩ : ∃ WR, WR = wr := ⟨_, rfl⟩
            subst hWR
            have vtc0 := (hb.cells _ _ (cell_lt vtc0)).trans vtc0
            have vtc1 := (hb.cells _ _ (cell_lt vtc1)).trans vtc1
            have vtd0 := (hb.cells _ _ (cell_lt vtd0)).trans vtd0
            have vtd1 := (hb.cells _ _ (cell_lt vtd1)).trans vtd1
            have vte0 := (hb.cells _ _ (cell_lt vte0)).trans vte0
            have vte1 := (hb.cells _ _ (cell_lt vte1)).trans vte1
            have vth0 := (hb.cells _ _ (cell_lt vth0)).trans vth0
            have vth1 := (hb.cells _ _ (cell_lt vth1)).trans vth1
            have vti0 := (hb.cells _ _ (cell_lt vti0)).trans vti0
            have vti1 := (hb.cells _ _ (cell_lt vti1)).trans vti1
            have vtj0 := (hb.cells _ _ (cell_lt vtj0)).trans vtj0
            have vtj1 := (hb.cells _ _ (cell_lt vtj1)).trans vtj1
            have hbs := hb.size
            have hUr := hU3.trans hb
            have wA : IntKind.i64.wrap (b4 - a4) = b4 - a4 := wrH (by omega) (by omega)
            have wB : IntKind.i64.wrap (b4 - a4 + 1) = b4 - a4 + 1 := wrH (by omega) (by omega)
            go_upto_region 24 with fail
            go_cut [23] (fun s23 wx => ∃ x : Int, s23 = .int .i64 x ∧ (a4 ≤ x ∧ x ≤ b4) ∧ Up WR wx)
            case first =>
              have hXs : w10.heap.size < WR.heap.size := by have := cell_lt vtj0; omega
              have hY0 : ∀ y : Int, IntKind.i64.wrap y = IntKind.i64.wrap y := fun _ => rfl
              go_region_held3 (fun w' => w'.cell? ⟨w4.heap.size, 0, none⟩ = some (.int .i64 a4) ∧ w'.cell? ⟨w4.heap.size, 1, none⟩ = some (.int .i64 b4))
                (first | ((try dsimp only); (repeat' apply And.intro) <;> (first | (simp [cell_drewI, ↓IntWalk.iteOmega, *]; done))))
                (first
                  | (go_at_call 31; refine (l_roll _ _ _ _ _ (hR.up (by (repeat' (first | with_reducible exact Up.refl _ | with_reducible assumption | with_reducible refine Up.alloc ?_ _ | with_reducible refine Up.drew ?_ | with_reducible refine Up.drewN ?_ _ | with_reducible refine Up.setCell ?_ (by (try simp only [World.size_alloc, World.size_setCell, World.heap_drewN, World.size_drew]); omega) _ | (with_reducible refine Up.trans ?_ (by with_reducible assumption)))))) hn (by omega) (by omega)).mono ?_; rintro e wd ⟨rfl, hD, hu11⟩; (try simp only [World.size_alloc, World.size_setCell, World.heap_drewN, World.size_drew] at hD); obtain ⟨N11, J11, JF11, ha11, hb11, hz11, hc11, hf11⟩ := hu11.facts; (try simp only [World.size_alloc, World.size_setCell, World.heap_drewN, World.size_drew] at ha11 hb11); (try simp only [cell_drewI] at hc11); (try simp only [frz_drewI] at hf11); (have hDl := hD.lt); (have hsz11 := hu11.size); (try simp only [World.size_alloc, World.size_setCell, World.heap_drewN, World.size_drew] at hsz11))
                  | (go_at_call 32; (try simp only [wA, wB]); refine (l_below _ _ _ (by (first | with_reducible assumption | (with_reducible refine Dice.up (by with_reducible assumption) ?_; (repeat' (first | with_reducible exact Up.refl _ | with_reducible assumption | with_reducible refine Up.alloc ?_ _ | with_reducible refine Up.drew ?_ | with_reducible refine Up.drewN ?_ _ | with_reducible refine Up.setCell ?_ (by (try simp only [World.size_alloc, World.size_setCell, World.heap_drewN, World.size_drew]); omega) _ | (with_reducible refine Up.trans ?_ (by with_reducible assumption)))); done))) (by omega) (by omega)).mono ?_; rintro e we ⟨⟨r, rfl, r0, r1⟩, hD, hg⟩; obtain ⟨N, J, JF, hn1, hn2, hz, hc, hf⟩ := grown_facts hg; (try simp only [World.size_alloc, World.size_setCell, World.heap_drewN, World.size_drew] at hn1 hn2); (try simp only [cell_drewI] at hc); (try simp only [frz_drewI] at hf)))
              all_goals (go_wp2_with fail; go_meet; refine ⟨_, rfl, (by rw [wrH (by omega) (by omega)]; omega), ?_⟩; refine Up.only (a := WR) (w := wd) ?_ (show World.grownBy wd we (some (WR).heap.size) by (repeat' (first | with_reducible exact grown_refl _ _ | with_reducible assumption | with_reducible refine grown_new ?_ (by (try dsimp only); (try simp only [World.size_alloc, World.size_setCell, World.heap_drewN, World.size_drew]); omega) _ | with_reducible refine grown_set ?_ _ _ | with_reducible refine grown_up ?_ ((Up.refl _).drew) | with_reducible refine grown_up ?_ (Up.alloc (Up.refl _) _) | with_reducible refine grown_trans ?_ (by with_reducible assumption)))) (Nat.le_refl _); (repeat' (first | with_reducible exact Up.refl _ | with_reducible assumption | with_reducible refine Up.alloc ?_ _ | with_reducible refine Up.drew ?_ | with_reducible refine Up.drewN ?_ _ | with_reducible refine Up.setCell ?_ (by (try simp only [World.size_alloc, World.size_setCell, World.heap_drewN, World.size_drew]); omega) _ | (with_reducible refine Up.trans ?_ (by with_reducible assumption)))))
            case rest =>
              obtain ⟨x, rfl, ⟨x1, x2⟩, hux⟩ := hcut
              have hUx := hUr.trans hux
              have vtd0 := (hux.cells _ _ (cell_lt vtd0)).trans vtd0
              have vtd1 := (hux.cells _ _ (cell_lt vtd1)).trans vtd1
              have vte0 := (hux.cells _ _ (cell_lt vte0)).trans vte0
              have vte1 := (hux.cells _ _ (cell_lt vte1)).trans vte1
              have hszx := cell_lt vte0
              have hszy := cell_lt vtd0
              clear wA wB
              have hmh := meet_no (c := c4) (d := d4) k5 x1 x2
              go_upto_region 25 with fail
              refine wp_region_later (by kernel_rfl) (by kernel_rfl) ?_
              repeat (go_big_quiet_step ((go_at_call 33; exact later_call (i_HasNumber _ _ _ _))))
              refine wpQuiet_nil ?_; intro _ hw'; obtain ⟨xx, hw''⟩ := hw'; subst hw''; obtain ⟨W5, hu5⟩ := xx; dsimp only
              go_wp2_with fail
              go_ret
              exact ⟨ret_bool (by first | rfl | (simp [hmh]; done) | (rw [hmh]; simp; done) | (simp [v2] at hmh; simp [hmh]; done)), by (repeat' (first | with_reducible exact Up.refl _ | with_reducible assumption | with_reducible refine Up.alloc ?_ _ | with_reducible refine Up.drew ?_ | with_reducible refine Up.drewN ?_ _ | with_reducible refine Up.setCell ?_ (by (try simp only [World.size_alloc, World.size_setCell, World.heap_drewN, World.size_drew]); omega) _ | (with_reducible refine Up.trans ?_ (by with_reducible assumption))))⟩
  · have g0 : decide (4096 < (n : Int)) = true := by simp; omega
    go_enter Try.func8, Try.ntmps8
    go_wp2_with (go_at_call 22; refine (l_big _ _ _ _ hm).mono ?_; rintro e w' ⟨rfl, rfl⟩)
    go_ret
    exact ⟨rfl, Up.refl _⟩
end Go.Proofs.Ytanafhmjmfkpmaa
