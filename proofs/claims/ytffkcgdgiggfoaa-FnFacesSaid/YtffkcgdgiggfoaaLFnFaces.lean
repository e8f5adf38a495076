import Derived.Test.YtffkcgdgiggfoaaFaceLaws
import Derived.Test.YtffkcgdgiggfoaaFaceDraws
import Derived.Test.YtffkcgdgiggfoaaDice
import Derived.Test.YtffkcgdgiggfoaaOpenB
/- The walk of the law FnFaces. -/
namespace Go.Proofs.Ytffkcgdgiggfoaa
set_option linter.unusedSimpArgs false
set_option linter.unusedVariables false
open Go.RowKit
attribute [local go_sem] cell_allocI frz_allocI later_cell later_frz
attribute [local go_sem] cell_setI cell_drewI frz_drewI
theorem faceAround_ok {a b c d m : Int} (h : (faceAround a b c d m).2.2.2.2 = 0) : faceAround a b c d m = (a - m, c - m, b + m, d + m, 0) ∧ -1000000 ≤ a ∧ b ≤ 1000000 ∧ a ≤ b ∧ -1000000 ≤ c ∧ d ≤ 1000000 ∧ c ≤ d ∧ 1 ≤ m ∧ m ≤ 1000000 := by
  unfold faceAround at h ⊢
  by_cases h1 : isPlaceB a b c d = false
  · rw [if_pos h1] at h; simp at h
  · rw [if_neg h1] at h ⊢
    by_cases h2 : inB m 1 1000000 = false
    · rw [if_pos h2] at h; simp at h
    · rw [if_neg h2] at h ⊢
      by_cases h3 : isFaceB (a - m) (c - m) (b + m) (d + m) = false
      · rw [if_pos h3] at h; simp at h
      · rw [if_neg h3]
        have k1 : isPlaceB a b c d = true := by simpa using h1
        have k2 : inB m 1 1000000 = true := by simpa using h2
        obtain ⟨p1, p2, p3, p4, p5, p6⟩ := isPlaceB_iff.1 k1
        obtain ⟨q1, q2⟩ := inB_iff.1 k2
        exact ⟨rfl, p1, p2, p3, p4, p5, p6, q1, q2⟩
theorem meetF_ok {a b c d p q r s : Int} (h : (meetF a b c d p q r s).2.2.2.2 = 0) : meetF a b c d p q r s = (max a p, max b q, min c r, min d s, 0) ∧ isFaceB a b c d = true ∧ isFaceB p q r s = true ∧ isFaceB (max a p) (max b q) (min c r) (min d s) = true := by
  unfold meetF at h ⊢
  split at h
  · rename_i k; rw [if_pos k]
    split at h
    · rename_i l; rw [if_pos l]
      split at h
      · rename_i m; rw [if_pos m]; exact ⟨rfl, k, l, m⟩
      · simp at h
    · simp at h
  · simp at h
/-- each corner of a face is a point that lies in each face around it -/
theorem corner_in {a b c d p q r s : Int} (h : isFaceB a b c d = true) (h1 : p ≤ a) (h2 : q ≤ b) (h3 : c ≤ r) (h4 : d ≤ s) {k : Nat} (hk : k < 4) :
    (spotB (cornersF a b c d (k * 2)) && spotB (cornersF a b c d (k * 2 + 1))) = true ∧ (inB (cornersF a b c d (k * 2)) p r && inB (cornersF a b c d (k * 2 + 1)) q s) = true := by
  obtain ⟨x1, x2, x3, x4, x5, x6⟩ := isFaceB_iff.1 h
  match k, hk with
  | 0, _ => simp [cornersF, spotB, inB]; omega
  | 1, _ => simp [cornersF, spotB, inB]; omega
  | 2, _ => simp [cornersF, spotB, inB]; omega
  | 3, _ => simp [cornersF, spotB, inB]; omega
  | k + 4, hk => omega
set_option maxRecDepth 100000 in
set_option maxHeartbeats 8000000 in
theorem walk_FnFaces (w : World) (A : Option Addr) (n c : Nat) (hR : RdB w A n) (hm : n ≤ maxLen) :
    Calls Try.prog 11 #[.slice A n c] w fun e w' => e = .returned (.bool true) ∧ Up w w' := by
  by_cases hn : n ≤ 4096
  · have g0 : decide (4096 < (n : Int)) = false := by simp; omega
    go_enter Try.func11, Try.ntmps11
    go_upto_region 6 with (first
      | (go_at_call 18; refine (l_big _ _ _ _ hm).mono ?_; rintro e w' ⟨rfl, rfl⟩)
      | (go_at_call 56; refine (s_DrawFaceAround _ _ _ w _ hR (by (repeat' (first | with_reducible exact Up.refl _ | with_reducible assumption | with_reducible refine Up.alloc ?_ _ | with_reducible refine Up.drew ?_ | with_reducible refine Up.drewN ?_ _ | with_reducible refine Up.setCell ?_ (by (try simp only [World.size_alloc, World.size_setCell, World.heap_drewN, World.size_drew]); omega) _ | (with_reducible refine Up.trans ?_ (by with_reducible assumption))))) hn).mono ?_; rintro e w1 ⟨⟨a1, b1, c1, d1, y1, rfl, ia, ib, ic, id⟩, hu1⟩; obtain ⟨N1, J1, JF1, ha1, hb1, hz1, hc1, hf1⟩ := hu1.facts; (try simp only [World.size_alloc, World.size_setCell, World.heap_drewN, World.size_drew] at ha1 hb1); (try simp only [cell_drewI] at hc1); (try simp only [frz_drewI] at hf1))
      | (go_at_call 57; refine (i_FaceAround _ _ _ _ _ _).mono ?_; rintro e w2 ⟨rfl, hu2⟩; obtain ⟨N2, J2, JF2, ha2, hb2, hz2, hc2, hf2⟩ := hu2.facts; (try simp only [World.size_alloc, World.size_setCell, World.heap_drewN, World.size_drew] at ha2 hb2); (try simp only [cell_drewI] at hc2); (try simp only [frz_drewI] at hf2))
      | (go_at_call 58; refine (s_FaceAround _ _ _ _ _ _).mono ?_; rintro e w3 ⟨rfl, hu3⟩; obtain ⟨N3, J3, JF3, ha3, hb3, hz3, hc3, hf3⟩ := hu3.facts; (try simp only [World.size_alloc, World.size_setCell, World.heap_drewN, World.size_drew] at ha3 hb3); (try simp only [cell_drewI] at hc3); (try simp only [frz_drewI] at hf3)))
    refine wp_gen ?_
    intro W0 hW0
    have ta0 : W0.cell? ⟨w1.heap.size, 0, none⟩ = some (.int .i64 a1) := by rw [hW0]; (simp [isSome_setCell, cell_setI, cell_drewI, cell_allocI, ↓IntWalk.iteOmega, *])
    have ta1 : W0.cell? ⟨w1.heap.size, 1, none⟩ = some (.int .i64 b1) := by rw [hW0]; (simp [isSome_setCell, cell_setI, cell_drewI, cell_allocI, ↓IntWalk.iteOmega, *])
    have ta2 : W0.cell? ⟨w1.heap.size, 2, none⟩ = some (.int .i64 c1) := by rw [hW0]; (simp [isSome_setCell, cell_setI, cell_drewI, cell_allocI, ↓IntWalk.iteOmega, *])
    have ta3 : W0.cell? ⟨w1.heap.size, 3, none⟩ = some (.int .i64 d1) := by rw [hW0]; (simp [isSome_setCell, cell_setI, cell_drewI, cell_allocI, ↓IntWalk.iteOmega, *])
    have tb0 : W0.cell? ⟨w2.heap.size, 0, none⟩ = some (.int .i64 ((faceAround a1 b1 c1 d1 y1).1)) := by rw [hW0]; (simp [isSome_setCell, cell_setI, cell_drewI, cell_allocI, ↓IntWalk.iteOmega, *])
    have tb1 : W0.cell? ⟨w2.heap.size, 1, none⟩ = some (.int .i64 ((faceAround a1 b1 c1 d1 y1).2.1)) := by rw [hW0]; (simp [isSome_setCell, cell_setI, cell_drewI, cell_allocI, ↓IntWalk.iteOmega, *])
    have tb2 : W0.cell? ⟨w2.heap.size, 2, none⟩ = some (.int .i64 ((faceAround a1 b1 c1 d1 y1).2.2.1)) := by rw [hW0]; (simp [isSome_setCell, cell_setI, cell_drewI, cell_allocI, ↓IntWalk.iteOmega, *])
    have tb3 : W0.cell? ⟨w2.heap.size, 3, none⟩ = some (.int .i64 ((faceAround a1 b1 c1 d1 y1).2.2.2.1)) := by rw [hW0]; (simp [isSome_setCell, cell_setI, cell_drewI, cell_allocI, ↓IntWalk.iteOmega, *])
    have tc0 : W0.cell? ⟨w3.heap.size, 0, none⟩ = some (.int .i64 ((faceAround a1 b1 c1 d1 y1).1)) := by rw [hW0]; (simp [isSome_setCell, cell_setI, cell_drewI, cell_allocI, ↓IntWalk.iteOmega, *])
    have tc1 : W0.cell? ⟨w3.heap.size, 1, none⟩ = some (.int .i64 ((faceAround a1 b1 c1 d1 y1).2.1)) := by rw [hW0]; (simp [isSome_setCell, cell_setI, cell_drewI, cell_allocI, ↓IntWalk.iteOmega, *])
    have tc2 : W0.cell? ⟨w3.heap.size, 2, none⟩ = some (.int .i64 ((faceAround a1 b1 c1 d1 y1).2.2.1)) := by rw [hW0]; (simp [isSome_setCell, cell_setI, cell_drewI, cell_allocI, ↓IntWalk.iteOmega, *])
    have tc3 : W0.cell? ⟨w3.heap.size, 3, none⟩ = some (.int .i64 ((faceAround a1 b1 c1 d1 y1).2.2.2.1)) := by rw [hW0]; (simp [isSome_setCell, cell_setI, cell_drewI, cell_allocI, ↓IntWalk.iteOmega, *])
    have hU0 : Up w W0 := by rw [hW0]; (repeat' (first | with_reducible exact Up.refl _ | with_reducible assumption | with_reducible refine Up.alloc ?_ _ | with_reducible refine Up.drew ?_ | with_reducible refine Up.drewN ?_ _ | with_reducible refine Up.setCell ?_ (by (try simp only [World.size_alloc, World.size_setCell, World.heap_drewN, World.size_drew]); omega) _ | (with_reducible refine Up.trans ?_ (by with_reducible assumption))))
    have hs1 : w3.heap.size < W0.heap.size := by rw [hW0]; (try simp only [World.size_alloc, World.size_setCell, World.heap_drewN, World.size_drew]); omega
    have hs2 : w2.heap.size < w3.heap.size := by omega
    have hs3 : w1.heap.size < w2.heap.size := by omega
    have hs4 : w.heap.size ≤ w1.heap.size := by omega
    clear hW0 hu1 ha1 hb1 hc1 hf1 hu2 ha2 hb2 hc2 hf2 hu3 ha3 hb3 hc3 hf3
    go_upto_region 9 with (first
      | (go_at_call 59; refine (s_DrawMeetFaces _ _ _ w _ hR (by (repeat' (first | with_reducible exact Up.refl _ | with_reducible assumption | with_reducible refine Up.alloc ?_ _ | with_reducible refine Up.drew ?_ | with_reducible refine Up.drewN ?_ _ | with_reducible refine Up.setCell ?_ (by (try simp only [World.size_alloc, World.size_setCell, World.heap_drewN, World.size_drew]); omega) _ | (with_reducible refine Up.trans ?_ (by with_reducible assumption))))) hn).mono ?_; rintro e w4 ⟨⟨a4, b4, c4, d4, p4, q4, r4, s4, rfl⟩, hu4⟩; obtain ⟨N4, J4, JF4, ha4, hb4, hz4, hc4, hf4⟩ := hu4.facts; (try simp only [World.size_alloc, World.size_setCell, World.heap_drewN, World.size_drew] at ha4 hb4); (try simp only [cell_drewI] at hc4); (try simp only [frz_drewI] at hf4))
      | (go_at_call 60; refine (i_MeetFaces _ _ _ _ _ _ _ _ _).mono ?_; rintro e w5 ⟨rfl, hu5⟩; obtain ⟨N5, J5, JF5, ha5, hb5, hz5, hc5, hf5⟩ := hu5.facts; (try simp only [World.size_alloc, World.size_setCell, World.heap_drewN, World.size_drew] at ha5 hb5); (try simp only [cell_drewI] at hc5); (try simp only [frz_drewI] at hf5))
      | (go_at_call 61; refine (s_MeetFaces _ _ _ _ _ _ _ _ _).mono ?_; rintro e w6 ⟨rfl, hu6⟩; obtain ⟨N6, J6, JF6, ha6, hb6, hz6, hc6, hf6⟩ := hu6.facts; (try simp only [World.size_alloc, World.size_setCell, World.heap_drewN, World.size_drew] at ha6 hb6); (try simp only [cell_drewI] at hc6); (try simp only [frz_drewI] at hf6)))
    refine wp_gen ?_
    intro W1 hW1
    have uta0 : W1.cell? ⟨w1.heap.size, 0, none⟩ = some (.int .i64 a1) := by rw [hW1]; (simp [isSome_setCell, cell_setI, cell_drewI, cell_allocI, ↓IntWalk.iteOmega, *])
    have uta1 : W1.cell? ⟨w1.heap.size, 1, none⟩ = some (.int .i64 b1) := by rw [hW1]; (simp [isSome_setCell, cell_setI, cell_drewI, cell_allocI, ↓IntWalk.iteOmega, *])
    have uta2 : W1.cell? ⟨w1.heap.size, 2, none⟩ = some (.int .i64 c1) := by rw [hW1]; (simp [isSome_setCell, cell_setI, cell_drewI, cell_allocI, ↓IntWalk.iteOmega, *])
    have uta3 : W1.cell? ⟨w1.heap.size, 3, none⟩ = some (.int .i64 d1) := by rw [hW1]; (simp [isSome_setCell, cell_setI, cell_drewI, cell_allocI, ↓IntWalk.iteOmega, *])
    have utb0 : W1.cell? ⟨w2.heap.size, 0, none⟩ = some (.int .i64 ((faceAround a1 b1 c1 d1 y1).1)) := by rw [hW1]; (simp [isSome_setCell, cell_setI, cell_drewI, cell_allocI, ↓IntWalk.iteOmega, *])
    have utb1 : W1.cell? ⟨w2.heap.size, 1, none⟩ = some (.int .i64 ((faceAround a1 b1 c1 d1 y1).2.1)) := by rw [hW1]; (simp [isSome_setCell, cell_setI, cell_drewI, cell_allocI, ↓IntWalk.iteOmega, *])
    have utb2 : W1.cell? ⟨w2.heap.size, 2, none⟩ = some (.int .i64 ((faceAround a1 b1 c1 d1 y1).2.2.1)) := by rw [hW1]; (simp [isSome_setCell, cell_setI, cell_drewI, cell_allocI, ↓IntWalk.iteOmega, *])
    have utb3 : W1.cell? ⟨w2.heap.size, 3, none⟩ = some (.int .i64 ((faceAround a1 b1 c1 d1 y1).2.2.2.1)) := by rw [hW1]; (simp [isSome_setCell, cell_setI, cell_drewI, cell_allocI, ↓IntWalk.iteOmega, *])
    have utc0 : W1.cell? ⟨w3.heap.size, 0, none⟩ = some (.int .i64 ((faceAround a1 b1 c1 d1 y1).1)) := by rw [hW1]; (simp [isSome_setCell, cell_setI, cell_drewI, cell_allocI, ↓IntWalk.iteOmega, *])
    have utc1 : W1.cell? ⟨w3.heap.size, 1, none⟩ = some (.int .i64 ((faceAround a1 b1 c1 d1 y1).2.1)) := by rw [hW1]; (simp [isSome_setCell, cell_setI, cell_drewI, cell_allocI, ↓IntWalk.iteOmega, *])
    have utc2 : W1.cell? ⟨w3.heap.size, 2, none⟩ = some (.int .i64 ((faceAround a1 b1 c1 d1 y1).2.2.1)) := by rw [hW1]; (simp [isSome_setCell, cell_setI, cell_drewI, cell_allocI, ↓IntWalk.iteOmega, *])
    have utc3 : W1.cell? ⟨w3.heap.size, 3, none⟩ = some (.int .i64 ((faceAround a1 b1 c1 d1 y1).2.2.2.1)) := by rw [hW1]; (simp [isSome_setCell, cell_setI, cell_drewI, cell_allocI, ↓IntWalk.iteOmega, *])
    have utd0 : W1.cell? ⟨w4.heap.size, 0, none⟩ = some (.int .i64 a4) := by rw [hW1]; (simp [isSome_setCell, cell_setI, cell_drewI, cell_allocI, ↓IntWalk.iteOmega, *])
    have utd1 : W1.cell? ⟨w4.heap.size, 1, none⟩ = some (.int .i64 b4) := by rw [hW1]; (simp [isSome_setCell, cell_setI, cell_drewI, cell_allocI, ↓IntWalk.iteOmega, *])
    have utd2 : W1.cell? ⟨w4.heap.size, 2, none⟩ = some (.int .i64 c4) := by rw [hW1]; (simp [isSome_setCell, cell_setI, cell_drewI, cell_allocI, ↓IntWalk.iteOmega, *])
    have utd3 : W1.cell? ⟨w4.heap.size, 3, none⟩ = some (.int .i64 d4) := by rw [hW1]; (simp [isSome_setCell, cell_setI, cell_drewI, cell_allocI, ↓IntWalk.iteOmega, *])
    have ute0 : W1.cell? ⟨(w4.heap.size + 1), 0, none⟩ = some (.int .i64 p4) := by rw [hW1]; (simp [isSome_setCell, cell_setI, cell_drewI, cell_allocI, ↓IntWalk.iteOmega, *])
    have ute1 : W1.cell? ⟨(w4.heap.size + 1), 1, none⟩ = some (.int .i64 q4) := by rw [hW1]; (simp [isSome_setCell, cell_setI, cell_drewI, cell_allocI, ↓IntWalk.iteOmega, *])
    have ute2 : W1.cell? ⟨(w4.heap.size + 1), 2, none⟩ = some (.int .i64 r4) := by rw [hW1]; (simp [isSome_setCell, cell_setI, cell_drewI, cell_allocI, ↓IntWalk.iteOmega, *])
    have ute3 : W1.cell? ⟨(w4.heap.size + 1), 3, none⟩ = some (.int .i64 s4) := by rw [hW1]; (simp [isSome_setCell, cell_setI, cell_drewI, cell_allocI, ↓IntWalk.iteOmega, *])
    have utf0 : W1.cell? ⟨w5.heap.size, 0, none⟩ = some (.int .i64 ((meetF a4 b4 c4 d4 p4 q4 r4 s4).1)) := by rw [hW1]; (simp [isSome_setCell, cell_setI, cell_drewI, cell_allocI, ↓IntWalk.iteOmega, *])
    have utf1 : W1.cell? ⟨w5.heap.size, 1, none⟩ = some (.int .i64 ((meetF a4 b4 c4 d4 p4 q4 r4 s4).2.1)) := by rw [hW1]; (simp [isSome_setCell, cell_setI, cell_drewI, cell_allocI, ↓IntWalk.iteOmega, *])
    have utf2 : W1.cell? ⟨w5.heap.size, 2, none⟩ = some (.int .i64 ((meetF a4 b4 c4 d4 p4 q4 r4 s4).2.2.1)) := by rw [hW1]; (simp [isSome_setCell, cell_setI, cell_drewI, cell_allocI, ↓IntWalk.iteOmega, *])
    have utf3 : W1.cell? ⟨w5.heap.size, 3, none⟩ = some (.int .i64 ((meetF a4 b4 c4 d4 p4 q4 r4 s4).2.2.2.1)) := by rw [hW1]; (simp [isSome_setCell, cell_setI, cell_drewI, cell_allocI, ↓IntWalk.iteOmega, *])
    have utg0 : W1.cell? ⟨w6.heap.size, 0, none⟩ = some (.int .i64 ((meetF a4 b4 c4 d4 p4 q4 r4 s4).1)) := by rw [hW1]; (simp [isSome_setCell, cell_setI, cell_drewI, cell_allocI, ↓IntWalk.iteOmega, *])
    have utg1 : W1.cell? ⟨w6.heap.size, 1, none⟩ = some (.int .i64 ((meetF a4 b4 c4 d4 p4 q4 r4 s4).2.1)) := by rw [hW1]; (simp [isSome_setCell, cell_setI, cell_drewI, cell_allocI, ↓IntWalk.iteOmega, *])
    have utg2 : W1.cell? ⟨w6.heap.size, 2, none⟩ = some (.int .i64 ((meetF a4 b4 c4 d4 p4 q4 r4 s4).2.2.1)) := by rw [hW1]; (simp [isSome_setCell, cell_setI, cell_drewI, cell_allocI, ↓IntWalk.iteOmega, *])
    have utg3 : W1.cell? ⟨w6.heap.size, 3, none⟩ = some (.int .i64 ((meetF a4 b4 c4 d4 p4 q4 r4 s4).2.2.2.1)) := by rw [hW1]; (simp [isSome_setCell, cell_setI, cell_drewI, cell_allocI, ↓IntWalk.iteOmega, *])
    have hU1 : Up w W1 := by rw [hW1]; (repeat' (first | with_reducible exact Up.refl _ | with_reducible assumption | with_reducible refine Up.alloc ?_ _ | with_reducible refine Up.drew ?_ | with_reducible refine Up.drewN ?_ _ | with_reducible refine Up.setCell ?_ (by (try simp only [World.size_alloc, World.size_setCell, World.heap_drewN, World.size_drew]); omega) _ | (with_reducible refine Up.trans ?_ (by with_reducible assumption))))
    have hs5 : w6.heap.size < W1.heap.size := by rw [hW1]; (try simp only [World.size_alloc, World.size_setCell, World.heap_drewN, World.size_drew]); omega
    have hs6 : w5.heap.size < w6.heap.size := by omega
    have hs7 : w4.heap.size + 1 < w5.heap.size := by omega
    have hs8 : w3.heap.size < w4.heap.size := by omega
    clear hW1 hu4 ha4 hb4 hc4 hf4 hu5 ha5 hb5 hc5 hf5 hu6 ha6 hb6 hc6 hf6 ta0 ta1 ta2 ta3 tb0 tb1 tb2 tb3 tc0 tc1 tc2 tc3 hU0 hs1
    go_upto_region 10 with (first
      | (go_at_call 62; refine (s_DrawCornersOf _ _ _ w _ hR (by (repeat' (first | with_reducible exact Up.refl _ | with_reducible assumption | with_reducible refine Up.alloc ?_ _ | with_reducible refine Up.drew ?_ | with_reducible refine Up.drewN ?_ _ | with_reducible refine Up.setCell ?_ (by (try simp only [World.size_alloc, World.size_setCell, World.heap_drewN, World.size_drew]); omega) _ | (with_reducible refine Up.trans ?_ (by with_reducible assumption))))) hn).mono ?_; rintro e w7 ⟨⟨a7, b7, c7, d7, rfl, ie, jf, ig, ih⟩, hu7⟩; obtain ⟨N7, J7, JF7, ha7, hb7, hz7, hc7, hf7⟩ := hu7.facts; (try simp only [World.size_alloc, World.size_setCell, World.heap_drewN, World.size_drew] at ha7 hb7); (try simp only [cell_drewI] at hc7); (try simp only [frz_drewI] at hf7)))
    refine wp_gen ?_
    intro W2 hW2
    have vta0 : W2.cell? ⟨w1.heap.size, 0, none⟩ = some (.int .i64 a1) := by rw [hW2]; (simp [isSome_setCell, cell_setI, cell_drewI, cell_allocI, ↓IntWalk.iteOmega, *])
    have vta1 : W2.cell? ⟨w1.heap.size, 1, none⟩ = some (.int .i64 b1) := by rw [hW2]; (simp [isSome_setCell, cell_setI, cell_drewI, cell_allocI, ↓IntWalk.iteOmega, *])
    have vta2 : W2.cell? ⟨w1.heap.size, 2, none⟩ = some (.int .i64 c1) := by rw [hW2]; (simp [isSome_setCell, cell_setI, cell_drewI, cell_allocI, ↓IntWalk.iteOmega, *])
    have vta3 : W2.cell? ⟨w1.heap.size, 3, none⟩ = some (.int .i64 d1) := by rw [hW2]; (simp [isSome_setCell, cell_setI, cell_drewI, cell_allocI, ↓IntWalk.iteOmega, *])
    have vtb0 : W2.cell? ⟨w2.heap.size, 0, none⟩ = some (.int .i64 ((faceAround a1 b1 c1 d1 y1).1)) := by rw [hW2]; (simp [isSome_setCell, cell_setI, cell_drewI, cell_allocI, ↓IntWalk.iteOmega, *])
    have vtb1 : W2.cell? ⟨w2.heap.size, 1, none⟩ = some (.int .i64 ((faceAround a1 b1 c1 d1 y1).2.1)) := by rw [hW2]; (simp [isSome_setCell, cell_setI, cell_drewI, cell_allocI, ↓IntWalk.iteOmega, *])
    have vtb2 : W2.cell? ⟨w2.heap.size, 2, none⟩ = some (.int .i64 ((faceAround a1 b1 c1 d1 y1).2.2.1)) := by rw [hW2]; (simp [isSome_setCell, cell_setI, cell_drewI, cell_allocI, ↓IntWalk.iteOmega, *])
    have vtb3 : W2.cell? ⟨w2.heap.size, 3, none⟩ = some (.int .i64 ((faceAround a1 b1 c1 d1 y1).2.2.2.1)) := by rw [hW2]; (simp [isSome_setCell, cell_setI, cell_drewI, cell_allocI, ↓IntWalk.iteOmega, *])
    have vtc0 : W2.cell? ⟨w3.heap.size, 0, none⟩ = some (.int .i64 ((faceAround a1 b1 c1 d1 y1).1)) := by rw [hW2]; (simp [isSome_setCell, cell_setI, cell_drewI, cell_allocI, ↓IntWalk.iteOmega, *])
    have vtc1 : W2.cell? ⟨w3.heap.size, 1, none⟩ = some (.int .i64 ((faceAround a1 b1 c1 d1 y1).2.1)) := by rw [hW2]; (simp [isSome_setCell, cell_setI, cell_drewI, cell_allocI, ↓IntWalk.iteOmega, *])
    have vtc2 : W2.cell? ⟨w3.heap.size, 2, none⟩ = some (.int .i64 ((faceAround a1 b1 c1 d1 y1).2.2.1)) := by rw [hW2]; (simp [isSome_setCell, cell_setI, cell_drewI, cell_allocI, ↓IntWalk.iteOmega, *])
    have vtc3 : W2.cell? ⟨w3.heap.size, 3, none⟩ = some (.int .i64 ((faceAround a1 b1 c1 d1 y1).2.2.2.1)) := by rw [hW2]; (simp [isSome_setCell, cell_setI, cell_drewI, cell_allocI, ↓IntWalk.iteOmega, *])
    have vtd0 : W2.cell? ⟨w4.heap.size, 0, none⟩ = some (.int .i64 a4) := by rw [hW2]; (simp [isSome_setCell, cell_setI, cell_drewI, cell_allocI, ↓IntWalk.iteOmega, *])
    have vtd1 : W2.cell? ⟨w4.heap.size, 1, none⟩ = some (.int .i64 b4) := by rw [hW2]; (simp [isSome_setCell, cell_setI, cell_drewI, cell_allocI, ↓IntWalk.iteOmega, *])
    have vtd2 : W2.cell? ⟨w4.heap.size, 2, none⟩ = some (.int .i64 c4) := by rw [hW2]; (simp [isSome_setCell, cell_setI, cell_drewI, cell_allocI, ↓IntWalk.iteOmega, *])
    have vtd3 : W2.cell? ⟨w4.heap.size, 3, none⟩ = some (.int .i64 d4) := by rw [hW2]; (simp [isSome_setCell, cell_setI, cell_drewI, cell_allocI, ↓IntWalk.iteOmega, *])
    have vte0 : W2.cell? ⟨(w4.heap.size + 1), 0, none⟩ = some (.int .i64 p4) := by rw [hW2]; (simp [isSome_setCell, cell_setI, cell_drewI, cell_allocI, ↓IntWalk.iteOmega, *])
    have vte1 : W2.cell? ⟨(w4.heap.size + 1), 1, none⟩ = some (.int .i64 q4) := by rw [hW2]; (simp [isSome_setCell, cell_setI, cell_drewI, cell_allocI, ↓IntWalk.iteOmega, *])
    have vte2 : W2.cell? ⟨(w4.heap.size + 1), 2, none⟩ = some (.int .i64 r4) := by rw [hW2]; (simp [isSome_setCell, cell_setI, cell_drewI, cell_allocI, ↓IntWalk.iteOmega, *])
    have vte3 : W2.cell? ⟨(w4.heap.size + 1), 3, none⟩ = some (.int .i64 s4) := by rw [hW2]; (simp [isSome_setCell, cell_setI, cell_drewI, cell_allocI, ↓IntWalk.iteOmega, *])
    have vtf0 : W2.cell? ⟨w5.heap.size, 0, none⟩ = some (.int .i64 ((meetF a4 b4 c4 d4 p4 q4 r4 s4).1)) := by rw [hW2]; (simp [isSome_setCell, cell_setI, cell_drewI, cell_allocI, ↓IntWalk.iteOmega, *])
    have vtf1 : W2.cell? ⟨w5.heap.size, 1, none⟩ = some (.int .i64 ((meetF a4 b4 c4 d4 p4 q4 r4 s4).2.1)) := by rw [hW2]; (simp [isSome_setCell, cell_setI, cell_drewI, cell_allocI, ↓IntWalk.iteOmega, *])
    have vtf2 : W2.cell? ⟨w5.heap.size, 2, none⟩ = some (.int .i64 ((meetF a4 b4 c4 d4 p4 q4 r4 s4).2.2.1)) := by rw [hW2]; (simp [isSome_setCell, cell_setI, cell_drewI, cell_allocI, ↓IntWalk.iteOmega, *])
    have vtf3 : W2.cell? ⟨w5.heap.size, 3, none⟩ = some (.int .i64 ((meetF a4 b4 c4 d4 p4 q4 r4 s4).2.2.2.1)) := by rw [hW2]; (simp [isSome_setCell, cell_setI, cell_drewI, cell_allocI, ↓IntWalk.iteOmega, *])
    have vtg0 : W2.cell? ⟨w6.heap.size, 0, none⟩ = some (.int .i64 ((meetF a4 b4 c4 d4 p4 q4 r4 s4).1)) := by rw [hW2]; (simp [isSome_setCell, cell_setI, cell_drewI, cell_allocI, ↓IntWalk.iteOmega, *])
    have vtg1 : W2.cell? ⟨w6.heap.size, 1, none⟩ = some (.int .i64 ((meetF a4 b4 c4 d4 p4 q4 r4 s4).2.1)) := by rw [hW2]; (simp [isSome_setCell, cell_setI, cell_drewI, cell_allocI, ↓IntWalk.iteOmega, *])
    have vtg2 : W2.cell? ⟨w6.heap.size, 2, none⟩ = some (.int .i64 ((meetF a4 b4 c4 d4 p4 q4 r4 s4).2.2.1)) := by rw [hW2]; (simp [isSome_setCell, cell_setI, cell_drewI, cell_allocI, ↓IntWalk.iteOmega, *])
    have vtg3 : W2.cell? ⟨w6.heap.size, 3, none⟩ = some (.int .i64 ((meetF a4 b4 c4 d4 p4 q4 r4 s4).2.2.2.1)) := by rw [hW2]; (simp [isSome_setCell, cell_setI, cell_drewI, cell_allocI, ↓IntWalk.iteOmega, *])
    have vth0 : W2.cell? ⟨w7.heap.size, 0, none⟩ = some (.int .i64 a7) := by rw [hW2]; (simp [isSome_setCell, cell_setI, cell_drewI, cell_allocI, ↓IntWalk.iteOmega, *])
    have vth1 : W2.cell? ⟨w7.heap.size, 1, none⟩ = some (.int .i64 b7) := by rw [hW2]; (simp [isSome_setCell, cell_setI, cell_drewI, cell_allocI, ↓IntWalk.iteOmega, *])
    have vth2 : W2.cell? ⟨w7.heap.size, 2, none⟩ = some (.int .i64 c7) := by rw [hW2]; (simp [isSome_setCell, cell_setI, cell_drewI, cell_allocI, ↓IntWalk.iteOmega, *])
    have vth3 : W2.cell? ⟨w7.heap.size, 3, none⟩ = some (.int .i64 d7) := by rw [hW2]; (simp [isSome_setCell, cell_setI, cell_drewI, cell_allocI, ↓IntWalk.iteOmega, *])
    have hU2 : Up w W2 := by rw [hW2]; (repeat' (first | with_reducible exact Up.refl _ | with_reducible assumption | with_reducible refine Up.alloc ?_ _ | with_reducible refine Up.drew ?_ | with_reducible refine Up.drewN ?_ _ | with_reducible refine Up.setCell ?_ (by (try simp only [World.size_alloc, World.size_setCell, World.heap_drewN, World.size_drew]); omega) _ | (with_reducible refine Up.trans ?_ (by with_reducible assumption))))
    have hs9 : w7.heap.size < W2.heap.size := by rw [hW2]; (try simp only [World.size_alloc, World.size_setCell, World.heap_drewN, World.size_drew]); omega
    have hs10 : w6.heap.size < w7.heap.size := by omega
    clear hW2 hu7 ha7 hb7 hc7 hf7 uta0 uta1 uta2 uta3 utb0 utb1 utb2 utb3 utc0 utc1 utc2 utc3 utd0 utd1 utd2 utd3 ute0 ute1 ute2 ute3 utf0 utf1 utf2 utf3 utg0 utg1 utg2 utg3 hU1 hs5
    by_cases hfa : (faceAround a1 b1 c1 d1 y1).2.2.2.2 = 0
    · obtain ⟨hx, x1, x2, x3, x4, x5, x6, x7, x8⟩ := faceAround_ok hfa
      have e1 : (faceAround a1 b1 c1 d1 y1).1 = a1 - y1 := by rw [hx]
      have e2 : (faceAround a1 b1 c1 d1 y1).2.1 = c1 - y1 := by rw [hx]
      have e3 : (faceAround a1 b1 c1 d1 y1).2.2.1 = b1 + y1 := by rw [hx]
      have e4 : (faceAround a1 b1 c1 d1 y1).2.2.2.1 = d1 + y1 := by rw [hx]
      rw [e1] at vtb0 vtc0
      rw [e2] at vtb1 vtc1
      rw [e3] at vtb2 vtc2
      rw [e4] at vtb3 vtc3
      simp only [hfa]
      clear hx e1 e2 e3 e4 hfa
      by_cases hmt : (meetF a4 b4 c4 d4 p4 q4 r4 s4).2.2.2.2 = 0
      · obtain ⟨hx, hf1, hf2, hmF⟩ := meetF_ok hmt
        have e1 : (meetF a4 b4 c4 d4 p4 q4 r4 s4).1 = max a4 p4 := by rw [hx]
        have e2 : (meetF a4 b4 c4 d4 p4 q4 r4 s4).2.1 = max b4 q4 := by rw [hx]
        have e3 : (meetF a4 b4 c4 d4 p4 q4 r4 s4).2.2.1 = min c4 r4 := by rw [hx]
        have e4 : (meetF a4 b4 c4 d4 p4 q4 r4 s4).2.2.2.1 = min d4 s4 := by rw [hx]
        rw [e1] at vtf0 vtg0
        rw [e2] at vtf1 vtg1
        rw [e3] at vtf2 vtg2
        rw [e4] at vtf3 vtg3
        simp only [hmt]
        clear hx e1 e2 e3 e4 hmt
        by_cases hcF : isFaceB a7 b7 c7 d7 = true
        · skip
          go_wp2_with (first
            | (go_at_call 63; refine (i_CornersOf_yes _ _ _ _ hcF _).mono ?_; rintro e w8 ⟨gi, rfl, l1, FI, hu8⟩; obtain ⟨N8, J8, JF8, ha8, hb8, hz8, hc8, hf8⟩ := hu8.facts; (try simp only [World.size_alloc, World.size_setCell, World.heap_drewN, World.size_drew] at ha8 hb8); (try simp only [cell_drewI] at hc8); (try simp only [frz_drewI] at hf8))
            | (go_at_call 64; refine (s_CornersOf_yes _ _ _ _ hcF _).mono ?_; rintro e w9 ⟨gs, rfl, l2, FS, hu9⟩; obtain ⟨N9, J9, JF9, ha9, hb9, hz9, hc9, hf9⟩ := hu9.facts; (try simp only [World.size_alloc, World.size_setCell, World.heap_drewN, World.size_drew] at ha9 hb9); (try simp only [cell_drewI] at hc9); (try simp only [frz_drewI] at hf9))
            | (go_at_call 65; refine (l_likePoints _ _ 4 _ _ (cornersF a7 b7 c7 d7) _ ((FI.up hu9).rdF.up (by (repeat' (first | with_reducible exact Up.refl _ | with_reducible assumption | with_reducible refine Up.alloc ?_ _ | with_reducible refine Up.drew ?_ | with_reducible refine Up.drewN ?_ _ | with_reducible refine Up.setCell ?_ (by (try simp only [World.size_alloc, World.size_setCell, World.heap_drewN, World.size_drew]); omega) _ | (with_reducible refine Up.trans ?_ (by with_reducible assumption)))))) (FS.rdF.up (by (repeat' (first | with_reducible exact Up.refl _ | with_reducible assumption | with_reducible refine Up.alloc ?_ _ | with_reducible refine Up.drew ?_ | with_reducible refine Up.drewN ?_ _ | with_reducible refine Up.setCell ?_ (by (try simp only [World.size_alloc, World.size_setCell, World.heap_drewN, World.size_drew]); omega) _ | (with_reducible refine Up.trans ?_ (by with_reducible assumption)))))) (by omega)).mono ?_; rintro e wl ⟨rfl, hul⟩; (have hu6 := hul); obtain ⟨N6, J6, JF6, ha6, hb6, hz6, hc6, hf6⟩ := hu6.facts; (try simp only [World.size_alloc, World.size_setCell, World.heap_drewN, World.size_drew] at ha6 hb6); (try simp only [cell_drewI] at hc6); (try simp only [frz_drewI] at hf6)))
          have hX : Up W2 wl := by (repeat' (first | with_reducible exact Up.refl _ | with_reducible assumption | with_reducible refine Up.alloc ?_ _ | with_reducible refine Up.drew ?_ | with_reducible refine Up.drewN ?_ _ | with_reducible refine Up.setCell ?_ (by (try simp only [World.size_alloc, World.size_setCell, World.heap_drewN, World.size_drew]); omega) _ | (with_reducible refine Up.trans ?_ (by with_reducible assumption))))
          have FI := (FI.up hu9).up (w' := wl) (by (repeat' (first | with_reducible exact Up.refl _ | with_reducible assumption | with_reducible refine Up.alloc ?_ _ | with_reducible refine Up.drew ?_ | with_reducible refine Up.drewN ?_ _ | with_reducible refine Up.setCell ?_ (by (try simp only [World.size_alloc, World.size_setCell, World.heap_drewN, World.size_drew]); omega) _ | (with_reducible refine Up.trans ?_ (by with_reducible assumption)))))
          have hUl : Up w wl := hU2.trans hX
          have vta0 := (hX.cells _ _ (cell_lt vta0)).trans vta0
          have vta1 := (hX.cells _ _ (cell_lt vta1)).trans vta1
          have vta2 := (hX.cells _ _ (cell_lt vta2)).trans vta2
          have vta3 := (hX.cells _ _ (cell_lt vta3)).trans vta3
          have vtb0 := (hX.cells _ _ (cell_lt vtb0)).trans vtb0
          have vtb1 := (hX.cells _ _ (cell_lt vtb1)).trans vtb1
          have vtb2 := (hX.cells _ _ (cell_lt vtb2)).trans vtb2
          have vtb3 := (hX.cells _ _ (cell_lt vtb3)).trans vtb3
          have vtd0 := (hX.cells _ _ (cell_lt vtd0)).trans vtd0
          have vtd1 := (hX.cells _ _ (cell_lt vtd1)).trans vtd1
          have vtd2 := (hX.cells _ _ (cell_lt vtd2)).trans vtd2
          have vtd3 := (hX.cells _ _ (cell_lt vtd3)).trans vtd3
          have vte0 := (hX.cells _ _ (cell_lt vte0)).trans vte0
          have vte1 := (hX.cells _ _ (cell_lt vte1)).trans vte1
          have vte2 := (hX.cells _ _ (cell_lt vte2)).trans vte2
          have vte3 := (hX.cells _ _ (cell_lt vte3)).trans vte3
          have vtf0 := (hX.cells _ _ (cell_lt vtf0)).trans vtf0
          have vtf1 := (hX.cells _ _ (cell_lt vtf1)).trans vtf1
          have vtf2 := (hX.cells _ _ (cell_lt vtf2)).trans vtf2
          have vtf3 := (hX.cells _ _ (cell_lt vtf3)).trans vtf3
          have vth0 := (hX.cells _ _ (cell_lt vth0)).trans vth0
          have vth1 := (hX.cells _ _ (cell_lt vth1)).trans vth1
          have vth2 := (hX.cells _ _ (cell_lt vth2)).trans vth2
          have vth3 := (hX.cells _ _ (cell_lt vth3)).trans vth3
          clear hu8 ha8 hb8 hc8 hf8 hu9 ha9 hb9 hc9 hf9 hu6 ha6 hb6 hc6 hf6 hul FS
          go_loopw [20] (fun i wr => ∃ k : Nat, k ≤ 4 ∧ i = .int .i64 k ∧ Up wl wr) (fun i _ => 4 - (intOf i).toNat)
          case atStart => exact ⟨0, Nat.zero_le _, rfl, Up.refl _⟩
          case round =>
            obtain ⟨j, hj, rfl, hb⟩ := hrel
            by_cases hlt : j < 4
            · obtain ⟨bb, oo, hEq, hbl, hc⟩ := (FI.rdF.up hb).at_ (by omega)
              injection hEq with hEq; injection hEq with h1 h2; subst h1 h2
              have kc0 := hc (j * 2) (by omega)
              have kc1 := hc (j * 2 + 1) (by omega)
              simp only [Nat.zero_add] at kc0 kc1
              have hl : (j : Int) < 4 := by omega
              obtain ⟨hp, hi⟩ := corner_in (p := a7) (q := b7) (r := c7) (s := d7) hcF (by omega) (by omega) (by omega) (by omega) hlt
              have vth0 := (hb.cells _ _ (cell_lt vth0)).trans vth0
              have vth1 := (hb.cells _ _ (cell_lt vth1)).trans vth1
              have vth2 := (hb.cells _ _ (cell_lt vth2)).trans vth2
              have vth3 := (hb.cells _ _ (cell_lt vth3)).trans vth3
              have hz1 := cell_lt vth0
              clear hc
              go_wp2
              refine wp_region_later (by kernel_rfl) (by kernel_rfl) ?_
              repeat (go_big_quiet_step ((go_at_call 66; exact later_call (i_InFace _ _ _ _ _ _ hcF hp _))))
              refine wpQuiet_nil ?_; intro _ hw'; obtain ⟨x, hw''⟩ := hw'; subst hw''; obtain ⟨wn, hu⟩ := x; dsimp only; obtain ⟨N, J, JF, hn1, hn2, hz, hc, hf⟩ := hu.facts; (try simp only [World.size_alloc, World.size_setCell, World.heap_drewN, World.size_drew] at hn1 hn2)
              go_wp2
              go_roundw
              case rel => exact ⟨j + 1, by omega, by go_num, by (repeat' (first | with_reducible exact Up.refl _ | with_reducible assumption | with_reducible refine Up.alloc ?_ _ | with_reducible refine Up.drew ?_ | with_reducible refine Up.drewN ?_ _ | with_reducible refine Up.setCell ?_ (by (try simp only [World.size_alloc, World.size_setCell, World.heap_drewN, World.size_drew]); omega) _ | (with_reducible refine Up.trans ?_ (by with_reducible assumption))))⟩
              case measure => simp [intOf]; omega
            · obtain rfl : j = 4 := by omega
              have vta0 := (hb.cells _ _ (cell_lt vta0)).trans vta0
              have vta1 := (hb.cells _ _ (cell_lt vta1)).trans vta1
              have vta2 := (hb.cells _ _ (cell_lt vta2)).trans vta2
              have vta3 := (hb.cells _ _ (cell_lt vta3)).trans vta3
              have vtb0 := (hb.cells _ _ (cell_lt vtb0)).trans vtb0
              have vtb1 := (hb.cells _ _ (cell_lt vtb1)).trans vtb1
              have vtb2 := (hb.cells _ _ (cell_lt vtb2)).trans vtb2
              have vtb3 := (hb.cells _ _ (cell_lt vtb3)).trans vtb3
              have vtd0 := (hb.cells _ _ (cell_lt vtd0)).trans vtd0
              have vtd1 := (hb.cells _ _ (cell_lt vtd1)).trans vtd1
              have vtd2 := (hb.cells _ _ (cell_lt vtd2)).trans vtd2
              have vtd3 := (hb.cells _ _ (cell_lt vtd3)).trans vtd3
              have vte0 := (hb.cells _ _ (cell_lt vte0)).trans vte0
              have vte1 := (hb.cells _ _ (cell_lt vte1)).trans vte1
              have vte2 := (hb.cells _ _ (cell_lt vte2)).trans vte2
              have vte3 := (hb.cells _ _ (cell_lt vte3)).trans vte3
              have vtf0 := (hb.cells _ _ (cell_lt vtf0)).trans vtf0
              have vtf1 := (hb.cells _ _ (cell_lt vtf1)).trans vtf1
              have vtf2 := (hb.cells _ _ (cell_lt vtf2)).trans vtf2
              have vtf3 := (hb.cells _ _ (cell_lt vtf3)).trans vtf3
              have hUr := hUl.trans hb
              go_wp2_with (first
                | (go_at_call 63; refine (i_CornersOf_yes _ _ _ _ hmF _).mono ?_; rintro e wm ⟨gm, rfl, lm, FM, hum⟩; have hu9 := hum; obtain ⟨N9, J9, JF9, ha9, hb9, hz9, hc9, hf9⟩ := hu9.facts; (try simp only [World.size_alloc, World.size_setCell, World.heap_drewN, World.size_drew] at ha9 hb9); (try simp only [cell_drewI] at hc9); (try simp only [frz_drewI] at hf9)))
              have hUm : Up w wm := by (repeat' (first | with_reducible exact Up.refl _ | with_reducible assumption | with_reducible refine Up.alloc ?_ _ | with_reducible refine Up.drew ?_ | with_reducible refine Up.drewN ?_ _ | with_reducible refine Up.setCell ?_ (by (try simp only [World.size_alloc, World.size_setCell, World.heap_drewN, World.size_drew]); omega) _ | (with_reducible refine Up.trans ?_ (by with_reducible assumption))))
              have vta0 := (hum.cells _ _ (cell_lt vta0)).trans vta0
              have vta1 := (hum.cells _ _ (cell_lt vta1)).trans vta1
              have vta2 := (hum.cells _ _ (cell_lt vta2)).trans vta2
              have vta3 := (hum.cells _ _ (cell_lt vta3)).trans vta3
              have vtb0 := (hum.cells _ _ (cell_lt vtb0)).trans vtb0
              have vtb1 := (hum.cells _ _ (cell_lt vtb1)).trans vtb1
              have vtb2 := (hum.cells _ _ (cell_lt vtb2)).trans vtb2
              have vtb3 := (hum.cells _ _ (cell_lt vtb3)).trans vtb3
              have vtd0 := (hum.cells _ _ (cell_lt vtd0)).trans vtd0
              have vtd1 := (hum.cells _ _ (cell_lt vtd1)).trans vtd1
              have vtd2 := (hum.cells _ _ (cell_lt vtd2)).trans vtd2
              have vtd3 := (hum.cells _ _ (cell_lt vtd3)).trans vtd3
              have vte0 := (hum.cells _ _ (cell_lt vte0)).trans vte0
              have vte1 := (hum.cells _ _ (cell_lt vte1)).trans vte1
              have vte2 := (hum.cells _ _ (cell_lt vte2)).trans vte2
              have vte3 := (hum.cells _ _ (cell_lt vte3)).trans vte3
              clear hu9 ha9 hb9 hc9 hf9 hum
              go_loopw [25] (fun i wr => ∃ k : Nat, k ≤ 4 ∧ i = .int .i64 k ∧ Up wm wr) (fun i _ => 4 - (intOf i).toNat)
              case atStart => exact ⟨0, Nat.zero_le _, rfl, Up.refl _⟩
              case round =>
                obtain ⟨j, hj, rfl, hb⟩ := hrel
                by_cases hlt : j < 4
                · obtain ⟨bb, oo, hEq, hbl, hc⟩ := (FM.rdF.up hb).at_ (by omega)
                  injection hEq with hEq; injection hEq with h1 h2; subst h1 h2
                  have kc0 := hc (j * 2) (by omega)
                  have kc1 := hc (j * 2 + 1) (by omega)
                  simp only [Nat.zero_add] at kc0 kc1
                  have hl : (j : Int) < 4 := by omega
                  obtain ⟨hp, hi⟩ := corner_in (p := a4) (q := b4) (r := c4) (s := d4) hmF (by omega) (by omega) (by omega) (by omega) hlt
                  obtain ⟨hp', hi'⟩ := corner_in (p := p4) (q := q4) (r := r4) (s := s4) hmF (by omega) (by omega) (by omega) (by omega) hlt
                  have vtd0 := (hb.cells _ _ (cell_lt vtd0)).trans vtd0
                  have vtd1 := (hb.cells _ _ (cell_lt vtd1)).trans vtd1
                  have vtd2 := (hb.cells _ _ (cell_lt vtd2)).trans vtd2
                  have vtd3 := (hb.cells _ _ (cell_lt vtd3)).trans vtd3
                  have vte0 := (hb.cells _ _ (cell_lt vte0)).trans vte0
                  have vte1 := (hb.cells _ _ (cell_lt vte1)).trans vte1
                  have vte2 := (hb.cells _ _ (cell_lt vte2)).trans vte2
                  have vte3 := (hb.cells _ _ (cell_lt vte3)).trans vte3
                  have hz1 := cell_lt vtd0
                  have hz2 := cell_lt vte0
                  clear hc
                  go_wp2
                  refine wp_region_later (by kernel_rfl) (by kernel_rfl) ?_
                  repeat (go_big_quiet_step ((go_at_call 66; exact later_call (i_InFace _ _ _ _ _ _ hf1 hp _))))
                  refine wpQuiet_nil ?_; intro _ hw'; obtain ⟨x, hw''⟩ := hw'; subst hw''; obtain ⟨wn, hu⟩ := x; dsimp only; obtain ⟨N, J, JF, hn1, hn2, hz, hc, hf⟩ := hu.facts; (try simp only [World.size_alloc, World.size_setCell, World.heap_drewN, World.size_drew] at hn1 hn2)
                  go_wp2
                  refine wp_region_later (by kernel_rfl) (by kernel_rfl) ?_
                  repeat (go_big_quiet_step ((go_at_call 66; exact later_call (i_InFace _ _ _ _ _ _ hf2 hp _))))
                  refine wpQuiet_nil ?_; intro _ hw'; obtain ⟨x, hw''⟩ := hw'; subst hw''; obtain ⟨wn, hu⟩ := x; dsimp only; obtain ⟨N, J, JF, hn1, hn2, hz, hc, hf⟩ := hu.facts; (try simp only [World.size_alloc, World.size_setCell, World.heap_drewN, World.size_drew] at hn1 hn2)
                  go_wp2
                  go_roundw
                  case rel => exact ⟨j + 1, by omega, by go_num, by (repeat' (first | with_reducible exact Up.refl _ | with_reducible assumption | with_reducible refine Up.alloc ?_ _ | with_reducible refine Up.drew ?_ | with_reducible refine Up.drewN ?_ _ | with_reducible refine Up.setCell ?_ (by (try simp only [World.size_alloc, World.size_setCell, World.heap_drewN, World.size_drew]); omega) _ | (with_reducible refine Up.trans ?_ (by with_reducible assumption))))⟩
                  case measure => simp [intOf]; omega
                · obtain rfl : j = 4 := by omega
                  have vta0 := (hb.cells _ _ (cell_lt vta0)).trans vta0
                  have vta1 := (hb.cells _ _ (cell_lt vta1)).trans vta1
                  have vta2 := (hb.cells _ _ (cell_lt vta2)).trans vta2
                  have vta3 := (hb.cells _ _ (cell_lt vta3)).trans vta3
                  have vtb0 := (hb.cells _ _ (cell_lt vtb0)).trans vtb0
                  have vtb1 := (hb.cells _ _ (cell_lt vtb1)).trans vtb1
                  have vtb2 := (hb.cells _ _ (cell_lt vtb2)).trans vtb2
                  have vtb3 := (hb.cells _ _ (cell_lt vtb3)).trans vtb3
                  have hUr := hUm.trans hb
                  go_wp2_with fail
                  go_ret
                  exact ⟨ret_bool (by first | rfl | (simp; done)), by (repeat' (first | with_reducible exact Up.refl _ | with_reducible assumption | with_reducible refine Up.alloc ?_ _ | with_reducible refine Up.drew ?_ | with_reducible refine Up.drewN ?_ _ | with_reducible refine Up.setCell ?_ (by (try simp only [World.size_alloc, World.size_setCell, World.heap_drewN, World.size_drew]); omega) _ | (with_reducible refine Up.trans ?_ (by with_reducible assumption))))⟩
        · have hcF : isFaceB a7 b7 c7 d7 = false := by simpa using hcF
          go_wp2_with (first
            | (go_at_call 63; refine (i_CornersOf_no _ _ _ _ hcF _).mono ?_; rintro e w8 ⟨rfl, hu8⟩; obtain ⟨N8, J8, JF8, ha8, hb8, hz8, hc8, hf8⟩ := hu8.facts; (try simp only [World.size_alloc, World.size_setCell, World.heap_drewN, World.size_drew] at ha8 hb8); (try simp only [cell_drewI] at hc8); (try simp only [frz_drewI] at hf8))
            | (go_at_call 64; refine (s_CornersOf_no _ _ _ _ hcF _).mono ?_; rintro e w9 ⟨rfl, hu9⟩; obtain ⟨N9, J9, JF9, ha9, hb9, hz9, hc9, hf9⟩ := hu9.facts; (try simp only [World.size_alloc, World.size_setCell, World.heap_drewN, World.size_drew] at ha9 hb9); (try simp only [cell_drewI] at hc9); (try simp only [frz_drewI] at hf9))
            | (go_at_call 65; refine (l_likePoints _ _ 0 _ _ (fun _ => 0) _ (RdF.zero _ _ _) (RdF.zero _ _ _) (by omega)).mono ?_; rintro e wl ⟨rfl, hul⟩; (have hu6 := hul); obtain ⟨N6, J6, JF6, ha6, hb6, hz6, hc6, hf6⟩ := hu6.facts; (try simp only [World.size_alloc, World.size_setCell, World.heap_drewN, World.size_drew] at ha6 hb6); (try simp only [cell_drewI] at hc6); (try simp only [frz_drewI] at hf6)))
          have hX : Up W2 wl := by (repeat' (first | with_reducible exact Up.refl _ | with_reducible assumption | with_reducible refine Up.alloc ?_ _ | with_reducible refine Up.drew ?_ | with_reducible refine Up.drewN ?_ _ | with_reducible refine Up.setCell ?_ (by (try simp only [World.size_alloc, World.size_setCell, World.heap_drewN, World.size_drew]); omega) _ | (with_reducible refine Up.trans ?_ (by with_reducible assumption))))
          have hUl : Up w wl := hU2.trans hX
          have vta0 := (hX.cells _ _ (cell_lt vta0)).trans vta0
          have vta1 := (hX.cells _ _ (cell_lt vta1)).trans vta1
          have vta2 := (hX.cells _ _ (cell_lt vta2)).trans vta2
          have vta3 := (hX.cells _ _ (cell_lt vta3)).trans vta3
          have vtb0 := (hX.cells _ _ (cell_lt vtb0)).trans vtb0
          have vtb1 := (hX.cells _ _ (cell_lt vtb1)).trans vtb1
          have vtb2 := (hX.cells _ _ (cell_lt vtb2)).trans vtb2
          have vtb3 := (hX.cells _ _ (cell_lt vtb3)).trans vtb3
          have vtd0 := (hX.cells _ _ (cell_lt vtd0)).trans vtd0
          have vtd1 := (hX.cells _ _ (cell_lt vtd1)).trans vtd1
          have vtd2 := (hX.cells _ _ (cell_lt vtd2)).trans vtd2
          have vtd3 := (hX.cells _ _ (cell_lt vtd3)).trans vtd3
          have vte0 := (hX.cells _ _ (cell_lt vte0)).trans vte0
          have vte1 := (hX.cells _ _ (cell_lt vte1)).trans vte1
          have vte2 := (hX.cells _ _ (cell_lt vte2)).trans vte2
          have vte3 := (hX.cells _ _ (cell_lt vte3)).trans vte3
          have vtf0 := (hX.cells _ _ (cell_lt vtf0)).trans vtf0
          have vtf1 := (hX.cells _ _ (cell_lt vtf1)).trans vtf1
          have vtf2 := (hX.cells _ _ (cell_lt vtf2)).trans vtf2
          have vtf3 := (hX.cells _ _ (cell_lt vtf3)).trans vtf3
          clear hu8 ha8 hb8 hc8 hf8 hu9 ha9 hb9 hc9 hf9 hu6 ha6 hb6 hc6 hf6 hul
          go_loopw [20] (fun i wr => i = .int .i64 0 ∧ Up wl wr) (fun _ _ => 0)
          case atStart => exact ⟨rfl, Up.refl _⟩
          case round =>
            obtain ⟨rfl, hb⟩ := hrel
            have vta0 := (hb.cells _ _ (cell_lt vta0)).trans vta0
            have vta1 := (hb.cells _ _ (cell_lt vta1)).trans vta1
            have vta2 := (hb.cells _ _ (cell_lt vta2)).trans vta2
            have vta3 := (hb.cells _ _ (cell_lt vta3)).trans vta3
            have vtb0 := (hb.cells _ _ (cell_lt vtb0)).trans vtb0
            have vtb1 := (hb.cells _ _ (cell_lt vtb1)).trans vtb1
            have vtb2 := (hb.cells _ _ (cell_lt vtb2)).trans vtb2
            have vtb3 := (hb.cells _ _ (cell_lt vtb3)).trans vtb3
            have vtd0 := (hb.cells _ _ (cell_lt vtd0)).trans vtd0
            have vtd1 := (hb.cells _ _ (cell_lt vtd1)).trans vtd1
            have vtd2 := (hb.cells _ _ (cell_lt vtd2)).trans vtd2
            have vtd3 := (hb.cells _ _ (cell_lt vtd3)).trans vtd3
            have vte0 := (hb.cells _ _ (cell_lt vte0)).trans vte0
            have vte1 := (hb.cells _ _ (cell_lt vte1)).trans vte1
            have vte2 := (hb.cells _ _ (cell_lt vte2)).trans vte2
            have vte3 := (hb.cells _ _ (cell_lt vte3)).trans vte3
            have vtf0 := (hb.cells _ _ (cell_lt vtf0)).trans vtf0
            have vtf1 := (hb.cells _ _ (cell_lt vtf1)).trans vtf1
            have vtf2 := (hb.cells _ _ (cell_lt vtf2)).trans vtf2
            have vtf3 := (hb.cells _ _ (cell_lt vtf3)).trans vtf3
            have hUr := hUl.trans hb
            go_wp2_with (first
              | (go_at_call 63; refine (i_CornersOf_yes _ _ _ _ hmF _).mono ?_; rintro e wm ⟨gm, rfl, lm, FM, hum⟩; have hu9 := hum; obtain ⟨N9, J9, JF9, ha9, hb9, hz9, hc9, hf9⟩ := hu9.facts; (try simp only [World.size_alloc, World.size_setCell, World.heap_drewN, World.size_drew] at ha9 hb9); (try simp only [cell_drewI] at hc9); (try simp only [frz_drewI] at hf9)))
            have hUm : Up w wm := by (repeat' (first | with_reducible exact Up.refl _ | with_reducible assumption | with_reducible refine Up.alloc ?_ _ | with_reducible refine Up.drew ?_ | with_reducible refine Up.drewN ?_ _ | with_reducible refine Up.setCell ?_ (by (try simp only [World.size_alloc, World.size_setCell, World.heap_drewN, World.size_drew]); omega) _ | (with_reducible refine Up.trans ?_ (by with_reducible assumption))))
            have vta0 := (hum.cells _ _ (cell_lt vta0)).trans vta0
            have vta1 := (hum.cells _ _ (cell_lt vta1)).trans vta1
            have vta2 := (hum.cells _ _ (cell_lt vta2)).trans vta2
            have vta3 := (hum.cells _ _ (cell_lt vta3)).trans vta3
            have vtb0 := (hum.cells _ _ (cell_lt vtb0)).trans vtb0
            have vtb1 := (hum.cells _ _ (cell_lt vtb1)).trans vtb1
            have vtb2 := (hum.cells _ _ (cell_lt vtb2)).trans vtb2
            have vtb3 := (hum.cells _ _ (cell_lt vtb3)).trans vtb3
            have vtd0 := (hum.cells _ _ (cell_lt vtd0)).trans vtd0
            have vtd1 := (hum.cells _ _ (cell_lt vtd1)).trans vtd1
            have vtd2 := (hum.cells _ _ (cell_lt vtd2)).trans vtd2
            have vtd3 := (hum.cells _ _ (cell_lt vtd3)).trans vtd3
            have vte0 := (hum.cells _ _ (cell_lt vte0)).trans vte0
            have vte1 := (hum.cells _ _ (cell_lt vte1)).trans vte1
            have vte2 := (hum.cells _ _ (cell_lt vte2)).trans vte2
            have vte3 := (hum.cells _ _ (cell_lt vte3)).trans vte3
            clear hu9 ha9 hb9 hc9 hf9 hum
            go_loopw [25] (fun i wr => ∃ k : Nat, k ≤ 4 ∧ i = .int .i64 k ∧ Up wm wr) (fun i _ => 4 - (intOf i).toNat)
            case atStart => exact ⟨0, Nat.zero_le _, rfl, Up.refl _⟩
            case round =>
              obtain ⟨j, hj, rfl, hb⟩ := hrel
              by_cases hlt : j < 4
              · obtain ⟨bb, oo, hEq, hbl, hc⟩ := (FM.rdF.up hb).at_ (by omega)
                injection hEq with hEq; injection hEq with h1 h2; subst h1 h2
                have kc0 := hc (j * 2) (by omega)
                have kc1 := hc (j * 2 + 1) (by omega)
                simp only [Nat.zero_add] at kc0 kc1
                have hl : (j : Int) < 4 := by omega
                obtain ⟨hp, hi⟩ := corner_in (p := a4) (q := b4) (r := c4) (s := d4) hmF (by omega) (by omega) (by omega) (by omega) hlt
                obtain ⟨hp', hi'⟩ := corner_in (p := p4) (q := q4) (r := r4) (s := s4) hmF (by omega) (by omega) (by omega) (by omega) hlt
                have vtd0 := (hb.cells _ _ (cell_lt vtd0)).trans vtd0
                have vtd1 := (hb.cells _ _ (cell_lt vtd1)).trans vtd1
                have vtd2 := (hb.cells _ _ (cell_lt vtd2)).trans vtd2
                have vtd3 := (hb.cells _ _ (cell_lt vtd3)).trans vtd3
                have vte0 := (hb.cells _ _ (cell_lt vte0)).trans vte0
                have vte1 := (hb.cells _ _ (cell_lt vte1)).trans vte1
                have vte2 := (hb.cells _ _ (cell_lt vte2)).trans vte2
                have vte3 := (hb.cells _ _ (cell_lt vte3)).trans vte3
                have hz1 := cell_lt vtd0
                have hz2 := cell_lt vte0
                clear hc
                go_wp2
                refine wp_region_later (by kernel_rfl) (by kernel_rfl) ?_
                repeat (go_big_quiet_step ((go_at_call 66; exact later_call (i_InFace _ _ _ _ _ _ hf1 hp _))))
                refine wpQuiet_nil ?_; intro _ hw'; obtain ⟨x, hw''⟩ := hw'; subst hw''; obtain ⟨wn, hu⟩ := x; dsimp only; obtain ⟨N, J, JF, hn1, hn2, hz, hc, hf⟩ := hu.facts; (try simp only [World.size_alloc, World.size_setCell, World.heap_drewN, World.size_drew] at hn1 hn2)
                go_wp2
                refine wp_region_later (by kernel_rfl) (by kernel_rfl) ?_
                repeat (go_big_quiet_step ((go_at_call 66; exact later_call (i_InFace _ _ _ _ _ _ hf2 hp _))))
                refine wpQuiet_nil ?_; intro _ hw'; obtain ⟨x, hw''⟩ := hw'; subst hw''; obtain ⟨wn, hu⟩ := x; dsimp only; obtain ⟨N, J, JF, hn1, hn2, hz, hc, hf⟩ := hu.facts; (try simp only [World.size_alloc, World.size_setCell, World.heap_drewN, World.size_drew] at hn1 hn2)
                go_wp2
                go_roundw
                case rel => exact ⟨j + 1, by omega, by go_num, by (repeat' (first | with_reducible exact Up.refl _ | with_reducible assumption | with_reducible refine Up.alloc ?_ _ | with_reducible refine Up.drew ?_ | with_reducible refine Up.drewN ?_ _ | with_reducible refine Up.setCell ?_ (by (try simp only [World.size_alloc, World.size_setCell, World.heap_drewN, World.size_drew]); omega) _ | (with_reducible refine Up.trans ?_ (by with_reducible assumption))))⟩
                case measure => simp [intOf]; omega
              · obtain rfl : j = 4 := by omega
                have vta0 := (hb.cells _ _ (cell_lt vta0)).trans vta0
                have vta1 := (hb.cells _ _ (cell_lt vta1)).trans vta1
                have vta2 := (hb.cells _ _ (cell_lt vta2)).trans vta2
                have vta3 := (hb.cells _ _ (cell_lt vta3)).trans vta3
                have vtb0 := (hb.cells _ _ (cell_lt vtb0)).trans vtb0
                have vtb1 := (hb.cells _ _ (cell_lt vtb1)).trans vtb1
                have vtb2 := (hb.cells _ _ (cell_lt vtb2)).trans vtb2
                have vtb3 := (hb.cells _ _ (cell_lt vtb3)).trans vtb3
                have hUr := hUm.trans hb
                go_wp2_with fail
                go_ret
                exact ⟨ret_bool (by first | rfl | (simp; done)), by (repeat' (first | with_reducible exact Up.refl _ | with_reducible assumption | with_reducible refine Up.alloc ?_ _ | with_reducible refine Up.drew ?_ | with_reducible refine Up.drewN ?_ _ | with_reducible refine Up.setCell ?_ (by (try simp only [World.size_alloc, World.size_setCell, World.heap_drewN, World.size_drew]); omega) _ | (with_reducible refine Up.trans ?_ (by with_reducible assumption))))⟩
      · have hmt : ((meetF a4 b4 c4 d4 p4 q4 r4 s4).2.2.2.2 == 0) = false := by simpa using hmt
        by_cases hcF : isFaceB a7 b7 c7 d7 = true
        · skip
          go_wp2_with (first
            | (go_at_call 63; refine (i_CornersOf_yes _ _ _ _ hcF _).mono ?_; rintro e w8 ⟨gi, rfl, l1, FI, hu8⟩; obtain ⟨N8, J8, JF8, ha8, hb8, hz8, hc8, hf8⟩ := hu8.facts; (try simp only [World.size_alloc, World.size_setCell, World.heap_drewN, World.size_drew] at ha8 hb8); (try simp only [cell_drewI] at hc8); (try simp only [frz_drewI] at hf8))
            | (go_at_call 64; refine (s_CornersOf_yes _ _ _ _ hcF _).mono ?_; rintro e w9 ⟨gs, rfl, l2, FS, hu9⟩; obtain ⟨N9, J9, JF9, ha9, hb9, hz9, hc9, hf9⟩ := hu9.facts; (try simp only [World.size_alloc, World.size_setCell, World.heap_drewN, World.size_drew] at ha9 hb9); (try simp only [cell_drewI] at hc9); (try simp only [frz_drewI] at hf9))
            | (go_at_call 65; refine (l_likePoints _ _ 4 _ _ (cornersF a7 b7 c7 d7) _ ((FI.up hu9).rdF.up (by (repeat' (first | with_reducible exact Up.refl _ | with_reducible assumption | with_reducible refine Up.alloc ?_ _ | with_reducible refine Up.drew ?_ | with_reducible refine Up.drewN ?_ _ | with_reducible refine Up.setCell ?_ (by (try simp only [World.size_alloc, World.size_setCell, World.heap_drewN, World.size_drew]); omega) _ | (with_reducible refine Up.trans ?_ (by with_reducible assumption)))))) (FS.rdF.up (by (repeat' (first | with_reducible exact Up.refl _ | with_reducible assumption | with_reducible refine Up.alloc ?_ _ | with_reducible refine Up.drew ?_ | with_reducible refine Up.drewN ?_ _ | with_reducible refine Up.setCell ?_ (by (try simp only [World.size_alloc, World.size_setCell, World.heap_drewN, World.size_drew]); omega) _ | (with_reducible refine Up.trans ?_ (by with_reducible assumption)))))) (by omega)).mono ?_; rintro e wl ⟨rfl, hul⟩; (have hu6 := hul); obtain ⟨N6, J6, JF6, ha6, hb6, hz6, hc6, hf6⟩ := hu6.facts; (try simp only [World.size_alloc, World.size_setCell, World.heap_drewN, World.size_drew] at ha6 hb6); (try simp only [cell_drewI] at hc6); (try simp only [frz_drewI] at hf6)))
          have hX : Up W2 wl := by (repeat' (first | with_reducible exact Up.refl _ | with_reducible assumption | with_reducible refine Up.alloc ?_ _ | with_reducible refine Up.drew ?_ | with_reducible refine Up.drewN ?_ _ | with_reducible refine Up.setCell ?_ (by (try simp only [World.size_alloc, World.size_setCell, World.heap_drewN, World.size_drew]); omega) _ | (with_reducible refine Up.trans ?_ (by with_reducible assumption))))
          have FI := (FI.up hu9).up (w' := wl) (by (repeat' (first | with_reducible exact Up.refl _ | with_reducible assumption | with_reducible refine Up.alloc ?_ _ | with_reducible refine Up.drew ?_ | with_reducible refine Up.drewN ?_ _ | with_reducible refine Up.setCell ?_ (by (try simp only [World.size_alloc, World.size_setCell, World.heap_drewN, World.size_drew]); omega) _ | (with_reducible refine Up.trans ?_ (by with_reducible assumption)))))
          have hUl : Up w wl := hU2.trans hX
          have vta0 := (hX.cells _ _ (cell_lt vta0)).trans vta0
          have vta1 := (hX.cells _ _ (cell_lt vta1)).trans vta1
          have vta2 := (hX.cells _ _ (cell_lt vta2)).trans vta2
          have vta3 := (hX.cells _ _ (cell_lt vta3)).trans vta3
          have vtb0 := (hX.cells _ _ (cell_lt vtb0)).trans vtb0
          have vtb1 := (hX.cells _ _ (cell_lt vtb1)).trans vtb1
          have vtb2 := (hX.cells _ _ (cell_lt vtb2)).trans vtb2
          have vtb3 := (hX.cells _ _ (cell_lt vtb3)).trans vtb3
          have vtd0 := (hX.cells _ _ (cell_lt vtd0)).trans vtd0
          have vtd1 := (hX.cells _ _ (cell_lt vtd1)).trans vtd1
          have vtd2 := (hX.cells _ _ (cell_lt vtd2)).trans vtd2
          have vtd3 := (hX.cells _ _ (cell_lt vtd3)).trans vtd3
          have vte0 := (hX.cells _ _ (cell_lt vte0)).trans vte0
          have vte1 := (hX.cells _ _ (cell_lt vte1)).trans vte1
          have vte2 := (hX.cells _ _ (cell_lt vte2)).trans vte2
          have vte3 := (hX.cells _ _ (cell_lt vte3)).trans vte3
          have vtf0 := (hX.cells _ _ (cell_lt vtf0)).trans vtf0
          have vtf1 := (hX.cells _ _ (cell_lt vtf1)).trans vtf1
          have vtf2 := (hX.cells _ _ (cell_lt vtf2)).trans vtf2
          have vtf3 := (hX.cells _ _ (cell_lt vtf3)).trans vtf3
          have vth0 := (hX.cells _ _ (cell_lt vth0)).trans vth0
          have vth1 := (hX.cells _ _ (cell_lt vth1)).trans vth1
          have vth2 := (hX.cells _ _ (cell_lt vth2)).trans vth2
          have vth3 := (hX.cells _ _ (cell_lt vth3)).trans vth3
          clear hu8 ha8 hb8 hc8 hf8 hu9 ha9 hb9 hc9 hf9 hu6 ha6 hb6 hc6 hf6 hul FS
          go_loopw [20] (fun i wr => ∃ k : Nat, k ≤ 4 ∧ i = .int .i64 k ∧ Up wl wr) (fun i _ => 4 - (intOf i).toNat)
          case atStart => exact ⟨0, Nat.zero_le _, rfl, Up.refl _⟩
          case round =>
            obtain ⟨j, hj, rfl, hb⟩ := hrel
            by_cases hlt : j < 4
            · obtain ⟨bb, oo, hEq, hbl, hc⟩ := (FI.rdF.up hb).at_ (by omega)
              injection hEq with hEq; injection hEq with h1 h2; subst h1 h2
              have kc0 := hc (j * 2) (by omega)
              have kc1 := hc (j * 2 + 1) (by omega)
              simp only [Nat.zero_add] at kc0 kc1
              have hl : (j : Int) < 4 := by omega
              obtain ⟨hp, hi⟩ := corner_in (p := a7) (q := b7) (r := c7) (s := d7) hcF (by omega) (by omega) (by omega) (by omega) hlt
              have vth0 := (hb.cells _ _ (cell_lt vth0)).trans vth0
              have vth1 := (hb.cells _ _ (cell_lt vth1)).trans vth1
              have vth2 := (hb.cells _ _ (cell_lt vth2)).trans vth2
              have vth3 := (hb.cells _ _ (cell_lt vth3)).trans vth3
              have hz1 := cell_lt vth0
              clear hc
              go_wp2
              refine wp_region_later (by kernel_rfl) (by kernel_rfl) ?_
              repeat (go_big_quiet_step ((go_at_call 66; exact later_call (i_InFace _ _ _ _ _ _ hcF hp _))))
              refine wpQuiet_nil ?_; intro _ hw'; obtain ⟨x, hw''⟩ := hw'; subst hw''; obtain ⟨wn, hu⟩ := x; dsimp only; obtain ⟨N, J, JF, hn1, hn2, hz, hc, hf⟩ := hu.facts; (try simp only [World.size_alloc, World.size_setCell, World.heap_drewN, World.size_drew] at hn1 hn2)
              go_wp2
              go_roundw
              case rel => exact ⟨j + 1, by omega, by go_num, by (repeat' (first | with_reducible exact Up.refl _ | with_reducible assumption | with_reducible refine Up.alloc ?_ _ | with_reducible refine Up.drew ?_ | with_reducible refine Up.drewN ?_ _ | with_reducible refine Up.setCell ?_ (by (try simp only [World.size_alloc, World.size_setCell, World.heap_drewN, World.size_drew]); omega) _ | (with_reducible refine Up.trans ?_ (by with_reducible assumption))))⟩
              case measure => simp [intOf]; omega
            · obtain rfl : j = 4 := by omega
              have vta0 := (hb.cells _ _ (cell_lt vta0)).trans vta0
              have vta1 := (hb.cells _ _ (cell_lt vta1)).trans vta1
              have vta2 := (hb.cells _ _ (cell_lt vta2)).trans vta2
              have vta3 := (hb.cells _ _ (cell_lt vta3)).trans vta3
              have vtb0 := (hb.cells _ _ (cell_lt vtb0)).trans vtb0
              have vtb1 := (hb.cells _ _ (cell_lt vtb1)).trans vtb1
              have vtb2 := (hb.cells _ _ (cell_lt vtb2)).trans vtb2
              have vtb3 := (hb.cells _ _ (cell_lt vtb3)).trans vtb3
              have vtd0 := (hb.cells _ _ (cell_lt vtd0)).trans vtd0
              have vtd1 := (hb.cells _ _ (cell_lt vtd1)).trans vtd1
              have vtd2 := (hb.cells _ _ (cell_lt vtd2)).trans vtd2
              have vtd3 := (hb.cells _ _ (cell_lt vtd3)).trans vtd3
              have vte0 := (hb.cells _ _ (cell_lt vte0)).trans vte0
              have vte1 := (hb.cells _ _ (cell_lt vte1)).trans vte1
              have vte2 := (hb.cells _ _ (cell_lt vte2)).trans vte2
              have vte3 := (hb.cells _ _ (cell_lt vte3)).trans vte3
              have vtf0 := (hb.cells _ _ (cell_lt vtf0)).trans vtf0
              have vtf1 := (hb.cells _ _ (cell_lt vtf1)).trans vtf1
              have vtf2 := (hb.cells _ _ (cell_lt vtf2)).trans vtf2
              have vtf3 := (hb.cells _ _ (cell_lt vtf3)).trans vtf3
              have hUr := hUl.trans hb
              go_wp2_with fail
              go_ret
              exact ⟨ret_bool (by first | rfl | (simp; done)), by (repeat' (first | with_reducible exact Up.refl _ | with_reducible assumption | with_reducible refine Up.alloc ?_ _ | with_reducible refine Up.drew ?_ | with_reducible refine Up.drewN ?_ _ | with_reducible refine Up.setCell ?_ (by (try simp only [World.size_alloc, World.size_setCell, World.heap_drewN, World.size_drew]); omega) _ | (with_reducible refine Up.trans ?_ (by with_reducible assumption))))⟩
        · have hcF : isFaceB a7 b7 c7 d7 = false := by simpa using hcF
          go_wp2_with (first
            | (go_at_call 63; refine (i_CornersOf_no _ _ _ _ hcF _).mono ?_; rintro e w8 ⟨rfl, hu8⟩; obtain ⟨N8, J8, JF8, ha8, hb8, hz8, hc8, hf8⟩ := hu8.facts; (try simp only [World.size_alloc, World.size_setCell, World.heap_drewN, World.size_drew] at ha8 hb8); (try simp only [cell_drewI] at hc8); (try simp only [frz_drewI] at hf8))
            | (go_at_call 64; refine (s_CornersOf_no _ _ _ _ hcF _).mono ?_; rintro e w9 ⟨rfl, hu9⟩; obtain ⟨N9, J9, JF9, ha9, hb9, hz9, hc9, hf9⟩ := hu9.facts; (try simp only [World.size_alloc, World.size_setCell, World.heap_drewN, World.size_drew] at ha9 hb9); (try simp only [cell_drewI] at hc9); (try simp only [frz_drewI] at hf9))
            | (go_at_call 65; refine (l_likePoints _ _ 0 _ _ (fun _ => 0) _ (RdF.zero _ _ _) (RdF.zero _ _ _) (by omega)).mono ?_; rintro e wl ⟨rfl, hul⟩; (have hu6 := hul); obtain ⟨N6, J6, JF6, ha6, hb6, hz6, hc6, hf6⟩ := hu6.facts; (try simp only [World.size_alloc, World.size_setCell, World.heap_drewN, World.size_drew] at ha6 hb6); (try simp only [cell_drewI] at hc6); (try simp only [frz_drewI] at hf6)))
          have hX : Up W2 wl := by (repeat' (first | with_reducible exact Up.refl _ | with_reducible assumption | with_reducible refine Up.alloc ?_ _ | with_reducible refine Up.drew ?_ | with_reducible refine Up.drewN ?_ _ | with_reducible refine Up.setCell ?_ (by (try simp only [World.size_alloc, World.size_setCell, World.heap_drewN, World.size_drew]); omega) _ | (with_reducible refine Up.trans ?_ (by with_reducible assumption))))
          have hUl : Up w wl := hU2.trans hX
          have vta0 := (hX.cells _ _ (cell_lt vta0)).trans vta0
          have vta1 := (hX.cells _ _ (cell_lt vta1)).trans vta1
          have vta2 := (hX.cells _ _ (cell_lt vta2)).trans vta2
          have vta3 := (hX.cells _ _ (cell_lt vta3)).trans vta3
          have vtb0 := (hX.cells _ _ (cell_lt vtb0)).trans vtb0
          have vtb1 := (hX.cells _ _ (cell_lt vtb1)).trans vtb1
          have vtb2 := (hX.cells _ _ (cell_lt vtb2)).trans vtb2
          have vtb3 := (hX.cells _ _ (cell_lt vtb3)).trans vtb3
          have vtd0 := (hX.cells _ _ (cell_lt vtd0)).trans vtd0
          have vtd1 := (hX.cells _ _ (cell_lt vtd1)).trans vtd1
          have vtd2 := (hX.cells _ _ (cell_lt vtd2)).trans vtd2
          have vtd3 := (hX.cells _ _ (cell_lt vtd3)).trans vtd3
          have vte0 := (hX.cells _ _ (cell_lt vte0)).trans vte0
          have vte1 := (hX.cells _ _ (cell_lt vte1)).trans vte1
          have vte2 := (hX.cells _ _ (cell_lt vte2)).trans vte2
          have vte3 := (hX.cells _ _ (cell_lt vte3)).trans vte3
          have vtf0 := (hX.cells _ _ (cell_lt vtf0)).trans vtf0
          have vtf1 := (hX.cells _ _ (cell_lt vtf1)).trans vtf1
          have vtf2 := (hX.cells _ _ (cell_lt vtf2)).trans vtf2
          have vtf3 := (hX.cells _ _ (cell_lt vtf3)).trans vtf3
          clear hu8 ha8 hb8 hc8 hf8 hu9 ha9 hb9 hc9 hf9 hu6 ha6 hb6 hc6 hf6 hul
          go_loopw [20] (fun i wr => i = .int .i64 0 ∧ Up wl wr) (fun _ _ => 0)
          case atStart => exact ⟨rfl, Up.refl _⟩
          case round =>
            obtain ⟨rfl, hb⟩ := hrel
            have vta0 := (hb.cells _ _ (cell_lt vta0)).trans vta0
            have vta1 := (hb.cells _ _ (cell_lt vta1)).trans vta1
            have vta2 := (hb.cells _ _ (cell_lt vta2)).trans vta2
            have vta3 := (hb.cells _ _ (cell_lt vta3)).trans vta3
            have vtb0 := (hb.cells _ _ (cell_lt vtb0)).trans vtb0
            have vtb1 := (hb.cells _ _ (cell_lt vtb1)).trans vtb1
            have vtb2 := (hb.cells _ _ (cell_lt vtb2)).trans vtb2
            have vtb3 := (hb.cells _ _ (cell_lt vtb3)).trans vtb3
            have vtd0 := (hb.cells _ _ (cell_lt vtd0)).trans vtd0
            have vtd1 := (hb.cells _ _ (cell_lt vtd1)).trans vtd1
            have vtd2 := (hb.cells _ _ (cell_lt vtd2)).trans vtd2
            have vtd3 := (hb.cells _ _ (cell_lt vtd3)).trans vtd3
            have vte0 := (hb.cells _ _ (cell_lt vte0)).trans vte0
            have vte1 := (hb.cells _ _ (cell_lt vte1)).trans vte1
            have vte2 := (hb.cells _ _ (cell_lt vte2)).trans vte2
            have vte3 := (hb.cells _ _ (cell_lt vte3)).trans vte3
            have vtf0 := (hb.cells _ _ (cell_lt vtf0)).trans vtf0
            have vtf1 := (hb.cells _ _ (cell_lt vtf1)).trans vtf1
            have vtf2 := (hb.cells _ _ (cell_lt vtf2)).trans vtf2
            have vtf3 := (hb.cells _ _ (cell_lt vtf3)).trans vtf3
            have hUr := hUl.trans hb
            go_wp2_with fail
            go_ret
            exact ⟨ret_bool (by first | rfl | (simp; done)), by (repeat' (first | with_reducible exact Up.refl _ | with_reducible assumption | with_reducible refine Up.alloc ?_ _ | with_reducible refine Up.drew ?_ | with_reducible refine Up.drewN ?_ _ | with_reducible refine Up.setCell ?_ (by (try simp only [World.size_alloc, World.size_setCell, World.heap_drewN, World.size_drew]); omega) _ | (with_reducible refine Up.trans ?_ (by with_reducible assumption))))⟩
    · have hfa : ((faceAround a1 b1 c1 d1 y1).2.2.2.2 != 0) = true := by simpa using hfa
      by_cases hmt : (meetF a4 b4 c4 d4 p4 q4 r4 s4).2.2.2.2 = 0
      · obtain ⟨hx, hf1, hf2, hmF⟩ := meetF_ok hmt
        have e1 : (meetF a4 b4 c4 d4 p4 q4 r4 s4).1 = max a4 p4 := by rw [hx]
        have e2 : (meetF a4 b4 c4 d4 p4 q4 r4 s4).2.1 = max b4 q4 := by rw [hx]
        have e3 : (meetF a4 b4 c4 d4 p4 q4 r4 s4).2.2.1 = min c4 r4 := by rw [hx]
        have e4 : (meetF a4 b4 c4 d4 p4 q4 r4 s4).2.2.2.1 = min d4 s4 := by rw [hx]
        rw [e1] at vtf0 vtg0
        rw [e2] at vtf1 vtg1
        rw [e3] at vtf2 vtg2
        rw [e4] at vtf3 vtg3
        simp only [hmt]
        clear hx e1 e2 e3 e4 hmt
        by_cases hcF : isFaceB a7 b7 c7 d7 = true
        · skip
          go_wp2_with (first
            | (go_at_call 63; refine (i_CornersOf_yes _ _ _ _ hcF _).mono ?_; rintro e w8 ⟨gi, rfl, l1, FI, hu8⟩; obtain ⟨N8, J8, JF8, ha8, hb8, hz8, hc8, hf8⟩ := hu8.facts; (try simp only [World.size_alloc, World.size_setCell, World.heap_drewN, World.size_drew] at ha8 hb8); (try simp only [cell_drewI] at hc8); (try simp only [frz_drewI] at hf8))
            | (go_at_call 64; refine (s_CornersOf_yes _ _ _ _ hcF _).mono ?_; rintro e w9 ⟨gs, rfl, l2, FS, hu9⟩; obtain ⟨N9, J9, JF9, ha9, hb9, hz9, hc9, hf9⟩ := hu9.facts; (try simp only [World.size_alloc, World.size_setCell, World.heap_drewN, World.size_drew] at ha9 hb9); (try simp only [cell_drewI] at hc9); (try simp only [frz_drewI] at hf9))
            | (go_at_call 65; refine (l_likePoints _ _ 4 _ _ (cornersF a7 b7 c7 d7) _ ((FI.up hu9).rdF.up (by (repeat' (first | with_reducible exact Up.refl _ | with_reducible assumption | with_reducible refine Up.alloc ?_ _ | with_reducible refine Up.drew ?_ | with_reducible refine Up.drewN ?_ _ | with_reducible refine Up.setCell ?_ (by (try simp only [World.size_alloc, World.size_setCell, World.heap_drewN, World.size_drew]); omega) _ | (with_reducible refine Up.trans ?_ (by with_reducible assumption)))))) (FS.rdF.up (by (repeat' (first | with_reducible exact Up.refl _ | with_reducible assumption | with_reducible refine Up.alloc ?_ _ | with_reducible refine Up.drew ?_ | with_reducible refine Up.drewN ?_ _ | with_reducible refine Up.setCell ?_ (by (try simp only [World.size_alloc, World.size_setCell, World.heap_drewN, World.size_drew]); omega) _ | (with_reducible refine Up.trans ?_ (by with_reducible assumption)))))) (by omega)).mono ?_; rintro e wl ⟨rfl, hul⟩; (have hu6 := hul); obtain ⟨N6, J6, JF6, ha6, hb6, hz6, hc6, hf6⟩ := hu6.facts; (try simp only [World.size_alloc, World.size_setCell, World.heap_drewN, World.size_drew] at ha6 hb6); (try simp only [cell_drewI] at hc6); (try simp only [frz_drewI] at hf6)))
          have hX : Up W2 wl := by (repeat' (first | with_reducible exact Up.refl _ | with_reducible assumption | with_reducible refine Up.alloc ?_ _ | with_reducible refine Up.drew ?_ | with_reducible refine Up.drewN ?_ _ | with_reducible refine Up.setCell ?_ (by (try simp only [World.size_alloc, World.size_setCell, World.heap_drewN, World.size_drew]); omega) _ | (with_reducible refine Up.trans ?_ (by with_reducible assumption))))
          have FI := (FI.up hu9).up (w' := wl) (by (repeat' (first | with_reducible exact Up.refl _ | with_reducible assumption | with_reducible refine Up.alloc ?_ _ | with_reducible refine Up.drew ?_ | with_reducible refine Up.drewN ?_ _ | with_reducible refine Up.setCell ?_ (by (try simp only [World.size_alloc, World.size_setCell, World.heap_drewN, World.size_drew]); omega) _ | (with_reducible refine Up.trans ?_ (by with_reducible assumption)))))
          have hUl : Up w wl := hU2.trans hX
          have vta0 := (hX.cells _ _ (cell_lt vta0)).trans vta0
          have vta1 := (hX.cells _ _ (cell_lt vta1)).trans vta1
          have vta2 := (hX.cells _ _ (cell_lt vta2)).trans vta2
          have vta3 := (hX.cells _ _ (cell_lt vta3)).trans vta3
          have vtb0 := (hX.cells _ _ (cell_lt vtb0)).trans vtb0
          have vtb1 := (hX.cells _ _ (cell_lt vtb1)).trans vtb1
          have vtb2 := (hX.cells _ _ (cell_lt vtb2)).trans vtb2
          have vtb3 := (hX.cells _ _ (cell_lt vtb3)).trans vtb3
          have vtd0 := (hX.cells _ _ (cell_lt vtd0)).trans vtd0
          have vtd1 := (hX.cells _ _ (cell_lt vtd1)).trans vtd1
          have vtd2 := (hX.cells _ _ (cell_lt vtd2)).trans vtd2
          have vtd3 := (hX.cells _ _ (cell_lt vtd3)).trans vtd3
          have vte0 := (hX.cells _ _ (cell_lt vte0)).trans vte0
          have vte1 := (hX.cells _ _ (cell_lt vte1)).trans vte1
          have vte2 := (hX.cells _ _ (cell_lt vte2)).trans vte2
          have vte3 := (hX.cells _ _ (cell_lt vte3)).trans vte3
          have vtf0 := (hX.cells _ _ (cell_lt vtf0)).trans vtf0
          have vtf1 := (hX.cells _ _ (cell_lt vtf1)).trans vtf1
          have vtf2 := (hX.cells _ _ (cell_lt vtf2)).trans vtf2
          have vtf3 := (hX.cells _ _ (cell_lt vtf3)).trans vtf3
          have vth0 := (hX.cells _ _ (cell_lt vth0)).trans vth0
          have vth1 := (hX.cells _ _ (cell_lt vth1)).trans vth1
          have vth2 := (hX.cells _ _ (cell_lt vth2)).trans vth2
          have vth3 := (hX.cells _ _ (cell_lt vth3)).trans vth3
          clear hu8 ha8 hb8 hc8 hf8 hu9 ha9 hb9 hc9 hf9 hu6 ha6 hb6 hc6 hf6 hul FS
          go_loopw [20] (fun i wr => ∃ k : Nat, k ≤ 4 ∧ i = .int .i64 k ∧ Up wl wr) (fun i _ => 4 - (intOf i).toNat)
          case atStart => exact ⟨0, Nat.zero_le _, rfl, Up.refl _⟩
          case round =>
            obtain ⟨j, hj, rfl, hb⟩ := hrel
            by_cases hlt : j < 4
            · obtain ⟨bb, oo, hEq, hbl, hc⟩ := (FI.rdF.up hb).at_ (by omega)
              injection hEq with hEq; injection hEq with h1 h2; subst h1 h2
              have kc0 := hc (j * 2) (by omega)
              have kc1 := hc (j * 2 + 1) (by omega)
              simp only [Nat.zero_add] at kc0 kc1
              have hl : (j : Int) < 4 := by omega
              obtain ⟨hp, hi⟩ := corner_in (p := a7) (q := b7) (r := c7) (s := d7) hcF (by omega) (by omega) (by omega) (by omega) hlt
              have vth0 := (hb.cells _ _ (cell_lt vth0)).trans vth0
              have vth1 := (hb.cells _ _ (cell_lt vth1)).trans vth1
              have vth2 := (hb.cells _ _ (cell_lt vth2)).trans vth2
              have vth3 := (hb.cells _ _ (cell_lt vth3)).trans vth3
              have hz1 := cell_lt vth0
              clear hc
              go_wp2
              refine wp_region_later (by kernel_rfl) (by kernel_rfl) ?_
              repeat (go_big_quiet_step ((go_at_call 66; exact later_call (i_InFace _ _ _ _ _ _ hcF hp _))))
              refine wpQuiet_nil ?_; intro _ hw'; obtain ⟨x, hw''⟩ := hw'; subst hw''; obtain ⟨wn, hu⟩ := x; dsimp only; obtain ⟨N, J, JF, hn1, hn2, hz, hc, hf⟩ := hu.facts; (try simp only [World.size_alloc, World.size_setCell, World.heap_drewN, World.size_drew] at hn1 hn2)
              go_wp2
              go_roundw
              case rel => exact ⟨j + 1, by omega, by go_num, by (repeat' (first | with_reducible exact Up.refl _ | with_reducible assumption | with_reducible refine Up.alloc ?_ _ | with_reducible refine Up.drew ?_ | with_reducible refine Up.drewN ?_ _ | with_reducible refine Up.setCell ?_ (by (try simp only [World.size_alloc, World.size_setCell, World.heap_drewN, World.size_drew]); omega) _ | (with_reducible refine Up.trans ?_ (by with_reducible assumption))))⟩
              case measure => simp [intOf]; omega
            · obtain rfl : j = 4 := by omega
              have vta0 := (hb.cells _ _ (cell_lt vta0)).trans vta0
              have vta1 := (hb.cells _ _ (cell_lt vta1)).trans vta1
              have vta2 := (hb.cells _ _ (cell_lt vta2)).trans vta2
              have vta3 := (hb.cells _ _ (cell_lt vta3)).trans vta3
              have vtb0 := (hb.cells _ _ (cell_lt vtb0)).trans vtb0
              have vtb1 := (hb.cells _ _ (cell_lt vtb1)).trans vtb1
              have vtb2 := (hb.cells _ _ (cell_lt vtb2)).trans vtb2
              have vtb3 := (hb.cells _ _ (cell_lt vtb3)).trans vtb3
              have vtd0 := (hb.cells _ _ (cell_lt vtd0)).trans vtd0
              have vtd1 := (hb.cells _ _ (cell_lt vtd1)).trans vtd1
              have vtd2 := (hb.cells _ _ (cell_lt vtd2)).trans vtd2
              have vtd3 := (hb.cells _ _ (cell_lt vtd3)).trans vtd3
              have vte0 := (hb.cells _ _ (cell_lt vte0)).trans vte0
              have vte1 := (hb.cells _ _ (cell_lt vte1)).trans vte1
              have vte2 := (hb.cells _ _ (cell_lt vte2)).trans vte2
              have vte3 := (hb.cells _ _ (cell_lt vte3)).trans vte3
              have vtf0 := (hb.cells _ _ (cell_lt vtf0)).trans vtf0
              have vtf1 := (hb.cells _ _ (cell_lt vtf1)).trans vtf1
              have vtf2 := (hb.cells _ _ (cell_lt vtf2)).trans vtf2
              have vtf3 := (hb.cells _ _ (cell_lt vtf3)).trans vtf3
              have hUr := hUl.trans hb
              go_wp2_with (first
                | (go_at_call 63; refine (i_CornersOf_yes _ _ _ _ hmF _).mono ?_; rintro e wm ⟨gm, rfl, lm, FM, hum⟩; have hu9 := hum; obtain ⟨N9, J9, JF9, ha9, hb9, hz9, hc9, hf9⟩ := hu9.facts; (try simp only [World.size_alloc, World.size_setCell, World.heap_drewN, World.size_drew] at ha9 hb9); (try simp only [cell_drewI] at hc9); (try simp only [frz_drewI] at hf9)))
              have hUm : Up w wm := by (repeat' (first | with_reducible exact Up.refl _ | with_reducible assumption | with_reducible refine Up.alloc ?_ _ | with_reducible refine Up.drew ?_ | with_reducible refine Up.drewN ?_ _ | with_reducible refine Up.setCell ?_ (by (try simp only [World.size_alloc, World.size_setCell, World.heap_drewN, World.size_drew]); omega) _ | (with_reducible refine Up.trans ?_ (by with_reducible assumption))))
              have vta0 := (hum.cells _ _ (cell_lt vta0)).trans vta0
              have vta1 := (hum.cells _ _ (cell_lt vta1)).trans vta1
              have vta2 := (hum.cells _ _ (cell_lt vta2)).trans vta2
              have vta3 := (hum.cells _ _ (cell_lt vta3)).trans vta3
              have vtb0 := (hum.cells _ _ (cell_lt vtb0)).trans vtb0
              have vtb1 := (hum.cells _ _ (cell_lt vtb1)).trans vtb1
              have vtb2 := (hum.cells _ _ (cell_lt vtb2)).trans vtb2
              have vtb3 := (hum.cells _ _ (cell_lt vtb3)).trans vtb3
              have vtd0 := (hum.cells _ _ (cell_lt vtd0)).trans vtd0
              have vtd1 := (hum.cells _ _ (cell_lt vtd1)).trans vtd1
              have vtd2 := (hum.cells _ _ (cell_lt vtd2)).trans vtd2
              have vtd3 := (hum.cells _ _ (cell_lt vtd3)).trans vtd3
              have vte0 := (hum.cells _ _ (cell_lt vte0)).trans vte0
              have vte1 := (hum.cells _ _ (cell_lt vte1)).trans vte1
              have vte2 := (hum.cells _ _ (cell_lt vte2)).trans vte2
              have vte3 := (hum.cells _ _ (cell_lt vte3)).trans vte3
              clear hu9 ha9 hb9 hc9 hf9 hum
              go_loopw [25] (fun i wr => ∃ k : Nat, k ≤ 4 ∧ i = .int .i64 k ∧ Up wm wr) (fun i _ => 4 - (intOf i).toNat)
              case atStart => exact ⟨0, Nat.zero_le _, rfl, Up.refl _⟩
              case round =>
                obtain ⟨j, hj, rfl, hb⟩ := hrel
                by_cases hlt : j < 4
                · obtain ⟨bb, oo, hEq, hbl, hc⟩ := (FM.rdF.up hb).at_ (by omega)
                  injection hEq with hEq; injection hEq with h1 h2; subst h1 h2
                  have kc0 := hc (j * 2) (by omega)
                  have kc1 := hc (j * 2 + 1) (by omega)
                  simp only [Nat.zero_add] at kc0 kc1
                  have hl : (j : Int) < 4 := by omega
                  obtain ⟨hp, hi⟩ := corner_in (p := a4) (q := b4) (r := c4) (s := d4) hmF (by omega) (by omega) (by omega) (by omega) hlt
                  obtain ⟨hp', hi'⟩ := corner_in (p := p4) (q := q4) (r := r4) (s := s4) hmF (by omega) (by omega) (by omega) (by omega) hlt
                  have vtd0 := (hb.cells _ _ (cell_lt vtd0)).trans vtd0
                  have vtd1 := (hb.cells _ _ (cell_lt vtd1)).trans vtd1
                  have vtd2 := (hb.cells _ _ (cell_lt vtd2)).trans vtd2
                  have vtd3 := (hb.cells _ _ (cell_lt vtd3)).trans vtd3
                  have vte0 := (hb.cells _ _ (cell_lt vte0)).trans vte0
                  have vte1 := (hb.cells _ _ (cell_lt vte1)).trans vte1
                  have vte2 := (hb.cells _ _ (cell_lt vte2)).trans vte2
                  have vte3 := (hb.cells _ _ (cell_lt vte3)).trans vte3
                  have hz1 := cell_lt vtd0
                  have hz2 := cell_lt vte0
                  clear hc
                  go_wp2
                  refine wp_region_later (by kernel_rfl) (by kernel_rfl) ?_
                  repeat (go_big_quiet_step ((go_at_call 66; exact later_call (i_InFace _ _ _ _ _ _ hf1 hp _))))
                  refine wpQuiet_nil ?_; intro _ hw'; obtain ⟨x, hw''⟩ := hw'; subst hw''; obtain ⟨wn, hu⟩ := x; dsimp only; obtain ⟨N, J, JF, hn1, hn2, hz, hc, hf⟩ := hu.facts; (try simp only [World.size_alloc, World.size_setCell, World.heap_drewN, World.size_drew] at hn1 hn2)
                  go_wp2
                  refine wp_region_later (by kernel_rfl) (by kernel_rfl) ?_
                  repeat (go_big_quiet_step ((go_at_call 66; exact later_call (i_InFace _ _ _ _ _ _ hf2 hp _))))
                  refine wpQuiet_nil ?_; intro _ hw'; obtain ⟨x, hw''⟩ := hw'; subst hw''; obtain ⟨wn, hu⟩ := x; dsimp only; obtain ⟨N, J, JF, hn1, hn2, hz, hc, hf⟩ := hu.facts; (try simp only [World.size_alloc, World.size_setCell, World.heap_drewN, World.size_drew] at hn1 hn2)
                  go_wp2
                  go_roundw
                  case rel => exact ⟨j + 1, by omega, by go_num, by (repeat' (first | with_reducible exact Up.refl _ | with_reducible assumption | with_reducible refine Up.alloc ?_ _ | with_reducible refine Up.drew ?_ | with_reducible refine Up.drewN ?_ _ | with_reducible refine Up.setCell ?_ (by (try simp only [World.size_alloc, World.size_setCell, World.heap_drewN, World.size_drew]); omega) _ | (with_reducible refine Up.trans ?_ (by with_reducible assumption))))⟩
                  case measure => simp [intOf]; omega
                · obtain rfl : j = 4 := by omega
                  have vta0 := (hb.cells _ _ (cell_lt vta0)).trans vta0
                  have vta1 := (hb.cells _ _ (cell_lt vta1)).trans vta1
                  have vta2 := (hb.cells _ _ (cell_lt vta2)).trans vta2
                  have vta3 := (hb.cells _ _ (cell_lt vta3)).trans vta3
                  have vtb0 := (hb.cells _ _ (cell_lt vtb0)).trans vtb0
                  have vtb1 := (hb.cells _ _ (cell_lt vtb1)).trans vtb1
                  have vtb2 := (hb.cells _ _ (cell_lt vtb2)).trans vtb2
                  have vtb3 := (hb.cells _ _ (cell_lt vtb3)).trans vtb3
                  have hUr := hUm.trans hb
                  go_wp2_with fail
                  go_ret
                  exact ⟨ret_bool (by first | rfl | (simp; done)), by (repeat' (first | with_reducible exact Up.refl _ | with_reducible assumption | with_reducible refine Up.alloc ?_ _ | with_reducible refine Up.drew ?_ | with_reducible refine Up.drewN ?_ _ | with_reducible refine Up.setCell ?_ (by (try simp only [World.size_alloc, World.size_setCell, World.heap_drewN, World.size_drew]); omega) _ | (with_reducible refine Up.trans ?_ (by with_reducible assumption))))⟩
        · have hcF : isFaceB a7 b7 c7 d7 = false := by simpa using hcF
          go_wp2_with (first
            | (go_at_call 63; refine (i_CornersOf_no _ _ _ _ hcF _).mono ?_; rintro e w8 ⟨rfl, hu8⟩; obtain ⟨N8, J8, JF8, ha8, hb8, hz8, hc8, hf8⟩ := hu8.facts; (try simp only [World.size_alloc, World.size_setCell, World.heap_drewN, World.size_drew] at ha8 hb8); (try simp only [cell_drewI] at hc8); (try simp only [frz_drewI] at hf8))
            | (go_at_call 64; refine (s_CornersOf_no _ _ _ _ hcF _).mono ?_; rintro e w9 ⟨rfl, hu9⟩; obtain ⟨N9, J9, JF9, ha9, hb9, hz9, hc9, hf9⟩ := hu9.facts; (try simp only [World.size_alloc, World.size_setCell, World.heap_drewN, World.size_drew] at ha9 hb9); (try simp only [cell_drewI] at hc9); (try simp only [frz_drewI] at hf9))
            | (go_at_call 65; refine (l_likePoints _ _ 0 _ _ (fun _ => 0) _ (RdF.zero _ _ _) (RdF.zero _ _ _) (by omega)).mono ?_; rintro e wl ⟨rfl, hul⟩; (have hu6 := hul); obtain ⟨N6, J6, JF6, ha6, hb6, hz6, hc6, hf6⟩ := hu6.facts; (try simp only [World.size_alloc, World.size_setCell, World.heap_drewN, World.size_drew] at ha6 hb6); (try simp only [cell_drewI] at hc6); (try simp only [frz_drewI] at hf6)))
          have hX : Up W2 wl := by (repeat' (first | with_reducible exact Up.refl _ | with_reducible assumption | with_reducible refine Up.alloc ?_ _ | with_reducible refine Up.drew ?_ | with_reducible refine Up.drewN ?_ _ | with_reducible refine Up.setCell ?_ (by (try simp only [World.size_alloc, World.size_setCell, World.heap_drewN, World.size_drew]); omega) _ | (with_reducible refine Up.trans ?_ (by with_reducible assumption))))
          have hUl : Up w wl := hU2.trans hX
          have vta0 := (hX.cells _ _ (cell_lt vta0)).trans vta0
          have vta1 := (hX.cells _ _ (cell_lt vta1)).trans vta1
          have vta2 := (hX.cells _ _ (cell_lt vta2)).trans vta2
          have vta3 := (hX.cells _ _ (cell_lt vta3)).trans vta3
          have vtb0 := (hX.cells _ _ (cell_lt vtb0)).trans vtb0
          have vtb1 := (hX.cells _ _ (cell_lt vtb1)).trans vtb1
          have vtb2 := (hX.cells _ _ (cell_lt vtb2)).trans vtb2
          have vtb3 := (hX.cells _ _ (cell_lt vtb3)).trans vtb3
          have vtd0 := (hX.cells _ _ (cell_lt vtd0)).trans vtd0
          have vtd1 := (hX.cells _ _ (cell_lt vtd1)).trans vtd1
          have vtd2 := (hX.cells _ _ (cell_lt vtd2)).trans vtd2
          have vtd3 := (hX.cells _ _ (cell_lt vtd3)).trans vtd3
          have vte0 := (hX.cells _ _ (cell_lt vte0)).trans vte0
          have vte1 := (hX.cells _ _ (cell_lt vte1)).trans vte1
          have vte2 := (hX.cells _ _ (cell_lt vte2)).trans vte2
          have vte3 := (hX.cells _ _ (cell_lt vte3)).trans vte3
          have vtf0 := (hX.cells _ _ (cell_lt vtf0)).trans vtf0
          have vtf1 := (hX.cells _ _ (cell_lt vtf1)).trans vtf1
          have vtf2 := (hX.cells _ _ (cell_lt vtf2)).trans vtf2
          have vtf3 := (hX.cells _ _ (cell_lt vtf3)).trans vtf3
          clear hu8 ha8 hb8 hc8 hf8 hu9 ha9 hb9 hc9 hf9 hu6 ha6 hb6 hc6 hf6 hul
          go_loopw [20] (fun i wr => i = .int .i64 0 ∧ Up wl wr) (fun _ _ => 0)
          case atStart => exact ⟨rfl, Up.refl _⟩
          case round =>
            obtain ⟨rfl, hb⟩ := hrel
            have vta0 := (hb.cells _ _ (cell_lt vta0)).trans vta0
            have vta1 := (hb.cells _ _ (cell_lt vta1)).trans vta1
            have vta2 := (hb.cells _ _ (cell_lt vta2)).trans vta2
            have vta3 := (hb.cells _ _ (cell_lt vta3)).trans vta3
            have vtb0 := (hb.cells _ _ (cell_lt vtb0)).trans vtb0
            have vtb1 := (hb.cells _ _ (cell_lt vtb1)).trans vtb1
            have vtb2 := (hb.cells _ _ (cell_lt vtb2)).trans vtb2
            have vtb3 := (hb.cells _ _ (cell_lt vtb3)).trans vtb3
            have vtd0 := (hb.cells _ _ (cell_lt vtd0)).trans vtd0
            have vtd1 := (hb.cells _ _ (cell_lt vtd1)).trans vtd1
            have vtd2 := (hb.cells _ _ (cell_lt vtd2)).trans vtd2
            have vtd3 := (hb.cells _ _ (cell_lt vtd3)).trans vtd3
            have vte0 := (hb.cells _ _ (cell_lt vte0)).trans vte0
            have vte1 := (hb.cells _ _ (cell_lt vte1)).trans vte1
            have vte2 := (hb.cells _ _ (cell_lt vte2)).trans vte2
            have vte3 := (hb.cells _ _ (cell_lt vte3)).trans vte3
            have vtf0 := (hb.cells _ _ (cell_lt vtf0)).trans vtf0
            have vtf1 := (hb.cells _ _ (cell_lt vtf1)).trans vtf1
            have vtf2 := (hb.cells _ _ (cell_lt vtf2)).trans vtf2
            have vtf3 := (hb.cells _ _ (cell_lt vtf3)).trans vtf3
            have hUr := hUl.trans hb
            go_wp2_with (first
              | (go_at_call 63; refine (i_CornersOf_yes _ _ _ _ hmF _).mono ?_; rintro e wm ⟨gm, rfl, lm, FM, hum⟩; have hu9 := hum; obtain ⟨N9, J9, JF9, ha9, hb9, hz9, hc9, hf9⟩ := hu9.facts; (try simp only [World.size_alloc, World.size_setCell, World.heap_drewN, World.size_drew] at ha9 hb9); (try simp only [cell_drewI] at hc9); (try simp only [frz_drewI] at hf9)))
            have hUm : Up w wm := by (repeat' (first | with_reducible exact Up.refl _ | with_reducible assumption | with_reducible refine Up.alloc ?_ _ | with_reducible refine Up.drew ?_ | with_reducible refine Up.drewN ?_ _ | with_reducible refine Up.setCell ?_ (by (try simp only [World.size_alloc, World.size_setCell, World.heap_drewN, World.size_drew]); omega) _ | (with_reducible refine Up.trans ?_ (by with_reducible assumption))))
            have vta0 := (hum.cells _ _ (cell_lt vta0)).trans vta0
            have vta1 := (hum.cells _ _ (cell_lt vta1)).trans vta1
            have vta2 := (hum.cells _ _ (cell_lt vta2)).trans vta2
            have vta3 := (hum.cells _ _ (cell_lt vta3)).trans vta3
            have vtb0 := (hum.cells _ _ (cell_lt vtb0)).trans vtb0
            have vtb1 := (hum.cells _ _ (cell_lt vtb1)).trans vtb1
            have vtb2 := (hum.cells _ _ (cell_lt vtb2)).trans vtb2
            have vtb3 := (hum.cells _ _ (cell_lt vtb3)).trans vtb3
            have vtd0 := (hum.cells _ _ (cell_lt vtd0)).trans vtd0
            have vtd1 := (hum.cells _ _ (cell_lt vtd1)).trans vtd1
            have vtd2 := (hum.cells _ _ (cell_lt vtd2)).trans vtd2
            have vtd3 := (hum.cells _ _ (cell_lt vtd3)).trans vtd3
            have vte0 := (hum.cells _ _ (cell_lt vte0)).trans vte0
            have vte1 := (hum.cells _ _ (cell_lt vte1)).trans vte1
            have vte2 := (hum.cells _ _ (cell_lt vte2)).trans vte2
            have vte3 := (hum.cells _ _ (cell_lt vte3)).trans vte3
            clear hu9 ha9 hb9 hc9 hf9 hum
            go_loopw [25] (fun i wr => ∃ k : Nat, k ≤ 4 ∧ i = .int .i64 k ∧ Up wm wr) (fun i _ => 4 - (intOf i).toNat)
            case atStart => exact ⟨0, Nat.zero_le _, rfl, Up.refl _⟩
            case round =>
              obtain ⟨j, hj, rfl, hb⟩ := hrel
              by_cases hlt : j < 4
              · obtain ⟨bb, oo, hEq, hbl, hc⟩ := (FM.rdF.up hb).at_ (by omega)
                injection hEq with hEq; injection hEq with h1 h2; subst h1 h2
                have kc0 := hc (j * 2) (by omega)
                have kc1 := hc (j * 2 + 1) (by omega)
                simp only [Nat.zero_add] at kc0 kc1
                have hl : (j : Int) < 4 := by omega
                obtain ⟨hp, hi⟩ := corner_in (p := a4) (q := b4) (r := c4) (s := d4) hmF (by omega) (by omega) (by omega) (by omega) hlt
                obtain ⟨hp', hi'⟩ := corner_in (p := p4) (q := q4) (r := r4) (s := s4) hmF (by omega) (by omega) (by omega) (by omega) hlt
                have vtd0 := (hb.cells _ _ (cell_lt vtd0)).trans vtd0
                have vtd1 := (hb.cells _ _ (cell_lt vtd1)).trans vtd1
                have vtd2 := (hb.cells _ _ (cell_lt vtd2)).trans vtd2
                have vtd3 := (hb.cells _ _ (cell_lt vtd3)).trans vtd3
                have vte0 := (hb.cells _ _ (cell_lt vte0)).trans vte0
                have vte1 := (hb.cells _ _ (cell_lt vte1)).trans vte1
                have vte2 := (hb.cells _ _ (cell_lt vte2)).trans vte2
                have vte3 := (hb.cells _ _ (cell_lt vte3)).trans vte3
                have hz1 := cell_lt vtd0
                have hz2 := cell_lt vte0
                clear hc
                go_wp2
                refine wp_region_later (by kernel_rfl) (by kernel_rfl) ?_
                repeat (go_big_quiet_step ((go_at_call 66; exact later_call (i_InFace _ _ _ _ _ _ hf1 hp _))))
                refine wpQuiet_nil ?_; intro _ hw'; obtain ⟨x, hw''⟩ := hw'; subst hw''; obtain ⟨wn, hu⟩ := x; dsimp only; obtain ⟨N, J, JF, hn1, hn2, hz, hc, hf⟩ := hu.facts; (try simp only [World.size_alloc, World.size_setCell, World.heap_drewN, World.size_drew] at hn1 hn2)
                go_wp2
                refine wp_region_later (by kernel_rfl) (by kernel_rfl) ?_
                repeat (go_big_quiet_step ((go_at_call 66; exact later_call (i_InFace _ _ _ _ _ _ hf2 hp _))))
                refine wpQuiet_nil ?_; intro _ hw'; obtain ⟨x, hw''⟩ := hw'; subst hw''; obtain ⟨wn, hu⟩ := x; dsimp only; obtain ⟨N, J, JF, hn1, hn2, hz, hc, hf⟩ := hu.facts; (try simp only [World.size_alloc, World.size_setCell, World.heap_drewN, World.size_drew] at hn1 hn2)
                go_wp2
                go_roundw
                case rel => exact ⟨j + 1, by omega, by go_num, by (repeat' (first | with_reducible exact Up.refl _ | with_reducible assumption | with_reducible refine Up.alloc ?_ _ | with_reducible refine Up.drew ?_ | with_reducible refine Up.drewN ?_ _ | with_reducible refine Up.setCell ?_ (by (try simp only [World.size_alloc, World.size_setCell, World.heap_drewN, World.size_drew]); omega) _ | (with_reducible refine Up.trans ?_ (by with_reducible assumption))))⟩
                case measure => simp [intOf]; omega
              · obtain rfl : j = 4 := by omega
                have vta0 := (hb.cells _ _ (cell_lt vta0)).trans vta0
                have vta1 := (hb.cells _ _ (cell_lt vta1)).trans vta1
                have vta2 := (hb.cells _ _ (cell_lt vta2)).trans vta2
                have vta3 := (hb.cells _ _ (cell_lt vta3)).trans vta3
                have vtb0 := (hb.cells _ _ (cell_lt vtb0)).trans vtb0
                have vtb1 := (hb.cells _ _ (cell_lt vtb1)).trans vtb1
                have vtb2 := (hb.cells _ _ (cell_lt vtb2)).trans vtb2
                have vtb3 := (hb.cells _ _ (cell_lt vtb3)).trans vtb3
                have hUr := hUm.trans hb
                go_wp2_with fail
                go_ret
                exact ⟨ret_bool (by first | rfl | (simp; done)), by (repeat' (first | with_reducible exact Up.refl _ | with_reducible assumption | with_reducible refine Up.alloc ?_ _ | with_reducible refine Up.drew ?_ | with_reducible refine Up.drewN ?_ _ | with_reducible refine Up.setCell ?_ (by (try simp only [World.size_alloc, World.size_setCell, World.heap_drewN, World.size_drew]); omega) _ | (with_reducible refine Up.trans ?_ (by with_reducible assumption))))⟩
      · have hmt : ((meetF a4 b4 c4 d4 p4 q4 r4 s4).2.2.2.2 == 0) = false := by simpa using hmt
        by_cases hcF : isFaceB a7 b7 c7 d7 = true
        · skip
          go_wp2_with (first
            | (go_at_call 63; refine (i_CornersOf_yes _ _ _ _ hcF _).mono ?_; rintro e w8 ⟨gi, rfl, l1, FI, hu8⟩; obtain ⟨N8, J8, JF8, ha8, hb8, hz8, hc8, hf8⟩ := hu8.facts; (try simp only [World.size_alloc, World.size_setCell, World.heap_drewN, World.size_drew] at ha8 hb8); (try simp only [cell_drewI] at hc8); (try simp only [frz_drewI] at hf8))
            | (go_at_call 64; refine (s_CornersOf_yes _ _ _ _ hcF _).mono ?_; rintro e w9 ⟨gs, rfl, l2, FS, hu9⟩; obtain ⟨N9, J9, JF9, ha9, hb9, hz9, hc9, hf9⟩ := hu9.facts; (try simp only [World.size_alloc, World.size_setCell, World.heap_drewN, World.size_drew] at ha9 hb9); (try simp only [cell_drewI] at hc9); (try simp only [frz_drewI] at hf9))
            | (go_at_call 65; refine (l_likePoints _ _ 4 _ _ (cornersF a7 b7 c7 d7) _ ((FI.up hu9).rdF.up (by (repeat' (first | with_reducible exact Up.refl _ | with_reducible assumption | with_reducible refine Up.alloc ?_ _ | with_reducible refine Up.drew ?_ | with_reducible refine Up.drewN ?_ _ | with_reducible refine Up.setCell ?_ (by (try simp only [World.size_alloc, World.size_setCell, World.heap_drewN, World.size_drew]); omega) _ | (with_reducible refine Up.trans ?_ (by with_reducible assumption)))))) (FS.rdF.up (by (repeat' (first | with_reducible exact Up.refl _ | with_reducible assumption | with_reducible refine Up.alloc ?_ _ | with_reducible refine Up.drew ?_ | with_reducible refine Up.drewN ?_ _ | with_reducible refine Up.setCell ?_ (by (try simp only [World.size_alloc, World.size_setCell, World.heap_drewN, World.size_drew]); omega) _ | (with_reducible refine Up.trans ?_ (by with_reducible assumption)))))) (by omega)).mono ?_; rintro e wl ⟨rfl, hul⟩; (have hu6 := hul); obtain ⟨N6, J6, JF6, ha6, hb6, hz6, hc6, hf6⟩ := hu6.facts; (try simp only [World.size_alloc, World.size_setCell, World.heap_drewN, World.size_drew] at ha6 hb6); (try simp only [cell_drewI] at hc6); (try simp only [frz_drewI] at hf6)))
          have hX : Up W2 wl := by (repeat' (first | with_reducible exact Up.refl _ | with_reducible assumption | with_reducible refine Up.alloc ?_ _ | with_reducible refine Up.drew ?_ | with_reducible refine Up.drewN ?_ _ | with_reducible refine Up.setCell ?_ (by (try simp only [World.size_alloc, World.size_setCell, World.heap_drewN, World.size_drew]); omega) _ | (with_reducible refine Up.trans ?_ (by with_reducible assumption))))
          have FI := (FI.up hu9).up (w' := wl) (by (repeat' (first | with_reducible exact Up.refl _ | with_reducible assumption | with_reducible refine Up.alloc ?_ _ | with_reducible refine Up.drew ?_ | with_reducible refine Up.drewN ?_ _ | with_reducible refine Up.setCell ?_ (by (try simp only [World.size_alloc, World.size_setCell, World.heap_drewN, World.size_drew]); omega) _ | (with_reducible refine Up.trans ?_ (by with_reducible assumption)))))
          have hUl : Up w wl := hU2.trans hX
          have vta0 := (hX.cells _ _ (cell_lt vta0)).trans vta0
          have vta1 := (hX.cells _ _ (cell_lt vta1)).trans vta1
          have vta2 := (hX.cells _ _ (cell_lt vta2)).trans vta2
          have vta3 := (hX.cells _ _ (cell_lt vta3)).trans vta3
          have vtb0 := (hX.cells _ _ (cell_lt vtb0)).trans vtb0
          have vtb1 := (hX.cells _ _ (cell_lt vtb1)).trans vtb1
          have vtb2 := (hX.cells _ _ (cell_lt vtb2)).trans vtb2
          have vtb3 := (hX.cells _ _ (cell_lt vtb3)).trans vtb3
          have vtd0 := (hX.cells _ _ (cell_lt vtd0)).trans vtd0
          have vtd1 := (hX.cells _ _ (cell_lt vtd1)).trans vtd1
          have vtd2 := (hX.cells _ _ (cell_lt vtd2)).trans vtd2
          have vtd3 := (hX.cells _ _ (cell_lt vtd3)).trans vtd3
          have vte0 := (hX.cells _ _ (cell_lt vte0)).trans vte0
          have vte1 := (hX.cells _ _ (cell_lt vte1)).trans vte1
          have vte2 := (hX.cells _ _ (cell_lt vte2)).trans vte2
          have vte3 := (hX.cells _ _ (cell_lt vte3)).trans vte3
          have vtf0 := (hX.cells _ _ (cell_lt vtf0)).trans vtf0
          have vtf1 := (hX.cells _ _ (cell_lt vtf1)).trans vtf1
          have vtf2 := (hX.cells _ _ (cell_lt vtf2)).trans vtf2
          have vtf3 := (hX.cells _ _ (cell_lt vtf3)).trans vtf3
          have vth0 := (hX.cells _ _ (cell_lt vth0)).trans vth0
          have vth1 := (hX.cells _ _ (cell_lt vth1)).trans vth1
          have vth2 := (hX.cells _ _ (cell_lt vth2)).trans vth2
          have vth3 := (hX.cells _ _ (cell_lt vth3)).trans vth3
          clear hu8 ha8 hb8 hc8 hf8 hu9 ha9 hb9 hc9 hf9 hu6 ha6 hb6 hc6 hf6 hul FS
          go_loopw [20] (fun i wr => ∃ k : Nat, k ≤ 4 ∧ i = .int .i64 k ∧ Up wl wr) (fun i _ => 4 - (intOf i).toNat)
          case atStart => exact ⟨0, Nat.zero_le _, rfl, Up.refl _⟩
          case round =>
            obtain ⟨j, hj, rfl, hb⟩ := hrel
            by_cases hlt : j < 4
            · obtain ⟨bb, oo, hEq, hbl, hc⟩ := (FI.rdF.up hb).at_ (by omega)
              injection hEq with hEq; injection hEq with h1 h2; subst h1 h2
              have kc0 := hc (j * 2) (by omega)
              have kc1 := hc (j * 2 + 1) (by omega)
              simp only [Nat.zero_add] at kc0 kc1
              have hl : (j : Int) < 4 := by omega
              obtain ⟨hp, hi⟩ := corner_in (p := a7) (q := b7) (r := c7) (s := d7) hcF (by omega) (by omega) (by omega) (by omega) hlt
              have vth0 := (hb.cells _ _ (cell_lt vth0)).trans vth0
              have vth1 := (hb.cells _ _ (cell_lt vth1)).trans vth1
              have vth2 := (hb.cells _ _ (cell_lt vth2)).trans vth2
              have vth3 := (hb.cells _ _ (cell_lt vth3)).trans vth3
              have hz1 := cell_lt vth0
              clear hc
              go_wp2
              refine wp_region_later (by kernel_rfl) (by kernel_rfl) ?_
              repeat (go_big_quiet_step ((go_at_call 66; exact later_call (i_InFace _ _ _ _ _ _ hcF hp _))))
              refine wpQuiet_nil ?_; intro _ hw'; obtain ⟨x, hw''⟩ := hw'; subst hw''; obtain ⟨wn, hu⟩ := x; dsimp only; obtain ⟨N, J, JF, hn1, hn2, hz, hc, hf⟩ := hu.facts; (try simp only [World.size_alloc, World.size_setCell, World.heap_drewN, World.size_drew] at hn1 hn2)
              go_wp2
              go_roundw
              case rel => exact ⟨j + 1, by omega, by go_num, by (repeat' (first | with_reducible exact Up.refl _ | with_reducible assumption | with_reducible refine Up.alloc ?_ _ | with_reducible refine Up.drew ?_ | with_reducible refine Up.drewN ?_ _ | with_reducible refine Up.setCell ?_ (by (try simp only [World.size_alloc, World.size_setCell, World.heap_drewN, World.size_drew]); omega) _ | (with_reducible refine Up.trans ?_ (by with_reducible assumption))))⟩
              case measure => simp [intOf]; omega
            · obtain rfl : j = 4 := by omega
              have vta0 := (hb.cells _ _ (cell_lt vta0)).trans vta0
              have vta1 := (hb.cells _ _ (cell_lt vta1)).trans vta1
              have vta2 := (hb.cells _ _ (cell_lt vta2)).trans vta2
              have vta3 := (hb.cells _ _ (cell_lt vta3)).trans vta3
              have vtb0 := (hb.cells _ _ (cell_lt vtb0)).trans vtb0
              have vtb1 := (hb.cells _ _ (cell_lt vtb1)).trans vtb1
              have vtb2 := (hb.cells _ _ (cell_lt vtb2)).trans vtb2
              have vtb3 := (hb.cells _ _ (cell_lt vtb3)).trans vtb3
              have vtd0 := (hb.cells _ _ (cell_lt vtd0)).trans vtd0
              have vtd1 := (hb.cells _ _ (cell_lt vtd1)).trans vtd1
              have vtd2 := (hb.cells _ _ (cell_lt vtd2)).trans vtd2
              have vtd3 := (hb.cells _ _ (cell_lt vtd3)).trans vtd3
              have vte0 := (hb.cells _ _ (cell_lt vte0)).trans vte0
              have vte1 := (hb.cells _ _ (cell_lt vte1)).trans vte1
              have vte2 := (hb.cells _ _ (cell_lt vte2)).trans vte2
              have vte3 := (hb.cells _ _ (cell_lt vte3)).trans vte3
              have vtf0 := (hb.cells _ _ (cell_lt vtf0)).trans vtf0
              have vtf1 := (hb.cells _ _ (cell_lt vtf1)).trans vtf1
              have vtf2 := (hb.cells _ _ (cell_lt vtf2)).trans vtf2
              have vtf3 := (hb.cells _ _ (cell_lt vtf3)).trans vtf3
              have hUr := hUl.trans hb
              go_wp2_with fail
              go_ret
              exact ⟨ret_bool (by first | rfl | (simp; done)), by (repeat' (first | with_reducible exact Up.refl _ | with_reducible assumption | with_reducible refine Up.alloc ?_ _ | with_reducible refine Up.drew ?_ | with_reducible refine Up.drewN ?_ _ | with_reducible refine Up.setCell ?_ (by (try simp only [World.size_alloc, World.size_setCell, World.heap_drewN, World.size_drew]); omega) _ | (with_reducible refine Up.trans ?_ (by with_reducible assumption))))⟩
        · have hcF : isFaceB a7 b7 c7 d7 = false := by simpa using hcF
          go_wp2_with (first
            | (go_at_call 63; refine (i_CornersOf_no _ _ _ _ hcF _).mono ?_; rintro e w8 ⟨rfl, hu8⟩; obtain ⟨N8, J8, JF8, ha8, hb8, hz8, hc8, hf8⟩ := hu8.facts; (try simp only [World.size_alloc, World.size_setCell, World.heap_drewN, World.size_drew] at ha8 hb8); (try simp only [cell_drewI] at hc8); (try simp only [frz_drewI] at hf8))
            | (go_at_call 64; refine (s_CornersOf_no _ _ _ _ hcF _).mono ?_; rintro e w9 ⟨rfl, hu9⟩; obtain ⟨N9, J9, JF9, ha9, hb9, hz9, hc9, hf9⟩ := hu9.facts; (try simp only [World.size_alloc, World.size_setCell, World.heap_drewN, World.size_drew] at ha9 hb9); (try simp only [cell_drewI] at hc9); (try simp only [frz_drewI] at hf9))
            | (go_at_call 65; refine (l_likePoints _ _ 0 _ _ (fun _ => 0) _ (RdF.zero _ _ _) (RdF.zero _ _ _) (by omega)).mono ?_; rintro e wl ⟨rfl, hul⟩; (have hu6 := hul); obtain ⟨N6, J6, JF6, ha6, hb6, hz6, hc6, hf6⟩ := hu6.facts; (try simp only [World.size_alloc, World.size_setCell, World.heap_drewN, World.size_drew] at ha6 hb6); (try simp only [cell_drewI] at hc6); (try simp only [frz_drewI] at hf6)))
          have hX : Up W2 wl := by (repeat' (first | with_reducible exact Up.refl _ | with_reducible assumption | with_reducible refine Up.alloc ?_ _ | with_reducible refine Up.drew ?_ | with_reducible refine Up.drewN ?_ _ | with_reducible refine Up.setCell ?_ (by (try simp only [World.size_alloc, World.size_setCell, World.heap_drewN, World.size_drew]); omega) _ | (with_reducible refine Up.trans ?_ (by with_reducible assumption))))
          have hUl : Up w wl := hU2.trans hX
          have vta0 := (hX.cells _ _ (cell_lt vta0)).trans vta0
          have vta1 := (hX.cells _ _ (cell_lt vta1)).trans vta1
          have vta2 := (hX.cells _ _ (cell_lt vta2)).trans vta2
          have vta3 := (hX.cells _ _ (cell_lt vta3)).trans vta3
          have vtb0 := (hX.cells _ _ (cell_lt vtb0)).trans vtb0
          have vtb1 := (hX.cells _ _ (cell_lt vtb1)).trans vtb1
          have vtb2 := (hX.cells _ _ (cell_lt vtb2)).trans vtb2
          have vtb3 := (hX.cells _ _ (cell_lt vtb3)).trans vtb3
          have vtd0 := (hX.cells _ _ (cell_lt vtd0)).trans vtd0
          have vtd1 := (hX.cells _ _ (cell_lt vtd1)).trans vtd1
          have vtd2 := (hX.cells _ _ (cell_lt vtd2)).trans vtd2
          have vtd3 := (hX.cells _ _ (cell_lt vtd3)).trans vtd3
          have vte0 := (hX.cells _ _ (cell_lt vte0)).trans vte0
          have vte1 := (hX.cells _ _ (cell_lt vte1)).trans vte1
          have vte2 := (hX.cells _ _ (cell_lt vte2)).trans vte2
          have vte3 := (hX.cells _ _ (cell_lt vte3)).trans vte3
          have vtf0 := (hX.cells _ _ (cell_lt vtf0)).trans vtf0
          have vtf1 := (hX.cells _ _ (cell_lt vtf1)).trans vtf1
          have vtf2 := (hX.cells _ _ (cell_lt vtf2)).trans vtf2
          have vtf3 := (hX.cells _ _ (cell_lt vtf3)).trans vtf3
          clear hu8 ha8 hb8 hc8 hf8 hu9 ha9 hb9 hc9 hf9 hu6 ha6 hb6 hc6 hf6 hul
          go_loopw [20] (fun i wr => i = .int .i64 0 ∧ Up wl wr) (fun _ _ => 0)
          case atStart => exact ⟨rfl, Up.refl _⟩
          case round =>
            obtain ⟨rfl, hb⟩ := hrel
            have vta0 := (hb.cells _ _ (cell_lt vta0)).trans vta0
            have vta1 := (hb.cells _ _ (cell_lt vta1)).trans vta1
            have vta2 := (hb.cells _ _ (cell_lt vta2)).trans vta2
            have vta3 := (hb.cells _ _ (cell_lt vta3)).trans vta3
            have vtb0 := (hb.cells _ _ (cell_lt vtb0)).trans vtb0
            have vtb1 := (hb.cells _ _ (cell_lt vtb1)).trans vtb1
            have vtb2 := (hb.cells _ _ (cell_lt vtb2)).trans vtb2
            have vtb3 := (hb.cells _ _ (cell_lt vtb3)).trans vtb3
            have vtd0 := (hb.cells _ _ (cell_lt vtd0)).trans vtd0
            have vtd1 := (hb.cells _ _ (cell_lt vtd1)).trans vtd1
            have vtd2 := (hb.cells _ _ (cell_lt vtd2)).trans vtd2
            have vtd3 := (hb.cells _ _ (cell_lt vtd3)).trans vtd3
            have vte0 := (hb.cells _ _ (cell_lt vte0)).trans vte0
            have vte1 := (hb.cells _ _ (cell_lt vte1)).trans vte1
            have vte2 := (hb.cells _ _ (cell_lt vte2)).trans vte2
            have vte3 := (hb.cells _ _ (cell_lt vte3)).trans vte3
            have vtf0 := (hb.cells _ _ (cell_lt vtf0)).trans vtf0
            have vtf1 := (hb.cells _ _ (cell_lt vtf1)).trans vtf1
            have vtf2 := (hb.cells _ _ (cell_lt vtf2)).trans vtf2
            have vtf3 := (hb.cells _ _ (cell_lt vtf3)).trans vtf3
            have hUr := hUl.trans hb
            go_wp2_with fail
            go_ret
            exact ⟨ret_bool (by first | rfl | (simp; done)), by (repeat' (first | with_reducible exact Up.refl _ | with_reducible assumption | with_reducible refine Up.alloc ?_ _ | with_reducible refine Up.drew ?_ | with_reducible refine Up.drewN ?_ _ | with_reducible refine Up.setCell ?_ (by (try simp only [World.size_alloc, World.size_setCell, World.heap_drewN, World.size_drew]); omega) _ | (with_reducible refine Up.trans ?_ (by with_reducible assumption))))⟩
  · have g0 : decide (4096 < (n : Int)) = true := by simp; omega
    go_enter Try.func11, Try.ntmps11
    go_wp2_with (go_at_call 18; refine (l_big _ _ _ _ hm).mono ?_; rintro e w' ⟨rfl, rfl⟩)
    go_ret
    exact ⟨rfl, Up.refl _⟩
end Go.Proofs.Ytffkcgdgiggfoaa
