import Derived.Test.YtffkcgdgiggfoaaFace
/- FaceAround, CornersOf. -/
namespace Go.Proofs.Ytffkcgdgiggfoaa
set_option linter.unusedSimpArgs false
set_option linter.unusedVariables false
open Go.RowKit
attribute [local go_sem] cell_allocI frz_allocI later_cell later_frz

def faceAround (a b c d m : Int) : Int × Int × Int × Int × Int :=
  if isPlaceB a b c d = false then (0, 0, 0, 0, 1) else if inB m 1 1000000 = false then (0, 0, 0, 0, 2)
  else if isFaceB (a - m) (c - m) (b + m) (d + m) = false then (0, 0, 0, 0, 3) else (a - m, c - m, b + m, d + m, 0)
set_option maxHeartbeats 1000000 in
theorem i_FaceAround (a b c d m : Int) (w : World) :
    Calls Try.prog 57 #[.agg #[.int .i64 a, .int .i64 b, .int .i64 c, .int .i64 d], .int .i64 m] w fun e w' => e = .returned (.tuple #[.agg #[.int .i64 (faceAround a b c d m).1, .int .i64 (faceAround a b c d m).2.1, .int .i64 (faceAround a b c d m).2.2.1, .int .i64 (faceAround a b c d m).2.2.2.1], .int .i64 (faceAround a b c d m).2.2.2.2]) ∧ Up w w' := by
  by_cases h1 : isPlaceB a b c d = true
  · by_cases h2 : inB m 1 1000000 = true
    · obtain ⟨p1, p2, p3, p4, p5, p6⟩ := isPlaceB_iff.1 h1
      obtain ⟨q1, q2⟩ := inB_iff.1 h2
      by_cases h3 : isFaceB (a - m) (c - m) (b + m) (d + m) = true
      all_goals
        go_enter Try.func57, Try.ntmps57
        go_wp2_with (first
          | (go_at_call 79; refine (i_IsPlace _ _ _ _ _).mono ?_; rintro e wn ⟨rfl, hu⟩; obtain ⟨N, J, JF, hn1, hn2, hz, hc, hf⟩ := hu.facts; (try simp only [World.size_alloc, World.size_setCell, World.heap_drewN, World.size_drew] at hn1 hn2))
          | (go_at_call 80; refine (i_in _ _ _ _).mono ?_; rintro e w' ⟨rfl, rfl⟩)
          | (go_at_call 122; refine (i_IsFace _ _ _ _ _).mono ?_; rintro e wn ⟨rfl, hu⟩; obtain ⟨N, J, JF, hn1, hn2, hz, hc, hf⟩ := hu.facts; (try simp only [World.size_alloc, World.size_setCell, World.heap_drewN, World.size_drew] at hn1 hn2)))
        refine ret_agg4t Try.results57 rfl Try.underlying49 rfl (by kernel_rfl) rfl (by simp [isSome_setCell, cell_allocI, ↓IntWalk.iteOmega, *]) (by simp [isSome_setCell, cell_allocI, ↓IntWalk.iteOmega, *]) (by simp [isSome_setCell, cell_allocI, ↓IntWalk.iteOmega, *]) (by simp [isSome_setCell, cell_allocI, ↓IntWalk.iteOmega, *]) ⟨?_, ?_⟩
        · simp [faceAround, h1, h2, h3]
        (repeat' (first | with_reducible exact Up.refl _ | with_reducible assumption | with_reducible refine Up.alloc ?_ _ | with_reducible refine Up.drew ?_ | with_reducible refine Up.drewN ?_ _ | with_reducible refine Up.setCell ?_ (by (try simp only [World.size_alloc, World.size_setCell, World.heap_drewN, World.size_drew]); omega) _ | (with_reducible refine Up.trans ?_ (by with_reducible assumption))))
    · have h2 : inB m 1 1000000 = false := by simpa using h2
      go_enter Try.func57, Try.ntmps57
      go_wp2_with (first
          | (go_at_call 79; refine (i_IsPlace _ _ _ _ _).mono ?_; rintro e wn ⟨rfl, hu⟩; obtain ⟨N, J, JF, hn1, hn2, hz, hc, hf⟩ := hu.facts; (try simp only [World.size_alloc, World.size_setCell, World.heap_drewN, World.size_drew] at hn1 hn2))
          | (go_at_call 80; refine (i_in _ _ _ _).mono ?_; rintro e w' ⟨rfl, rfl⟩)
          | (go_at_call 122; refine (i_IsFace _ _ _ _ _).mono ?_; rintro e wn ⟨rfl, hu⟩; obtain ⟨N, J, JF, hn1, hn2, hz, hc, hf⟩ := hu.facts; (try simp only [World.size_alloc, World.size_setCell, World.heap_drewN, World.size_drew] at hn1 hn2)))
      refine ret_agg4t Try.results57 rfl Try.underlying49 rfl (by kernel_rfl) rfl (by simp [isSome_setCell, cell_allocI, ↓IntWalk.iteOmega, *]) (by simp [isSome_setCell, cell_allocI, ↓IntWalk.iteOmega, *]) (by simp [isSome_setCell, cell_allocI, ↓IntWalk.iteOmega, *]) (by simp [isSome_setCell, cell_allocI, ↓IntWalk.iteOmega, *]) ⟨?_, ?_⟩
      · simp [faceAround, h1, h2]
      (repeat' (first | with_reducible exact Up.refl _ | with_reducible assumption | with_reducible refine Up.alloc ?_ _ | with_reducible refine Up.drew ?_ | with_reducible refine Up.drewN ?_ _ | with_reducible refine Up.setCell ?_ (by (try simp only [World.size_alloc, World.size_setCell, World.heap_drewN, World.size_drew]); omega) _ | (with_reducible refine Up.trans ?_ (by with_reducible assumption))))
  · have h1 : isPlaceB a b c d = false := by simpa using h1
    go_enter Try.func57, Try.ntmps57
    go_wp2_with (first
          | (go_at_call 79; refine (i_IsPlace _ _ _ _ _).mono ?_; rintro e wn ⟨rfl, hu⟩; obtain ⟨N, J, JF, hn1, hn2, hz, hc, hf⟩ := hu.facts; (try simp only [World.size_alloc, World.size_setCell, World.heap_drewN, World.size_drew] at hn1 hn2))
          | (go_at_call 80; refine (i_in _ _ _ _).mono ?_; rintro e w' ⟨rfl, rfl⟩)
          | (go_at_call 122; refine (i_IsFace _ _ _ _ _).mono ?_; rintro e wn ⟨rfl, hu⟩; obtain ⟨N, J, JF, hn1, hn2, hz, hc, hf⟩ := hu.facts; (try simp only [World.size_alloc, World.size_setCell, World.heap_drewN, World.size_drew] at hn1 hn2)))
    refine ret_agg4t Try.results57 rfl Try.underlying49 rfl (by kernel_rfl) rfl (by simp [isSome_setCell, cell_allocI, ↓IntWalk.iteOmega, *]) (by simp [isSome_setCell, cell_allocI, ↓IntWalk.iteOmega, *]) (by simp [isSome_setCell, cell_allocI, ↓IntWalk.iteOmega, *]) (by simp [isSome_setCell, cell_allocI, ↓IntWalk.iteOmega, *]) ⟨?_, ?_⟩
    · simp [faceAround, h1]
    (repeat' (first | with_reducible exact Up.refl _ | with_reducible assumption | with_reducible refine Up.alloc ?_ _ | with_reducible refine Up.drew ?_ | with_reducible refine Up.drewN ?_ _ | with_reducible refine Up.setCell ?_ (by (try simp only [World.size_alloc, World.size_setCell, World.heap_drewN, World.size_drew]); omega) _ | (with_reducible refine Up.trans ?_ (by with_reducible assumption))))
set_option maxHeartbeats 1000000 in
theorem s_FaceAround (a b c d m : Int) (w : World) :
    Calls Try.prog 58 #[.agg #[.int .i64 a, .int .i64 b, .int .i64 c, .int .i64 d], .int .i64 m] w fun e w' => e = .returned (.tuple #[.agg #[.int .i64 (faceAround a b c d m).1, .int .i64 (faceAround a b c d m).2.1, .int .i64 (faceAround a b c d m).2.2.1, .int .i64 (faceAround a b c d m).2.2.2.1], .int .i64 (faceAround a b c d m).2.2.2.2]) ∧ Up w w' := by
  by_cases h1 : isPlaceB a b c d = true
  · by_cases h2 : inB m 1 1000000 = true
    · obtain ⟨p1, p2, p3, p4, p5, p6⟩ := isPlaceB_iff.1 h1
      obtain ⟨q1, q2⟩ := inB_iff.1 h2
      by_cases h3 : isFaceB (a - m) (c - m) (b + m) (d + m) = true
      all_goals
        go_enter Try.func58, Try.ntmps58
        go_wp2_with (first
          | (go_at_call 82; refine (s_IsPlace _ _ _ _ _).mono ?_; rintro e wn ⟨rfl, hu⟩; obtain ⟨N, J, JF, hn1, hn2, hz, hc, hf⟩ := hu.facts; (try simp only [World.size_alloc, World.size_setCell, World.heap_drewN, World.size_drew] at hn1 hn2))
          | (go_at_call 83; refine (s_l01In _ _ _ _).mono ?_; rintro e w' ⟨rfl, rfl⟩)
          | (go_at_call 123; refine (s_IsFace _ _ _ _ _).mono ?_; rintro e wn ⟨rfl, hu⟩; obtain ⟨N, J, JF, hn1, hn2, hz, hc, hf⟩ := hu.facts; (try simp only [World.size_alloc, World.size_setCell, World.heap_drewN, World.size_drew] at hn1 hn2)))
        refine ret_agg4t Try.results58 rfl Try.underlying49 rfl (by kernel_rfl) rfl (by simp [isSome_setCell, cell_allocI, ↓IntWalk.iteOmega, *]) (by simp [isSome_setCell, cell_allocI, ↓IntWalk.iteOmega, *]) (by simp [isSome_setCell, cell_allocI, ↓IntWalk.iteOmega, *]) (by simp [isSome_setCell, cell_allocI, ↓IntWalk.iteOmega, *]) ⟨?_, ?_⟩
        · simp [faceAround, h1, h2, h3]
        (repeat' (first | with_reducible exact Up.refl _ | with_reducible assumption | with_reducible refine Up.alloc ?_ _ | with_reducible refine Up.drew ?_ | with_reducible refine Up.drewN ?_ _ | with_reducible refine Up.setCell ?_ (by (try simp only [World.size_alloc, World.size_setCell, World.heap_drewN, World.size_drew]); omega) _ | (with_reducible refine Up.trans ?_ (by with_reducible assumption))))
    · have h2 : inB m 1 1000000 = false := by simpa using h2
      go_enter Try.func58, Try.ntmps58
      go_wp2_with (first
          | (go_at_call 82; refine (s_IsPlace _ _ _ _ _).mono ?_; rintro e wn ⟨rfl, hu⟩; obtain ⟨N, J, JF, hn1, hn2, hz, hc, hf⟩ := hu.facts; (try simp only [World.size_alloc, World.size_setCell, World.heap_drewN, World.size_drew] at hn1 hn2))
          | (go_at_call 83; refine (s_l01In _ _ _ _).mono ?_; rintro e w' ⟨rfl, rfl⟩)
          | (go_at_call 123; refine (s_IsFace _ _ _ _ _).mono ?_; rintro e wn ⟨rfl, hu⟩; obtain ⟨N, J, JF, hn1, hn2, hz, hc, hf⟩ := hu.facts; (try simp only [World.size_alloc, World.size_setCell, World.heap_drewN, World.size_drew] at hn1 hn2)))
      refine ret_agg4t Try.results58 rfl Try.underlying49 rfl (by kernel_rfl) rfl (by simp [isSome_setCell, cell_allocI, ↓IntWalk.iteOmega, *]) (by simp [isSome_setCell, cell_allocI, ↓IntWalk.iteOmega, *]) (by simp [isSome_setCell, cell_allocI, ↓IntWalk.iteOmega, *]) (by simp [isSome_setCell, cell_allocI, ↓IntWalk.iteOmega, *]) ⟨?_, ?_⟩
      · simp [faceAround, h1, h2]
      (repeat' (first | with_reducible exact Up.refl _ | with_reducible assumption | with_reducible refine Up.alloc ?_ _ | with_reducible refine Up.drew ?_ | with_reducible refine Up.drewN ?_ _ | with_reducible refine Up.setCell ?_ (by (try simp only [World.size_alloc, World.size_setCell, World.heap_drewN, World.size_drew]); omega) _ | (with_reducible refine Up.trans ?_ (by with_reducible assumption))))
  · have h1 : isPlaceB a b c d = false := by simpa using h1
    go_enter Try.func58, Try.ntmps58
    go_wp2_with (first
          | (go_at_call 82; refine (s_IsPlace _ _ _ _ _).mono ?_; rintro e wn ⟨rfl, hu⟩; obtain ⟨N, J, JF, hn1, hn2, hz, hc, hf⟩ := hu.facts; (try simp only [World.size_alloc, World.size_setCell, World.heap_drewN, World.size_drew] at hn1 hn2))
          | (go_at_call 83; refine (s_l01In _ _ _ _).mono ?_; rintro e w' ⟨rfl, rfl⟩)
          | (go_at_call 123; refine (s_IsFace _ _ _ _ _).mono ?_; rintro e wn ⟨rfl, hu⟩; obtain ⟨N, J, JF, hn1, hn2, hz, hc, hf⟩ := hu.facts; (try simp only [World.size_alloc, World.size_setCell, World.heap_drewN, World.size_drew] at hn1 hn2)))
    refine ret_agg4t Try.results58 rfl Try.underlying49 rfl (by kernel_rfl) rfl (by simp [isSome_setCell, cell_allocI, ↓IntWalk.iteOmega, *]) (by simp [isSome_setCell, cell_allocI, ↓IntWalk.iteOmega, *]) (by simp [isSome_setCell, cell_allocI, ↓IntWalk.iteOmega, *]) (by simp [isSome_setCell, cell_allocI, ↓IntWalk.iteOmega, *]) ⟨?_, ?_⟩
    · simp [faceAround, h1]
    (repeat' (first | with_reducible exact Up.refl _ | with_reducible assumption | with_reducible refine Up.alloc ?_ _ | with_reducible refine Up.drew ?_ | with_reducible refine Up.drewN ?_ _ | with_reducible refine Up.setCell ?_ (by (try simp only [World.size_alloc, World.size_setCell, World.heap_drewN, World.size_drew]); omega) _ | (with_reducible refine Up.trans ?_ (by with_reducible assumption))))
def cornersF (a b c d : Int) (i : Nat) : Int := match i with | 0 => a | 1 => b | 2 => c | 3 => b | 4 => c | 5 => d | 6 => a | _ => d
theorem i_CornersOf_no (a b c d : Int) (h : isFaceB a b c d = false) (w : World) :
    Calls Try.prog 63 #[.agg #[.int .i64 a, .int .i64 b, .int .i64 c, .int .i64 d]] w fun e w' => e = .returned (.tuple #[.slice none 0 0, .int .i64 1]) ∧ Up w w' := by
  go_enter Try.func63, Try.ntmps63
  go_wp2_with (go_at_call 122; refine (i_IsFace _ _ _ _ _).mono ?_; rintro e wn ⟨rfl, hu⟩; obtain ⟨N, J, JF, hn1, hn2, hz, hc, hf⟩ := hu.facts; (try simp only [World.size_alloc, World.size_setCell, World.heap_drewN, World.size_drew] at hn1 hn2))
  go_ret2
  refine ⟨rfl, ?_⟩
  (repeat' (first | with_reducible exact Up.refl _ | with_reducible assumption | with_reducible refine Up.alloc ?_ _ | with_reducible refine Up.drew ?_ | with_reducible refine Up.drewN ?_ _ | with_reducible refine Up.setCell ?_ (by (try simp only [World.size_alloc, World.size_setCell, World.heap_drewN, World.size_drew]); omega) _ | (with_reducible refine Up.trans ?_ (by with_reducible assumption))))
theorem i_CornersOf_yes (a b c d : Int) (h : isFaceB a b c d = true) (w : World) :
    Calls Try.prog 63 #[.agg #[.int .i64 a, .int .i64 b, .int .i64 c, .int .i64 d]] w fun e w' => ∃ g, e = .returned (.tuple #[.slice (some ⟨g, 0, none⟩) 4 4, .int .i64 0]) ∧ w.heap.size ≤ g ∧ Filled w' g 70 8 8 (fun i => .int .i64 (cornersF a b c d i)) ∧ Up w w' := by
  go_enter Try.func63, Try.ntmps63
  go_wp2_with (go_at_call 122; refine (i_IsFace _ _ _ _ _).mono ?_; rintro e wn ⟨rfl, hu⟩; obtain ⟨N, J, JF, hn1, hn2, hz, hc, hf⟩ := hu.facts; (try simp only [World.size_alloc, World.size_setCell, World.heap_drewN, World.size_drew] at hn1 hn2))
  go_ret2
  refine ⟨wn.heap.size, rfl, by omega, ?_, ?_⟩
  · refine (Filled.new wn 70 [.int .i64 a, .int .i64 b, .int .i64 c, .int .i64 b, .int .i64 c, .int .i64 d, .int .i64 a, .int .i64 d]).congr (fun k hk => ?_)
    match k, hk with
    | 0, _ => rfl
    | 1, _ => rfl
    | 2, _ => rfl
    | 3, _ => rfl
    | 4, _ => rfl
    | 5, _ => rfl
    | 6, _ => rfl
    | 7, _ => rfl
    | n + 8, h => exact absurd h (by simp)
  (repeat' (first | with_reducible exact Up.refl _ | with_reducible assumption | with_reducible refine Up.alloc ?_ _ | with_reducible refine Up.drew ?_ | with_reducible refine Up.drewN ?_ _ | with_reducible refine Up.setCell ?_ (by (try simp only [World.size_alloc, World.size_setCell, World.heap_drewN, World.size_drew]); omega) _ | (with_reducible refine Up.trans ?_ (by with_reducible assumption))))
theorem s_CornersOf_no (a b c d : Int) (h : isFaceB a b c d = false) (w : World) :
    Calls Try.prog 64 #[.agg #[.int .i64 a, .int .i64 b, .int .i64 c, .int .i64 d]] w fun e w' => e = .returned (.tuple #[.slice none 0 0, .int .i64 1]) ∧ Up w w' := by
  go_enter Try.func64, Try.ntmps64
  go_wp2_with (go_at_call 123; refine (s_IsFace _ _ _ _ _).mono ?_; rintro e wn ⟨rfl, hu⟩; obtain ⟨N, J, JF, hn1, hn2, hz, hc, hf⟩ := hu.facts; (try simp only [World.size_alloc, World.size_setCell, World.heap_drewN, World.size_drew] at hn1 hn2))
  go_ret2
  refine ⟨rfl, ?_⟩
  (repeat' (first | with_reducible exact Up.refl _ | with_reducible assumption | with_reducible refine Up.alloc ?_ _ | with_reducible refine Up.drew ?_ | with_reducible refine Up.drewN ?_ _ | with_reducible refine Up.setCell ?_ (by (try simp only [World.size_alloc, World.size_setCell, World.heap_drewN, World.size_drew]); omega) _ | (with_reducible refine Up.trans ?_ (by with_reducible assumption))))
theorem s_CornersOf_yes (a b c d : Int) (h : isFaceB a b c d = true) (w : World) :
    Calls Try.prog 64 #[.agg #[.int .i64 a, .int .i64 b, .int .i64 c, .int .i64 d]] w fun e w' => ∃ g, e = .returned (.tuple #[.slice (some ⟨g, 0, none⟩) 4 4, .int .i64 0]) ∧ w.heap.size ≤ g ∧ Filled w' g 70 8 8 (fun i => .int .i64 (cornersF a b c d i)) ∧ Up w w' := by
  go_enter Try.func64, Try.ntmps64
  go_wp2_with (go_at_call 123; refine (s_IsFace _ _ _ _ _).mono ?_; rintro e wn ⟨rfl, hu⟩; obtain ⟨N, J, JF, hn1, hn2, hz, hc, hf⟩ := hu.facts; (try simp only [World.size_alloc, World.size_setCell, World.heap_drewN, World.size_drew] at hn1 hn2))
  go_ret2
  refine ⟨wn.heap.size, rfl, by omega, ?_, ?_⟩
  · refine (Filled.new wn 70 [.int .i64 a, .int .i64 b, .int .i64 c, .int .i64 b, .int .i64 c, .int .i64 d, .int .i64 a, .int .i64 d]).congr (fun k hk => ?_)
    match k, hk with
    | 0, _ => rfl
    | 1, _ => rfl
    | 2, _ => rfl
    | 3, _ => rfl
    | 4, _ => rfl
    | 5, _ => rfl
    | 6, _ => rfl
    | 7, _ => rfl
    | n + 8, h => exact absurd h (by simp)
  (repeat' (first | with_reducible exact Up.refl _ | with_reducible assumption | with_reducible refine Up.alloc ?_ _ | with_reducible refine Up.drew ?_ | with_reducible refine Up.drewN ?_ _ | with_reducible refine Up.setCell ?_ (by (try simp only [World.size_alloc, World.size_setCell, World.heap_drewN, World.size_drew]); omega) _ | (with_reducible refine Up.trans ?_ (by with_reducible assumption))))
end Go.Proofs.Ytffkcgdgiggfoaa
