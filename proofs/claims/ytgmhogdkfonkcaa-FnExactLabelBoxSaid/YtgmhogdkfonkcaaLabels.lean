import Derived.Test.YtgmhogdkfonkcaaFace
/- Labels and their boxes: the contracts. -/
namespace Go.Proofs.Ytgmhogdkfonkcaa
set_option linter.unusedSimpArgs false
set_option linter.unusedVariables false
open Go.RowKit
attribute [local go_sem] cell_allocI frz_allocI later_cell later_frz
attribute [local go_sem] cell_setI cell_drewI frz_drewI
/-- the box of a label of n bytes at (x, y) in position k -/
def boxX (n : Nat) (x k : Int) : Int := if k = 1 ∨ k = 2 then x - 6 * n else x
def boxY (y k : Int) : Int := if 2 ≤ k then y - 10 else y
def boxCode (n : Nat) (x y k : Int) : Int := if isLabelB n x y then (if inB k 0 3 then (if isFaceB (boxX n x k) (boxY y k) (boxX n x k + 6 * n) (boxY y k + 10) then 0 else 3) else 2) else 1
theorem inB4 {k : Int} (h : inB k 0 3 = true) : k = 0 ∨ k = 1 ∨ k = 2 ∨ k = 3 := by simp [inB] at h; omega
theorem s_l19Box (s : ByteArray) (x y k : Int) (h1 : s.size ≤ 8) (h2 : -1000000 ≤ x) (h3 : x ≤ 1000000) (h4 : -1000000 ≤ y) (h5 : y ≤ 1000000) (hk : inB k 0 3 = true) (w : World) :
    Calls Try.prog 46 #[.agg #[.string s, .int .i64 x, .int .i64 y], .int .i64 k] w fun e w' => e = .returned (.agg #[.int .i64 (boxX s.size x k), .int .i64 (boxY y k), .int .i64 (boxX s.size x k + 6 * s.size), .int .i64 (boxY y k + 10)]) ∧ Up w w' := by
  have hk := inB4 hk
  rcases hk with rfl | rfl | rfl | rfl
  all_goals
    go_enter Try.func46, Try.ntmps46
    go_wp2
    go_quiet (fail)
    go_wp2
    refine ret_agg4 Try.results46 rfl Try.underlying28 rfl (by kernel_rfl) rfl (by simp [isSome_setCell, cell_setI, cell_drewI, cell_allocI, ↓IntWalk.iteOmega, *]) (by simp [isSome_setCell, cell_setI, cell_drewI, cell_allocI, ↓IntWalk.iteOmega, *]) (by simp [isSome_setCell, cell_setI, cell_drewI, cell_allocI, ↓IntWalk.iteOmega, *]) (by simp [isSome_setCell, cell_setI, cell_drewI, cell_allocI, ↓IntWalk.iteOmega, *]) ⟨?_, ?_⟩
    · simp [boxX, boxY] <;> omega
    (repeat' (first | with_reducible exact Up.refl _ | with_reducible assumption | with_reducible refine Up.alloc ?_ _ | with_reducible refine Up.drew ?_ | with_reducible refine Up.drewN ?_ _ | with_reducible refine Up.setCell ?_ (by (try simp only [World.size_alloc, World.size_setCell, World.heap_drewN, World.size_drew]); omega) _ | (with_reducible refine Up.trans ?_ (by with_reducible assumption))))
theorem im_Label_box (s : ByteArray) (x y k : Int) (h1 : s.size ≤ 8) (h2 : -1000000 ≤ x) (h3 : x ≤ 1000000) (h4 : -1000000 ≤ y) (h5 : y ≤ 1000000) (hk : inB k 0 3 = true) (w : World) :
    Calls Try.prog 51 #[.agg #[.string s, .int .i64 x, .int .i64 y], .int .i64 k] w fun e w' => e = .returned (.agg #[.int .i64 (boxX s.size x k), .int .i64 (boxY y k), .int .i64 (boxX s.size x k + 6 * s.size), .int .i64 (boxY y k + 10)]) ∧ Up w w' := by
  have hk := inB4 hk
  rcases hk with rfl | rfl | rfl | rfl
  all_goals
    go_enter Try.func51, Try.ntmps51
    go_wp2
    go_quiet (fail)
    go_wp2
    refine ret_agg4 Try.results51 rfl Try.underlying28 rfl (by kernel_rfl) rfl (by simp [isSome_setCell, cell_setI, cell_drewI, cell_allocI, ↓IntWalk.iteOmega, *]) (by simp [isSome_setCell, cell_setI, cell_drewI, cell_allocI, ↓IntWalk.iteOmega, *]) (by simp [isSome_setCell, cell_setI, cell_drewI, cell_allocI, ↓IntWalk.iteOmega, *]) (by simp [isSome_setCell, cell_setI, cell_drewI, cell_allocI, ↓IntWalk.iteOmega, *]) ⟨?_, ?_⟩
    · simp [boxX, boxY] <;> omega
    (repeat' (first | with_reducible exact Up.refl _ | with_reducible assumption | with_reducible refine Up.alloc ?_ _ | with_reducible refine Up.drew ?_ | with_reducible refine Up.drewN ?_ _ | with_reducible refine Up.setCell ?_ (by (try simp only [World.size_alloc, World.size_setCell, World.heap_drewN, World.size_drew]); omega) _ | (with_reducible refine Up.trans ?_ (by with_reducible assumption))))
/-- what LabelBox returns -/
def boxR (n : Nat) (x y k : Int) : Value := if isLabelB n x y then (if inB k 0 3 then (if isFaceB (boxX n x k) (boxY y k) (boxX n x k + 6 * n) (boxY y k + 10) then .tuple #[.agg #[.int .i64 (boxX n x k), .int .i64 (boxY y k), .int .i64 (boxX n x k + 6 * n), .int .i64 (boxY y k + 10)], .int .i64 0] else .tuple #[.agg #[.int .i64 0, .int .i64 0, .int .i64 0, .int .i64 0], .int .i64 3]) else .tuple #[.agg #[.int .i64 0, .int .i64 0, .int .i64 0, .int .i64 0], .int .i64 2]) else .tuple #[.agg #[.int .i64 0, .int .i64 0, .int .i64 0, .int .i64 0], .int .i64 1]
theorem boxR_shape (n : Nat) (x y k : Int) : ∃ a b c d u, boxR n x y k = .tuple #[.agg #[.int .i64 a, .int .i64 b, .int .i64 c, .int .i64 d], .int .i64 u] := by
  unfold boxR; repeat' split
  all_goals exact ⟨_, _, _, _, _, rfl⟩
set_option maxHeartbeats 1000000 in
theorem s_LabelBox (s : ByteArray) (x y k : Int) (hs : s.size ≤ maxLen) (w : World) :
    Calls Try.prog 12 #[.agg #[.string s, .int .i64 x, .int .i64 y], .int .i64 k] w fun e w' => e = .returned (boxR s.size x y k) ∧ Up w w' := by
  by_cases h1 : isLabelB s.size x y = true
  · by_cases h2 : inB k 0 3 = true
    · by_cases h3 : isFaceB (boxX s.size x k) (boxY y k) (boxX s.size x k + 6 * s.size) (boxY y k + 10) = true
      · obtain ⟨q1, q2, q3, q4, q5, q6⟩ := isLabelB_iff.1 h1
        go_enter Try.func12, Try.ntmps12
        go_wp2_with (first
      | (go_at_call 42; refine (s_IsLabel _ _ _ hs _).mono ?_; rintro e wn ⟨rfl, hu⟩; obtain ⟨N, J, JF, hn1, hn2, hz, hc, hf⟩ := hu.facts; (try simp only [World.size_alloc, World.size_setCell, World.heap_drewN, World.size_drew] at hn1 hn2))
      | (go_at_call 45; refine (s_l01In _ _ _ _).mono ?_; rintro e w' ⟨rfl, rfl⟩)
      | (go_at_call 47; refine (s_IsFace _ _ _ _ _).mono ?_; rintro e wn ⟨rfl, hu⟩; obtain ⟨N, J, JF, hn1, hn2, hz, hc, hf⟩ := hu.facts; (try simp only [World.size_alloc, World.size_setCell, World.heap_drewN, World.size_drew] at hn1 hn2))
      | (go_at_call 46; refine (s_l19Box _ _ _ _ (by omega) (by omega) (by omega) (by omega) (by omega) h2 _).mono ?_; rintro e wn ⟨rfl, hu⟩; obtain ⟨N, J, JF, hn1, hn2, hz, hc, hf⟩ := hu.facts; (try simp only [World.size_alloc, World.size_setCell, World.heap_drewN, World.size_drew] at hn1 hn2)))
        refine ret_agg4t Try.results12 rfl Try.underlying28 rfl (by kernel_rfl) rfl (by simp [isSome_setCell, cell_setI, cell_drewI, cell_allocI, ↓IntWalk.iteOmega, *]) (by simp [isSome_setCell, cell_setI, cell_drewI, cell_allocI, ↓IntWalk.iteOmega, *]) (by simp [isSome_setCell, cell_setI, cell_drewI, cell_allocI, ↓IntWalk.iteOmega, *]) (by simp [isSome_setCell, cell_setI, cell_drewI, cell_allocI, ↓IntWalk.iteOmega, *]) ⟨?_, ?_⟩
        · unfold boxR; simp [h1, h2, h3]
        (repeat' (first | with_reducible exact Up.refl _ | with_reducible assumption | with_reducible refine Up.alloc ?_ _ | with_reducible refine Up.drew ?_ | with_reducible refine Up.drewN ?_ _ | with_reducible refine Up.setCell ?_ (by (try simp only [World.size_alloc, World.size_setCell, World.heap_drewN, World.size_drew]); omega) _ | (with_reducible refine Up.trans ?_ (by with_reducible assumption))))
      · have h3n : isFaceB (boxX s.size x k) (boxY y k) (boxX s.size x k + 6 * s.size) (boxY y k + 10) = false := by simpa using h3
        clear h3
        have h3 := h3n
        clear h3n
        obtain ⟨q1, q2, q3, q4, q5, q6⟩ := isLabelB_iff.1 h1
        go_enter Try.func12, Try.ntmps12
        go_wp2_with (first
      | (go_at_call 42; refine (s_IsLabel _ _ _ hs _).mono ?_; rintro e wn ⟨rfl, hu⟩; obtain ⟨N, J, JF, hn1, hn2, hz, hc, hf⟩ := hu.facts; (try simp only [World.size_alloc, World.size_setCell, World.heap_drewN, World.size_drew] at hn1 hn2))
      | (go_at_call 45; refine (s_l01In _ _ _ _).mono ?_; rintro e w' ⟨rfl, rfl⟩)
      | (go_at_call 47; refine (s_IsFace _ _ _ _ _).mono ?_; rintro e wn ⟨rfl, hu⟩; obtain ⟨N, J, JF, hn1, hn2, hz, hc, hf⟩ := hu.facts; (try simp only [World.size_alloc, World.size_setCell, World.heap_drewN, World.size_drew] at hn1 hn2))
      | (go_at_call 46; refine (s_l19Box _ _ _ _ (by omega) (by omega) (by omega) (by omega) (by omega) h2 _).mono ?_; rintro e wn ⟨rfl, hu⟩; obtain ⟨N, J, JF, hn1, hn2, hz, hc, hf⟩ := hu.facts; (try simp only [World.size_alloc, World.size_setCell, World.heap_drewN, World.size_drew] at hn1 hn2)))
        refine ret_agg4t Try.results12 rfl Try.underlying28 rfl (by kernel_rfl) rfl (by simp [isSome_setCell, cell_setI, cell_drewI, cell_allocI, ↓IntWalk.iteOmega, *]) (by simp [isSome_setCell, cell_setI, cell_drewI, cell_allocI, ↓IntWalk.iteOmega, *]) (by simp [isSome_setCell, cell_setI, cell_drewI, cell_allocI, ↓IntWalk.iteOmega, *]) (by simp [isSome_setCell, cell_setI, cell_drewI, cell_allocI, ↓IntWalk.iteOmega, *]) ⟨?_, ?_⟩
        · unfold boxR; simp [h1, h2, h3]
        (repeat' (first | with_reducible exact Up.refl _ | with_reducible assumption | with_reducible refine Up.alloc ?_ _ | with_reducible refine Up.drew ?_ | with_reducible refine Up.drewN ?_ _ | with_reducible refine Up.setCell ?_ (by (try simp only [World.size_alloc, World.size_setCell, World.heap_drewN, World.size_drew]); omega) _ | (with_reducible refine Up.trans ?_ (by with_reducible assumption))))
    · have h2n : inB k 0 3 = false := by simpa using h2
      clear h2
      have h2 := h2n
      clear h2n
      go_enter Try.func12, Try.ntmps12
      go_wp2_with (first
      | (go_at_call 42; refine (s_IsLabel _ _ _ hs _).mono ?_; rintro e wn ⟨rfl, hu⟩; obtain ⟨N, J, JF, hn1, hn2, hz, hc, hf⟩ := hu.facts; (try simp only [World.size_alloc, World.size_setCell, World.heap_drewN, World.size_drew] at hn1 hn2))
      | (go_at_call 45; refine (s_l01In _ _ _ _).mono ?_; rintro e w' ⟨rfl, rfl⟩)
      | (go_at_call 47; refine (s_IsFace _ _ _ _ _).mono ?_; rintro e wn ⟨rfl, hu⟩; obtain ⟨N, J, JF, hn1, hn2, hz, hc, hf⟩ := hu.facts; (try simp only [World.size_alloc, World.size_setCell, World.heap_drewN, World.size_drew] at hn1 hn2)))
      refine ret_agg4t Try.results12 rfl Try.underlying28 rfl (by kernel_rfl) rfl (by simp [isSome_setCell, cell_setI, cell_drewI, cell_allocI, ↓IntWalk.iteOmega, *]) (by simp [isSome_setCell, cell_setI, cell_drewI, cell_allocI, ↓IntWalk.iteOmega, *]) (by simp [isSome_setCell, cell_setI, cell_drewI, cell_allocI, ↓IntWalk.iteOmega, *]) (by simp [isSome_setCell, cell_setI, cell_drewI, cell_allocI, ↓IntWalk.iteOmega, *]) ⟨?_, ?_⟩
      · unfold boxR; simp [h1, h2]
      (repeat' (first | with_reducible exact Up.refl _ | with_reducible assumption | with_reducible refine Up.alloc ?_ _ | with_reducible refine Up.drew ?_ | with_reducible refine Up.drewN ?_ _ | with_reducible refine Up.setCell ?_ (by (try simp only [World.size_alloc, World.size_setCell, World.heap_drewN, World.size_drew]); omega) _ | (with_reducible refine Up.trans ?_ (by with_reducible assumption))))
  · have h1n : isLabelB s.size x y = false := by simpa using h1
    clear h1
    have h1 := h1n
    clear h1n
    go_enter Try.func12, Try.ntmps12
    go_wp2_with (first
      | (go_at_call 42; refine (s_IsLabel _ _ _ hs _).mono ?_; rintro e wn ⟨rfl, hu⟩; obtain ⟨N, J, JF, hn1, hn2, hz, hc, hf⟩ := hu.facts; (try simp only [World.size_alloc, World.size_setCell, World.heap_drewN, World.size_drew] at hn1 hn2))
      | (go_at_call 45; refine (s_l01In _ _ _ _).mono ?_; rintro e w' ⟨rfl, rfl⟩)
      | (go_at_call 47; refine (s_IsFace _ _ _ _ _).mono ?_; rintro e wn ⟨rfl, hu⟩; obtain ⟨N, J, JF, hn1, hn2, hz, hc, hf⟩ := hu.facts; (try simp only [World.size_alloc, World.size_setCell, World.heap_drewN, World.size_drew] at hn1 hn2)))
    refine ret_agg4t Try.results12 rfl Try.underlying28 rfl (by kernel_rfl) rfl (by simp [isSome_setCell, cell_setI, cell_drewI, cell_allocI, ↓IntWalk.iteOmega, *]) (by simp [isSome_setCell, cell_setI, cell_drewI, cell_allocI, ↓IntWalk.iteOmega, *]) (by simp [isSome_setCell, cell_setI, cell_drewI, cell_allocI, ↓IntWalk.iteOmega, *]) (by simp [isSome_setCell, cell_setI, cell_drewI, cell_allocI, ↓IntWalk.iteOmega, *]) ⟨?_, ?_⟩
    · unfold boxR; simp [h1]
    (repeat' (first | with_reducible exact Up.refl _ | with_reducible assumption | with_reducible refine Up.alloc ?_ _ | with_reducible refine Up.drew ?_ | with_reducible refine Up.drewN ?_ _ | with_reducible refine Up.setCell ?_ (by (try simp only [World.size_alloc, World.size_setCell, World.heap_drewN, World.size_drew]); omega) _ | (with_reducible refine Up.trans ?_ (by with_reducible assumption))))
set_option maxHeartbeats 1000000 in
theorem i_LabelBox (s : ByteArray) (x y k : Int) (hs : s.size ≤ maxLen) (w : World) :
    Calls Try.prog 14 #[.agg #[.string s, .int .i64 x, .int .i64 y], .int .i64 k] w fun e w' => e = .returned (boxR s.size x y k) ∧ Up w w' := by
  by_cases h1 : isLabelB s.size x y = true
  · by_cases h2 : inB k 0 3 = true
    · by_cases h3 : isFaceB (boxX s.size x k) (boxY y k) (boxX s.size x k + 6 * s.size) (boxY y k + 10) = true
      · obtain ⟨q1, q2, q3, q4, q5, q6⟩ := isLabelB_iff.1 h1
        go_enter Try.func14, Try.ntmps14
        go_wp2_with (first
      | (go_at_call 41; refine (i_IsLabel _ _ _ hs _).mono ?_; rintro e wn ⟨rfl, hu⟩; obtain ⟨N, J, JF, hn1, hn2, hz, hc, hf⟩ := hu.facts; (try simp only [World.size_alloc, World.size_setCell, World.heap_drewN, World.size_drew] at hn1 hn2))
      | (go_at_call 49; refine (i_in _ _ _ _).mono ?_; rintro e w' ⟨rfl, rfl⟩)
      | (go_at_call 50; refine (i_IsFace _ _ _ _ _).mono ?_; rintro e wn ⟨rfl, hu⟩; obtain ⟨N, J, JF, hn1, hn2, hz, hc, hf⟩ := hu.facts; (try simp only [World.size_alloc, World.size_setCell, World.heap_drewN, World.size_drew] at hn1 hn2))
      | (go_at_call 51; refine (im_Label_box _ _ _ _ (by omega) (by omega) (by omega) (by omega) (by omega) h2 _).mono ?_; rintro e wn ⟨rfl, hu⟩; obtain ⟨N, J, JF, hn1, hn2, hz, hc, hf⟩ := hu.facts; (try simp only [World.size_alloc, World.size_setCell, World.heap_drewN, World.size_drew] at hn1 hn2)))
        refine ret_agg4t Try.results14 rfl Try.underlying28 rfl (by kernel_rfl) rfl (by simp [isSome_setCell, cell_setI, cell_drewI, cell_allocI, ↓IntWalk.iteOmega, *]) (by simp [isSome_setCell, cell_setI, cell_drewI, cell_allocI, ↓IntWalk.iteOmega, *]) (by simp [isSome_setCell, cell_setI, cell_drewI, cell_allocI, ↓IntWalk.iteOmega, *]) (by simp [isSome_setCell, cell_setI, cell_drewI, cell_allocI, ↓IntWalk.iteOmega, *]) ⟨?_, ?_⟩
        · unfold boxR; simp [h1, h2, h3]
        (repeat' (first | with_reducible exact Up.refl _ | with_reducible assumption | with_reducible refine Up.alloc ?_ _ | with_reducible refine Up.drew ?_ | with_reducible refine Up.drewN ?_ _ | with_reducible refine Up.setCell ?_ (by (try simp only [World.size_alloc, World.size_setCell, World.heap_drewN, World.size_drew]); omega) _ | (with_reducible refine Up.trans ?_ (by with_reducible assumption))))
      · have h3n : isFaceB (boxX s.size x k) (boxY y k) (boxX s.size x k + 6 * s.size) (boxY y k + 10) = false := by simpa using h3
        clear h3
        have h3 := h3n
        clear h3n
        obtain ⟨q1, q2, q3, q4, q5, q6⟩ := isLabelB_iff.1 h1
        go_enter Try.func14, Try.ntmps14
        go_wp2_with (first
      | (go_at_call 41; refine (i_IsLabel _ _ _ hs _).mono ?_; rintro e wn ⟨rfl, hu⟩; obtain ⟨N, J, JF, hn1, hn2, hz, hc, hf⟩ := hu.facts; (try simp only [World.size_alloc, World.size_setCell, World.heap_drewN, World.size_drew] at hn1 hn2))
      | (go_at_call 49; refine (i_in _ _ _ _).mono ?_; rintro e w' ⟨rfl, rfl⟩)
      | (go_at_call 50; refine (i_IsFace _ _ _ _ _).mono ?_; rintro e wn ⟨rfl, hu⟩; obtain ⟨N, J, JF, hn1, hn2, hz, hc, hf⟩ := hu.facts; (try simp only [World.size_alloc, World.size_setCell, World.heap_drewN, World.size_drew] at hn1 hn2))
      | (go_at_call 51; refine (im_Label_box _ _ _ _ (by omega) (by omega) (by omega) (by omega) (by omega) h2 _).mono ?_; rintro e wn ⟨rfl, hu⟩; obtain ⟨N, J, JF, hn1, hn2, hz, hc, hf⟩ := hu.facts; (try simp only [World.size_alloc, World.size_setCell, World.heap_drewN, World.size_drew] at hn1 hn2)))
        refine ret_agg4t Try.results14 rfl Try.underlying28 rfl (by kernel_rfl) rfl (by simp [isSome_setCell, cell_setI, cell_drewI, cell_allocI, ↓IntWalk.iteOmega, *]) (by simp [isSome_setCell, cell_setI, cell_drewI, cell_allocI, ↓IntWalk.iteOmega, *]) (by simp [isSome_setCell, cell_setI, cell_drewI, cell_allocI, ↓IntWalk.iteOmega, *]) (by simp [isSome_setCell, cell_setI, cell_drewI, cell_allocI, ↓IntWalk.iteOmega, *]) ⟨?_, ?_⟩
        · unfold boxR; simp [h1, h2, h3]
        (repeat' (first | with_reducible exact Up.refl _ | with_reducible assumption | with_reducible refine Up.alloc ?_ _ | with_reducible refine Up.drew ?_ | with_reducible refine Up.drewN ?_ _ | with_reducible refine Up.setCell ?_ (by (try simp only [World.size_alloc, World.size_setCell, World.heap_drewN, World.size_drew]); omega) _ | (with_reducible refine Up.trans ?_ (by with_reducible assumption))))
    · have h2n : inB k 0 3 = false := by simpa using h2
      clear h2
      have h2 := h2n
      clear h2n
      go_enter Try.func14, Try.ntmps14
      go_wp2_with (first
      | (go_at_call 41; refine (i_IsLabel _ _ _ hs _).mono ?_; rintro e wn ⟨rfl, hu⟩; obtain ⟨N, J, JF, hn1, hn2, hz, hc, hf⟩ := hu.facts; (try simp only [World.size_alloc, World.size_setCell, World.heap_drewN, World.size_drew] at hn1 hn2))
      | (go_at_call 49; refine (i_in _ _ _ _).mono ?_; rintro e w' ⟨rfl, rfl⟩)
      | (go_at_call 50; refine (i_IsFace _ _ _ _ _).mono ?_; rintro e wn ⟨rfl, hu⟩; obtain ⟨N, J, JF, hn1, hn2, hz, hc, hf⟩ := hu.facts; (try simp only [World.size_alloc, World.size_setCell, World.heap_drewN, World.size_drew] at hn1 hn2)))
      refine ret_agg4t Try.results14 rfl Try.underlying28 rfl (by kernel_rfl) rfl (by simp [isSome_setCell, cell_setI, cell_drewI, cell_allocI, ↓IntWalk.iteOmega, *]) (by simp [isSome_setCell, cell_setI, cell_drewI, cell_allocI, ↓IntWalk.iteOmega, *]) (by simp [isSome_setCell, cell_setI, cell_drewI, cell_allocI, ↓IntWalk.iteOmega, *]) (by simp [isSome_setCell, cell_setI, cell_drewI, cell_allocI, ↓IntWalk.iteOmega, *]) ⟨?_, ?_⟩
      · unfold boxR; simp [h1, h2]
      (repeat' (first | with_reducible exact Up.refl _ | with_reducible assumption | with_reducible refine Up.alloc ?_ _ | with_reducible refine Up.drew ?_ | with_reducible refine Up.drewN ?_ _ | with_reducible refine Up.setCell ?_ (by (try simp only [World.size_alloc, World.size_setCell, World.heap_drewN, World.size_drew]); omega) _ | (with_reducible refine Up.trans ?_ (by with_reducible assumption))))
  · have h1n : isLabelB s.size x y = false := by simpa using h1
    clear h1
    have h1 := h1n
    clear h1n
    go_enter Try.func14, Try.ntmps14
    go_wp2_with (first
      | (go_at_call 41; refine (i_IsLabel _ _ _ hs _).mono ?_; rintro e wn ⟨rfl, hu⟩; obtain ⟨N, J, JF, hn1, hn2, hz, hc, hf⟩ := hu.facts; (try simp only [World.size_alloc, World.size_setCell, World.heap_drewN, World.size_drew] at hn1 hn2))
      | (go_at_call 49; refine (i_in _ _ _ _).mono ?_; rintro e w' ⟨rfl, rfl⟩)
      | (go_at_call 50; refine (i_IsFace _ _ _ _ _).mono ?_; rintro e wn ⟨rfl, hu⟩; obtain ⟨N, J, JF, hn1, hn2, hz, hc, hf⟩ := hu.facts; (try simp only [World.size_alloc, World.size_setCell, World.heap_drewN, World.size_drew] at hn1 hn2)))
    refine ret_agg4t Try.results14 rfl Try.underlying28 rfl (by kernel_rfl) rfl (by simp [isSome_setCell, cell_setI, cell_drewI, cell_allocI, ↓IntWalk.iteOmega, *]) (by simp [isSome_setCell, cell_setI, cell_drewI, cell_allocI, ↓IntWalk.iteOmega, *]) (by simp [isSome_setCell, cell_setI, cell_drewI, cell_allocI, ↓IntWalk.iteOmega, *]) (by simp [isSome_setCell, cell_setI, cell_drewI, cell_allocI, ↓IntWalk.iteOmega, *]) ⟨?_, ?_⟩
    · unfold boxR; simp [h1]
    (repeat' (first | with_reducible exact Up.refl _ | with_reducible assumption | with_reducible refine Up.alloc ?_ _ | with_reducible refine Up.drew ?_ | with_reducible refine Up.drewN ?_ _ | with_reducible refine Up.setCell ?_ (by (try simp only [World.size_alloc, World.size_setCell, World.heap_drewN, World.size_drew]); omega) _ | (with_reducible refine Up.trans ?_ (by with_reducible assumption))))
end Go.Proofs.Ytgmhogdkfonkcaa
