import Derived.Test.YtffkcgdgiggfoaaFace
/- Labels and their boxes: the contracts. -/
namespace Go.Proofs.Ytffkcgdgiggfoaa
set_option linter.unusedSimpArgs false
set_option linter.unusedVariables false
open Go.RowKit
attribute [local go_sem] cell_allocI frz_allocI later_cell later_frz
attribute [local go_sem] cell_setI cell_drewI frz_drewI
/-- the box of a label of n bytes at (x, y) in position k -/
def boxX (n : Nat) (x k : Int) : Int := if k = 1 ∨ k = 2 then x - 6 * n else x
def boxY (y k : Int) : Int := if 2 ≤ k then y - 10 else y
def boxCode (n : Nat) (x y k : Int) : Int := if isLabelB n x y then (if inB k 0 3 then (if isFaceB (boxX n x k) (boxY y k) (boxX n x k + 6 * n) (boxY y k + 10) then 0 else 3) else 2) else 1
theorem inB4 {k : Int} (h : inB k 0 3 = true) : k = 0 ∨ k = 1 ∨ k = 2 ∨ k = 3 := by simp [inB] at h; omega
theorem s_l19Box (s : ByteArray) (x y k : Int) (h1 : s.size ≤ 8) (h2 : -1000000 ≤ x) (h3 : x ≤ 1000000) (h4 : -1000000 ≤ y) (h5 : y ≤ 1000000) (hk : inB k 0 3 = true) (w : World) :
    Calls Try.prog 137 #[.agg #[.string s, .int .i64 x, .int .i64 y], .int .i64 k] w fun e w' => e = .returned (.agg #[.int .i64 (boxX s.size x k), .int .i64 (boxY y k), .int .i64 (boxX s.size x k + 6 * s.size), .int .i64 (boxY y k + 10)]) ∧ Up w w' := by
  have hk := inB4 hk
  rcases hk with rfl | rfl | rfl | rfl
  all_goals
    go_enter Try.func137, Try.ntmps137
    go_wp2
    go_quiet (fail)
    go_wp2
    refine ret_agg4 Try.results137 rfl Try.underlying49 rfl (by kernel_rfl) rfl (by simp [isSome_setCell, cell_setI, cell_drewI, cell_allocI, ↓IntWalk.iteOmega, *]) (by simp [isSome_setCell, cell_setI, cell_drewI, cell_allocI, ↓IntWalk.iteOmega, *]) (by simp [isSome_setCell, cell_setI, cell_drewI, cell_allocI, ↓IntWalk.iteOmega, *]) (by simp [isSome_setCell, cell_setI, cell_drewI, cell_allocI, ↓IntWalk.iteOmega, *]) ⟨?_, ?_⟩
    · simp [boxX, boxY] <;> omega
    (repeat' (first | with_reducible exact Up.refl _ | with_reducible assumption | with_reducible refine Up.alloc ?_ _ | with_reducible refine Up.drew ?_ | with_reducible refine Up.drewN ?_ _ | with_reducible refine Up.setCell ?_ (by (try simp only [World.size_alloc, World.size_setCell, World.heap_drewN, World.size_drew]); omega) _ | (with_reducible refine Up.trans ?_ (by with_reducible assumption))))
theorem im_Label_box (s : ByteArray) (x y k : Int) (h1 : s.size ≤ 8) (h2 : -1000000 ≤ x) (h3 : x ≤ 1000000) (h4 : -1000000 ≤ y) (h5 : y ≤ 1000000) (hk : inB k 0 3 = true) (w : World) :
    Calls Try.prog 100 #[.agg #[.string s, .int .i64 x, .int .i64 y], .int .i64 k] w fun e w' => e = .returned (.agg #[.int .i64 (boxX s.size x k), .int .i64 (boxY y k), .int .i64 (boxX s.size x k + 6 * s.size), .int .i64 (boxY y k + 10)]) ∧ Up w w' := by
  have hk := inB4 hk
  rcases hk with rfl | rfl | rfl | rfl
  all_goals
    go_enter Try.func100, Try.ntmps100
    go_wp2
    go_quiet (fail)
    go_wp2
    refine ret_agg4 Try.results100 rfl Try.underlying49 rfl (by kernel_rfl) rfl (by simp [isSome_setCell, cell_setI, cell_drewI, cell_allocI, ↓IntWalk.iteOmega, *]) (by simp [isSome_setCell, cell_setI, cell_drewI, cell_allocI, ↓IntWalk.iteOmega, *]) (by simp [isSome_setCell, cell_setI, cell_drewI, cell_allocI, ↓IntWalk.iteOmega, *]) (by simp [isSome_setCell, cell_setI, cell_drewI, cell_allocI, ↓IntWalk.iteOmega, *]) ⟨?_, ?_⟩
    · simp [boxX, boxY] <;> omega
    (repeat' (first | with_reducible exact Up.refl _ | with_reducible assumption | with_reducible refine Up.alloc ?_ _ | with_reducible refine Up.drew ?_ | with_reducible refine Up.drewN ?_ _ | with_reducible refine Up.setCell ?_ (by (try simp only [World.size_alloc, World.size_setCell, World.heap_drewN, World.size_drew]); omega) _ | (with_reducible refine Up.trans ?_ (by with_reducible assumption))))
/-- what LabelBox returns -/
def boxR (n : Nat) (x y k : Int) : Value := if isLabelB n x y then (if inB k 0 3 then (if isFaceB (boxX n x k) (boxY y k) (boxX n x k + 6 * n) (boxY y k + 10) then .tuple #[.agg #[.int .i64 (boxX n x k), .int .i64 (boxY y k), .int .i64 (boxX n x k + 6 * n), .int .i64 (boxY y k + 10)], .int .i64 0] else .tuple #[.agg #[.int .i64 0, .int .i64 0, .int .i64 0, .int .i64 0], .int .i64 3]) else .tuple #[.agg #[.int .i64 0, .int .i64 0, .int .i64 0, .int .i64 0], .int .i64 2]) else .tuple #[.agg #[.int .i64 0, .int .i64 0, .int .i64 0, .int .i64 0], .int .i64 1]
theorem boxR_shape (n : Nat) (x y k : Int) : ∃ a b c d u, boxR n x y k = .tuple #[.agg #[.int .i64 a, .int .i64 b, .int .i64 c, .int .i64 d], .int .i64 u] := by
  unfold boxR; repeat' split
  all_goals exact ⟨_, _, _, _, _, rfl⟩
end Go.Proofs.Ytffkcgdgiggfoaa
