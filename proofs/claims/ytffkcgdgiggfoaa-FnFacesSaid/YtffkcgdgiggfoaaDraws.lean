import Derived.Test.YtffkcgdgiggfoaaSource
import Derived.Deep.DeepCutAuto
/- What the references draw: only the shape is said. -/
namespace Go.Proofs.Ytffkcgdgiggfoaa
set_option linter.unusedSimpArgs false
set_option linter.unusedVariables false
open Go.RowKit
attribute [local go_sem] cell_allocI frz_allocI later_cell later_frz
attribute [local go_sem] cell_setI cell_drewI frz_drewI
theorem Blk.grown {w w' : World} {b t : Nat} {cs : Array Value} {row : Option Nat} (h : Blk w b t cs) (hu : w.grownBy w' row) (hne : some b ≠ row) : Blk w' b t cs := (hu.block b h.lt hne).trans h
theorem Blk.grown1 {w w' : World} {b t g : Nat} {cs : Array Value} (h : Blk w b t cs) (hu : w.grownBy w' (some g)) (hne : b ≠ g) : Blk w' b t cs := h.grown hu (by simpa using hne)
theorem rdI_lit (w : World) (t : Nat) (vs : List Int) (n : Nat) (hn : vs.length = n) : RdI (w.alloc (.cells (vs.map (Value.int .i64)).toArray t)) (some ⟨w.heap.size, 0, none⟩) n vs := by
  refine ⟨hn, fun k hk => ⟨w.heap.size, 0, rfl, by simp [World.size_alloc], ?_⟩⟩
  rw [Nat.zero_add, cell_allocI, if_pos rfl]
  have : k < vs.length := by omega
  simp [this]
theorem s_pick2 {B : Nat} (g : Nat) (v0 v1 : Int) (c t : Nat) (w : World) (hS : SrcX w g 178 B) :
    Calls Try.prog 77 #[.pointer (some ⟨g, 0, none⟩), .slice (some ⟨w.heap.size, 0, none⟩) 2 c] (w.alloc (.cells #[.int .i64 v0, .int .i64 v1] t)) fun e w' => (∃ r : Int, e = .returned (.int .i64 r) ∧ (r = v0 ∨ r = v1)) ∧ SrcX w' g 178 B ∧ (w.alloc (.cells #[.int .i64 v0, .int .i64 v1] t)).grownBy w' (some g) := by
  have hl := hS.lt
  refine (s_l01Pick g w.heap.size 0 2 c [v0, v1] _ (hS.up ((Up.refl w).alloc _)) (rdI_lit w t [v0, v1] 2 rfl) (by omega) (by omega) (by omega)).mono ?_
  rintro e w' ⟨⟨k, hk, rfl⟩, k2, k3⟩
  refine ⟨⟨_, rfl, ?_⟩, k2, k3⟩
  match k, hk with
  | 0, _ => simp
  | 1, _ => simp
  | k + 2, hk => omega
theorem s_pick3 {B : Nat} (g : Nat) (v0 v1 v2 : Int) (c t : Nat) (w : World) (hS : SrcX w g 178 B) :
    Calls Try.prog 77 #[.pointer (some ⟨g, 0, none⟩), .slice (some ⟨w.heap.size, 0, none⟩) 3 c] (w.alloc (.cells #[.int .i64 v0, .int .i64 v1, .int .i64 v2] t)) fun e w' => (∃ r : Int, e = .returned (.int .i64 r) ∧ (r = v0 ∨ r = v1 ∨ r = v2)) ∧ SrcX w' g 178 B ∧ (w.alloc (.cells #[.int .i64 v0, .int .i64 v1, .int .i64 v2] t)).grownBy w' (some g) := by
  have hl := hS.lt
  refine (s_l01Pick g w.heap.size 0 3 c [v0, v1, v2] _ (hS.up ((Up.refl w).alloc _)) (rdI_lit w t [v0, v1, v2] 3 rfl) (by omega) (by omega) (by omega)).mono ?_
  rintro e w' ⟨⟨k, hk, rfl⟩, k2, k3⟩
  refine ⟨⟨_, rfl, ?_⟩, k2, k3⟩
  match k, hk with
  | 0, _ => simp
  | 1, _ => simp
  | 2, _ => simp
  | k + 3, hk => omega
theorem s_pick4 {B : Nat} (g : Nat) (v0 v1 v2 v3 : Int) (c t : Nat) (w : World) (hS : SrcX w g 178 B) :
    Calls Try.prog 77 #[.pointer (some ⟨g, 0, none⟩), .slice (some ⟨w.heap.size, 0, none⟩) 4 c] (w.alloc (.cells #[.int .i64 v0, .int .i64 v1, .int .i64 v2, .int .i64 v3] t)) fun e w' => (∃ r : Int, e = .returned (.int .i64 r) ∧ (r = v0 ∨ r = v1 ∨ r = v2 ∨ r = v3)) ∧ SrcX w' g 178 B ∧ (w.alloc (.cells #[.int .i64 v0, .int .i64 v1, .int .i64 v2, .int .i64 v3] t)).grownBy w' (some g) := by
  have hl := hS.lt
  refine (s_l01Pick g w.heap.size 0 4 c [v0, v1, v2, v3] _ (hS.up ((Up.refl w).alloc _)) (rdI_lit w t [v0, v1, v2, v3] 4 rfl) (by omega) (by omega) (by omega)).mono ?_
  rintro e w' ⟨⟨k, hk, rfl⟩, k2, k3⟩
  refine ⟨⟨_, rfl, ?_⟩, k2, k3⟩
  match k, hk with
  | 0, _ => simp
  | 1, _ => simp
  | 2, _ => simp
  | 3, _ => simp
  | k + 4, hk => omega
theorem s_pick5 {B : Nat} (g : Nat) (v0 v1 v2 v3 v4 : Int) (c t : Nat) (w : World) (hS : SrcX w g 178 B) :
    Calls Try.prog 77 #[.pointer (some ⟨g, 0, none⟩), .slice (some ⟨w.heap.size, 0, none⟩) 5 c] (w.alloc (.cells #[.int .i64 v0, .int .i64 v1, .int .i64 v2, .int .i64 v3, .int .i64 v4] t)) fun e w' => (∃ r : Int, e = .returned (.int .i64 r) ∧ (r = v0 ∨ r = v1 ∨ r = v2 ∨ r = v3 ∨ r = v4)) ∧ SrcX w' g 178 B ∧ (w.alloc (.cells #[.int .i64 v0, .int .i64 v1, .int .i64 v2, .int .i64 v3, .int .i64 v4] t)).grownBy w' (some g) := by
  have hl := hS.lt
  refine (s_l01Pick g w.heap.size 0 5 c [v0, v1, v2, v3, v4] _ (hS.up ((Up.refl w).alloc _)) (rdI_lit w t [v0, v1, v2, v3, v4] 5 rfl) (by omega) (by omega) (by omega)).mono ?_
  rintro e w' ⟨⟨k, hk, rfl⟩, k2, k3⟩
  refine ⟨⟨_, rfl, ?_⟩, k2, k3⟩
  match k, hk with
  | 0, _ => simp
  | 1, _ => simp
  | 2, _ => simp
  | 3, _ => simp
  | 4, _ => simp
  | k + 5, hk => omega
theorem s_pick6 {B : Nat} (g : Nat) (v0 v1 v2 v3 v4 v5 : Int) (c t : Nat) (w : World) (hS : SrcX w g 178 B) :
    Calls Try.prog 77 #[.pointer (some ⟨g, 0, none⟩), .slice (some ⟨w.heap.size, 0, none⟩) 6 c] (w.alloc (.cells #[.int .i64 v0, .int .i64 v1, .int .i64 v2, .int .i64 v3, .int .i64 v4, .int .i64 v5] t)) fun e w' => (∃ r : Int, e = .returned (.int .i64 r) ∧ (r = v0 ∨ r = v1 ∨ r = v2 ∨ r = v3 ∨ r = v4 ∨ r = v5)) ∧ SrcX w' g 178 B ∧ (w.alloc (.cells #[.int .i64 v0, .int .i64 v1, .int .i64 v2, .int .i64 v3, .int .i64 v4, .int .i64 v5] t)).grownBy w' (some g) := by
  have hl := hS.lt
  refine (s_l01Pick g w.heap.size 0 6 c [v0, v1, v2, v3, v4, v5] _ (hS.up ((Up.refl w).alloc _)) (rdI_lit w t [v0, v1, v2, v3, v4, v5] 6 rfl) (by omega) (by omega) (by omega)).mono ?_
  rintro e w' ⟨⟨k, hk, rfl⟩, k2, k3⟩
  refine ⟨⟨_, rfl, ?_⟩, k2, k3⟩
  match k, hk with
  | 0, _ => simp
  | 1, _ => simp
  | 2, _ => simp
  | 3, _ => simp
  | 4, _ => simp
  | 5, _ => simp
  | k + 6, hk => omega
theorem s_pick7 {B : Nat} (g : Nat) (v0 v1 v2 v3 v4 v5 v6 : Int) (c t : Nat) (w : World) (hS : SrcX w g 178 B) :
    Calls Try.prog 77 #[.pointer (some ⟨g, 0, none⟩), .slice (some ⟨w.heap.size, 0, none⟩) 7 c] (w.alloc (.cells #[.int .i64 v0, .int .i64 v1, .int .i64 v2, .int .i64 v3, .int .i64 v4, .int .i64 v5, .int .i64 v6] t)) fun e w' => (∃ r : Int, e = .returned (.int .i64 r) ∧ (r = v0 ∨ r = v1 ∨ r = v2 ∨ r = v3 ∨ r = v4 ∨ r = v5 ∨ r = v6)) ∧ SrcX w' g 178 B ∧ (w.alloc (.cells #[.int .i64 v0, .int .i64 v1, .int .i64 v2, .int .i64 v3, .int .i64 v4, .int .i64 v5, .int .i64 v6] t)).grownBy w' (some g) := by
  have hl := hS.lt
  refine (s_l01Pick g w.heap.size 0 7 c [v0, v1, v2, v3, v4, v5, v6] _ (hS.up ((Up.refl w).alloc _)) (rdI_lit w t [v0, v1, v2, v3, v4, v5, v6] 7 rfl) (by omega) (by omega) (by omega)).mono ?_
  rintro e w' ⟨⟨k, hk, rfl⟩, k2, k3⟩
  refine ⟨⟨_, rfl, ?_⟩, k2, k3⟩
  match k, hk with
  | 0, _ => simp
  | 1, _ => simp
  | 2, _ => simp
  | 3, _ => simp
  | 4, _ => simp
  | 5, _ => simp
  | 6, _ => simp
  | k + 7, hk => omega
end Go.Proofs.Ytffkcgdgiggfoaa
