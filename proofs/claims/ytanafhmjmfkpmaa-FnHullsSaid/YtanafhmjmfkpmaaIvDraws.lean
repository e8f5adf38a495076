import Derived.Test.YtanafhmjmfkpmaaDraws
import Derived.Deep.RegionHeld3
/- What is drawn for the operations on intervals: two intervals. -/
namespace Go.Proofs.Ytanafhmjmfkpmaa
set_option linter.unusedSimpArgs false
set_option linter.unusedVariables false
open Go.RowKit
attribute [local go_sem] cell_allocI frz_allocI later_cell later_frz
attribute [local go_sem] cell_setI cell_drewI frz_drewI
/-- the bounds of all that is drawn -/
def InD (x : Int) : Prop := -1000000000001 ≤ x ∧ x ≤ 1000000000001
set_option maxRecDepth 100000 in
set_option maxHeartbeats 2000000 in
theorem s_l02DrawTwo (A : Option Addr) (n c : Nat) (w : World) (h : RdB w A n) (hn : n ≤ 4096) :
    Calls Try.prog 103 #[.slice A n c] w fun e w' => (∃ a b c d : Int, e = .returned (.tuple #[.agg #[.int .i64 a, .int .i64 b], .agg #[.int .i64 c, .int .i64 d]]) ∧ (InD a ∧ InD b ∧ InD c ∧ InD d)) ∧ Up w w' := by
  go_enter Try.func103, Try.ntmps103
  go_upto_region 2 with (go_at_call 114; refine (s_l01FromX w _ _ _ _ h (by (repeat' (first | with_reducible exact Up.refl _ | with_reducible assumption | with_reducible refine Up.alloc ?_ _ | with_reducible refine Up.drew ?_ | with_reducible refine Up.drewN ?_ _ | with_reducible refine Up.setCell ?_ (by (try simp only [World.size_alloc, World.size_setCell, World.heap_drewN, World.size_drew]); omega) _ | (with_reducible refine Up.trans ?_ (by with_reducible assumption))))) hn).mono ?_; rintro e wn ⟨rfl, hS, hu⟩; (try simp only [World.size_alloc, World.size_setCell, World.heap_drewN, World.size_drew] at hS); obtain ⟨N, J, JF, hn1, hn2, hz, hc, hf⟩ := hu.facts; (try simp only [World.size_alloc, World.size_setCell, World.heap_drewN, World.size_drew] at hn1 hn2))
  have hU1 : Up w wn := by (repeat' (first | with_reducible exact Up.refl _ | with_reducible assumption | with_reducible refine Up.alloc ?_ _ | with_reducible refine Up.drew ?_ | with_reducible refine Up.drewN ?_ _ | with_reducible refine Up.setCell ?_ (by (try simp only [World.size_alloc, World.size_setCell, World.heap_drewN, World.size_drew]); omega) _ | (with_reducible refine Up.trans ?_ (by with_reducible assumption))))
  have hA : Blk wn w.heap.size 26 #[.int .i64 0, .int .i64 0] := ((Blk.new w _ _).alloc _).up hu
  have hB := (Blk.new (w.alloc (Obj.cells #[.int .i64 0, .int .i64 0] 26)) 26 #[.int .i64 0, .int .i64 0]).up hu
  simp only [World.size_alloc, World.size_setCell, World.heap_drewN, World.size_drew] at hB
  have hsz := hS.lt
  clear hc hf hu hz hn1 hn2
  go_cut [5] (fun s5 wx => ∃ (k : Nat) (a b : Int), s5 = .pointer (some ⟨k, 0, none⟩) ∧ InD a ∧ InD b ∧ Blk wx k 26 #[.int .i64 a, .int .i64 b] ∧ w.heap.size + 1 + 1 < k ∧ Up w wx ∧ SrcX wx (w.heap.size + 1 + 1) 102 w.heap.size ∧ Blk wx w.heap.size 26 #[.int .i64 0, .int .i64 0] ∧ Blk wx (w.heap.size + 1) 26 #[.int .i64 0, .int .i64 0])
  case first =>
    go_wp2_with (go_at_call 116; refine (s_l02Draw _ _ (by ((repeat with_reducible refine SrcX.far ?_ (by (try dsimp only); omega) (by (try dsimp only); omega) _); (first | with_reducible assumption | (with_reducible refine SrcX.up (by with_reducible assumption) ?_; (repeat' (first | with_reducible exact Up.refl _ | with_reducible assumption | with_reducible refine Up.alloc ?_ _ | with_reducible refine Up.drew ?_ | with_reducible refine Up.drewN ?_ _ | with_reducible refine Up.setCell ?_ (by (try simp only [World.size_alloc, World.size_setCell, World.heap_drewN, World.size_drew]); omega) _ | (with_reducible refine Up.trans ?_ (by with_reducible assumption)))); done))))).mono ?_; rintro e wn ⟨⟨x, y, rfl, hx, hy⟩, hS, hg⟩; obtain ⟨N, J, JF, hn1, hn2, hz, hc, hf⟩ := grown_facts hg; (try simp only [World.size_alloc, World.size_setCell, World.heap_drewN, World.size_drew] at hn1 hn2); (try simp only [cell_drewI] at hc); (try simp only [frz_drewI] at hf))
    go_meet
    exact ⟨_, _, _, rfl, hx, hy, Blk.new _ _ _, by omega, (hU1.only hg (by omega)).alloc _, by ((repeat with_reducible refine SrcX.far ?_ (by (try dsimp only); omega) (by (try dsimp only); omega) _); (first | with_reducible assumption | (with_reducible refine SrcX.up (by with_reducible assumption) ?_; (repeat' (first | with_reducible exact Up.refl _ | with_reducible assumption | with_reducible refine Up.alloc ?_ _ | with_reducible refine Up.drew ?_ | with_reducible refine Up.drewN ?_ _ | with_reducible refine Up.setCell ?_ (by (try simp only [World.size_alloc, World.size_setCell, World.heap_drewN, World.size_drew]); omega) _ | (with_reducible refine Up.trans ?_ (by with_reducible assumption)))); done))), (hA.grown1 hg (by omega)).alloc _, (hB.grown1 hg (by omega)).alloc _⟩
  case rest =>
    obtain ⟨k, a, b, rfl, ia, ib, hK, hk, hU, hS, hA, hB⟩ := hcut
    clear hU1
    have s1 := hK.cell 0
    have s2 := hK.cell 1
    have z1 := hA.frozen 0
    have z2 := hA.frozen 1
    have z3 := hB.frozen 0
    have z4 := hB.frozen 1
    have r1 := hA.cell 0
    have r2 := hA.cell 1
    have r3 := hB.cell 0
    have r4 := hB.cell 1
    have hlk := hK.lt
    simp at s1 s2 r1 r2 r3 r4
    go_upto_region 3 with fail
    go_region_held3 (fun w' => w'.cell? ⟨k, 0, none⟩ = some (.int .i64 a) ∧ w'.cell? ⟨k, 1, none⟩ = some (.int .i64 b) ∧ w'.cell? ⟨w.heap.size, 0, none⟩ = some (cellV w' w.heap.size 0) ∧ w'.cell? ⟨w.heap.size, 1, none⟩ = some (cellV w' w.heap.size 1) ∧ w'.cell? ⟨w.heap.size + 1, 0, none⟩ = some (cellV w' (w.heap.size + 1) 0) ∧ w'.cell? ⟨w.heap.size + 1, 1, none⟩ = some (cellV w' (w.heap.size + 1) 1))
      (first | ((try dsimp only); (repeat' apply And.intro) <;> (first | (simp [cell_setI, cell_drewI, isSome_setCell, ↓IntWalk.iteOmega, *]; done) | exact cellV_of (by simp [cell_setI, cell_drewI, ↓IntWalk.iteOmega, isSome_setCell, *]))))
      (first | (go_at_call 116; refine (s_l02Draw _ _ (by ((repeat with_reducible refine SrcX.far ?_ (by (try dsimp only); omega) (by (try dsimp only); omega) _); (first | with_reducible assumption | (with_reducible refine SrcX.up (by with_reducible assumption) ?_; (repeat' (first | with_reducible exact Up.refl _ | with_reducible assumption | with_reducible refine Up.alloc ?_ _ | with_reducible refine Up.drew ?_ | with_reducible refine Up.drewN ?_ _ | with_reducible refine Up.setCell ?_ (by (try simp only [World.size_alloc, World.size_setCell, World.heap_drewN, World.size_drew]); omega) _ | (with_reducible refine Up.trans ?_ (by with_reducible assumption)))); done))))).mono ?_; rintro e wn ⟨⟨x, y, rfl, hx, hy⟩, hS, hg⟩; obtain ⟨N, J, JF, hn1, hn2, hz, hc, hf⟩ := grown_facts hg; (try simp only [World.size_alloc, World.size_setCell, World.heap_drewN, World.size_drew] at hn1 hn2); (try simp only [cell_drewI] at hc); (try simp only [frz_drewI] at hf)))
    go_wp2_with fail
    refine ret_agg22 Try.results103 rfl rfl Try.underlying26 rfl (by kernel_rfl) Try.underlying26 rfl (by kernel_rfl) rfl (by omega) (by simp [isSome_setCell, cell_setI, cell_drewI, cell_allocI, ↓IntWalk.iteOmega, *]) (by simp [isSome_setCell, cell_setI, cell_drewI, cell_allocI, ↓IntWalk.iteOmega, *]) (by simp [isSome_setCell, cell_setI, cell_drewI, cell_allocI, ↓IntWalk.iteOmega, *]) (by simp [isSome_setCell, cell_setI, cell_drewI, cell_allocI, ↓IntWalk.iteOmega, *]) ⟨⟨_, _, _, _, rfl, ia, ib, hx, hy⟩, ?_⟩
    have hU' : Up w wn := Up.only (a := w) (by (repeat' (first | with_reducible exact Up.refl _ | with_reducible assumption | with_reducible refine Up.alloc ?_ _ | with_reducible refine Up.drew ?_ | with_reducible refine Up.drewN ?_ _ | with_reducible refine Up.setCell ?_ (by (try simp only [World.size_alloc, World.size_setCell, World.heap_drewN, World.size_drew]); omega) _ | (with_reducible refine Up.trans ?_ (by with_reducible assumption))))) hg (by omega)
    (repeat' (first | with_reducible exact Up.refl _ | with_reducible assumption | with_reducible refine Up.alloc ?_ _ | with_reducible refine Up.drew ?_ | with_reducible refine Up.drewN ?_ _ | with_reducible refine Up.setCell ?_ (by (try simp only [World.size_alloc, World.size_setCell, World.heap_drewN, World.size_drew]); omega) _ | (with_reducible refine Up.trans ?_ (by with_reducible assumption))))
theorem s_DrawAddIntervals (A : Option Addr) (n c : Nat) (w0 w : World) (h : RdB w0 A n) (hu0 : Up w0 w) (hn : n ≤ 4096) :
    Calls Try.prog 23 #[.slice A n c] w fun e w' => (∃ a b c d : Int, e = .returned (.tuple #[.agg #[.int .i64 a, .int .i64 b], .agg #[.int .i64 c, .int .i64 d]]) ∧ (InD a ∧ InD b ∧ InD c ∧ InD d)) ∧ Up w w' := by
  have h := h.up hu0
  clear hu0
  go_enter Try.func23, Try.ntmps23
  go_wp2_with (first
    | (go_at_call 103; refine (s_l02DrawTwo _ _ _ _ (h.up (by (repeat' (first | with_reducible exact Up.refl _ | with_reducible assumption | with_reducible refine Up.alloc ?_ _ | with_reducible refine Up.drew ?_ | with_reducible refine Up.drewN ?_ _ | with_reducible refine Up.setCell ?_ (by (try simp only [World.size_alloc, World.size_setCell, World.heap_drewN, World.size_drew]); omega) _ | (with_reducible refine Up.trans ?_ (by with_reducible assumption)))))) hn).mono ?_; rintro e wn ⟨⟨a, b, c, d, rfl, ia, ib, ic, id⟩, hu⟩; obtain ⟨N, J, JF, hn1, hn2, hz, hc, hf⟩ := hu.facts; (try simp only [World.size_alloc, World.size_setCell, World.heap_drewN, World.size_drew] at hn1 hn2)))
  refine ret_agg22 Try.results23 rfl rfl Try.underlying26 rfl (by kernel_rfl) Try.underlying26 rfl (by kernel_rfl) rfl (by omega) (by simp [isSome_setCell, cell_setI, cell_drewI, cell_allocI, ↓IntWalk.iteOmega, *]) (by simp [isSome_setCell, cell_setI, cell_drewI, cell_allocI, ↓IntWalk.iteOmega, *]) (by simp [isSome_setCell, cell_setI, cell_drewI, cell_allocI, ↓IntWalk.iteOmega, *]) (by simp [isSome_setCell, cell_setI, cell_drewI, cell_allocI, ↓IntWalk.iteOmega, *]) ⟨⟨_, _, _, _, rfl, ia, ib, ic, id⟩, ?_⟩
  (repeat' (first | with_reducible exact Up.refl _ | with_reducible assumption | with_reducible refine Up.alloc ?_ _ | with_reducible refine Up.drew ?_ | with_reducible refine Up.drewN ?_ _ | with_reducible refine Up.setCell ?_ (by (try simp only [World.size_alloc, World.size_setCell, World.heap_drewN, World.size_drew]); omega) _ | (with_reducible refine Up.trans ?_ (by with_reducible assumption))))
theorem s_DrawSubtractIntervals (A : Option Addr) (n c : Nat) (w0 w : World) (h : RdB w0 A n) (hu0 : Up w0 w) (hn : n ≤ 4096) :
    Calls Try.prog 26 #[.slice A n c] w fun e w' => (∃ a b c d : Int, e = .returned (.tuple #[.agg #[.int .i64 a, .int .i64 b], .agg #[.int .i64 c, .int .i64 d]]) ∧ (InD a ∧ InD b ∧ InD c ∧ InD d)) ∧ Up w w' := by
  have h := h.up hu0
  clear hu0
  go_enter Try.func26, Try.ntmps26
  go_wp2_with (first
    | (go_at_call 103; refine (s_l02DrawTwo _ _ _ _ (h.up (by (repeat' (first | with_reducible exact Up.refl _ | with_reducible assumption | with_reducible refine Up.alloc ?_ _ | with_reducible refine Up.drew ?_ | with_reducible refine Up.drewN ?_ _ | with_reducible refine Up.setCell ?_ (by (try simp only [World.size_alloc, World.size_setCell, World.heap_drewN, World.size_drew]); omega) _ | (with_reducible refine Up.trans ?_ (by with_reducible assumption)))))) hn).mono ?_; rintro e wn ⟨⟨a, b, c, d, rfl, ia, ib, ic, id⟩, hu⟩; obtain ⟨N, J, JF, hn1, hn2, hz, hc, hf⟩ := hu.facts; (try simp only [World.size_alloc, World.size_setCell, World.heap_drewN, World.size_drew] at hn1 hn2)))
  refine ret_agg22 Try.results26 rfl rfl Try.underlying26 rfl (by kernel_rfl) Try.underlying26 rfl (by kernel_rfl) rfl (by omega) (by simp [isSome_setCell, cell_setI, cell_drewI, cell_allocI, ↓IntWalk.iteOmega, *]) (by simp [isSome_setCell, cell_setI, cell_drewI, cell_allocI, ↓IntWalk.iteOmega, *]) (by simp [isSome_setCell, cell_setI, cell_drewI, cell_allocI, ↓IntWalk.iteOmega, *]) (by simp [isSome_setCell, cell_setI, cell_drewI, cell_allocI, ↓IntWalk.iteOmega, *]) ⟨⟨_, _, _, _, rfl, ia, ib, ic, id⟩, ?_⟩
  (repeat' (first | with_reducible exact Up.refl _ | with_reducible assumption | with_reducible refine Up.alloc ?_ _ | with_reducible refine Up.drew ?_ | with_reducible refine Up.drewN ?_ _ | with_reducible refine Up.setCell ?_ (by (try simp only [World.size_alloc, World.size_setCell, World.heap_drewN, World.size_drew]); omega) _ | (with_reducible refine Up.trans ?_ (by with_reducible assumption))))
theorem s_DrawMultiplyIntervals (A : Option Addr) (n c : Nat) (w0 w : World) (h : RdB w0 A n) (hu0 : Up w0 w) (hn : n ≤ 4096) :
    Calls Try.prog 35 #[.slice A n c] w fun e w' => (∃ a b c d : Int, e = .returned (.tuple #[.agg #[.int .i64 a, .int .i64 b], .agg #[.int .i64 c, .int .i64 d]]) ∧ (InD a ∧ InD b ∧ InD c ∧ InD d)) ∧ Up w w' := by
  have h := h.up hu0
  clear hu0
  go_enter Try.func35, Try.ntmps35
  go_wp2_with (first
    | (go_at_call 103; refine (s_l02DrawTwo _ _ _ _ (h.up (by (repeat' (first | with_reducible exact Up.refl _ | with_reducible assumption | with_reducible refine Up.alloc ?_ _ | with_reducible refine Up.drew ?_ | with_reducible refine Up.drewN ?_ _ | with_reducible refine Up.setCell ?_ (by (try simp only [World.size_alloc, World.size_setCell, World.heap_drewN, World.size_drew]); omega) _ | (with_reducible refine Up.trans ?_ (by with_reducible assumption)))))) hn).mono ?_; rintro e wn ⟨⟨a, b, c, d, rfl, ia, ib, ic, id⟩, hu⟩; obtain ⟨N, J, JF, hn1, hn2, hz, hc, hf⟩ := hu.facts; (try simp only [World.size_alloc, World.size_setCell, World.heap_drewN, World.size_drew] at hn1 hn2)))
  refine ret_agg22 Try.results35 rfl rfl Try.underlying26 rfl (by kernel_rfl) Try.underlying26 rfl (by kernel_rfl) rfl (by omega) (by simp [isSome_setCell, cell_setI, cell_drewI, cell_allocI, ↓IntWalk.iteOmega, *]) (by simp [isSome_setCell, cell_setI, cell_drewI, cell_allocI, ↓IntWalk.iteOmega, *]) (by simp [isSome_setCell, cell_setI, cell_drewI, cell_allocI, ↓IntWalk.iteOmega, *]) (by simp [isSome_setCell, cell_setI, cell_drewI, cell_allocI, ↓IntWalk.iteOmega, *]) ⟨⟨_, _, _, _, rfl, ia, ib, ic, id⟩, ?_⟩
  (repeat' (first | with_reducible exact Up.refl _ | with_reducible assumption | with_reducible refine Up.alloc ?_ _ | with_reducible refine Up.drew ?_ | with_reducible refine Up.drewN ?_ _ | with_reducible refine Up.setCell ?_ (by (try simp only [World.size_alloc, World.size_setCell, World.heap_drewN, World.size_drew]); omega) _ | (with_reducible refine Up.trans ?_ (by with_reducible assumption))))
theorem s_DrawDivideIntervals (A : Option Addr) (n c : Nat) (w0 w : World) (h : RdB w0 A n) (hu0 : Up w0 w) (hn : n ≤ 4096) :
    Calls Try.prog 38 #[.slice A n c] w fun e w' => (∃ a b c d : Int, e = .returned (.tuple #[.agg #[.int .i64 a, .int .i64 b], .agg #[.int .i64 c, .int .i64 d]]) ∧ (InD a ∧ InD b ∧ InD c ∧ InD d)) ∧ Up w w' := by
  have h := h.up hu0
  clear hu0
  go_enter Try.func38, Try.ntmps38
  go_wp2_with (first
    | (go_at_call 103; refine (s_l02DrawTwo _ _ _ _ (h.up (by (repeat' (first | with_reducible exact Up.refl _ | with_reducible assumption | with_reducible refine Up.alloc ?_ _ | with_reducible refine Up.drew ?_ | with_reducible refine Up.drewN ?_ _ | with_reducible refine Up.setCell ?_ (by (try simp only [World.size_alloc, World.size_setCell, World.heap_drewN, World.size_drew]); omega) _ | (with_reducible refine Up.trans ?_ (by with_reducible assumption)))))) hn).mono ?_; rintro e wn ⟨⟨a, b, c, d, rfl, ia, ib, ic, id⟩, hu⟩; obtain ⟨N, J, JF, hn1, hn2, hz, hc, hf⟩ := hu.facts; (try simp only [World.size_alloc, World.size_setCell, World.heap_drewN, World.size_drew] at hn1 hn2)))
  refine ret_agg22 Try.results38 rfl rfl Try.underlying26 rfl (by kernel_rfl) Try.underlying26 rfl (by kernel_rfl) rfl (by omega) (by simp [isSome_setCell, cell_setI, cell_drewI, cell_allocI, ↓IntWalk.iteOmega, *]) (by simp [isSome_setCell, cell_setI, cell_drewI, cell_allocI, ↓IntWalk.iteOmega, *]) (by simp [isSome_setCell, cell_setI, cell_drewI, cell_allocI, ↓IntWalk.iteOmega, *]) (by simp [isSome_setCell, cell_setI, cell_drewI, cell_allocI, ↓IntWalk.iteOmega, *]) ⟨⟨_, _, _, _, rfl, ia, ib, ic, id⟩, ?_⟩
  (repeat' (first | with_reducible exact Up.refl _ | with_reducible assumption | with_reducible refine Up.alloc ?_ _ | with_reducible refine Up.drew ?_ | with_reducible refine Up.drewN ?_ _ | with_reducible refine Up.setCell ?_ (by (try simp only [World.size_alloc, World.size_setCell, World.heap_drewN, World.size_drew]); omega) _ | (with_reducible refine Up.trans ?_ (by with_reducible assumption))))
end Go.Proofs.Ytanafhmjmfkpmaa
