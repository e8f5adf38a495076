import Derived.Test.YtanafhmjmfkpmaaSource
import Derived.Deep.DeepCutAuto
/- What the references draw: only the shape is said. -/
namespace Go.Proofs.Ytanafhmjmfkpmaa
set_option linter.unusedSimpArgs false
set_option linter.unusedVariables false
open Go.RowKit
attribute [local go_sem] cell_allocI frz_allocI later_cell later_frz
attribute [local go_sem] cell_setI cell_drewI frz_drewI
theorem Blk.grown {w w' : World} {b t : Nat} {cs : Array Value} {row : Option Nat} (h : Blk w b t cs) (hu : w.grownBy w' row) (hne : some b ≠ row) : Blk w' b t cs := (hu.block b h.lt hne).trans h
theorem Blk.grown1 {w w' : World} {b t g : Nat} {cs : Array Value} (h : Blk w b t cs) (hu : w.grownBy w' (some g)) (hne : b ≠ g) : Blk w' b t cs := h.grown hu (by simpa using hne)
theorem rdI_lit (w : World) (t : Nat) (vs : List Int) (n : Nat) (hn : vs.length = n) : RdI (w.alloc (.cells (vs.map (Value.int .i64)).toArray t)) (some ⟨w.heap.size, 0, none⟩) n vs := by
  refine ⟨hn, fun k hk => ⟨w.heap.size, 0, rfl, by simp [World.size_alloc], ?_⟩⟩
  rw [Nat.zero_add, cell_allocI, if_pos rfl]
  have : k < vs.length := by omega
  simp [this]
theorem s_pick2 {B : Nat} (g : Nat) (v0 v1 : Int) (c t : Nat) (w : World) (hS : SrcX w g 102 B) :
    Calls Try.prog 119 #[.pointer (some ⟨g, 0, none⟩), .slice (some ⟨w.heap.size, 0, none⟩) 2 c] (w.alloc (.cells #[.int .i64 v0, .int .i64 v1] t)) fun e w' => (∃ r : Int, e = .returned (.int .i64 r) ∧ (r = v0 ∨ r = v1)) ∧ SrcX w' g 102 B ∧ (w.alloc (.cells #[.int .i64 v0, .int .i64 v1] t)).grownBy w' (some g) := by
  have hl := hS.lt
  refine (s_l01Pick g w.heap.size 0 2 c [v0, v1] _ (hS.up ((Up.refl w).alloc _)) (rdI_lit w t [v0, v1] 2 rfl) (by omega) (by omega) (by omega)).mono ?_
  rintro e w' ⟨⟨k, hk, rfl⟩, k2, k3⟩
  refine ⟨⟨_, rfl, ?_⟩, k2, k3⟩
  match k, hk with
  | 0, _ => simp
  | 1, _ => simp
  | k + 2, hk => omega
theorem s_pick3 {B : Nat} (g : Nat) (v0 v1 v2 : Int) (c t : Nat) (w : World) (hS : SrcX w g 102 B) :
    Calls Try.prog 119 #[.pointer (some ⟨g, 0, none⟩), .slice (some ⟨w.heap.size, 0, none⟩) 3 c] (w.alloc (.cells #[.int .i64 v0, .int .i64 v1, .int .i64 v2] t)) fun e w' => (∃ r : Int, e = .returned (.int .i64 r) ∧ (r = v0 ∨ r = v1 ∨ r = v2)) ∧ SrcX w' g 102 B ∧ (w.alloc (.cells #[.int .i64 v0, .int .i64 v1, .int .i64 v2] t)).grownBy w' (some g) := by
  have hl := hS.lt
  refine (s_l01Pick g w.heap.size 0 3 c [v0, v1, v2] _ (hS.up ((Up.refl w).alloc _)) (rdI_lit w t [v0, v1, v2] 3 rfl) (by omega) (by omega) (by omega)).mono ?_
  rintro e w' ⟨⟨k, hk, rfl⟩, k2, k3⟩
  refine ⟨⟨_, rfl, ?_⟩, k2, k3⟩
  match k, hk with
  | 0, _ => simp
  | 1, _ => simp
  | 2, _ => simp
  | k + 3, hk => omega
theorem s_pick4 {B : Nat} (g : Nat) (v0 v1 v2 v3 : Int) (c t : Nat) (w : World) (hS : SrcX w g 102 B) :
    Calls Try.prog 119 #[.pointer (some ⟨g, 0, none⟩), .slice (some ⟨w.heap.size, 0, none⟩) 4 c] (w.alloc (.cells #[.int .i64 v0, .int .i64 v1, .int .i64 v2, .int .i64 v3] t)) fun e w' => (∃ r : Int, e = .returned (.int .i64 r) ∧ (r = v0 ∨ r = v1 ∨ r = v2 ∨ r = v3)) ∧ SrcX w' g 102 B ∧ (w.alloc (.cells #[.int .i64 v0, .int .i64 v1, .int .i64 v2, .int .i64 v3] t)).grownBy w' (some g) := by
  have hl := hS.lt
  refine (s_l01Pick g w.heap.size 0 4 c [v0, v1, v2, v3] _ (hS.up ((Up.refl w).alloc _)) (rdI_lit w t [v0, v1, v2, v3] 4 rfl) (by omega) (by omega) (by omega)).mono ?_
  rintro e w' ⟨⟨k, hk, rfl⟩, k2, k3⟩
  refine ⟨⟨_, rfl, ?_⟩, k2, k3⟩
  match k, hk with
  | 0, _ => simp
  | 1, _ => simp
  | 2, _ => simp
  | 3, _ => simp
  | k + 4, hk => omega
theorem s_pick5 {B : Nat} (g : Nat) (v0 v1 v2 v3 v4 : Int) (c t : Nat) (w : World) (hS : SrcX w g 102 B) :
    Calls Try.prog 119 #[.pointer (some ⟨g, 0, none⟩), .slice (some ⟨w.heap.size, 0, none⟩) 5 c] (w.alloc (.cells #[.int .i64 v0, .int .i64 v1, .int .i64 v2, .int .i64 v3, .int .i64 v4] t)) fun e w' => (∃ r : Int, e = .returned (.int .i64 r) ∧ (r = v0 ∨ r = v1 ∨ r = v2 ∨ r = v3 ∨ r = v4)) ∧ SrcX w' g 102 B ∧ (w.alloc (.cells #[.int .i64 v0, .int .i64 v1, .int .i64 v2, .int .i64 v3, .int .i64 v4] t)).grownBy w' (some g) := by
  have hl := hS.lt
  refine (s_l01Pick g w.heap.size 0 5 c [v0, v1, v2, v3, v4] _ (hS.up ((Up.refl w).alloc _)) (rdI_lit w t [v0, v1, v2, v3, v4] 5 rfl) (by omega) (by omega) (by omega)).mono ?_
  rintro e w' ⟨⟨k, hk, rfl⟩, k2, k3⟩
  refine ⟨⟨_, rfl, ?_⟩, k2, k3⟩
  match k, hk with
  | 0, _ => simp
  | 1, _ => simp
  | 2, _ => simp
  | 3, _ => simp
  | 4, _ => simp
  | k + 5, hk => omega
theorem s_pick6 {B : Nat} (g : Nat) (v0 v1 v2 v3 v4 v5 : Int) (c t : Nat) (w : World) (hS : SrcX w g 102 B) :
    Calls Try.prog 119 #[.pointer (some ⟨g, 0, none⟩), .slice (some ⟨w.heap.size, 0, none⟩) 6 c] (w.alloc (.cells #[.int .i64 v0, .int .i64 v1, .int .i64 v2, .int .i64 v3, .int .i64 v4, .int .i64 v5] t)) fun e w' => (∃ r : Int, e = .returned (.int .i64 r) ∧ (r = v0 ∨ r = v1 ∨ r = v2 ∨ r = v3 ∨ r = v4 ∨ r = v5)) ∧ SrcX w' g 102 B ∧ (w.alloc (.cells #[.int .i64 v0, .int .i64 v1, .int .i64 v2, .int .i64 v3, .int .i64 v4, .int .i64 v5] t)).grownBy w' (some g) := by
  have hl := hS.lt
  refine (s_l01Pick g w.heap.size 0 6 c [v0, v1, v2, v3, v4, v5] _ (hS.up ((Up.refl w).alloc _)) (rdI_lit w t [v0, v1, v2, v3, v4, v5] 6 rfl) (by omega) (by omega) (by omega)).mono ?_
  rintro e w' ⟨⟨k, hk, rfl⟩, k2, k3⟩
  refine ⟨⟨_, rfl, ?_⟩, k2, k3⟩
  match k, hk with
  | 0, _ => simp
  | 1, _ => simp
  | 2, _ => simp
  | 3, _ => simp
  | 4, _ => simp
  | 5, _ => simp
  | k + 6, hk => omega
theorem s_pick7 {B : Nat} (g : Nat) (v0 v1 v2 v3 v4 v5 v6 : Int) (c t : Nat) (w : World) (hS : SrcX w g 102 B) :
    Calls Try.prog 119 #[.pointer (some ⟨g, 0, none⟩), .slice (some ⟨w.heap.size, 0, none⟩) 7 c] (w.alloc (.cells #[.int .i64 v0, .int .i64 v1, .int .i64 v2, .int .i64 v3, .int .i64 v4, .int .i64 v5, .int .i64 v6] t)) fun e w' => (∃ r : Int, e = .returned (.int .i64 r) ∧ (r = v0 ∨ r = v1 ∨ r = v2 ∨ r = v3 ∨ r = v4 ∨ r = v5 ∨ r = v6)) ∧ SrcX w' g 102 B ∧ (w.alloc (.cells #[.int .i64 v0, .int .i64 v1, .int .i64 v2, .int .i64 v3, .int .i64 v4, .int .i64 v5, .int .i64 v6] t)).grownBy w' (some g) := by
  have hl := hS.lt
  refine (s_l01Pick g w.heap.size 0 7 c [v0, v1, v2, v3, v4, v5, v6] _ (hS.up ((Up.refl w).alloc _)) (rdI_lit w t [v0, v1, v2, v3, v4, v5, v6] 7 rfl) (by omega) (by omega) (by omega)).mono ?_
  rintro e w' ⟨⟨k, hk, rfl⟩, k2, k3⟩
  refine ⟨⟨_, rfl, ?_⟩, k2, k3⟩
  match k, hk with
  | 0, _ => simp
  | 1, _ => simp
  | 2, _ => simp
  | 3, _ => simp
  | 4, _ => simp
  | 5, _ => simp
  | 6, _ => simp
  | k + 7, hk => omega
set_option maxRecDepth 100000 in
set_option maxHeartbeats 4000000 in
theorem s_l02Draw {B : Nat} (g : Nat) (w : World) (hS : SrcX w g 102 B) :
    Calls Try.prog 116 #[.pointer (some ⟨g, 0, none⟩)] w fun e w' => (∃ x y : Int, e = .returned (.agg #[.int .i64 x, .int .i64 y]) ∧ (-1000000000001 ≤ x ∧ x ≤ 1000000000001) ∧ (-1000000000001 ≤ y ∧ y ≤ 1000000000001)) ∧ SrcX w' g 102 B ∧ w.grownBy w' (some g) := by
  have hg0 := hS.lt
  have hgB := hS.le
  go_enter Try.func116, Try.ntmps116
  go_upto_region 1 with fail
  go_cut [3] (fun s3 wx => ∃ r : Int, s3 = .int .i64 r ∧ (-1000000 ≤ r ∧ r ≤ 1000000) ∧ SrcX wx g 102 B ∧ (w.alloc (Obj.cells #[.int .i64 0, .int .i64 0] 26)).grownBy wx (some g))
  case first =>
    go_wp2_with (first
      | (go_at_call 115; refine (s_l01NextX _ _ _ (by ((repeat with_reducible refine SrcX.far ?_ (by (try dsimp only); omega) (by (try dsimp only); omega) _); (first | with_reducible assumption | (with_reducible refine SrcX.up (by with_reducible assumption) ?_; (repeat' (first | with_reducible exact Up.refl _ | with_reducible assumption | with_reducible refine Up.alloc ?_ _ | with_reducible refine Up.drew ?_ | with_reducible refine Up.drewN ?_ _ | with_reducible refine Up.setCell ?_ (by (try simp only [World.size_alloc, World.size_setCell, World.heap_drewN, World.size_drew]); omega) _ | (with_reducible refine Up.trans ?_ (by with_reducible assumption)))); done)))) (by omega)).mono ?_; rintro e wn ⟨⟨r, rfl, r0, r1⟩, hS, hg⟩; obtain ⟨N, J, JF, hn1, hn2, hz, hc, hf⟩ := grown_facts hg; (try simp only [World.size_alloc, World.size_setCell, World.heap_drewN, World.size_drew] at hn1 hn2); (try simp only [cell_drewI] at hc); (try simp only [frz_drewI] at hf))
      | (go_at_call 119; refine (s_pick3 g _ _ _ _ _ _ (by ((repeat with_reducible refine SrcX.far ?_ (by (try dsimp only); omega) (by (try dsimp only); omega) _); (first | with_reducible assumption | (with_reducible refine SrcX.up (by with_reducible assumption) ?_; (repeat' (first | with_reducible exact Up.refl _ | with_reducible assumption | with_reducible refine Up.alloc ?_ _ | with_reducible refine Up.drew ?_ | with_reducible refine Up.drewN ?_ _ | with_reducible refine Up.setCell ?_ (by (try simp only [World.size_alloc, World.size_setCell, World.heap_drewN, World.size_drew]); omega) _ | (with_reducible refine Up.trans ?_ (by with_reducible assumption)))); done))))).mono ?_; rintro e wn ⟨⟨r, rfl, hr⟩, hS, hg⟩; obtain ⟨N, J, JF, hn1, hn2, hz, hc, hf⟩ := grown_facts hg; (try simp only [World.size_alloc, World.size_setCell, World.heap_drewN, World.size_drew] at hn1 hn2); (try simp only [cell_drewI] at hc); (try simp only [frz_drewI] at hf)))
    go_meet
    exact ⟨_, rfl, by omega, by assumption, by (repeat' (first | with_reducible exact grown_refl _ _ | with_reducible assumption | with_reducible refine grown_new ?_ (by (try dsimp only); (try simp only [World.size_alloc, World.size_setCell, World.heap_drewN, World.size_drew]); omega) _ | with_reducible refine grown_set ?_ _ _ | with_reducible refine grown_up ?_ ((Up.refl _).drew) | with_reducible refine grown_up ?_ (Up.alloc (Up.refl _) _) | with_reducible refine grown_trans ?_ (by with_reducible assumption)))⟩
  case rest =>
    obtain ⟨x, rfl, ⟨x0, x1⟩, hS, hg⟩ := hcut
    have hsz := hg.size
    simp only [World.size_alloc, World.size_setCell, World.heap_drewN, World.size_drew] at hsz
    go_upto_region 2 with fail
    go_cut [4] (fun s4 wx => ∃ (h : Nat) (y : Int), s4 = .pointer (some ⟨h, 0, none⟩) ∧ Blk wx h 26 #[.int .i64 x, .int .i64 y] ∧ w.heap.size < h ∧ (-1000000 ≤ y ∧ y ≤ 1200000) ∧ SrcX wx g 102 B ∧ (w.alloc (Obj.cells #[.int .i64 0, .int .i64 0] 26)).grownBy wx (some g))
    case first =>
      go_wp2_with (first
      | (go_at_call 115; refine (s_l01NextX _ _ _ (by ((repeat with_reducible refine SrcX.far ?_ (by (try dsimp only); omega) (by (try dsimp only); omega) _); (first | with_reducible assumption | (with_reducible refine SrcX.up (by with_reducible assumption) ?_; (repeat' (first | with_reducible exact Up.refl _ | with_reducible assumption | with_reducible refine Up.alloc ?_ _ | with_reducible refine Up.drew ?_ | with_reducible refine Up.drewN ?_ _ | with_reducible refine Up.setCell ?_ (by (try simp only [World.size_alloc, World.size_setCell, World.heap_drewN, World.size_drew]); omega) _ | (with_reducible refine Up.trans ?_ (by with_reducible assumption)))); done)))) (by omega)).mono ?_; rintro e wn ⟨⟨r, rfl, r0, r1⟩, hS, hg⟩; obtain ⟨N, J, JF, hn1, hn2, hz, hc, hf⟩ := grown_facts hg; (try simp only [World.size_alloc, World.size_setCell, World.heap_drewN, World.size_drew] at hn1 hn2); (try simp only [cell_drewI] at hc); (try simp only [frz_drewI] at hf))
      | (go_at_call 119; refine (s_pick5 g _ _ _ _ _ _ _ _ (by ((repeat with_reducible refine SrcX.far ?_ (by (try dsimp only); omega) (by (try dsimp only); omega) _); (first | with_reducible assumption | (with_reducible refine SrcX.up (by with_reducible assumption) ?_; (repeat' (first | with_reducible exact Up.refl _ | with_reducible assumption | with_reducible refine Up.alloc ?_ _ | with_reducible refine Up.drew ?_ | with_reducible refine Up.drewN ?_ _ | with_reducible refine Up.setCell ?_ (by (try simp only [World.size_alloc, World.size_setCell, World.heap_drewN, World.size_drew]); omega) _ | (with_reducible refine Up.trans ?_ (by with_reducible assumption)))); done))))).mono ?_; rintro e wn ⟨⟨r, rfl, hr⟩, hS, hg⟩; obtain ⟨N, J, JF, hn1, hn2, hz, hc, hf⟩ := grown_facts hg; (try simp only [World.size_alloc, World.size_setCell, World.heap_drewN, World.size_drew] at hn1 hn2); (try simp only [cell_drewI] at hc); (try simp only [frz_drewI] at hf)))
      go_meet
      exact ⟨_, _, rfl, Blk.new _ _ _, by omega, by omega, by ((repeat with_reducible refine SrcX.far ?_ (by (try dsimp only); omega) (by (try dsimp only); omega) _); (first | with_reducible assumption | (with_reducible refine SrcX.up (by with_reducible assumption) ?_; (repeat' (first | with_reducible exact Up.refl _ | with_reducible assumption | with_reducible refine Up.alloc ?_ _ | with_reducible refine Up.drew ?_ | with_reducible refine Up.drewN ?_ _ | with_reducible refine Up.setCell ?_ (by (try simp only [World.size_alloc, World.size_setCell, World.heap_drewN, World.size_drew]); omega) _ | (with_reducible refine Up.trans ?_ (by with_reducible assumption)))); done))), by (repeat' (first | with_reducible exact grown_refl _ _ | with_reducible assumption | with_reducible refine grown_new ?_ (by (try dsimp only); (try simp only [World.size_alloc, World.size_setCell, World.heap_drewN, World.size_drew]); omega) _ | with_reducible refine grown_set ?_ _ _ | with_reducible refine grown_up ?_ ((Up.refl _).drew) | with_reducible refine grown_up ?_ (Up.alloc (Up.refl _) _) | with_reducible refine grown_trans ?_ (by with_reducible assumption)))⟩
    case rest =>
      obtain ⟨h, y, rfl, hB, hh, ⟨y0, y1⟩, hS, hg⟩ := hcut
      have hB0 := (Blk.new w 26 #[.int .i64 0, .int .i64 0]).grown1 hg (by omega)
      go_upto_region 3 with fail
      go_cut [29] (fun s29 wx => ∃ r : Int, s29 = .int .i64 r ∧ Blk wx h 26 #[.int .i64 x, .int .i64 y] ∧ Blk wx w.heap.size 26 #[.int .i64 0, .int .i64 0] ∧ SrcX wx g 102 B ∧ (w.alloc (Obj.cells #[.int .i64 0, .int .i64 0] 26)).grownBy wx (some g))
      case first =>
        go_wp2_with (first
          | (go_at_call 115; refine (s_l01NextX _ _ _ (by ((repeat with_reducible refine SrcX.far ?_ (by (try dsimp only); omega) (by (try dsimp only); omega) _); (first | with_reducible assumption | (with_reducible refine SrcX.up (by with_reducible assumption) ?_; (repeat' (first | with_reducible exact Up.refl _ | with_reducible assumption | with_reducible refine Up.alloc ?_ _ | with_reducible refine Up.drew ?_ | with_reducible refine Up.drewN ?_ _ | with_reducible refine Up.setCell ?_ (by (try simp only [World.size_alloc, World.size_setCell, World.heap_drewN, World.size_drew]); omega) _ | (with_reducible refine Up.trans ?_ (by with_reducible assumption)))); done)))) (by omega)).mono ?_; rintro e wn ⟨⟨r, rfl, r0, r1⟩, hS, hg⟩; obtain ⟨N, J, JF, hn1, hn2, hz, hc, hf⟩ := grown_facts hg; (try simp only [World.size_alloc, World.size_setCell, World.heap_drewN, World.size_drew] at hn1 hn2); (try simp only [cell_drewI] at hc); (try simp only [frz_drewI] at hf)))
        go_meet
        exact ⟨_, rfl, hB.grown1 (by assumption) (by omega), hB0.grown1 (by assumption) (by omega), by assumption, by (repeat' (first | with_reducible exact grown_refl _ _ | with_reducible assumption | with_reducible refine grown_new ?_ (by (try dsimp only); (try simp only [World.size_alloc, World.size_setCell, World.heap_drewN, World.size_drew]); omega) _ | with_reducible refine grown_set ?_ _ _ | with_reducible refine grown_up ?_ ((Up.refl _).drew) | with_reducible refine grown_up ?_ (Up.alloc (Up.refl _) _) | with_reducible refine grown_trans ?_ (by with_reducible assumption)))⟩
      case rest =>
        obtain ⟨r, rfl, hB, hB0, hS, hg⟩ := hcut
        have b0 := hB.cell 0
        have b1 := hB.cell 1
        have z0 := hB.frozen 0
        have z1 := hB.frozen 1
        have d0 := hB0.cell 0
        have d1 := hB0.cell 1
        have q0 := hB0.frozen 0
        have q1 := hB0.frozen 1
        have hlt := hB.lt
        simp at b0 b1 d0 d1
        go_wp2_with (first
          | (go_at_call 119; refine (s_pick4 g _ _ _ _ _ _ _ (by ((repeat with_reducible refine SrcX.far ?_ (by (try dsimp only); omega) (by (try dsimp only); omega) _); (first | with_reducible assumption | (with_reducible refine SrcX.up (by with_reducible assumption) ?_; (repeat' (first | with_reducible exact Up.refl _ | with_reducible assumption | with_reducible refine Up.alloc ?_ _ | with_reducible refine Up.drew ?_ | with_reducible refine Up.drewN ?_ _ | with_reducible refine Up.setCell ?_ (by (try simp only [World.size_alloc, World.size_setCell, World.heap_drewN, World.size_drew]); omega) _ | (with_reducible refine Up.trans ?_ (by with_reducible assumption)))); done))))).mono ?_; rintro e wn ⟨⟨r, rfl, hr⟩, hS, hg⟩; obtain ⟨N, J, JF, hn1, hn2, hz, hc, hf⟩ := grown_facts hg; (try simp only [World.size_alloc, World.size_setCell, World.heap_drewN, World.size_drew] at hn1 hn2); (try simp only [cell_drewI] at hc); (try simp only [frz_drewI] at hf)))
        all_goals (refine ret_agg2 Try.results116 rfl Try.underlying26 rfl (by kernel_rfl) rfl (by simp [isSome_setCell, cell_setI, cell_drewI, cell_allocI, ↓IntWalk.iteOmega, *]) (by simp [isSome_setCell, cell_setI, cell_drewI, cell_allocI, ↓IntWalk.iteOmega, *]) ⟨⟨_, _, rfl, by omega, by omega⟩, by ((repeat with_reducible refine SrcX.far ?_ (by (try dsimp only); omega) (by (try dsimp only); omega) _); (first | with_reducible assumption | (with_reducible refine SrcX.up (by with_reducible assumption) ?_; (repeat' (first | with_reducible exact Up.refl _ | with_reducible assumption | with_reducible refine Up.alloc ?_ _ | with_reducible refine Up.drew ?_ | with_reducible refine Up.drewN ?_ _ | with_reducible refine Up.setCell ?_ (by (try simp only [World.size_alloc, World.size_setCell, World.heap_drewN, World.size_drew]); omega) _ | (with_reducible refine Up.trans ?_ (by with_reducible assumption)))); done))), ?_⟩; (repeat' (first | with_reducible exact grown_refl _ _ | with_reducible assumption | with_reducible refine grown_new ?_ (by (try dsimp only); (try simp only [World.size_alloc, World.size_setCell, World.heap_drewN, World.size_drew]); omega) _ | with_reducible refine grown_set ?_ _ _ | with_reducible refine grown_up ?_ ((Up.refl _).drew) | with_reducible refine grown_up ?_ (Up.alloc (Up.refl _) _) | with_reducible refine grown_trans ?_ (by with_reducible assumption))))
end Go.Proofs.Ytanafhmjmfkpmaa
