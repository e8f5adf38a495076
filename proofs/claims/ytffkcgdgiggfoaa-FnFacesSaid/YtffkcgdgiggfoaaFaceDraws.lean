import Derived.Test.YtffkcgdgiggfoaaPlaceDraws
import Derived.Deep.RegionHeld3
/- What is drawn of faces. -/
namespace Go.Proofs.Ytffkcgdgiggfoaa
set_option linter.unusedSimpArgs false
set_option linter.unusedVariables false
open Go.RowKit
attribute [local go_sem] cell_allocI frz_allocI later_cell later_frz
attribute [local go_sem] cell_setI cell_drewI frz_drewI
theorem wrD {x : Int} (h1 : -9000000000000000000 ≤ x) (h2 : x ≤ 9000000000000000000) : IntKind.i64.wrap x = x := by simp only [IntKind.wrap_i64]; omega
set_option maxRecDepth 100000 in
set_option maxHeartbeats 4000000 in
theorem s_l18DrawFace {B : Nat} (g : Nat) (w : World) (hS : SrcX w g 178 B) :
    Calls Try.prog 124 #[.pointer (some ⟨g, 0, none⟩)] w fun e w' => (∃ a b c d : Int, e = .returned (.agg #[.int .i64 a, .int .i64 b, .int .i64 c, .int .i64 d]) ∧ InP a ∧ InP b ∧ InP c ∧ InP d) ∧ SrcX w' g 178 B ∧ w.grownBy w' (some g) := by
  have hg0 := hS.lt
  have hgB := hS.le
  go_enter Try.func124, Try.ntmps124
  go_upto_region 1 with fail
  go_cut [3, 4] (fun s3 s4 wx => ∃ r q : Int, s3 = .int .i64 r ∧ s4 = .int .i64 q ∧ (-2000 ≤ r ∧ r ≤ 2000) ∧ (-2000 ≤ q ∧ q ≤ 2000) ∧ SrcX wx g 178 B ∧ (w.alloc (Obj.cells #[.int .i64 0, .int .i64 0, .int .i64 0, .int .i64 0] 49)).grownBy wx (some g))
  case first =>
    go_wp2_with (first
      | (go_at_call 78; refine (s_l01NextX _ _ _ (by ((repeat with_reducible refine SrcX.far ?_ (by (try dsimp only); omega) (by (try dsimp only); omega) _); (first | with_reducible assumption | (with_reducible refine SrcX.up (by with_reducible assumption) ?_; (repeat' (first | with_reducible exact Up.refl _ | with_reducible assumption | with_reducible refine Up.alloc ?_ _ | with_reducible refine Up.drew ?_ | with_reducible refine Up.drewN ?_ _ | with_reducible refine Up.setCell ?_ (by (try simp only [World.size_alloc, World.size_setCell, World.heap_drewN, World.size_drew]); omega) _ | (with_reducible refine Up.trans ?_ (by with_reducible assumption)))); done)))) (by omega)).mono ?_; rintro e wn ⟨⟨r, rfl, r0, r1⟩, hS, hg⟩; obtain ⟨N, J, JF, hn1, hn2, hz, hc, hf⟩ := grown_facts hg; (try simp only [World.size_alloc, World.size_setCell, World.heap_drewN, World.size_drew] at hn1 hn2); (try simp only [cell_drewI] at hc); (try simp only [frz_drewI] at hf)))
    go_meet
    exact ⟨_, _, rfl, rfl, by omega, by omega, by assumption, by (repeat' (first | with_reducible exact grown_refl _ _ | with_reducible assumption | with_reducible refine grown_new ?_ (by (try dsimp only); (try simp only [World.size_alloc, World.size_setCell, World.heap_drewN, World.size_drew]); omega) _ | with_reducible refine grown_set ?_ _ _ | with_reducible refine grown_up ?_ ((Up.refl _).drew) | with_reducible refine grown_up ?_ (Up.alloc (Up.refl _) _) | with_reducible refine grown_trans ?_ (by with_reducible assumption)))⟩
  case rest =>
    obtain ⟨x, y, rfl, rfl, ⟨x0, x1⟩, ⟨y0, y1⟩, hS, hg⟩ := hcut
    have hsz := hg.size
    simp only [World.size_alloc, World.size_setCell, World.heap_drewN, World.size_drew] at hsz
    go_upto_region 2 with fail
    go_cut [5] (fun s5 wx => ∃ (h : Nat) (x2 y2 : Int), s5 = .pointer (some ⟨h, 0, none⟩) ∧ Blk wx h 49 #[.int .i64 x, .int .i64 y, .int .i64 x2, .int .i64 y2] ∧ w.heap.size < h ∧ (-5000 ≤ x2 ∧ x2 ≤ 5000) ∧ (-5000 ≤ y2 ∧ y2 ≤ 5000) ∧ SrcX wx g 178 B ∧ (w.alloc (Obj.cells #[.int .i64 0, .int .i64 0, .int .i64 0, .int .i64 0] 49)).grownBy wx (some g))
    case first =>
      go_wp2_with (first
        | (go_at_call 78; refine (s_l01NextX _ _ _ (by ((repeat with_reducible refine SrcX.far ?_ (by (try dsimp only); omega) (by (try dsimp only); omega) _); (first | with_reducible assumption | (with_reducible refine SrcX.up (by with_reducible assumption) ?_; (repeat' (first | with_reducible exact Up.refl _ | with_reducible assumption | with_reducible refine Up.alloc ?_ _ | with_reducible refine Up.drew ?_ | with_reducible refine Up.drewN ?_ _ | with_reducible refine Up.setCell ?_ (by (try simp only [World.size_alloc, World.size_setCell, World.heap_drewN, World.size_drew]); omega) _ | (with_reducible refine Up.trans ?_ (by with_reducible assumption)))); done)))) (by omega)).mono ?_; rintro e wn ⟨⟨r, rfl, r0, r1⟩, hS, hg⟩; obtain ⟨N, J, JF, hn1, hn2, hz, hc, hf⟩ := grown_facts hg; (try simp only [World.size_alloc, World.size_setCell, World.heap_drewN, World.size_drew] at hn1 hn2); (try simp only [cell_drewI] at hc); (try simp only [frz_drewI] at hf)))
      go_meet
      exact ⟨_, _, _, rfl, Blk.new _ _ _, by omega, by omega, by omega, by ((repeat with_reducible refine SrcX.far ?_ (by (try dsimp only); omega) (by (try dsimp only); omega) _); (first | with_reducible assumption | (with_reducible refine SrcX.up (by with_reducible assumption) ?_; (repeat' (first | with_reducible exact Up.refl _ | with_reducible assumption | with_reducible refine Up.alloc ?_ _ | with_reducible refine Up.drew ?_ | with_reducible refine Up.drewN ?_ _ | with_reducible refine Up.setCell ?_ (by (try simp only [World.size_alloc, World.size_setCell, World.heap_drewN, World.size_drew]); omega) _ | (with_reducible refine Up.trans ?_ (by with_reducible assumption)))); done))), by (repeat' (first | with_reducible exact grown_refl _ _ | with_reducible assumption | with_reducible refine grown_new ?_ (by (try dsimp only); (try simp only [World.size_alloc, World.size_setCell, World.heap_drewN, World.size_drew]); omega) _ | with_reducible refine grown_set ?_ _ _ | with_reducible refine grown_up ?_ ((Up.refl _).drew) | with_reducible refine grown_up ?_ (Up.alloc (Up.refl _) _) | with_reducible refine grown_trans ?_ (by with_reducible assumption)))⟩
    case rest =>
      obtain ⟨h, x2, y2, rfl, hB, hh, ⟨x3, x4⟩, ⟨y3, y4⟩, hS, hg⟩ := hcut
      have hB0 := (Blk.new w 49 #[.int .i64 0, .int .i64 0, .int .i64 0, .int .i64 0]).grown1 hg (by omega)
      go_upto_region 3 with fail
      go_cut [26] (fun s29 wx => ∃ r : Int, s29 = .int .i64 r ∧ Blk wx h 49 #[.int .i64 x, .int .i64 y, .int .i64 x2, .int .i64 y2] ∧ Blk wx w.heap.size 49 #[.int .i64 0, .int .i64 0, .int .i64 0, .int .i64 0] ∧ SrcX wx g 178 B ∧ (w.alloc (Obj.cells #[.int .i64 0, .int .i64 0, .int .i64 0, .int .i64 0] 49)).grownBy wx (some g))
      case first =>
        go_wp2_with (first
          | (go_at_call 78; refine (s_l01NextX _ _ _ (by ((repeat with_reducible refine SrcX.far ?_ (by (try dsimp only); omega) (by (try dsimp only); omega) _); (first | with_reducible assumption | (with_reducible refine SrcX.up (by with_reducible assumption) ?_; (repeat' (first | with_reducible exact Up.refl _ | with_reducible assumption | with_reducible refine Up.alloc ?_ _ | with_reducible refine Up.drew ?_ | with_reducible refine Up.drewN ?_ _ | with_reducible refine Up.setCell ?_ (by (try simp only [World.size_alloc, World.size_setCell, World.heap_drewN, World.size_drew]); omega) _ | (with_reducible refine Up.trans ?_ (by with_reducible assumption)))); done)))) (by omega)).mono ?_; rintro e wn ⟨⟨r, rfl, r0, r1⟩, hS, hg⟩; obtain ⟨N, J, JF, hn1, hn2, hz, hc, hf⟩ := grown_facts hg; (try simp only [World.size_alloc, World.size_setCell, World.heap_drewN, World.size_drew] at hn1 hn2); (try simp only [cell_drewI] at hc); (try simp only [frz_drewI] at hf)))
        go_meet
        exact ⟨_, rfl, hB.grown1 (by assumption) (by omega), hB0.grown1 (by assumption) (by omega), by assumption, by (repeat' (first | with_reducible exact grown_refl _ _ | with_reducible assumption | with_reducible refine grown_new ?_ (by (try dsimp only); (try simp only [World.size_alloc, World.size_setCell, World.heap_drewN, World.size_drew]); omega) _ | with_reducible refine grown_set ?_ _ _ | with_reducible refine grown_up ?_ ((Up.refl _).drew) | with_reducible refine grown_up ?_ (Up.alloc (Up.refl _) _) | with_reducible refine grown_trans ?_ (by with_reducible assumption)))⟩
      case rest =>
        obtain ⟨r, rfl, hB, hB0, hS, hg⟩ := hcut
        have b0 := hB.cell 0
        have z0 := hB.frozen 0
        have d0 := hB0.cell 0
        have q0 := hB0.frozen 0
        have b1 := hB.cell 1
        have z1 := hB.frozen 1
        have d1 := hB0.cell 1
        have q1 := hB0.frozen 1
        have b2 := hB.cell 2
        have z2 := hB.frozen 2
        have d2 := hB0.cell 2
        have q2 := hB0.frozen 2
        have b3 := hB.cell 3
        have z3 := hB.frozen 3
        have d3 := hB0.cell 3
        have q3 := hB0.frozen 3
        have hlt := hB.lt
        simp at b0 b1 b2 b3 d0 d1 d2 d3
        by_cases hr0 : r = 0
        · have e0 : (r == 0) = true := by simpa using hr0
          clear hr0
          go_upto_region 5 with fail
          go_region_held3 (fun w' => w'.cell? ⟨h, 0, none⟩ = some (.int .i64 x) ∧ w'.cell? ⟨h, 1, none⟩ = some (.int .i64 y) ∧ w'.cell? ⟨h, 2, none⟩ = some (cellV w' h 2) ∧ w'.cell? ⟨h, 3, none⟩ = some (.int .i64 y2) ∧ w'.cell? ⟨w.heap.size, 0, none⟩ = some (cellV w' (w.heap.size) 0) ∧ w'.cell? ⟨w.heap.size, 1, none⟩ = some (cellV w' (w.heap.size) 1) ∧ w'.cell? ⟨w.heap.size, 2, none⟩ = some (cellV w' (w.heap.size) 2) ∧ w'.cell? ⟨w.heap.size, 3, none⟩ = some (cellV w' (w.heap.size) 3))
            (first | ((try dsimp only); (repeat' apply And.intro) <;> (first | (simp [cell_setI, cell_drewI, cell_allocI, isSome_setCell, ↓IntWalk.iteOmega, *]; done) | exact cellV_of (by simp [cell_setI, cell_drewI, cell_allocI, ↓IntWalk.iteOmega, isSome_setCell, *]))))
            (first
              | (go_at_call 78; refine (s_l01NextX _ _ _ (by ((repeat with_reducible refine SrcX.far ?_ (by (try dsimp only); omega) (by (try dsimp only); omega) _); (first | with_reducible assumption | (with_reducible refine SrcX.up (by with_reducible assumption) ?_; (repeat' (first | with_reducible exact Up.refl _ | with_reducible assumption | with_reducible refine Up.alloc ?_ _ | with_reducible refine Up.drew ?_ | with_reducible refine Up.drewN ?_ _ | with_reducible refine Up.setCell ?_ (by (try simp only [World.size_alloc, World.size_setCell, World.heap_drewN, World.size_drew]); omega) _ | (with_reducible refine Up.trans ?_ (by with_reducible assumption)))); done)))) (by omega)).mono ?_; rintro e wn ⟨⟨r, rfl, r0, r1⟩, hS, hg⟩; obtain ⟨N, J, JF, hn1, hn2, hz, hc, hf⟩ := grown_facts hg; (try simp only [World.size_alloc, World.size_setCell, World.heap_drewN, World.size_drew] at hn1 hn2); (try simp only [cell_drewI] at hc); (try simp only [frz_drewI] at hf)))
          all_goals (rename_i hH; clear hH; (have hw := wrD (x := x - r) (by omega) (by omega)); simp only [hw]; go_wp2_with fail; refine ret_agg4 Try.results124 rfl Try.underlying49 rfl (by kernel_rfl) rfl (by simp [isSome_setCell, cell_setI, cell_drewI, cell_allocI, ↓IntWalk.iteOmega, *]) (by simp [isSome_setCell, cell_setI, cell_drewI, cell_allocI, ↓IntWalk.iteOmega, *]) (by simp [isSome_setCell, cell_setI, cell_drewI, cell_allocI, ↓IntWalk.iteOmega, *]) (by simp [isSome_setCell, cell_setI, cell_drewI, cell_allocI, ↓IntWalk.iteOmega, *]) ⟨⟨_, _, _, _, rfl, (by unfold InP; omega), (by unfold InP; omega), (by unfold InP; omega), (by unfold InP; omega)⟩, by ((repeat with_reducible refine SrcX.far ?_ (by (try dsimp only); omega) (by (try dsimp only); omega) _); (first | with_reducible assumption | (with_reducible refine SrcX.up (by with_reducible assumption) ?_; (repeat' (first | with_reducible exact Up.refl _ | with_reducible assumption | with_reducible refine Up.alloc ?_ _ | with_reducible refine Up.drew ?_ | with_reducible refine Up.drewN ?_ _ | with_reducible refine Up.setCell ?_ (by (try simp only [World.size_alloc, World.size_setCell, World.heap_drewN, World.size_drew]); omega) _ | (with_reducible refine Up.trans ?_ (by with_reducible assumption)))); done))), ?_⟩; (repeat' (first | with_reducible exact grown_refl _ _ | with_reducible assumption | with_reducible refine grown_new ?_ (by (try dsimp only); (try simp only [World.size_alloc, World.size_setCell, World.heap_drewN, World.size_drew]); omega) _ | with_reducible refine grown_set ?_ _ _ | with_reducible refine grown_up ?_ ((Up.refl _).drew) | with_reducible refine grown_up ?_ (Up.alloc (Up.refl _) _) | with_reducible refine grown_trans ?_ (by with_reducible assumption))))
        · have e0 : (r == 0) = false := by simpa using hr0
          clear hr0
          go_wp2_with (first
            | (go_at_call 77; refine (s_pick3 g _ _ _ _ _ _ (by ((repeat with_reducible refine SrcX.far ?_ (by (try dsimp only); omega) (by (try dsimp only); omega) _); (first | with_reducible assumption | (with_reducible refine SrcX.up (by with_reducible assumption) ?_; (repeat' (first | with_reducible exact Up.refl _ | with_reducible assumption | with_reducible refine Up.alloc ?_ _ | with_reducible refine Up.drew ?_ | with_reducible refine Up.drewN ?_ _ | with_reducible refine Up.setCell ?_ (by (try simp only [World.size_alloc, World.size_setCell, World.heap_drewN, World.size_drew]); omega) _ | (with_reducible refine Up.trans ?_ (by with_reducible assumption)))); done))))).mono ?_; rintro e wn ⟨⟨r, rfl, hr⟩, hS, hg⟩; obtain ⟨N, J, JF, hn1, hn2, hz, hc, hf⟩ := grown_facts hg; (try simp only [World.size_alloc, World.size_setCell, World.heap_drewN, World.size_drew] at hn1 hn2); (try simp only [cell_drewI] at hc); (try simp only [frz_drewI] at hf)))
          all_goals (refine ret_agg4 Try.results124 rfl Try.underlying49 rfl (by kernel_rfl) rfl (by simp [isSome_setCell, cell_setI, cell_drewI, cell_allocI, ↓IntWalk.iteOmega, *]) (by simp [isSome_setCell, cell_setI, cell_drewI, cell_allocI, ↓IntWalk.iteOmega, *]) (by simp [isSome_setCell, cell_setI, cell_drewI, cell_allocI, ↓IntWalk.iteOmega, *]) (by simp [isSome_setCell, cell_setI, cell_drewI, cell_allocI, ↓IntWalk.iteOmega, *]) ⟨⟨_, _, _, _, rfl, (by unfold InP; omega), (by unfold InP; omega), (by unfold InP; omega), (by unfold InP; omega)⟩, by ((repeat with_reducible refine SrcX.far ?_ (by (try dsimp only); omega) (by (try dsimp only); omega) _); (first | with_reducible assumption | (with_reducible refine SrcX.up (by with_reducible assumption) ?_; (repeat' (first | with_reducible exact Up.refl _ | with_reducible assumption | with_reducible refine Up.alloc ?_ _ | with_reducible refine Up.drew ?_ | with_reducible refine Up.drewN ?_ _ | with_reducible refine Up.setCell ?_ (by (try simp only [World.size_alloc, World.size_setCell, World.heap_drewN, World.size_drew]); omega) _ | (with_reducible refine Up.trans ?_ (by with_reducible assumption)))); done))), ?_⟩; (repeat' (first | with_reducible exact grown_refl _ _ | with_reducible assumption | with_reducible refine grown_new ?_ (by (try dsimp only); (try simp only [World.size_alloc, World.size_setCell, World.heap_drewN, World.size_drew]); omega) _ | with_reducible refine grown_set ?_ _ _ | with_reducible refine grown_up ?_ ((Up.refl _).drew) | with_reducible refine grown_up ?_ (Up.alloc (Up.refl _) _) | with_reducible refine grown_trans ?_ (by with_reducible assumption))))
theorem s_DrawCornersOf (A : Option Addr) (n c : Nat) (w00 w : World) (h : RdB w00 A n) (hu0 : Up w00 w) (hn : n ≤ 4096) :
    Calls Try.prog 62 #[.slice A n c] w fun e w' => (∃ a b c d : Int, e = .returned (.agg #[.int .i64 a, .int .i64 b, .int .i64 c, .int .i64 d]) ∧ InP a ∧ InP b ∧ InP c ∧ InP d) ∧ Up w w' := by
  have h := h.up hu0
  clear hu0
  go_enter Try.func62, Try.ntmps62
  go_wp2_with (first
    | (go_at_call 75; refine (s_l01FromX w _ _ _ _ h (by (repeat' (first | with_reducible exact Up.refl _ | with_reducible assumption | with_reducible refine Up.alloc ?_ _ | with_reducible refine Up.drew ?_ | with_reducible refine Up.drewN ?_ _ | with_reducible refine Up.setCell ?_ (by (try simp only [World.size_alloc, World.size_setCell, World.heap_drewN, World.size_drew]); omega) _ | (with_reducible refine Up.trans ?_ (by with_reducible assumption))))) hn).mono ?_; rintro e w1 ⟨rfl, hS, hu1⟩; (try simp only [World.size_alloc, World.size_setCell, World.heap_drewN, World.size_drew] at hS); obtain ⟨N1, J1, JF1, ha1, hb1, hz1, hc1, hf1⟩ := hu1.facts; (try simp only [World.size_alloc, World.size_setCell, World.heap_drewN, World.size_drew] at ha1 hb1); (try simp only [cell_drewI] at hc1); (try simp only [frz_drewI] at hf1))
    | (go_at_call 124; refine (s_l18DrawFace _ _ (by ((repeat with_reducible refine SrcX.far ?_ (by (try dsimp only); omega) (by (try dsimp only); omega) _); (first | with_reducible assumption | (with_reducible refine SrcX.up (by with_reducible assumption) ?_; (repeat' (first | with_reducible exact Up.refl _ | with_reducible assumption | with_reducible refine Up.alloc ?_ _ | with_reducible refine Up.drew ?_ | with_reducible refine Up.drewN ?_ _ | with_reducible refine Up.setCell ?_ (by (try simp only [World.size_alloc, World.size_setCell, World.heap_drewN, World.size_drew]); omega) _ | (with_reducible refine Up.trans ?_ (by with_reducible assumption)))); done))))).mono ?_; rintro e wn ⟨⟨a, b, c, d, rfl, ia, ib, ic, id⟩, hS, hg⟩; obtain ⟨N, J, JF, hn1, hn2, hz, hc, hf⟩ := grown_facts hg; (try simp only [World.size_alloc, World.size_setCell, World.heap_drewN, World.size_drew] at hn1 hn2); (try simp only [cell_drewI] at hc); (try simp only [frz_drewI] at hf)))
  have hU1 : Up w w1 := by (repeat' (first | with_reducible exact Up.refl _ | with_reducible assumption | with_reducible refine Up.alloc ?_ _ | with_reducible refine Up.drew ?_ | with_reducible refine Up.drewN ?_ _ | with_reducible refine Up.setCell ?_ (by (try simp only [World.size_alloc, World.size_setCell, World.heap_drewN, World.size_drew]); omega) _ | (with_reducible refine Up.trans ?_ (by with_reducible assumption))))
  have hU' : Up w wn := hU1.only (by assumption) (by omega)
  refine ret_agg4 Try.results62 rfl Try.underlying49 rfl (by kernel_rfl) rfl (by simp [isSome_setCell, cell_setI, cell_drewI, cell_allocI, ↓IntWalk.iteOmega, *]) (by simp [isSome_setCell, cell_setI, cell_drewI, cell_allocI, ↓IntWalk.iteOmega, *]) (by simp [isSome_setCell, cell_setI, cell_drewI, cell_allocI, ↓IntWalk.iteOmega, *]) (by simp [isSome_setCell, cell_setI, cell_drewI, cell_allocI, ↓IntWalk.iteOmega, *]) ⟨⟨_, _, _, _, rfl, ia, ib, ic, id⟩, ?_⟩
  (repeat' (first | with_reducible exact Up.refl _ | with_reducible assumption | with_reducible refine Up.alloc ?_ _ | with_reducible refine Up.drew ?_ | with_reducible refine Up.drewN ?_ _ | with_reducible refine Up.setCell ?_ (by (try simp only [World.size_alloc, World.size_setCell, World.heap_drewN, World.size_drew]); omega) _ | (with_reducible refine Up.trans ?_ (by with_reducible assumption))))
set_option maxRecDepth 100000 in
set_option maxHeartbeats 4000000 in
theorem s_DrawMeetFaces (A : Option Addr) (n c : Nat) (w00 w : World) (h : RdB w00 A n) (hu0 : Up w00 w) (hn : n ≤ 4096) :
    Calls Try.prog 59 #[.slice A n c] w fun e w' => (∃ a b c d p q r s : Int, e = .returned (.tuple #[.agg #[.int .i64 a, .int .i64 b, .int .i64 c, .int .i64 d], .agg #[.int .i64 p, .int .i64 q, .int .i64 r, .int .i64 s]])) ∧ Up w w' := by
  have h := h.up hu0
  clear hu0
  go_enter Try.func59, Try.ntmps59
  go_upto_region 2 with (go_at_call 75; refine (s_l01FromX w _ _ _ _ h (by (repeat' (first | with_reducible exact Up.refl _ | with_reducible assumption | with_reducible refine Up.alloc ?_ _ | with_reducible refine Up.drew ?_ | with_reducible refine Up.drewN ?_ _ | with_reducible refine Up.setCell ?_ (by (try simp only [World.size_alloc, World.size_setCell, World.heap_drewN, World.size_drew]); omega) _ | (with_reducible refine Up.trans ?_ (by with_reducible assumption))))) hn).mono ?_; rintro e wn ⟨rfl, hS, hu⟩; (try simp only [World.size_alloc, World.size_setCell, World.heap_drewN, World.size_drew] at hS); obtain ⟨N, J, JF, hn1, hn2, hz, hc, hf⟩ := hu.facts; (try simp only [World.size_alloc, World.size_setCell, World.heap_drewN, World.size_drew] at hn1 hn2))
  have hU1 : Up w wn := by (repeat' (first | with_reducible exact Up.refl _ | with_reducible assumption | with_reducible refine Up.alloc ?_ _ | with_reducible refine Up.drew ?_ | with_reducible refine Up.drewN ?_ _ | with_reducible refine Up.setCell ?_ (by (try simp only [World.size_alloc, World.size_setCell, World.heap_drewN, World.size_drew]); omega) _ | (with_reducible refine Up.trans ?_ (by with_reducible assumption))))
  have hA : Blk wn w.heap.size 49 #[.int .i64 0, .int .i64 0, .int .i64 0, .int .i64 0] := ((Blk.new w _ _).alloc _).up hu
  have hB := (Blk.new (w.alloc (Obj.cells #[.int .i64 0, .int .i64 0, .int .i64 0, .int .i64 0] 49)) 49 #[.int .i64 0, .int .i64 0, .int .i64 0, .int .i64 0]).up hu
  simp only [World.size_alloc, World.size_setCell, World.heap_drewN, World.size_drew] at hB
  have hsz := hS.lt
  clear hc hf hu hz hn1 hn2
  go_cut [5] (fun s5 wx => ∃ (k : Nat) (a b c d : Int), s5 = .pointer (some ⟨k, 0, none⟩) ∧ Blk wx k 49 #[.int .i64 a, .int .i64 b, .int .i64 c, .int .i64 d] ∧ w.heap.size + 1 + 1 < k ∧ Up w wx ∧ SrcX wx (w.heap.size + 1 + 1) 178 w.heap.size ∧ Blk wx w.heap.size 49 #[.int .i64 0, .int .i64 0, .int .i64 0, .int .i64 0] ∧ Blk wx (w.heap.size + 1) 49 #[.int .i64 0, .int .i64 0, .int .i64 0, .int .i64 0])
  case first =>
    go_wp2_with (go_at_call 124; refine (s_l18DrawFace _ _ (by ((repeat with_reducible refine SrcX.far ?_ (by (try dsimp only); omega) (by (try dsimp only); omega) _); (first | with_reducible assumption | (with_reducible refine SrcX.up (by with_reducible assumption) ?_; (repeat' (first | with_reducible exact Up.refl _ | with_reducible assumption | with_reducible refine Up.alloc ?_ _ | with_reducible refine Up.drew ?_ | with_reducible refine Up.drewN ?_ _ | with_reducible refine Up.setCell ?_ (by (try simp only [World.size_alloc, World.size_setCell, World.heap_drewN, World.size_drew]); omega) _ | (with_reducible refine Up.trans ?_ (by with_reducible assumption)))); done))))).mono ?_; rintro e wn ⟨⟨a, b, c, d, rfl, ia, ib, ic, id⟩, hS, hg⟩; obtain ⟨N, J, JF, hn1, hn2, hz, hc, hf⟩ := grown_facts hg; (try simp only [World.size_alloc, World.size_setCell, World.heap_drewN, World.size_drew] at hn1 hn2); (try simp only [cell_drewI] at hc); (try simp only [frz_drewI] at hf))
    go_meet
    exact ⟨_, _, _, _, _, rfl, Blk.new _ _ _, by omega, (hU1.only hg (by omega)).alloc _, by ((repeat with_reducible refine SrcX.far ?_ (by (try dsimp only); omega) (by (try dsimp only); omega) _); (first | with_reducible assumption | (with_reducible refine SrcX.up (by with_reducible assumption) ?_; (repeat' (first | with_reducible exact Up.refl _ | with_reducible assumption | with_reducible refine Up.alloc ?_ _ | with_reducible refine Up.drew ?_ | with_reducible refine Up.drewN ?_ _ | with_reducible refine Up.setCell ?_ (by (try simp only [World.size_alloc, World.size_setCell, World.heap_drewN, World.size_drew]); omega) _ | (with_reducible refine Up.trans ?_ (by with_reducible assumption)))); done))), (hA.grown1 hg (by omega)).alloc _, (hB.grown1 hg (by omega)).alloc _⟩
  case rest =>
    obtain ⟨k, a, b, c, d, rfl, hK, hk, hU, hS, hA, hB⟩ := hcut
    clear hU1
    have s0 := hK.cell 0
    have x0 := hA.cell 0
    have y0 := hB.cell 0
    have z0 := hA.frozen 0
    have v0 := hB.frozen 0
    have s1 := hK.cell 1
    have x1 := hA.cell 1
    have y1 := hB.cell 1
    have z1 := hA.frozen 1
    have v1 := hB.frozen 1
    have s2 := hK.cell 2
    have x2 := hA.cell 2
    have y2 := hB.cell 2
    have z2 := hA.frozen 2
    have v2 := hB.frozen 2
    have s3 := hK.cell 3
    have x3 := hA.cell 3
    have y3 := hB.cell 3
    have z3 := hA.frozen 3
    have v3 := hB.frozen 3
    have hlk := hK.lt
    simp at s0 s1 s2 s3 x0 x1 x2 x3 y0 y1 y2 y3
    go_upto_region 3 with fail
    go_region_held3 (fun w' => w'.cell? ⟨k, 0, none⟩ = some (.int .i64 a) ∧ w'.cell? ⟨k, 1, none⟩ = some (.int .i64 b) ∧ w'.cell? ⟨k, 2, none⟩ = some (.int .i64 c) ∧ w'.cell? ⟨k, 3, none⟩ = some (.int .i64 d) ∧ w'.cell? ⟨w.heap.size, 0, none⟩ = some (cellV w' (w.heap.size) 0) ∧ w'.cell? ⟨w.heap.size, 1, none⟩ = some (cellV w' (w.heap.size) 1) ∧ w'.cell? ⟨w.heap.size, 2, none⟩ = some (cellV w' (w.heap.size) 2) ∧ w'.cell? ⟨w.heap.size, 3, none⟩ = some (cellV w' (w.heap.size) 3) ∧ w'.cell? ⟨w.heap.size + 1, 0, none⟩ = some (cellV w' (w.heap.size + 1) 0) ∧ w'.cell? ⟨w.heap.size + 1, 1, none⟩ = some (cellV w' (w.heap.size + 1) 1) ∧ w'.cell? ⟨w.heap.size + 1, 2, none⟩ = some (cellV w' (w.heap.size + 1) 2) ∧ w'.cell? ⟨w.heap.size + 1, 3, none⟩ = some (cellV w' (w.heap.size + 1) 3))
      (first | ((try dsimp only); (repeat' apply And.intro) <;> (first | (simp [cell_setI, cell_drewI, cell_allocI, isSome_setCell, ↓IntWalk.iteOmega, *]; done) | exact cellV_of (by simp [cell_setI, cell_drewI, cell_allocI, ↓IntWalk.iteOmega, isSome_setCell, *]))))
      (first | (go_at_call 124; refine (s_l18DrawFace _ _ (by ((repeat with_reducible refine SrcX.far ?_ (by (try dsimp only); omega) (by (try dsimp only); omega) _); (first | with_reducible assumption | (with_reducible refine SrcX.up (by with_reducible assumption) ?_; (repeat' (first | with_reducible exact Up.refl _ | with_reducible assumption | with_reducible refine Up.alloc ?_ _ | with_reducible refine Up.drew ?_ | with_reducible refine Up.drewN ?_ _ | with_reducible refine Up.setCell ?_ (by (try simp only [World.size_alloc, World.size_setCell, World.heap_drewN, World.size_drew]); omega) _ | (with_reducible refine Up.trans ?_ (by with_reducible assumption)))); done))))).mono ?_; rintro e wn ⟨⟨p, q, r, s, rfl, ia, ib, ic, id⟩, hS, hg⟩; obtain ⟨N, J, JF, hn1, hn2, hz, hc, hf⟩ := grown_facts hg; (try simp only [World.size_alloc, World.size_setCell, World.heap_drewN, World.size_drew] at hn1 hn2); (try simp only [cell_drewI] at hc); (try simp only [frz_drewI] at hf)))
    all_goals (go_wp2_with fail)
    refine ret_agg44 Try.results59 rfl rfl Try.underlying49 rfl (by kernel_rfl) Try.underlying49 rfl (by kernel_rfl) rfl (by omega) (by simp [isSome_setCell, cell_setI, cell_drewI, cell_allocI, ↓IntWalk.iteOmega, *]) (by simp [isSome_setCell, cell_setI, cell_drewI, cell_allocI, ↓IntWalk.iteOmega, *]) (by simp [isSome_setCell, cell_setI, cell_drewI, cell_allocI, ↓IntWalk.iteOmega, *]) (by simp [isSome_setCell, cell_setI, cell_drewI, cell_allocI, ↓IntWalk.iteOmega, *]) (by simp [isSome_setCell, cell_setI, cell_drewI, cell_allocI, ↓IntWalk.iteOmega, *]) (by simp [isSome_setCell, cell_setI, cell_drewI, cell_allocI, ↓IntWalk.iteOmega, *]) (by simp [isSome_setCell, cell_setI, cell_drewI, cell_allocI, ↓IntWalk.iteOmega, *]) (by simp [isSome_setCell, cell_setI, cell_drewI, cell_allocI, ↓IntWalk.iteOmega, *]) ⟨⟨_, _, _, _, _, _, _, _, rfl⟩, ?_⟩
    have hU' : Up w wn := hU.only (show wc.grownBy wn (some (w.heap.size + 1 + 1)) by (repeat' (first | with_reducible exact grown_refl _ _ | with_reducible assumption | with_reducible refine grown_new ?_ (by (try dsimp only); (try simp only [World.size_alloc, World.size_setCell, World.heap_drewN, World.size_drew]); omega) _ | with_reducible refine grown_set ?_ _ _ | with_reducible refine grown_up ?_ ((Up.refl _).drew) | with_reducible refine grown_up ?_ (Up.alloc (Up.refl _) _) | with_reducible refine grown_trans ?_ (by with_reducible assumption)))) (by omega)
    (repeat' (first | with_reducible exact Up.refl _ | with_reducible assumption | with_reducible refine Up.alloc ?_ _ | with_reducible refine Up.drew ?_ | with_reducible refine Up.drewN ?_ _ | with_reducible refine Up.setCell ?_ (by (try simp only [World.size_alloc, World.size_setCell, World.heap_drewN, World.size_drew]); omega) _ | (with_reducible refine Up.trans ?_ (by with_reducible assumption))))
end Go.Proofs.Ytffkcgdgiggfoaa
