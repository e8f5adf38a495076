import Derived.Test.YtanafhmjmfkpmaaIvDraws
import Derived.Deep.RegionHeld3
import Derived.Deep.AppendLies
import Derived.OwnWalk
import Derived.Laws.MakeOwn
/- What is drawn for hulls: a list of intervals, two intervals, an interval and a number. -/
namespace Go.Proofs.Ytanafhmjmfkpmaa
set_option linter.unusedSimpArgs false
set_option linter.unusedVariables false
open Go.RowKit
attribute [local go_sem] cell_allocI frz_allocI later_cell later_frz
attribute [local go_sem] cell_setI cell_drewI frz_drewI
theorem s_pickV5 {B : Nat} (g b c : Nat) (w : World) (hS : SrcX w g 102 B) (hb : b ≠ g) (hl : b < w.heap.size) (h0 : ∃ z, w.cell? ⟨b, 0, none⟩ = some (.int .i64 z)) (h1 : ∃ z, w.cell? ⟨b, 1, none⟩ = some (.int .i64 z)) (h2 : ∃ z, w.cell? ⟨b, 2, none⟩ = some (.int .i64 z)) (h3 : ∃ z, w.cell? ⟨b, 3, none⟩ = some (.int .i64 z)) (h4 : ∃ z, w.cell? ⟨b, 4, none⟩ = some (.int .i64 z)) :
    Calls Try.prog 119 #[.pointer (some ⟨g, 0, none⟩), .slice (some ⟨b, 0, none⟩) 5 c] w fun e w' => (∃ r : Int, e = .returned (.int .i64 r)) ∧ SrcX w' g 102 B ∧ w.grownBy w' (some g) := by
  obtain ⟨z0, h0⟩ := h0
  obtain ⟨z1, h1⟩ := h1
  obtain ⟨z2, h2⟩ := h2
  obtain ⟨z3, h3⟩ := h3
  obtain ⟨z4, h4⟩ := h4
  refine (s_l01Pick g b 0 5 c [z0, z1, z2, z3, z4] w hS ⟨rfl, fun k hk => ⟨b, 0, rfl, hl, ?_⟩⟩ hb (by omega) (by omega)).mono ?_
  · rw [Nat.zero_add]
    match k, hk with
    | 0, _ => exact h0
    | 1, _ => exact h1
    | 2, _ => exact h2
    | 3, _ => exact h3
    | 4, _ => exact h4
    | k + 5, hk => omega
  · rintro e w' ⟨⟨k, hk, rfl⟩, k2, k3⟩
    exact ⟨⟨_, rfl⟩, k2, k3⟩
set_option maxRecDepth 100000 in
set_option maxHeartbeats 4000000 in
theorem s_DrawHasNumber (A : Option Addr) (n c : Nat) (w00 w : World) (h : RdB w00 A n) (hu0 : Up w00 w) (hn : n ≤ 4096) :
    Calls Try.prog 47 #[.slice A n c] w fun e w' => (∃ a b y : Int, e = .returned (.tuple #[.agg #[.int .i64 a, .int .i64 b], .int .i64 y])) ∧ Up w w' := by
  have h := h.up hu0
  clear hu0
  go_enter Try.func47, Try.ntmps47
  go_upto_region 2 with (go_at_call 114; refine (s_l01FromX w _ _ _ _ h (by (repeat' (first | with_reducible exact Up.refl _ | with_reducible assumption | with_reducible refine Up.alloc ?_ _ | with_reducible refine Up.drew ?_ | with_reducible refine Up.drewN ?_ _ | with_reducible refine Up.setCell ?_ (by (try simp only [World.size_alloc, World.size_setCell, World.heap_drewN, World.size_drew]); omega) _ | (with_reducible refine Up.trans ?_ (by with_reducible assumption))))) hn).mono ?_; rintro e wn ⟨rfl, hS, hu⟩; (try simp only [World.size_alloc, World.size_setCell, World.heap_drewN, World.size_drew] at hS); obtain ⟨N, J, JF, hn1, hn2, hz, hc, hf⟩ := hu.facts; (try simp only [World.size_alloc, World.size_setCell, World.heap_drewN, World.size_drew] at hn1 hn2))
  have hU1 : Up w wn := by (repeat' (first | with_reducible exact Up.refl _ | with_reducible assumption | with_reducible refine Up.alloc ?_ _ | with_reducible refine Up.drew ?_ | with_reducible refine Up.drewN ?_ _ | with_reducible refine Up.setCell ?_ (by (try simp only [World.size_alloc, World.size_setCell, World.heap_drewN, World.size_drew]); omega) _ | (with_reducible refine Up.trans ?_ (by with_reducible assumption))))
  have hA : Blk wn w.heap.size 26 #[.int .i64 0, .int .i64 0] := (Blk.new w _ _).up hu
  have hsz := hS.lt
  clear hc hf hu hz hn1 hn2
  go_cut [5] (fun s5 wx => ∃ (k : Nat) (a b : Int), s5 = .pointer (some ⟨k, 0, none⟩) ∧ InD a ∧ InD b ∧ Blk wx k 26 #[.int .i64 a, .int .i64 b] ∧ w.heap.size + 1 < k ∧ Up w wx ∧ SrcX wx (w.heap.size + 1) 102 w.heap.size ∧ Blk wx w.heap.size 26 #[.int .i64 0, .int .i64 0])
  case first =>
    go_wp2_with (go_at_call 116; refine (s_l02Draw _ _ (by ((repeat with_reducible refine SrcX.far ?_ (by (try dsimp only); omega) (by (try dsimp only); omega) _); (first | with_reducible assumption | (with_reducible refine SrcX.up (by with_reducible assumption) ?_; (repeat' (first | with_reducible exact Up.refl _ | with_reducible assumption | with_reducible refine Up.alloc ?_ _ | with_reducible refine Up.drew ?_ | with_reducible refine Up.drewN ?_ _ | with_reducible refine Up.setCell ?_ (by (try simp only [World.size_alloc, World.size_setCell, World.heap_drewN, World.size_drew]); omega) _ | (with_reducible refine Up.trans ?_ (by with_reducible assumption)))); done))))).mono ?_; rintro e wn ⟨⟨a, b, rfl, ia, ib⟩, hS, hg⟩; obtain ⟨N, J, JF, hn1, hn2, hz, hc, hf⟩ := grown_facts hg; (try simp only [World.size_alloc, World.size_setCell, World.heap_drewN, World.size_drew] at hn1 hn2); (try simp only [cell_drewI] at hc); (try simp only [frz_drewI] at hf))
    go_meet
    exact ⟨_, _, _, rfl, ia, ib, Blk.new _ _ _, by omega, (hU1.only hg (by omega)).alloc _, by ((repeat with_reducible refine SrcX.far ?_ (by (try dsimp only); omega) (by (try dsimp only); omega) _); (first | with_reducible assumption | (with_reducible refine SrcX.up (by with_reducible assumption) ?_; (repeat' (first | with_reducible exact Up.refl _ | with_reducible assumption | with_reducible refine Up.alloc ?_ _ | with_reducible refine Up.drew ?_ | with_reducible refine Up.drewN ?_ _ | with_reducible refine Up.setCell ?_ (by (try simp only [World.size_alloc, World.size_setCell, World.heap_drewN, World.size_drew]); omega) _ | (with_reducible refine Up.trans ?_ (by with_reducible assumption)))); done))), (hA.grown1 hg (by omega)).alloc _⟩
  case rest =>
    obtain ⟨k, a, b, rfl, ia, ib, hK, hk, hU, hS, hA⟩ := hcut
    clear hU1
    obtain ⟨ia1, ia2⟩ := ia
    obtain ⟨ib1, ib2⟩ := ib
    have s0 := hK.cell 0
    have z0 := hA.frozen 0
    have r0 := hA.cell 0
    have s1 := hK.cell 1
    have z1 := hA.frozen 1
    have r1 := hA.cell 1
    have hlk := hK.lt
    simp at s0 s1 r0 r1
    clear hsz
    have hgs := hS.lt
    go_upto_region 3 with fail
    go_region_held3 (fun w' => w'.cell? ⟨k, 0, none⟩ = some (.int .i64 a) ∧ w'.cell? ⟨k, 1, none⟩ = some (.int .i64 b) ∧ w'.cell? ⟨w.heap.size, 0, none⟩ = some (cellV w' w.heap.size 0) ∧ w'.cell? ⟨w.heap.size, 1, none⟩ = some (cellV w' w.heap.size 1))
      (first | ((try dsimp only); (repeat' apply And.intro) <;> (first | (simp [cell_setI, cell_drewI, cell_allocI, isSome_setCell, ↓IntWalk.iteOmega, *]; done) | exact cellV_of (by simp [cell_setI, cell_drewI, cell_allocI, ↓IntWalk.iteOmega, isSome_setCell, *]))))
      (first
        | (go_at_call 115; refine (s_l01NextX _ _ _ (by ((repeat with_reducible refine SrcX.far ?_ (by (try dsimp only); omega) (by (try dsimp only); omega) _); (first | with_reducible assumption | (with_reducible refine SrcX.up (by with_reducible assumption) ?_; (repeat' (first | with_reducible exact Up.refl _ | with_reducible assumption | with_reducible refine Up.alloc ?_ _ | with_reducible refine Up.drew ?_ | with_reducible refine Up.drewN ?_ _ | with_reducible refine Up.setCell ?_ (by (try simp only [World.size_alloc, World.size_setCell, World.heap_drewN, World.size_drew]); omega) _ | (with_reducible refine Up.trans ?_ (by with_reducible assumption)))); done)))) (by omega)).mono ?_; rintro e wn ⟨⟨r, rfl, r0, r1⟩, hS, hg⟩; obtain ⟨N, J, JF, hn1, hn2, hz, hc, hf⟩ := grown_facts hg; (try simp only [World.size_alloc, World.size_setCell, World.heap_drewN, World.size_drew] at hn1 hn2); (try simp only [cell_drewI] at hc); (try simp only [frz_drewI] at hf))
        | (go_at_call 119; refine (s_pickV5 _ _ _ _ (by ((repeat with_reducible refine SrcX.far ?_ (by (try dsimp only); omega) (by (try dsimp only); omega) _); (first | with_reducible assumption | (with_reducible refine SrcX.up (by with_reducible assumption) ?_; (repeat' (first | with_reducible exact Up.refl _ | with_reducible assumption | with_reducible refine Up.alloc ?_ _ | with_reducible refine Up.drew ?_ | with_reducible refine Up.drewN ?_ _ | with_reducible refine Up.setCell ?_ (by (try simp only [World.size_alloc, World.size_setCell, World.heap_drewN, World.size_drew]); omega) _ | (with_reducible refine Up.trans ?_ (by with_reducible assumption)))); done)))) (by (try simp only [World.size_alloc, World.size_setCell, World.heap_drewN, World.size_drew]); omega) (by (try simp only [World.size_alloc, World.size_setCell, World.heap_drewN, World.size_drew]); omega) (by simp [cell_setI, cell_drewI, cell_allocI, ↓IntWalk.iteOmega, *]) (by simp [cell_setI, cell_drewI, cell_allocI, ↓IntWalk.iteOmega, *]) (by simp [cell_setI, cell_drewI, cell_allocI, ↓IntWalk.iteOmega, *]) (by simp [cell_setI, cell_drewI, cell_allocI, ↓IntWalk.iteOmega, *]) (by simp [cell_setI, cell_drewI, cell_allocI, ↓IntWalk.iteOmega, *])).mono ?_; rintro e wn ⟨⟨r, rfl⟩, hS, hg⟩; obtain ⟨N, J, JF, hn1, hn2, hz, hc, hf⟩ := grown_facts hg; (try simp only [World.size_alloc, World.size_setCell, World.heap_drewN, World.size_drew] at hn1 hn2); (try simp only [cell_drewI] at hc); (try simp only [frz_drewI] at hf)))
    all_goals (go_wp2_with fail; refine ret_agg2t Try.results47 rfl Try.underlying26 rfl (by kernel_rfl) rfl (by simp [isSome_setCell, cell_setI, cell_drewI, cell_allocI, ↓IntWalk.iteOmega, *]) (by simp [isSome_setCell, cell_setI, cell_drewI, cell_allocI, ↓IntWalk.iteOmega, *]) ⟨⟨_, _, _, rfl⟩, ?_⟩; have hU' : Up w wn := hU.only (show wc.grownBy wn (some (w.heap.size + 1)) by (repeat' (first | with_reducible exact grown_refl _ _ | with_reducible assumption | with_reducible refine grown_new ?_ (by (try dsimp only); (try simp only [World.size_alloc, World.size_setCell, World.heap_drewN, World.size_drew]); omega) _ | with_reducible refine grown_set ?_ _ _ | with_reducible refine grown_up ?_ ((Up.refl _).drew) | with_reducible refine grown_up ?_ (Up.alloc (Up.refl _) _) | with_reducible refine grown_trans ?_ (by with_reducible assumption)))) (by omega); (repeat' (first | with_reducible exact Up.refl _ | with_reducible assumption | with_reducible refine Up.alloc ?_ _ | with_reducible refine Up.drew ?_ | with_reducible refine Up.drewN ?_ _ | with_reducible refine Up.setCell ?_ (by (try simp only [World.size_alloc, World.size_setCell, World.heap_drewN, World.size_drew]); omega) _ | (with_reducible refine Up.trans ?_ (by with_reducible assumption)))))
set_option maxRecDepth 100000 in
set_option maxHeartbeats 4000000 in
theorem s_DrawWidenInterval (A : Option Addr) (n c : Nat) (w00 w : World) (h : RdB w00 A n) (hu0 : Up w00 w) (hn : n ≤ 4096) :
    Calls Try.prog 48 #[.slice A n c] w fun e w' => (∃ a b y : Int, e = .returned (.tuple #[.agg #[.int .i64 a, .int .i64 b], .int .i64 y])) ∧ Up w w' := by
  have h := h.up hu0
  clear hu0
  go_enter Try.func48, Try.ntmps48
  go_upto_region 2 with (go_at_call 114; refine (s_l01FromX w _ _ _ _ h (by (repeat' (first | with_reducible exact Up.refl _ | with_reducible assumption | with_reducible refine Up.alloc ?_ _ | with_reducible refine Up.drew ?_ | with_reducible refine Up.drewN ?_ _ | with_reducible refine Up.setCell ?_ (by (try simp only [World.size_alloc, World.size_setCell, World.heap_drewN, World.size_drew]); omega) _ | (with_reducible refine Up.trans ?_ (by with_reducible assumption))))) hn).mono ?_; rintro e wn ⟨rfl, hS, hu⟩; (try simp only [World.size_alloc, World.size_setCell, World.heap_drewN, World.size_drew] at hS); obtain ⟨N, J, JF, hn1, hn2, hz, hc, hf⟩ := hu.facts; (try simp only [World.size_alloc, World.size_setCell, World.heap_drewN, World.size_drew] at hn1 hn2))
  have hU1 : Up w wn := by (repeat' (first | with_reducible exact Up.refl _ | with_reducible assumption | with_reducible refine Up.alloc ?_ _ | with_reducible refine Up.drew ?_ | with_reducible refine Up.drewN ?_ _ | with_reducible refine Up.setCell ?_ (by (try simp only [World.size_alloc, World.size_setCell, World.heap_drewN, World.size_drew]); omega) _ | (with_reducible refine Up.trans ?_ (by with_reducible assumption))))
  have hA : Blk wn w.heap.size 26 #[.int .i64 0, .int .i64 0] := (Blk.new w _ _).up hu
  have hsz := hS.lt
  clear hc hf hu hz hn1 hn2
  go_cut [5] (fun s5 wx => ∃ (k : Nat) (a b : Int), s5 = .pointer (some ⟨k, 0, none⟩) ∧ InD a ∧ InD b ∧ Blk wx k 26 #[.int .i64 a, .int .i64 b] ∧ w.heap.size + 1 < k ∧ Up w wx ∧ SrcX wx (w.heap.size + 1) 102 w.heap.size ∧ Blk wx w.heap.size 26 #[.int .i64 0, .int .i64 0])
  case first =>
    go_wp2_with (go_at_call 116; refine (s_l02Draw _ _ (by ((repeat with_reducible refine SrcX.far ?_ (by (try dsimp only); omega) (by (try dsimp only); omega) _); (first | with_reducible assumption | (with_reducible refine SrcX.up (by with_reducible assumption) ?_; (repeat' (first | with_reducible exact Up.refl _ | with_reducible assumption | with_reducible refine Up.alloc ?_ _ | with_reducible refine Up.drew ?_ | with_reducible refine Up.drewN ?_ _ | with_reducible refine Up.setCell ?_ (by (try simp only [World.size_alloc, World.size_setCell, World.heap_drewN, World.size_drew]); omega) _ | (with_reducible refine Up.trans ?_ (by with_reducible assumption)))); done))))).mono ?_; rintro e wn ⟨⟨a, b, rfl, ia, ib⟩, hS, hg⟩; obtain ⟨N, J, JF, hn1, hn2, hz, hc, hf⟩ := grown_facts hg; (try simp only [World.size_alloc, World.size_setCell, World.heap_drewN, World.size_drew] at hn1 hn2); (try simp only [cell_drewI] at hc); (try simp only [frz_drewI] at hf))
    go_meet
    exact ⟨_, _, _, rfl, ia, ib, Blk.new _ _ _, by omega, (hU1.only hg (by omega)).alloc _, by ((repeat with_reducible refine SrcX.far ?_ (by (try dsimp only); omega) (by (try dsimp only); omega) _); (first | with_reducible assumption | (with_reducible refine SrcX.up (by with_reducible assumption) ?_; (repeat' (first | with_reducible exact Up.refl _ | with_reducible assumption | with_reducible refine Up.alloc ?_ _ | with_reducible refine Up.drew ?_ | with_reducible refine Up.drewN ?_ _ | with_reducible refine Up.setCell ?_ (by (try simp only [World.size_alloc, World.size_setCell, World.heap_drewN, World.size_drew]); omega) _ | (with_reducible refine Up.trans ?_ (by with_reducible assumption)))); done))), (hA.grown1 hg (by omega)).alloc _⟩
  case rest =>
    obtain ⟨k, a, b, rfl, ia, ib, hK, hk, hU, hS, hA⟩ := hcut
    clear hU1
    obtain ⟨ia1, ia2⟩ := ia
    obtain ⟨ib1, ib2⟩ := ib
    have s0 := hK.cell 0
    have z0 := hA.frozen 0
    have r0 := hA.cell 0
    have s1 := hK.cell 1
    have z1 := hA.frozen 1
    have r1 := hA.cell 1
    have hlk := hK.lt
    simp at s0 s1 r0 r1
    clear hsz
    have hgs := hS.lt
    go_upto_region 3 with fail
    go_region_held3 (fun w' => w'.cell? ⟨k, 0, none⟩ = some (.int .i64 a) ∧ w'.cell? ⟨k, 1, none⟩ = some (.int .i64 b) ∧ w'.cell? ⟨w.heap.size, 0, none⟩ = some (cellV w' w.heap.size 0) ∧ w'.cell? ⟨w.heap.size, 1, none⟩ = some (cellV w' w.heap.size 1))
      (first | ((try dsimp only); (repeat' apply And.intro) <;> (first | (simp [cell_setI, cell_drewI, cell_allocI, isSome_setCell, ↓IntWalk.iteOmega, *]; done) | exact cellV_of (by simp [cell_setI, cell_drewI, cell_allocI, ↓IntWalk.iteOmega, isSome_setCell, *]))))
      (first
        | (go_at_call 115; refine (s_l01NextX _ _ _ (by ((repeat with_reducible refine SrcX.far ?_ (by (try dsimp only); omega) (by (try dsimp only); omega) _); (first | with_reducible assumption | (with_reducible refine SrcX.up (by with_reducible assumption) ?_; (repeat' (first | with_reducible exact Up.refl _ | with_reducible assumption | with_reducible refine Up.alloc ?_ _ | with_reducible refine Up.drew ?_ | with_reducible refine Up.drewN ?_ _ | with_reducible refine Up.setCell ?_ (by (try simp only [World.size_alloc, World.size_setCell, World.heap_drewN, World.size_drew]); omega) _ | (with_reducible refine Up.trans ?_ (by with_reducible assumption)))); done)))) (by omega)).mono ?_; rintro e wn ⟨⟨r, rfl, r0, r1⟩, hS, hg⟩; obtain ⟨N, J, JF, hn1, hn2, hz, hc, hf⟩ := grown_facts hg; (try simp only [World.size_alloc, World.size_setCell, World.heap_drewN, World.size_drew] at hn1 hn2); (try simp only [cell_drewI] at hc); (try simp only [frz_drewI] at hf))
        | (go_at_call 119; refine (s_pick6 _ _ _ _ _ _ _ _ _ _ (by ((repeat with_reducible refine SrcX.far ?_ (by (try dsimp only); omega) (by (try dsimp only); omega) _); (first | with_reducible assumption | (with_reducible refine SrcX.up (by with_reducible assumption) ?_; (repeat' (first | with_reducible exact Up.refl _ | with_reducible assumption | with_reducible refine Up.alloc ?_ _ | with_reducible refine Up.drew ?_ | with_reducible refine Up.drewN ?_ _ | with_reducible refine Up.setCell ?_ (by (try simp only [World.size_alloc, World.size_setCell, World.heap_drewN, World.size_drew]); omega) _ | (with_reducible refine Up.trans ?_ (by with_reducible assumption)))); done))))).mono ?_; rintro e wn ⟨⟨r, rfl, hr⟩, hS, hg⟩; clear hr; obtain ⟨N, J, JF, hn1, hn2, hz, hc, hf⟩ := grown_facts hg; (try simp only [World.size_alloc, World.size_setCell, World.heap_drewN, World.size_drew] at hn1 hn2); (try simp only [cell_drewI] at hc); (try simp only [frz_drewI] at hf)))
    all_goals (go_wp2_with fail; refine ret_agg2t Try.results48 rfl Try.underlying26 rfl (by kernel_rfl) rfl (by simp [isSome_setCell, cell_setI, cell_drewI, cell_allocI, ↓IntWalk.iteOmega, *]) (by simp [isSome_setCell, cell_setI, cell_drewI, cell_allocI, ↓IntWalk.iteOmega, *]) ⟨⟨_, _, _, rfl⟩, ?_⟩; have hU' : Up w wn := hU.only (show wc.grownBy wn (some (w.heap.size + 1)) by (repeat' (first | with_reducible exact grown_refl _ _ | with_reducible assumption | with_reducible refine grown_new ?_ (by (try dsimp only); (try simp only [World.size_alloc, World.size_setCell, World.heap_drewN, World.size_drew]); omega) _ | with_reducible refine grown_set ?_ _ _ | with_reducible refine grown_up ?_ ((Up.refl _).drew) | with_reducible refine grown_up ?_ (Up.alloc (Up.refl _) _) | with_reducible refine grown_trans ?_ (by with_reducible assumption)))) (by omega); (repeat' (first | with_reducible exact Up.refl _ | with_reducible assumption | with_reducible refine Up.alloc ?_ _ | with_reducible refine Up.drew ?_ | with_reducible refine Up.drewN ?_ _ | with_reducible refine Up.setCell ?_ (by (try simp only [World.size_alloc, World.size_setCell, World.heap_drewN, World.size_drew]); omega) _ | (with_reducible refine Up.trans ?_ (by with_reducible assumption)))))
theorem Try.info_Iv : (Try.prog.info? 26).map (fun i => (i.zero, i.size, i.bytes)) = some (some (.agg #[.int .i64 0, .int .i64 0]), 2, 16) := by kernel_rfl
theorem run_make_rowH {P : Program} (t e : TypeId) (z : Value) (k bytes : Nat) (ht : P.underlying t = some (.slice e)) (hinfo : (P.info? e).map (fun i => (i.zero, i.size, i.bytes)) = some (some z, k, bytes))
    (kl kc : IntKind) (n : Nat) (hbytes : bytes * n ≤ 281474976710656) (h63 : n ≤ 9223372036854775807) (w : World) :
    (Instr.makeSlice t (.int kl (n : Int)) (.int kc (n : Int))).run P w = .ok (.slice (some ⟨w.heap.size, 0, none⟩) n n) (w.alloc (.cells (madeCells z.cells (n * k)) e)) := by
  obtain ⟨i, hi, hzz⟩ := Option.map_eq_some_iff.1 hinfo
  simp only [Prod.mk.injEq] at hzz
  obtain ⟨hz, hs, hb⟩ := hzz
  have hb' : (i.bytes : Int) * (n : Int) ≤ 281474976710656 := by
    have h : ((i.bytes * n : Nat) : Int) ≤ 281474976710656 := by rw [hb]; omega
    rwa [Int.natCast_mul] at h
  have hr := run_make (P := P) w t e i z ht hi hz kl kc n n (by omega) (Int.le_refl _) hb' (by omega)
  simp only [Int.toNat_natCast, hs] at hr
  exact hr
/-- block 'row' is neither the source's nor the bytes' -/
theorem SrcX.grownR {w w' : World} {g t B : Nat} {row : Option Nat} (h : SrcX w g t B) (hg : w.grownBy w' row) (hr : ∀ q, row = some q → g < q) : SrcX w' g t B := by
  obtain ⟨A, n, c, ⟨p, s, hB, r⟩, h2, h3, h4, h5⟩ := h
  have hne : some g ≠ row := fun e => by have := hr g e.symm; omega
  refine ⟨A, n, c, ⟨p, s, hB.grown hg hne, r⟩, ?_, h3, h4, h5⟩
  obtain ⟨f, h1, h2⟩ := h2
  rcases Nat.eq_zero_or_pos n with h0 | h0
  · subst h0; exact ⟨f, RdF.zero _ _ _, h2⟩
  exact ⟨f, h1.grown hg (fun b o e hh => by have := h4 h0 b o e; have := hr b hh.symm; omega), h2⟩
theorem wp_pairX {P : Program} {fn : Func} {R : Ending → World → Prop} {x : Exit} {a : Act} {w : World} (h : ∀ W : World, W = w → bodyPost P fn R x a W) : bodyPost P fn R x a w := h w rfl
theorem own_rdF {w : World} {base e : Nat} {v : Value} {m : Nat} {xs : List Value} (h : w.ownsRow base e 2 v m xs) (hl : xs.length = 2 * m) : ∃ A c, v = .slice A m c ∧ RdF w A (2 * m) (fun i => xs[i]?.getD undef) := by
  rcases Nat.eq_zero_or_pos m with h0 | h0
  · subst h0
    rcases h.2 with ⟨h1, _⟩ | ⟨g, cap, cur, h1, _⟩
    · exact ⟨none, 0, h1, RdF.zero _ _ _⟩
    · exact ⟨_, _, h1, RdF.zero _ _ _⟩
  · obtain ⟨g, cap, rfl, _, hg⟩ := h.form h0
    refine ⟨_, _, rfl, fun k hk => ⟨g, 0, rfl, hg, ?_⟩⟩
    have hc := h.cells (g := g) rfl k (xs[k]'(by omega)) (List.getElem?_eq_getElem (by omega))
    rw [Addr.add_mid] at hc
    rw [hc]
    simp [show k < xs.length by omega]
theorem ints_fun {xs : List Value} (h : ∀ u ∈ xs, ∃ z : Int, u = .int .i64 z) : ∃ f : Nat → Int, ∀ i, i < xs.length → xs[i]?.getD undef = .int .i64 (f i) := by
  refine ⟨fun i => match xs[i]? with | some (.int .i64 z) => z | _ => 0, fun i hi => ?_⟩
  obtain ⟨z, hz⟩ := h xs[i] (List.getElem_mem hi)
  simp [hi, hz]
set_option maxRecDepth 100000 in
set_option maxHeartbeats 4000000 in
theorem s_DrawHullOf (A : Option Addr) (n c : Nat) (w00 w : World) (h : RdB w00 A n) (hu0 : Up w00 w) (hn : n ≤ 4096) :
    Calls Try.prog 41 #[.slice A n c] w fun e w' => (∃ (B : Option Addr) (m d : Nat) (f : Nat → Int), e = .returned (.slice B m d) ∧ m ≤ 101 ∧ RdF w' B (2 * m) (fun i => .int .i64 (f i))) ∧ Up w w' := by
  have h := h.up hu0
  clear hu0
  obtain ⟨i0, hi, hz0, hz1, hz2⟩ := info_parts Try.info_Iv
  have hi := hide hi
  have hz0 := hide hz0
  have hz1 := hide hz1
  have hz2 := hide hz2
  go_enter Try.func41, Try.ntmps41
  go_wp2_with (first
    | (go_at_call 114; refine (s_l01FromX w _ _ _ _ h (by (repeat' (first | with_reducible exact Up.refl _ | with_reducible assumption | with_reducible refine Up.alloc ?_ _ | with_reducible refine Up.drew ?_ | with_reducible refine Up.drewN ?_ _ | with_reducible refine Up.setCell ?_ (by (try simp only [World.size_alloc, World.size_setCell, World.heap_drewN, World.size_drew]); omega) _ | (with_reducible refine Up.trans ?_ (by with_reducible assumption))))) hn).mono ?_; rintro e w1 ⟨rfl, hS, hu1⟩)
    | (go_at_call 115; refine (s_l01NextX _ _ _ (by ((repeat with_reducible refine SrcX.far ?_ (by (try dsimp only); omega) (by (try dsimp only); omega) _); (first | with_reducible assumption | (with_reducible refine SrcX.up (by with_reducible assumption) ?_; (repeat' (first | with_reducible exact Up.refl _ | with_reducible assumption | with_reducible refine Up.alloc ?_ _ | with_reducible refine Up.drew ?_ | with_reducible refine Up.drewN ?_ _ | with_reducible refine Up.setCell ?_ (by (try simp only [World.size_alloc, World.size_setCell, World.heap_drewN, World.size_drew]); omega) _ | (with_reducible refine Up.trans ?_ (by with_reducible assumption)))); done)))) (by omega)).mono ?_; rintro e w2 ⟨⟨r, rfl, r0, r1⟩, hS, hg⟩))
  obtain ⟨r, rfl⟩ := Int.eq_ofNat_of_zero_le r0
  have hl1 : w.heap.size < w1.heap.size := by
    have := SrcX.lt (by assumption : SrcX w1 w.heap.size 102 w.heap.size)
    exact this
  have hown : w2.ownsRow (w.heap.size + 1) 26 2 (.slice (some ⟨w1.heap.size, 0, none⟩) 0 0) 0 [] := (World.ownsRow_made w1 #[] 0 (by omega) (by decide) rfl).kept hg (Or.inr (by simp [Value.ownBlock]; omega))
  have hU2 : Up w w2 := (hu1.alloc _).only hg (by omega)
  have hr4 : r ≤ 4 := by omega
  clear r0 r1 hg hl1 hu1
  go_loopw [4, 5] (fun v i wr => ∃ (k m : Nat) (xs : List Value), m + k ≤ 4 ∧ i = .int .i64 k ∧ wr.ownsRow (w.heap.size + 1) 26 2 v m xs ∧ xs.length = 2 * m ∧ (∀ u ∈ xs, ∃ z : Int, u = .int .i64 z) ∧ Up w wr ∧ SrcX wr w.heap.size 102 w.heap.size) (fun _ i _ => (intOf i).toNat)
  case atStart => exact ⟨r, 0, [], by omega, rfl, hown, rfl, fun u hu => by simp at hu, hU2, hS⟩
  case round =>
    clear hS hown hU2
    obtain ⟨k, m, xs, hk, rfl, hown, hxl, hxs, hU, hS⟩ := hrel
    have hxs := hide hxs
    by_cases hk0 : 0 < k
    · have e0 : decide (0 < (k : Int)) = true := by simp; omega
      have hl := hS.lt
      have hnb : u4.ownBlock = none ∨ u4.ownBlock ≠ some w.heap.size := by
        rcases h : u4.ownBlock with _ | q
        · exact Or.inl rfl
        · right; have := (hown.lt q h).1; simp; omega
      go_wp2_with (first
        | (go_at_call 116; refine (s_l02Draw _ _ (by ((repeat with_reducible refine SrcX.far ?_ (by (try dsimp only); omega) (by (try dsimp only); omega) _); (first | with_reducible assumption | (with_reducible refine SrcX.up (by with_reducible assumption) ?_; (repeat' (first | with_reducible exact Up.refl _ | with_reducible assumption | with_reducible refine Up.alloc ?_ _ | with_reducible refine Up.drew ?_ | with_reducible refine Up.drewN ?_ _ | with_reducible refine Up.setCell ?_ (by (try simp only [World.size_alloc, World.size_setCell, World.heap_drewN, World.size_drew]); omega) _ | (with_reducible refine Up.trans ?_ (by with_reducible assumption)))); done))))).mono ?_; rintro e w3 ⟨⟨a, b, rfl, ia, ib⟩, hS, hg⟩)
        | (at_builtin; refine wpList_append_lies _ rfl _ _ 49 rfl (w.heap.size + 1) 26 i0 (.agg #[.int .i64 0, .int .i64 0]) 2 16 Try.underlying49 hi.out hz0.out hz1.out hz2.out rfl (by decide) u4 m xs rfl ((hown.kept hg hnb).alloc _) ⟨w3.heap.size, 0, none⟩ 1 1 [.int .i64 a, .int .i64 b] rfl rfl ?c1 ?c2 (by decide) ?c3 ?c4 ?c5 _ rfl ?_))
      case c1 =>
        intro j u hj
        match j, hj with
        | 0, hj => simp at hj; subst hj; simp [Addr.add_mid, cell_allocI]
        | 1, hj => simp at hj; subst hj; simp [Addr.add_mid, cell_allocI]
        | j + 2, hj => simp at hj
      case c2 => intro u hu; simp at hu; rcases hu with rfl | rfl <;> rfl
      case c3 => unfold maxLen; omega
      case c4 => omega
      case c5 => have := hg.size; (try simp only [World.size_alloc, World.size_setCell, World.heap_drewN, World.size_drew]); omega
      · intro g cap w5 hown' hgrow hat hlt
        have hU5 : Up w w5 := (Up.alloc (hU.only hg (by omega)) _).grown hgrow (fun q hq => by have := (hown.lt q hq).1; omega)
        have hS5 : SrcX w5 w.heap.size 102 w.heap.size := by
          refine SrcX.grownR (h := (SrcX.up (by assumption : SrcX w3 w.heap.size 102 w.heap.size) ((Up.refl _).alloc _))) hgrow (fun q hq => ?_)
          have := (hown.lt q hq).1; omega
        clear hgrow hown hat hlt hg hU hnb
        go_wp2
        go_roundw
        case rel => exact ⟨k - 1, m + 1, _, by omega, by go_num, hown', by simp [hxl]; omega, fun u hu => by
          rw [List.mem_append] at hu
          rcases hu with hu | hu
          · exact hxs.out u hu
          · simp at hu; rcases hu with rfl | rfl <;> exact ⟨_, rfl⟩, hU5, hS5⟩
        case measure => simp [intOf]; omega
    · have e0 : decide (0 < (k : Int)) = false := by simp; omega
      have hnb : u4.ownBlock = none ∨ u4.ownBlock ≠ some w.heap.size := by
        rcases h : u4.ownBlock with _ | q
        · exact Or.inl rfl
        · right; have := (hown.lt q h).1; simp; omega
      go_upto_region 8 with (first
        | (go_at_call 115; refine (s_l01NextX _ _ _ (by ((repeat with_reducible refine SrcX.far ?_ (by (try dsimp only); omega) (by (try dsimp only); omega) _); (first | with_reducible assumption | (with_reducible refine SrcX.up (by with_reducible assumption) ?_; (repeat' (first | with_reducible exact Up.refl _ | with_reducible assumption | with_reducible refine Up.alloc ?_ _ | with_reducible refine Up.drew ?_ | with_reducible refine Up.drewN ?_ _ | with_reducible refine Up.setCell ?_ (by (try simp only [World.size_alloc, World.size_setCell, World.heap_drewN, World.size_drew]); omega) _ | (with_reducible refine Up.trans ?_ (by with_reducible assumption)))); done)))) (by omega)).mono ?_; rintro e w4 ⟨⟨q, rfl, q0, q1⟩, hS, hg⟩))
      · have hU4 : Up w w4 := hU.only hg (by omega)
        go_wp2_with (first
          | (go_at_call 115; refine (s_l01NextX _ _ _ (by ((repeat with_reducible refine SrcX.far ?_ (by (try dsimp only); omega) (by (try dsimp only); omega) _); (first | with_reducible assumption | (with_reducible refine SrcX.up (by with_reducible assumption) ?_; (repeat' (first | with_reducible exact Up.refl _ | with_reducible assumption | with_reducible refine Up.alloc ?_ _ | with_reducible refine Up.drew ?_ | with_reducible refine Up.drewN ?_ _ | with_reducible refine Up.setCell ?_ (by (try simp only [World.size_alloc, World.size_setCell, World.heap_drewN, World.size_drew]); omega) _ | (with_reducible refine Up.trans ?_ (by with_reducible assumption)))); done)))) (by omega)).mono ?_; rintro e w5 ⟨⟨p, rfl, p0, p1⟩, hS, hg2⟩; obtain ⟨p, rfl⟩ := Int.eq_ofNat_of_zero_le p0; (have hmk := fun w => run_make_rowH (P := Try.prog) 49 26 _ 2 16 Try.underlying49 Try.info_Iv .i64 .i64 (100 + p) (by omega) (by omega) w); (have ep : ((100 + p : Nat) : Int) = 100 + (p : Int) := by omega); rw [ep] at hmk; clear ep))
        go_ret
        have hU5 : Up w w5 := hU4.only hg2 (by omega)
        refine ⟨⟨_, 100 + p, _, fun _ => 0, rfl, by omega, fun k hk => ⟨w5.heap.size, 0, rfl, by simp [World.size_alloc], ?_⟩⟩, by (repeat' (first | with_reducible exact Up.refl _ | with_reducible assumption | with_reducible refine Up.alloc ?_ _ | with_reducible refine Up.drew ?_ | with_reducible refine Up.drewN ?_ _ | with_reducible refine Up.setCell ?_ (by (try simp only [World.size_alloc, World.size_setCell, World.heap_drewN, World.size_drew]); omega) _ | (with_reducible refine Up.trans ?_ (by with_reducible assumption))))⟩
        rw [Nat.zero_add, cell_allocI, if_pos rfl]
        have hk' : k < (100 + p) * 2 := by omega
        rcases Nat.mod_two_eq_zero_or_one k with h2 | h2 <;> simp [madeCells, hk', h2, Value.cells]
      · go_ret
        obtain ⟨A', c', rfl, hrd⟩ := own_rdF (hown.kept hg hnb) hxl
        obtain ⟨f, hf⟩ := ints_fun hxs.out
        exact ⟨⟨_, _, _, f, rfl, by omega, hrd.congr (fun i hi => hf i (by omega))⟩, hU.only hg (by omega)⟩
set_option maxRecDepth 100000 in
set_option maxHeartbeats 4000000 in
theorem s_DrawMeetIntervals (A : Option Addr) (n c : Nat) (w00 w : World) (h : RdB w00 A n) (hu0 : Up w00 w) (hn : n ≤ 4096) :
    Calls Try.prog 44 #[.slice A n c] w fun e w' => (∃ a b c d : Int, e = .returned (.tuple #[.agg #[.int .i64 a, .int .i64 b], .agg #[.int .i64 c, .int .i64 d]])) ∧ Up w w' := by
  have h := h.up hu0
  clear hu0
  go_enter Try.func44, Try.ntmps44
  go_upto_region 2 with (go_at_call 114; refine (s_l01FromX w _ _ _ _ h (by (repeat' (first | with_reducible exact Up.refl _ | with_reducible assumption | with_reducible refine Up.alloc ?_ _ | with_reducible refine Up.drew ?_ | with_reducible refine Up.drewN ?_ _ | with_reducible refine Up.setCell ?_ (by (try simp only [World.size_alloc, World.size_setCell, World.heap_drewN, World.size_drew]); omega) _ | (with_reducible refine Up.trans ?_ (by with_reducible assumption))))) hn).mono ?_; rintro e wn ⟨rfl, hS, hu⟩; (try simp only [World.size_alloc, World.size_setCell, World.heap_drewN, World.size_drew] at hS); obtain ⟨N, J, JF, hn1, hn2, hz, hc, hf⟩ := hu.facts; (try simp only [World.size_alloc, World.size_setCell, World.heap_drewN, World.size_drew] at hn1 hn2))
  have hU1 : Up w wn := by (repeat' (first | with_reducible exact Up.refl _ | with_reducible assumption | with_reducible refine Up.alloc ?_ _ | with_reducible refine Up.drew ?_ | with_reducible refine Up.drewN ?_ _ | with_reducible refine Up.setCell ?_ (by (try simp only [World.size_alloc, World.size_setCell, World.heap_drewN, World.size_drew]); omega) _ | (with_reducible refine Up.trans ?_ (by with_reducible assumption))))
  have hA : Blk wn w.heap.size 26 #[.int .i64 0, .int .i64 0] := ((Blk.new w _ _).alloc _).up hu
  have hB := (Blk.new (w.alloc (Obj.cells #[.int .i64 0, .int .i64 0] 26)) 26 #[.int .i64 0, .int .i64 0]).up hu
  simp only [World.size_alloc, World.size_setCell, World.heap_drewN, World.size_drew] at hB
  have hsz := hS.lt
  clear hc hf hu hz hn1 hn2
  go_cut [5] (fun s5 wx => ∃ (k : Nat) (a b : Int), s5 = .pointer (some ⟨k, 0, none⟩) ∧ InD a ∧ InD b ∧ w.heap.size + 1 + 1 < k ∧ Blk wx k 26 #[.int .i64 a, .int .i64 b] ∧ Up w wx ∧ SrcX wx (w.heap.size + 1 + 1) 102 w.heap.size ∧ Blk wx w.heap.size 26 #[.int .i64 0, .int .i64 0] ∧ Blk wx (w.heap.size + 1) 26 #[.int .i64 0, .int .i64 0])
  case first =>
    go_wp2_with (go_at_call 116; refine (s_l02Draw _ _ (by ((repeat with_reducible refine SrcX.far ?_ (by (try dsimp only); omega) (by (try dsimp only); omega) _); (first | with_reducible assumption | (with_reducible refine SrcX.up (by with_reducible assumption) ?_; (repeat' (first | with_reducible exact Up.refl _ | with_reducible assumption | with_reducible refine Up.alloc ?_ _ | with_reducible refine Up.drew ?_ | with_reducible refine Up.drewN ?_ _ | with_reducible refine Up.setCell ?_ (by (try simp only [World.size_alloc, World.size_setCell, World.heap_drewN, World.size_drew]); omega) _ | (with_reducible refine Up.trans ?_ (by with_reducible assumption)))); done))))).mono ?_; rintro e wn ⟨⟨x, y, rfl, hx, hy⟩, hS, hg⟩; obtain ⟨N, J, JF, hn1, hn2, hz, hc, hf⟩ := grown_facts hg; (try simp only [World.size_alloc, World.size_setCell, World.heap_drewN, World.size_drew] at hn1 hn2); (try simp only [cell_drewI] at hc); (try simp only [frz_drewI] at hf))
    go_meet
    exact ⟨_, _, _, rfl, hx, hy, by omega, Blk.new _ _ _, (hU1.only hg (by omega)).alloc _, by ((repeat with_reducible refine SrcX.far ?_ (by (try dsimp only); omega) (by (try dsimp only); omega) _); (first | with_reducible assumption | (with_reducible refine SrcX.up (by with_reducible assumption) ?_; (repeat' (first | with_reducible exact Up.refl _ | with_reducible assumption | with_reducible refine Up.alloc ?_ _ | with_reducible refine Up.drew ?_ | with_reducible refine Up.drewN ?_ _ | with_reducible refine Up.setCell ?_ (by (try simp only [World.size_alloc, World.size_setCell, World.heap_drewN, World.size_drew]); omega) _ | (with_reducible refine Up.trans ?_ (by with_reducible assumption)))); done))), (hA.grown1 hg (by omega)).alloc _, (hB.grown1 hg (by omega)).alloc _⟩
  case rest =>
    obtain ⟨k, a, b, rfl, ia, ib, hk, hK, hU, hS, hA, hB⟩ := hcut
    clear hU1
    have hlk := hK.lt
    go_upto_region 3 with fail
    go_cut [6] (fun s6 wx => ∃ (k2 : Nat) (p q : Int), s6 = .pointer (some ⟨k2, 0, none⟩) ∧ k < k2 ∧ Blk wx k2 26 #[.int .i64 p, .int .i64 q] ∧ Blk wx k 26 #[.int .i64 a, .int .i64 b] ∧ Up w wx ∧ SrcX wx (w.heap.size + 1 + 1) 102 w.heap.size ∧ Blk wx w.heap.size 26 #[.int .i64 0, .int .i64 0] ∧ Blk wx (w.heap.size + 1) 26 #[.int .i64 0, .int .i64 0])
    case first =>
      go_wp2_with (go_at_call 116; refine (s_l02Draw _ _ (by ((repeat with_reducible refine SrcX.far ?_ (by (try dsimp only); omega) (by (try dsimp only); omega) _); (first | with_reducible assumption | (with_reducible refine SrcX.up (by with_reducible assumption) ?_; (repeat' (first | with_reducible exact Up.refl _ | with_reducible assumption | with_reducible refine Up.alloc ?_ _ | with_reducible refine Up.drew ?_ | with_reducible refine Up.drewN ?_ _ | with_reducible refine Up.setCell ?_ (by (try simp only [World.size_alloc, World.size_setCell, World.heap_drewN, World.size_drew]); omega) _ | (with_reducible refine Up.trans ?_ (by with_reducible assumption)))); done))))).mono ?_; rintro e wn ⟨⟨x, y, rfl, hx, hy⟩, hS, hg⟩; obtain ⟨N, J, JF, hn1, hn2, hz, hc, hf⟩ := grown_facts hg; (try simp only [World.size_alloc, World.size_setCell, World.heap_drewN, World.size_drew] at hn1 hn2); (try simp only [cell_drewI] at hc); (try simp only [frz_drewI] at hf))
      go_meet
      exact ⟨_, _, _, rfl, by omega, Blk.new _ _ _, (hK.grown1 hg (by omega)).alloc _, (hU.only hg (by omega)).alloc _, by ((repeat with_reducible refine SrcX.far ?_ (by (try dsimp only); omega) (by (try dsimp only); omega) _); (first | with_reducible assumption | (with_reducible refine SrcX.up (by with_reducible assumption) ?_; (repeat' (first | with_reducible exact Up.refl _ | with_reducible assumption | with_reducible refine Up.alloc ?_ _ | with_reducible refine Up.drew ?_ | with_reducible refine Up.drewN ?_ _ | with_reducible refine Up.setCell ?_ (by (try simp only [World.size_alloc, World.size_setCell, World.heap_drewN, World.size_drew]); omega) _ | (with_reducible refine Up.trans ?_ (by with_reducible assumption)))); done))), (hA.grown1 hg (by omega)).alloc _, (hB.grown1 hg (by omega)).alloc _⟩
    case rest =>
      obtain ⟨k2, p, q, rfl, hk2, hL, hK, hU, hS, hA, hB⟩ := hcut
      have hlk2 := hL.lt
      go_upto_region 4 with fail
      go_cut [15] (fun s15 wx => ∃ t : Bool, s15 = .bool t ∧ Blk wx k2 26 #[.int .i64 p, .int .i64 q] ∧ Blk wx k 26 #[.int .i64 a, .int .i64 b] ∧ Up w wx ∧ SrcX wx (w.heap.size + 1 + 1) 102 w.heap.size ∧ Blk wx w.heap.size 26 #[.int .i64 0, .int .i64 0] ∧ Blk wx (w.heap.size + 1) 26 #[.int .i64 0, .int .i64 0])
      case first =>
        go_wp2_with (go_at_call 115; refine (s_l01NextX _ _ _ (by ((repeat with_reducible refine SrcX.far ?_ (by (try dsimp only); omega) (by (try dsimp only); omega) _); (first | with_reducible assumption | (with_reducible refine SrcX.up (by with_reducible assumption) ?_; (repeat' (first | with_reducible exact Up.refl _ | with_reducible assumption | with_reducible refine Up.alloc ?_ _ | with_reducible refine Up.drew ?_ | with_reducible refine Up.drewN ?_ _ | with_reducible refine Up.setCell ?_ (by (try simp only [World.size_alloc, World.size_setCell, World.heap_drewN, World.size_drew]); omega) _ | (with_reducible refine Up.trans ?_ (by with_reducible assumption)))); done)))) (by omega)).mono ?_; rintro e wn ⟨⟨r, rfl, r0, r1⟩, hS, hg⟩; obtain ⟨N, J, JF, hn1, hn2, hz, hc, hf⟩ := grown_facts hg; (try simp only [World.size_alloc, World.size_setCell, World.heap_drewN, World.size_drew] at hn1 hn2); (try simp only [cell_drewI] at hc); (try simp only [frz_drewI] at hf))
        go_meet
        exact ⟨_, rfl, hL.grown1 hg (by omega), hK.grown1 hg (by omega), hU.only hg (by omega), by ((repeat with_reducible refine SrcX.far ?_ (by (try dsimp only); omega) (by (try dsimp only); omega) _); (first | with_reducible assumption | (with_reducible refine SrcX.up (by with_reducible assumption) ?_; (repeat' (first | with_reducible exact Up.refl _ | with_reducible assumption | with_reducible refine Up.alloc ?_ _ | with_reducible refine Up.drew ?_ | with_reducible refine Up.drewN ?_ _ | with_reducible refine Up.setCell ?_ (by (try simp only [World.size_alloc, World.size_setCell, World.heap_drewN, World.size_drew]); omega) _ | (with_reducible refine Up.trans ?_ (by with_reducible assumption)))); done))), hA.grown1 hg (by omega), hB.grown1 hg (by omega)⟩
      case rest =>
        obtain ⟨t, rfl, hL, hK, hU, hS, hA, hB⟩ := hcut
        obtain ⟨ia1, ia2⟩ := ia
        obtain ⟨ib1, ib2⟩ := ib
        have hlk2 := hL.lt
        have hgs := hS.lt
        have s0 := hK.cell 0
        have zs0 := hK.frozen 0
        have s1 := hK.cell 1
        have zs1 := hK.frozen 1
        have t0 := hL.cell 0
        have zt0 := hL.frozen 0
        have t1 := hL.cell 1
        have zt1 := hL.frozen 1
        have x0 := hA.cell 0
        have zx0 := hA.frozen 0
        have x1 := hA.cell 1
        have zx1 := hA.frozen 1
        have y0 := hB.cell 0
        have zy0 := hB.frozen 0
        have y1 := hB.cell 1
        have zy1 := hB.frozen 1
        simp at s0 s1 t0 t1 x0 x1 y0 y1
        cases t with
        | false =>
          go_wp2_with fail
          go_region
          go_wp2_with fail
          refine ret_pair (l1 := [_, _]) (l2 := [_, _]) Try.results44 rfl rfl Try.underlying26 rfl (by kernel_rfl) Try.underlying26 rfl (by kernel_rfl) rfl (rangeAt2 (show _ = some (Value.int .i64 a) from (by simp [isSome_setCell, cell_setI, cell_drewI, cell_allocI, ↓IntWalk.iteOmega, *])) (show _ = some (Value.int .i64 b) from (by simp [isSome_setCell, cell_setI, cell_drewI, cell_allocI, ↓IntWalk.iteOmega, *]))) (rangeAt2 (show _ = some (Value.int .i64 p) from (by simp [isSome_setCell, cell_setI, cell_drewI, cell_allocI, ↓IntWalk.iteOmega, *])) (show _ = some (Value.int .i64 q) from (by simp [isSome_setCell, cell_setI, cell_drewI, cell_allocI, ↓IntWalk.iteOmega, *]))) ⟨⟨_, _, _, _, rfl⟩, ?_⟩
          (repeat' (first | with_reducible exact Up.refl _ | with_reducible assumption | with_reducible refine Up.alloc ?_ _ | with_reducible refine Up.drew ?_ | with_reducible refine Up.drewN ?_ _ | with_reducible refine Up.setCell ?_ (by (try simp only [World.size_alloc, World.size_setCell, World.heap_drewN, World.size_drew]); omega) _ | (with_reducible refine Up.trans ?_ (by with_reducible assumption))))
        | true =>
          go_upto_region 5 with fail
          go_region_held3 (fun w' => w'.cell? ⟨k, 0, none⟩ = some (.int .i64 a) ∧ w'.cell? ⟨k, 1, none⟩ = some (.int .i64 b) ∧ w'.cell? ⟨k2, 0, none⟩ = some (cellV w' k2 0) ∧ w'.cell? ⟨k2, 1, none⟩ = some (cellV w' k2 1))
            (first | ((try dsimp only); (repeat' apply And.intro) <;> (first | (simp [cell_setI, cell_drewI, cell_allocI, isSome_setCell, ↓IntWalk.iteOmega, *]; done) | exact cellV_of (by simp [cell_setI, cell_drewI, cell_allocI, ↓IntWalk.iteOmega, isSome_setCell, *]))))
            (first
              | (go_at_call 115; refine (s_l01NextX _ _ _ (by ((repeat with_reducible refine SrcX.far ?_ (by (try dsimp only); omega) (by (try dsimp only); omega) _); (first | with_reducible assumption | (with_reducible refine SrcX.up (by with_reducible assumption) ?_; (repeat' (first | with_reducible exact Up.refl _ | with_reducible assumption | with_reducible refine Up.alloc ?_ _ | with_reducible refine Up.drew ?_ | with_reducible refine Up.drewN ?_ _ | with_reducible refine Up.setCell ?_ (by (try simp only [World.size_alloc, World.size_setCell, World.heap_drewN, World.size_drew]); omega) _ | (with_reducible refine Up.trans ?_ (by with_reducible assumption)))); done)))) (by omega)).mono ?_; rintro e wn ⟨⟨r, rfl, r0, r1⟩, hS, hg⟩; obtain ⟨N, J, JF, hn1, hn2, hz, hc, hf⟩ := grown_facts hg; (try simp only [World.size_alloc, World.size_setCell, World.heap_drewN, World.size_drew] at hn1 hn2); (try simp only [cell_drewI] at hc); (try simp only [frz_drewI] at hf)))
          all_goals (rename_i hH; clear hH)
          all_goals (go_wp2_with fail)
          have hU' : Up w wn := hU.only (show wc.grownBy wn (some (w.heap.size + 1 + 1)) by (repeat' (first | with_reducible exact grown_refl _ _ | with_reducible assumption | with_reducible refine grown_new ?_ (by (try dsimp only); (try simp only [World.size_alloc, World.size_setCell, World.heap_drewN, World.size_drew]); omega) _ | with_reducible refine grown_set ?_ _ _ | with_reducible refine grown_up ?_ ((Up.refl _).drew) | with_reducible refine grown_up ?_ (Up.alloc (Up.refl _) _) | with_reducible refine grown_trans ?_ (by with_reducible assumption)))) (by omega)
          go_region
          go_wp2_with fail
          have hres : ∀ W : World, (∃ u v : Int, W.cell? ⟨w.heap.size + 1, 0, none⟩ = some (.int .i64 u) ∧ W.cell? ⟨w.heap.size + 1, 1, none⟩ = some (.int .i64 v)) → ∃ u v : Int, World.rangeAt W (w.heap.size + 1) 0 [.int .i64 u, .int .i64 v] := fun W hW => by
            obtain ⟨u, v, h1, h2⟩ := hW
            exact ⟨u, v, rangeAt2 h1 h2⟩
          refine wp_pairX ?_
          intro W hW
          obtain ⟨u, v, huv⟩ := hres W (by rw [hW]; simp [isSome_setCell, cell_setI, cell_drewI, cell_allocI, ↓IntWalk.iteOmega, *])
          have hl1 : World.rangeAt W w.heap.size 0 [.int .i64 a, .int .i64 b] := rangeAt2 (by rw [hW]; (simp [isSome_setCell, cell_setI, cell_drewI, cell_allocI, ↓IntWalk.iteOmega, *])) (by rw [hW]; (simp [isSome_setCell, cell_setI, cell_drewI, cell_allocI, ↓IntWalk.iteOmega, *]))
          have hUW : Up w W := by rw [hW]; (repeat' (first | with_reducible exact Up.refl _ | with_reducible assumption | with_reducible refine Up.alloc ?_ _ | with_reducible refine Up.drew ?_ | with_reducible refine Up.drewN ?_ _ | with_reducible refine Up.setCell ?_ (by (try simp only [World.size_alloc, World.size_setCell, World.heap_drewN, World.size_drew]); omega) _ | (with_reducible refine Up.trans ?_ (by with_reducible assumption))))
          exact ret_pair (l1 := [.int .i64 a, .int .i64 b]) (l2 := [.int .i64 u, .int .i64 v]) Try.results44 rfl rfl Try.underlying26 rfl (by kernel_rfl) Try.underlying26 rfl (by kernel_rfl) rfl hl1 huv ⟨⟨_, _, _, _, rfl⟩, hUW⟩
end Go.Proofs.Ytanafhmjmfkpmaa
