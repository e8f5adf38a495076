import Derived.Test.YtffkcgdgiggfoaaFits
/- A box beside other boxes: the program's 'fits'. -/
namespace Go.Proofs.Ytffkcgdgiggfoaa
set_option linter.unusedSimpArgs false
set_option linter.unusedVariables false
open Go.RowKit
attribute [local go_sem] cell_allocI frz_allocI later_cell later_frz
attribute [local go_sem] cell_setI cell_drewI frz_drewI
/-- the box p q r s does not overlap the box number i of 'g' -/
def okBox (p q r s : Int) (g : Nat → Int) (i : Nat) : Bool := !ovB p q r s (g (i * 4)) (g (i * 4 + 1)) (g (i * 4 + 2)) (g (i * 4 + 3))
def insB (a b c d p q r s : Int) : Bool := decide (a ≤ p) && decide (r ≤ c) && (decide (b ≤ q) && decide (s ≤ d))
def fitsM (a b c d p q r s : Int) (g : Nat → Int) (m : Nat) : Bool := (List.range m).all (okBox p q r s g) && insB a b c d p q r s
theorem all_yes {f : Nat → Bool} {n : Nat} (h : ∀ i, i < n → f i = true) : (List.range n).all f = true := by
  rw [List.all_eq_true]; intro i hi; exact h i (List.mem_range.1 hi)
theorem all_no {f : Nat → Bool} {n i : Nat} (hi : i < n) (h : f i = false) : (List.range n).all f = false := by
  rw [List.all_eq_false]; exact ⟨i, List.mem_range.2 hi, by rw [h]; decide⟩
set_option maxHeartbeats 1000000 in
theorem im_Face_fits (a b c d : Int) (B : Option Addr) (m cb : Nat) (g : Nat → Int) (s : ByteArray) (x y k : Int) (h1 : s.size ≤ 8) (h2 : -1000000 ≤ x) (h3 : x ≤ 1000000) (h4 : -1000000 ≤ y) (h5 : y ≤ 1000000) (hk : inB k 0 3 = true) (w : World) (h : RdF w B (m * 4) (fun i => .int .i64 (g i))) (hm : m ≤ 1048576) :
    Calls Try.prog 99 #[.agg #[.int .i64 a, .int .i64 b, .int .i64 c, .int .i64 d], .slice B m cb, .agg #[.string s, .int .i64 x, .int .i64 y], .int .i64 k] w fun e w' => e = .returned (.bool (fitsM a b c d (boxX s.size x k) (boxY y k) (boxX s.size x k + 6 * s.size) (boxY y k + 10) g m)) ∧ Up w w' := by
  have hBx := fun w => im_Label_box s x y k h1 h2 h3 h4 h5 hk w
  generalize boxX s.size x k = p at *
  generalize boxY y k = q at *
  generalize p + 6 * (s.size : Int) = r at *
  generalize q + 10 = u at *
  go_enter Try.func99, Try.ntmps99
  go_wp2_with (go_at_call 100; refine (hBx _).mono ?_; clear hBx; rintro e w1 ⟨rfl, hu1⟩; obtain ⟨N1, J1, JF1, ha1, hb1, hz1, hc1, hf1⟩ := hu1.facts; (try simp only [World.size_alloc, World.size_setCell, World.heap_drewN, World.size_drew] at ha1 hb1); (try simp only [cell_drewI] at hc1); (try simp only [frz_drewI] at hf1))
  refine wp_gen ?_
  intro W0 hW0
  have hU0 : Up w W0 := by rw [hW0]; (repeat' (first | with_reducible exact Up.refl _ | with_reducible assumption | with_reducible refine Up.alloc ?_ _ | with_reducible refine Up.drew ?_ | with_reducible refine Up.drewN ?_ _ | with_reducible refine Up.setCell ?_ (by (try simp only [World.size_alloc, World.size_setCell, World.heap_drewN, World.size_drew]); omega) _ | (with_reducible refine Up.trans ?_ (by with_reducible assumption))))
  have p0 : W0.cell? ⟨w1.heap.size, 0, none⟩ = some (.int .i64 p) := by rw [hW0]; (simp [isSome_setCell, cell_setI, cell_drewI, cell_allocI, ↓IntWalk.iteOmega, *])
  have p1 : W0.cell? ⟨w1.heap.size, 1, none⟩ = some (.int .i64 q) := by rw [hW0]; (simp [isSome_setCell, cell_setI, cell_drewI, cell_allocI, ↓IntWalk.iteOmega, *])
  have p2 : W0.cell? ⟨w1.heap.size, 2, none⟩ = some (.int .i64 r) := by rw [hW0]; (simp [isSome_setCell, cell_setI, cell_drewI, cell_allocI, ↓IntWalk.iteOmega, *])
  have p3 : W0.cell? ⟨w1.heap.size, 3, none⟩ = some (.int .i64 u) := by rw [hW0]; (simp [isSome_setCell, cell_setI, cell_drewI, cell_allocI, ↓IntWalk.iteOmega, *])
  have f0 : W0.cell? ⟨w.heap.size, 0, none⟩ = some (.int .i64 a) := by rw [hW0]; (simp [isSome_setCell, cell_setI, cell_drewI, cell_allocI, ↓IntWalk.iteOmega, *])
  have f1 : W0.cell? ⟨w.heap.size, 1, none⟩ = some (.int .i64 b) := by rw [hW0]; (simp [isSome_setCell, cell_setI, cell_drewI, cell_allocI, ↓IntWalk.iteOmega, *])
  have f2 : W0.cell? ⟨w.heap.size, 2, none⟩ = some (.int .i64 c) := by rw [hW0]; (simp [isSome_setCell, cell_setI, cell_drewI, cell_allocI, ↓IntWalk.iteOmega, *])
  have f3 : W0.cell? ⟨w.heap.size, 3, none⟩ = some (.int .i64 d) := by rw [hW0]; (simp [isSome_setCell, cell_setI, cell_drewI, cell_allocI, ↓IntWalk.iteOmega, *])
  have hs1 : w.heap.size < w1.heap.size := by omega
  clear hW0 hu1 ha1 hb1 hc1 hf1
  go_loopw [17] (fun i wr => ∃ k : Nat, k ≤ m ∧ i = .int .i64 k ∧ (∀ j, j < k → okBox p q r u g j = true) ∧ Up W0 wr) (fun i _ => m - (intOf i).toNat)
  case atStart => exact ⟨0, Nat.zero_le _, rfl, fun j hj => by omega, Up.refl _⟩
  case round =>
    obtain ⟨j, hj, rfl, hok, hb⟩ := hrel
    have hok := hide hok
    have hU := hU0.trans hb
    have p0 := (hb.cells _ _ (cell_lt p0)).trans p0
    have p1 := (hb.cells _ _ (cell_lt p1)).trans p1
    have p2 := (hb.cells _ _ (cell_lt p2)).trans p2
    have p3 := (hb.cells _ _ (cell_lt p3)).trans p3
    have f0 := (hb.cells _ _ (cell_lt f0)).trans f0
    have f1 := (hb.cells _ _ (cell_lt f1)).trans f1
    have f2 := (hb.cells _ _ (cell_lt f2)).trans f2
    have f3 := (hb.cells _ _ (cell_lt f3)).trans f3
    have hz := cell_lt p0
    by_cases hlt : j < m
    · obtain ⟨bb, o, rfl, hbl, hc⟩ := (h.up hU).at_ (by omega)
      have c0 := hc (j * 4) (by omega)
      have c1 := hc (j * 4 + 1) (by omega)
      have c2 := hc (j * 4 + 2) (by omega)
      have c3 := hc (j * 4 + 3) (by omega)
      rw [← Nat.add_assoc] at c1 c2 c3
      have hl : (j : Int) < (m : Int) := by omega
      clear hc h
      by_cases ho : ovB p q r u (g (j * 4)) (g (j * 4 + 1)) (g (j * 4 + 2)) (g (j * 4 + 3)) = true
      · have hno := hide (all_no (f := okBox p q r u g) (n := m) hlt (by unfold okBox; rw [ho]; rfl))
        go_wp2_with (go_at_call 140; refine (im_Face_overlaps _ _ _ _ _ _ _ _ _).mono ?_; rw [ho]; rintro e wn ⟨rfl, hu⟩; obtain ⟨N, J, JF, hn1, hn2, hz, hc, hf⟩ := hu.facts; (try simp only [World.size_alloc, World.size_setCell, World.heap_drewN, World.size_drew] at hn1 hn2); (try simp only [cell_drewI] at hc); (try simp only [frz_drewI] at hf))
        go_ret
        exact ⟨ret_bool (by unfold fitsM; rw [hno.out]; rfl), by (repeat' (first | with_reducible exact Up.refl _ | with_reducible assumption | with_reducible refine Up.alloc ?_ _ | with_reducible refine Up.drew ?_ | with_reducible refine Up.drewN ?_ _ | with_reducible refine Up.setCell ?_ (by (try simp only [World.size_alloc, World.size_setCell, World.heap_drewN, World.size_drew]); omega) _ | (with_reducible refine Up.trans ?_ (by with_reducible assumption))))⟩
      · have ho : ovB p q r u (g (j * 4)) (g (j * 4 + 1)) (g (j * 4 + 2)) (g (j * 4 + 3)) = false := by simpa using ho
        have hyes := hide (show okBox p q r u g j = true by unfold okBox; rw [ho]; rfl)
        go_wp2_with (go_at_call 140; refine (im_Face_overlaps _ _ _ _ _ _ _ _ _).mono ?_; rw [ho]; rintro e wn ⟨rfl, hu⟩; obtain ⟨N, J, JF, hn1, hn2, hz, hc, hf⟩ := hu.facts; (try simp only [World.size_alloc, World.size_setCell, World.heap_drewN, World.size_drew] at hn1 hn2); (try simp only [cell_drewI] at hc); (try simp only [frz_drewI] at hf))
        go_roundw
        case rel => exact ⟨j + 1, by omega, by go_num, fun i hi => by rcases Nat.lt_or_ge i j with h1 | h1; exact hok.out i h1; rw [show i = j by omega]; exact hyes.out, by (repeat' (first | with_reducible exact Up.refl _ | with_reducible assumption | with_reducible refine Up.alloc ?_ _ | with_reducible refine Up.drew ?_ | with_reducible refine Up.drewN ?_ _ | with_reducible refine Up.setCell ?_ (by (try simp only [World.size_alloc, World.size_setCell, World.heap_drewN, World.size_drew]); omega) _ | (with_reducible refine Up.trans ?_ (by with_reducible assumption))))⟩
        case measure => simp [intOf]; omega
    · obtain rfl : j = m := by omega
      have hy := hide (all_yes hok.out)
      go_wp2_with (go_at_call 141; refine (im_Face_inside _ _ _ _ _ _ _ _ _).mono ?_; rintro e wn ⟨rfl, hu⟩; obtain ⟨N, J, JF, hn1, hn2, hz, hc, hf⟩ := hu.facts; (try simp only [World.size_alloc, World.size_setCell, World.heap_drewN, World.size_drew] at hn1 hn2); (try simp only [cell_drewI] at hc); (try simp only [frz_drewI] at hf))
      go_ret
      exact ⟨ret_bool (by unfold fitsM insB; rw [hy.out]; simp), by (repeat' (first | with_reducible exact Up.refl _ | with_reducible assumption | with_reducible refine Up.alloc ?_ _ | with_reducible refine Up.drew ?_ | with_reducible refine Up.drewN ?_ _ | with_reducible refine Up.setCell ?_ (by (try simp only [World.size_alloc, World.size_setCell, World.heap_drewN, World.size_drew]); omega) _ | (with_reducible refine Up.trans ?_ (by with_reducible assumption))))⟩
end Go.Proofs.Ytffkcgdgiggfoaa
