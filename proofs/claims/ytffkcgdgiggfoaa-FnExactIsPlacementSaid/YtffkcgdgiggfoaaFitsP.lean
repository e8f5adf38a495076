import Derived.Test.YtffkcgdgiggfoaaFitsB
/- A label beside earlier ones: the reference's 'l19Fits'. -/
namespace Go.Proofs.Ytffkcgdgiggfoaa
set_option linter.unusedSimpArgs false
set_option linter.unusedVariables false
open Go.RowKit
attribute [local go_sem] cell_allocI frz_allocI later_cell later_frz
attribute [local go_sem] cell_setI cell_drewI frz_drewI
theorem ovB_comm (a b c d p q r s : Int) : ovB a b c d p q r s = ovB p q r s a b c d := by
  rw [Bool.eq_iff_iff]; simp [ovB]; omega
/-- the box p q r u does not overlap the box of label i at its place -/
def okPl (p q r u : Int) (S : Nat → ByteArray) (X Y P : Nat → Int) (i : Nat) : Bool := !(decide (0 ≤ P i) && ovB (boxX (S i).size (X i) (P i)) (boxY (Y i) (P i)) (boxX (S i).size (X i) (P i) + 6 * (S i).size) (boxY (Y i) (P i) + 10) p q r u)
def fitsP (a b c d p q r u : Int) (S : Nat → ByteArray) (X Y P : Nat → Int) (m : Nat) : Bool := insB a b c d p q r u && (List.range m).all (okPl p q r u S X Y P)
set_option maxHeartbeats 2000000 in
theorem s_l19Fits (a b c d : Int) (A : Option Addr) (n ca : Nat) (S : Nat → ByteArray) (X Y : Nat → Int) (B : Option Addr) (m cb : Nat) (P : Nat → Int) (s : ByteArray) (x y k : Int) (hlab : isLabelB s.size x y = true) (hk : inB k 0 3 = true) (w : World)
    (hA : RdF w A (n * 3) (labF S X Y)) (hB : RdF w B m (fun i => .int .i64 (P i))) (hmn : m ≤ n) (hn : n ≤ 1048576) (hL : ∀ i, i < m → labAt S X Y i = true) (hP : ∀ i, i < m → -1 ≤ P i ∧ P i ≤ 3) :
    Calls Try.prog 98 #[.agg #[.int .i64 a, .int .i64 b, .int .i64 c, .int .i64 d], .slice A n ca, .slice B m cb, .agg #[.string s, .int .i64 x, .int .i64 y], .int .i64 k] w fun e w' => e = .returned (.bool (fitsP a b c d (boxX s.size x k) (boxY y k) (boxX s.size x k + 6 * s.size) (boxY y k + 10) S X Y P m)) ∧ Up w w' := by
  obtain ⟨l1, l2, l3, l4, l5, l6⟩ := isLabelB_iff.1 hlab
  have hBx := fun w => s_l19Box s x y k l2 l3 l4 l5 l6 hk w
  have hpr : boxX s.size x k < boxX s.size x k + 6 * s.size := by omega
  have hqu : boxY y k < boxY y k + 10 := by omega
  have hL := hide hL
  have hP := hide hP
  generalize boxX s.size x k = p at *
  generalize boxY y k = q at *
  generalize p + 6 * (s.size : Int) = r at *
  generalize q + 10 = u at *
  by_cases hI : insB a b c d p q r u = true
  · have hI' := hI
    unfold insB at hI'
    go_enter Try.func98, Try.ntmps98
    go_wp2_with (first
      | (go_at_call 137; refine (hBx _).mono ?_; clear hBx; rintro e w1 ⟨rfl, hu1⟩; obtain ⟨N1, J1, JF1, ha1, hb1, hz1, hc1, hf1⟩ := hu1.facts; (try simp only [World.size_alloc, World.size_setCell, World.heap_drewN, World.size_drew] at ha1 hb1); (try simp only [cell_drewI] at hc1); (try simp only [frz_drewI] at hf1))
      | (go_at_call 138; refine (s_l19Inside _ _ _ _ _ _ _ _ _).mono ?_; rw [hI']; rintro e w2 ⟨rfl, hu2⟩; obtain ⟨N2, J2, JF2, ha2, hb2, hz2, hc2, hf2⟩ := hu2.facts; (try simp only [World.size_alloc, World.size_setCell, World.heap_drewN, World.size_drew] at ha2 hb2); (try simp only [cell_drewI] at hc2); (try simp only [frz_drewI] at hf2)))
    refine wp_gen ?_
    intro W0 hW0
    have hU0 : Up w W0 := by rw [hW0]; (repeat' (first | with_reducible exact Up.refl _ | with_reducible assumption | with_reducible refine Up.alloc ?_ _ | with_reducible refine Up.drew ?_ | with_reducible refine Up.drewN ?_ _ | with_reducible refine Up.setCell ?_ (by (try simp only [World.size_alloc, World.size_setCell, World.heap_drewN, World.size_drew]); omega) _ | (with_reducible refine Up.trans ?_ (by with_reducible assumption))))
    have p0 : W0.cell? ⟨w1.heap.size, 0, none⟩ = some (.int .i64 p) := by rw [hW0]; (simp [isSome_setCell, cell_setI, cell_drewI, cell_allocI, ↓IntWalk.iteOmega, *])
    have p1 : W0.cell? ⟨w1.heap.size, 1, none⟩ = some (.int .i64 q) := by rw [hW0]; (simp [isSome_setCell, cell_setI, cell_drewI, cell_allocI, ↓IntWalk.iteOmega, *])
    have p2 : W0.cell? ⟨w1.heap.size, 2, none⟩ = some (.int .i64 r) := by rw [hW0]; (simp [isSome_setCell, cell_setI, cell_drewI, cell_allocI, ↓IntWalk.iteOmega, *])
    have p3 : W0.cell? ⟨w1.heap.size, 3, none⟩ = some (.int .i64 u) := by rw [hW0]; (simp [isSome_setCell, cell_setI, cell_drewI, cell_allocI, ↓IntWalk.iteOmega, *])
    clear hW0 hu1 ha1 hb1 hc1 hf1 hu2 ha2 hb2 hc2 hf2
    go_loopw [12] (fun i wr => ∃ k : Nat, k ≤ m ∧ i = .int .i64 k ∧ (∀ j, j < k → okPl p q r u S X Y P j = true) ∧ Up W0 wr) (fun i _ => m - (intOf i).toNat)
    case atStart => exact ⟨0, Nat.zero_le _, rfl, fun j hj => by omega, Up.refl _⟩
    case round =>
      obtain ⟨j, hj, rfl, hok, hb⟩ := hrel
      have hok := hide hok
      have hU := hU0.trans hb
      have p0 := (hb.cells _ _ (cell_lt p0)).trans p0
      have p1 := (hb.cells _ _ (cell_lt p1)).trans p1
      have p2 := (hb.cells _ _ (cell_lt p2)).trans p2
      have p3 := (hb.cells _ _ (cell_lt p3)).trans p3
      have hz := cell_lt p0
      by_cases hlt : j < m
      · obtain ⟨b1, o1, rfl, hbl1, hc1⟩ := (hA.up hU).at_ (by omega)
        obtain ⟨b2, o2, rfl, hbl2, hc2⟩ := (hB.up hU).at_ (by omega)
        have c0 := hc1 (j * 3) (by omega)
        have c1 := hc1 (j * 3 + 1) (by omega)
        have c2 := hc1 (j * 3 + 2) (by omega)
        have d0 := hc2 j hlt
        rw [labF0] at c0
        rw [labF1, ← Nat.add_assoc] at c1
        rw [labF2, ← Nat.add_assoc] at c2
        have hl : (j : Int) < (m : Int) := by omega
        have hl2 : (j : Int) < (n : Int) := by omega
        obtain ⟨v1, v2⟩ := hP.out j hlt
        have hlb := hL.out j hlt
        unfold labAt at hlb
        obtain ⟨q1, q2, q3, q4, q5, q6⟩ := isLabelB_iff.1 hlb
        clear hc1 hc2 hA hB
        by_cases hp : 0 ≤ P j
        · have e0 : decide (0 ≤ P j) = true := by simpa using hp
          have hk' : inB (P j) 0 3 = true := inB_iff.2 ⟨hp, v2⟩
          by_cases ho : ovB (boxX (S j).size (X j) (P j)) (boxY (Y j) (P j)) (boxX (S j).size (X j) (P j) + 6 * (S j).size) (boxY (Y j) (P j) + 10) p q r u = true
          · have hno := hide (all_no (f := okPl p q r u S X Y P) (n := m) hlt (by unfold okPl; rw [e0, ho]; rfl))
            go_wp2
            refine wp_region_later (by kernel_rfl) (by kernel_rfl) ?_
            repeat (go_big_quiet_step (first | ((go_at_call 137; exact later_call (s_l19Box _ _ _ _ q2 q3 q4 q5 q6 hk' _))) | ((go_at_call 139; exact later_call (s_l19Overlap _ _ _ _ _ _ _ _ (by omega) (by omega) hpr hqu _)))))
            refine wpQuiet_nil ?_; intro _ hw'; obtain ⟨x, hw''⟩ := hw'; subst hw''; obtain ⟨wn, hu⟩ := x; dsimp only; obtain ⟨N, J, JF, hn1, hn2, hz, hc, hf⟩ := hu.facts; (try simp only [World.size_alloc, World.size_setCell, World.heap_drewN, World.size_drew] at hn1 hn2)
            go_wp2
            go_ret
            exact ⟨ret_bool (by unfold fitsP; rw [hno.out]; simp), by (repeat' (first | with_reducible exact Up.refl _ | with_reducible assumption | with_reducible refine Up.alloc ?_ _ | with_reducible refine Up.drew ?_ | with_reducible refine Up.drewN ?_ _ | with_reducible refine Up.setCell ?_ (by (try simp only [World.size_alloc, World.size_setCell, World.heap_drewN, World.size_drew]); omega) _ | (with_reducible refine Up.trans ?_ (by with_reducible assumption))))⟩
          · have ho : ovB (boxX (S j).size (X j) (P j)) (boxY (Y j) (P j)) (boxX (S j).size (X j) (P j) + 6 * (S j).size) (boxY (Y j) (P j) + 10) p q r u = false := by simpa using ho
            have hyes := hide (show okPl p q r u S X Y P j = true by unfold okPl; rw [e0, ho]; rfl)
            go_wp2
            refine wp_region_later (by kernel_rfl) (by kernel_rfl) ?_
            repeat (go_big_quiet_step (first | ((go_at_call 137; exact later_call (s_l19Box _ _ _ _ q2 q3 q4 q5 q6 hk' _))) | ((go_at_call 139; exact later_call (s_l19Overlap _ _ _ _ _ _ _ _ (by omega) (by omega) hpr hqu _)))))
            refine wpQuiet_nil ?_; intro _ hw'; obtain ⟨x, hw''⟩ := hw'; subst hw''; obtain ⟨wn, hu⟩ := x; dsimp only; obtain ⟨N, J, JF, hn1, hn2, hz, hc, hf⟩ := hu.facts; (try simp only [World.size_alloc, World.size_setCell, World.heap_drewN, World.size_drew] at hn1 hn2)
            go_wp2
            go_roundw
            case rel => exact ⟨j + 1, by omega, by go_num, fun i hi => by rcases Nat.lt_or_ge i j with h1 | h1; exact hok.out i h1; rw [show i = j by omega]; exact hyes.out, by (repeat' (first | with_reducible exact Up.refl _ | with_reducible assumption | with_reducible refine Up.alloc ?_ _ | with_reducible refine Up.drew ?_ | with_reducible refine Up.drewN ?_ _ | with_reducible refine Up.setCell ?_ (by (try simp only [World.size_alloc, World.size_setCell, World.heap_drewN, World.size_drew]); omega) _ | (with_reducible refine Up.trans ?_ (by with_reducible assumption))))⟩
            case measure => simp [intOf]; omega
        · have e0 : decide (0 ≤ P j) = false := by simpa using hp
          have hyes := hide (show okPl p q r u S X Y P j = true by unfold okPl; rw [e0]; rfl)
          go_wp2
          refine wp_region_later (by kernel_rfl) (by kernel_rfl) ?_
          repeat (go_big_quiet_step (first | ((go_at_call 137; exact later_call (s_l19Box _ _ _ _ q2 q3 q4 q5 q6 (by assumption) _)))))
          refine wpQuiet_nil ?_; intro _ hw'; obtain ⟨x, hw''⟩ := hw'; subst hw''; obtain ⟨wn, hu⟩ := x; dsimp only; obtain ⟨N, J, JF, hn1, hn2, hz, hc, hf⟩ := hu.facts; (try simp only [World.size_alloc, World.size_setCell, World.heap_drewN, World.size_drew] at hn1 hn2)
          go_wp2
          go_roundw
          case rel => exact ⟨j + 1, by omega, by go_num, fun i hi => by rcases Nat.lt_or_ge i j with h1 | h1; exact hok.out i h1; rw [show i = j by omega]; exact hyes.out, by (repeat' (first | with_reducible exact Up.refl _ | with_reducible assumption | with_reducible refine Up.alloc ?_ _ | with_reducible refine Up.drew ?_ | with_reducible refine Up.drewN ?_ _ | with_reducible refine Up.setCell ?_ (by (try simp only [World.size_alloc, World.size_setCell, World.heap_drewN, World.size_drew]); omega) _ | (with_reducible refine Up.trans ?_ (by with_reducible assumption))))⟩
          case measure => simp [intOf]; omega
      · obtain rfl : j = m := by omega
        have hy := hide (all_yes hok.out)
        go_wp2
        go_ret
        exact ⟨ret_bool (by unfold fitsP; rw [hy.out, hI]; rfl), by (repeat' (first | with_reducible exact Up.refl _ | with_reducible assumption | with_reducible refine Up.alloc ?_ _ | with_reducible refine Up.drew ?_ | with_reducible refine Up.drewN ?_ _ | with_reducible refine Up.setCell ?_ (by (try simp only [World.size_alloc, World.size_setCell, World.heap_drewN, World.size_drew]); omega) _ | (with_reducible refine Up.trans ?_ (by with_reducible assumption))))⟩
  · have hI : insB a b c d p q r u = false := by simpa using hI
    have hI' := hI
    unfold insB at hI'
    go_enter Try.func98, Try.ntmps98
    go_wp2_with (first
      | (go_at_call 137; refine (hBx _).mono ?_; clear hBx; rintro e wn ⟨rfl, hu⟩; obtain ⟨N, J, JF, hn1, hn2, hz, hc, hf⟩ := hu.facts; (try simp only [World.size_alloc, World.size_setCell, World.heap_drewN, World.size_drew] at hn1 hn2); (try simp only [cell_drewI] at hc); (try simp only [frz_drewI] at hf))
      | (go_at_call 138; refine (s_l19Inside _ _ _ _ _ _ _ _ _).mono ?_; rw [hI']; rintro e wn ⟨rfl, hu⟩; obtain ⟨N, J, JF, hn1, hn2, hz, hc, hf⟩ := hu.facts; (try simp only [World.size_alloc, World.size_setCell, World.heap_drewN, World.size_drew] at hn1 hn2); (try simp only [cell_drewI] at hc); (try simp only [frz_drewI] at hf)))
    go_ret
    exact ⟨ret_bool (by unfold fitsP; rw [hI]; rfl), by (repeat' (first | with_reducible exact Up.refl _ | with_reducible assumption | with_reducible refine Up.alloc ?_ _ | with_reducible refine Up.drew ?_ | with_reducible refine Up.drewN ?_ _ | with_reducible refine Up.setCell ?_ (by (try simp only [World.size_alloc, World.size_setCell, World.heap_drewN, World.size_drew]); omega) _ | (with_reducible refine Up.trans ?_ (by with_reducible assumption))))⟩
end Go.Proofs.Ytffkcgdgiggfoaa
