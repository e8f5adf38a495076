import Derived.Test.YtffkcgdgiggfoaaObs
import Derived.Test.YtffkcgdgiggfoaaLabels
/- Lists of labels: copies, comparisons, sizes. -/
namespace Go.Proofs.Ytffkcgdgiggfoaa
set_option linter.unusedSimpArgs false
set_option linter.unusedVariables false
open Go.RowKit
attribute [local go_sem] cell_allocI frz_allocI later_cell later_frz
attribute [local go_sem] cell_setI cell_drewI frz_drewI
/-- the cells of a list of labels: text, X, Y -/
def labF (S : Nat → ByteArray) (X Y : Nat → Int) (m : Nat) : Value := if m % 3 = 0 then .string (S (m / 3)) else if m % 3 = 1 then .int .i64 (X (m / 3)) else .int .i64 (Y (m / 3))
section
variable {S : Nat → ByteArray} {X Y : Nat → Int} {k : Nat}
theorem labF0 : labF S X Y (k * 3) = .string (S k) := by unfold labF; rw [if_pos (by omega), show k * 3 / 3 = k by omega]
theorem labF1 : labF S X Y (k * 3 + 1) = .int .i64 (X k) := by unfold labF; rw [if_neg (by omega), if_pos (by omega), show (k * 3 + 1) / 3 = k by omega]
theorem labF2 : labF S X Y (k * 3 + 2) = .int .i64 (Y k) := by unfold labF; rw [if_neg (by omega), if_neg (by omega), show (k * 3 + 2) / 3 = k by omega]
end
theorem l_eqLabel (s : ByteArray) (a b : Int) (w : World) :
    Calls Try.prog 94 #[.agg #[.string s, .int .i64 a, .int .i64 b], .agg #[.string s, .int .i64 a, .int .i64 b]] w fun e w' => e = .returned (.bool true) ∧ Up w w' := by
  go_enter Try.func94, Try.ntmps94
  go_wp2_with (go_at_call 133; refine (l_eqPoint _ _ _).mono ?_; rintro e wn ⟨rfl, hu⟩; obtain ⟨N, J, JF, hn1, hn2, hz, hc, hf⟩ := hu.facts; (try simp only [World.size_alloc, World.size_setCell, World.heap_drewN, World.size_drew] at hn1 hn2); (try simp only [cell_drewI] at hc); (try simp only [frz_drewI] at hf))
  go_ret
  exact ⟨rfl, by (repeat' (first | with_reducible exact Up.refl _ | with_reducible assumption | with_reducible refine Up.alloc ?_ _ | with_reducible refine Up.drew ?_ | with_reducible refine Up.drewN ?_ _ | with_reducible refine Up.setCell ?_ (by (try simp only [World.size_alloc, World.size_setCell, World.heap_drewN, World.size_drew]); omega) _ | (with_reducible refine Up.trans ?_ (by with_reducible assumption))))⟩
theorem l_eqLabelS (A B : Option Addr) (n c d : Nat) (S : Nat → ByteArray) (X Y : Nat → Int) (w : World) (h : RdF w A (n * 3) (labF S X Y)) (k : RdF w B (n * 3) (labF S X Y)) (hn : n ≤ 1048576) :
    Calls Try.prog 32 #[.slice A n c, .slice B n d] w fun e w' => e = .returned (.bool true) ∧ Up w w' := by
  go_enter Try.func32, Try.ntmps32
  go_wp2
  go_loopw [5] (fun i wr => ∃ k : Nat, k ≤ n ∧ i = .int .i64 k ∧ Up w wr) (fun i _ => n - (intOf i).toNat)
  case atStart => exact ⟨0, Nat.zero_le _, rfl, Up.refl _⟩
  case round =>
    obtain ⟨j, hj, rfl, hb⟩ := hrel
    by_cases hlt : j < n
    · obtain ⟨b, o, rfl, hbl, hc⟩ := (h.up hb).at_ (by omega)
      obtain ⟨b2, o2, rfl, hbl2, hc2⟩ := (k.up hb).at_ (by omega)
      have c0 := hc (j * 3) (by omega)
      have c1 := hc (j * 3 + 1) (by omega)
      have c2 := hc (j * 3 + 2) (by omega)
      have d0 := hc2 (j * 3) (by omega)
      have d1 := hc2 (j * 3 + 1) (by omega)
      have d2 := hc2 (j * 3 + 2) (by omega)
      rw [labF0] at c0 d0
      rw [labF1, ← Nat.add_assoc] at c1 d1
      rw [labF2, ← Nat.add_assoc] at c2 d2
      have hl : (j : Int) < (n : Int) := by omega
      clear h k hc hc2
      go_wp2
      refine wp_region_later (by kernel_rfl) (by kernel_rfl) ?_
      repeat (go_big_quiet_step ((go_at_call 94; exact later_call (l_eqLabel _ _ _ _))))
      refine wpQuiet_nil ?_; intro _ hw'; obtain ⟨x, hw''⟩ := hw'; subst hw''; obtain ⟨wn, hu⟩ := x; dsimp only; obtain ⟨N, J, JF, hn1, hn2, hz, hc, hf⟩ := hu.facts; (try simp only [World.size_alloc, World.size_setCell, World.heap_drewN, World.size_drew] at hn1 hn2)
      go_wp2
      go_roundw
      case rel => exact ⟨j + 1, by omega, by go_num, hb.trans hu⟩
      case measure => simp [intOf]; omega
    · go_wp2
      go_ret
      exact ⟨rfl, hb⟩
theorem Try.info_Lab : (Try.prog.info? 72).map (fun i => (i.zero, i.size, i.bytes)) = some (some (.agg #[.string ByteArray.empty, .int .i64 0, .int .i64 0]), 3, 32) := by kernel_rfl
set_option maxHeartbeats 1000000 in
theorem l_toLabelS (A : Option Addr) (n c : Nat) (S : Nat → ByteArray) (X Y : Nat → Int) (w : World) (h : RdF w A (n * 3) (labF S X Y)) (hn : n ≤ 1048576) :
    Calls Try.prog 29 #[.slice A n c] w fun e w' => e = .returned (.slice (some ⟨w.heap.size, 0, none⟩) n n) ∧ Filled w' w.heap.size 72 (n * 3) (n * 3) (labF S X Y) ∧ Up w w' := by
  have hmk := run_make_rowK (P := Try.prog) 51 72 _ 3 32 Try.underlying51 Try.info_Lab .i64 .i64 n (by omega) (by omega)
  go_enter Try.func29, Try.ntmps29
  go_wp2
  clear hmk
  go_loopw [4] (fun i wr => ∃ k : Nat, k ≤ n ∧ i = .int .i64 k ∧ Filled wr w.heap.size 72 (n * 3) (k * 3) (labF S X Y) ∧ Up w wr) (fun i _ => n - (intOf i).toNat)
  case atStart => exact ⟨0, Nat.zero_le _, rfl, by rw [Nat.zero_mul]; exact Filled.start _ _ _ _ _, (Up.refl _).alloc _⟩
  case round =>
    obtain ⟨k, hk, rfl, hf, hb⟩ := hrel
    by_cases hlt : k < n
    · obtain ⟨b, o, rfl, hbl, hc⟩ := (h.up hb).at_ (by omega)
      have c0 := hc (k * 3) (by omega)
      have c1 := hc (k * 3 + 1) (by omega)
      have c2 := hc (k * 3 + 2) (by omega)
      rw [labF0] at c0
      rw [labF1, ← Nat.add_assoc] at c1
      rw [labF2, ← Nat.add_assoc] at c2
      have hg := hf.lt
      have hl : (k : Int) < (n : Int) := by omega
      clear hc h
      obtain ⟨u0, hu0⟩ := hf.some_ (i := k * 3) (by omega)
      obtain ⟨u1, hu1⟩ := hf.some_ (i := k * 3 + 1) (by omega)
      obtain ⟨u2, hu2⟩ := hf.some_ (i := k * 3 + 2) (by omega)
      have z0 := (hf.ok (i := k * 3) (by omega)).2
      have z1 := (hf.ok (i := k * 3 + 1) (by omega)).2
      have z2 := (hf.ok (i := k * 3 + 2) (by omega)).2
      have hff := hide hf
      clear hf
      go_wp2_with (go_at_call 43; refine (l_toLabel _ _ _ _).mono ?_; rintro e wn ⟨rfl, hu⟩; obtain ⟨N, J, JF, hn1, hn2, hz, hc, hf⟩ := hu.facts; (try simp only [World.size_alloc, World.size_setCell, World.heap_drewN, World.size_drew] at hn1 hn2))
      have hf := hff.out
      go_roundw
      case rel => exact ⟨k + 1, by omega, by go_num, (((hf.up hu).put (i := k * 3) (l := k * 3 + 1) rfl rfl (by omega) _ labF0.symm).put (i := k * 3 + 1) (l := k * 3 + 2) rfl rfl (by omega) _ labF1.symm).put (i := k * 3 + 2) (l := (k + 1) * 3) rfl (by omega) (by omega) _ labF2.symm, by (repeat' (first | with_reducible exact Up.refl _ | with_reducible assumption | with_reducible refine Up.alloc ?_ _ | with_reducible refine Up.drew ?_ | with_reducible refine Up.drewN ?_ _ | with_reducible refine Up.setCell ?_ (by (try simp only [World.size_alloc, World.size_setCell, World.heap_drewN, World.size_drew]); omega) _ | (with_reducible refine Up.trans ?_ (by with_reducible assumption))))⟩
      case measure => simp [intOf]; omega
    · go_wp2
      go_ret
      obtain rfl : k = n := by omega
      exact ⟨rfl, hf, hb⟩
set_option maxHeartbeats 1000000 in
theorem l_szLabelS (A : Option Addr) (n c : Nat) (S : Nat → ByteArray) (X Y : Nat → Int) (left : Int) (w : World) (h : RdF w A (n * 3) (labF S X Y)) (hS : ∀ i, i < n → (S i).size ≤ maxLen) (hn : n ≤ maxLen) (h0 : 0 ≤ left) (h1 : left ≤ 1048576) :
    Calls Try.prog 26 #[.slice A n c, .int .i64 left] w fun e w' => (∃ r : Int, e = .returned (.int .i64 r) ∧ (0 ≤ r → n ≤ 1048576) ∧ r ≤ 1048576) ∧ Up w w' := by
  unfold maxLen at hn
  by_cases k1 : left - n < 0
  · go_enter Try.func26, Try.ntmps26
    go_wp2
    go_ret
    exact ⟨⟨_, rfl, fun h => by omega, by omega⟩, Up.refl _⟩
  · go_enter Try.func26, Try.ntmps26
    go_wp2
    have hS := hide hS
    go_loopw [1, 5] (fun l i wr => ∃ (k : Nat) (r : Int), k ≤ n ∧ i = .int .i64 k ∧ l = .int .i64 r ∧ 0 ≤ r ∧ r ≤ 1048576 ∧ Up w wr) (fun _ i _ => n - (intOf i).toNat)
    case atStart => exact ⟨0, _, Nat.zero_le _, rfl, rfl, by omega, by omega, Up.refl _⟩
    case round =>
      obtain ⟨k, r, hk, rfl, rfl, r0, r1, hb⟩ := hrel
      by_cases hlt : k < n
      · obtain ⟨b, o, rfl, hbl, hc⟩ := (h.up hb).at_ (by omega)
        have c0 := hc (k * 3) (by omega)
        have c1 := hc (k * 3 + 1) (by omega)
        have c2 := hc (k * 3 + 2) (by omega)
        rw [labF0] at c0
        rw [labF1, ← Nat.add_assoc] at c1
        rw [labF2, ← Nat.add_assoc] at c2
        have hl : (k : Int) < (n : Int) := by omega
        have hs := hS.out k hlt
        have hz := szS_le (left := r) (n := ((S k).size : Int)) (by omega)
        have hz2 : szS r (S k).size = -1 ∨ 0 ≤ szS r (S k).size := by unfold szS; split <;> omega
        clear hc h
        by_cases hneg : szS r (S k).size < 0
        · have e0 : decide (szS r ((S k).size : Int) < 0) = true := by simpa using hneg
          clear hneg
          go_wp2_with (go_at_call 41; refine (l_szLabel _ _ _ _ hs r0 r1 _).mono ?_; rintro e wn ⟨rfl, hu⟩; obtain ⟨N, J, JF, hn1, hn2, hz, hc, hf⟩ := hu.facts; (try simp only [World.size_alloc, World.size_setCell, World.heap_drewN, World.size_drew] at hn1 hn2); (try simp only [cell_drewI] at hc); (try simp only [frz_drewI] at hf))
          go_ret
          exact ⟨⟨_, rfl, fun h => by omega, by omega⟩, by (repeat' (first | with_reducible exact Up.refl _ | with_reducible assumption | with_reducible refine Up.alloc ?_ _ | with_reducible refine Up.drew ?_ | with_reducible refine Up.drewN ?_ _ | with_reducible refine Up.setCell ?_ (by (try simp only [World.size_alloc, World.size_setCell, World.heap_drewN, World.size_drew]); omega) _ | (with_reducible refine Up.trans ?_ (by with_reducible assumption))))⟩
        · have e0 : decide (szS r ((S k).size : Int) < 0) = false := by simpa using hneg
          go_wp2_with (go_at_call 41; refine (l_szLabel _ _ _ _ hs r0 r1 _).mono ?_; rintro e wn ⟨rfl, hu⟩; obtain ⟨N, J, JF, hn1, hn2, hz, hc, hf⟩ := hu.facts; (try simp only [World.size_alloc, World.size_setCell, World.heap_drewN, World.size_drew] at hn1 hn2); (try simp only [cell_drewI] at hc); (try simp only [frz_drewI] at hf))
          go_roundw
          case rel => exact ⟨k + 1, _, by omega, by go_num, rfl, by omega, by omega, by (repeat' (first | with_reducible exact Up.refl _ | with_reducible assumption | with_reducible refine Up.alloc ?_ _ | with_reducible refine Up.drew ?_ | with_reducible refine Up.drewN ?_ _ | with_reducible refine Up.setCell ?_ (by (try simp only [World.size_alloc, World.size_setCell, World.heap_drewN, World.size_drew]); omega) _ | (with_reducible refine Up.trans ?_ (by with_reducible assumption))))⟩
          case measure => simp [intOf]; omega
      · go_wp2
        go_ret
        exact ⟨⟨_, rfl, fun _ => by omega, by omega⟩, hb⟩
end Go.Proofs.Ytffkcgdgiggfoaa
