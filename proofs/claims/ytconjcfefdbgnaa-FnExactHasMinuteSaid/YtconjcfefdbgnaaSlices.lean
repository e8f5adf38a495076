import Derived.Test.YtconjcfefdbgnaaFace
/- The laws' own functions on slices of numbers: copies, comparisons, marks. -/
namespace Go.Proofs.Ytconjcfefdbgnaa
open Go.RowKit
attribute [local go_sem] cell_allocI frz_allocI later_cell later_frz
theorem Try.info_int64 : (Try.prog.info? 2).map (fun i => (i.zero, i.size, i.bytes)) = some (some (.int .i64 0), 1, 8) := by kernel_rfl
theorem l_toInt64S (A : Option Addr) (n c : Nat) (zs : List Int) (w : World) (h : RdI w A n zs) (hn : n ≤ 1048576) :
    Calls Try.prog 16 #[.slice A n c] w fun e w' => e = .returned (.slice (some ⟨w.heap.size, 0, none⟩) n n) ∧ Filled w' w.heap.size 2 n n (fun k => .int .i64 (zs[k]?.getD 0)) ∧ Up w w' := by
  have hmk := run_make_row' (P := Try.prog) 33 2 (.int .i64 0) 8 Try.underlying33 Try.info_int64 rfl .i64 .i64 n (by omega) (by omega)
  go_enter Try.func16, Try.ntmps16
  go_wp2
  clear hmk
  go_loopw [4] (fun i wr => ∃ k : Nat, k ≤ n ∧ i = .int .i64 k ∧ Filled wr w.heap.size 2 n k (fun k => .int .i64 (zs[k]?.getD 0)) ∧ Up w wr) (fun i _ => n - (intOf i).toNat)
  case atStart => exact ⟨0, Nat.zero_le _, rfl, Filled.start _ _ _ _ _, (Up.refl _).alloc _⟩
  case round =>
    obtain ⟨k, hk, rfl, hf, hb⟩ := hrel
    by_cases hlt : k < n
    · obtain ⟨b, o, rfl, hbl, hc⟩ := h.2.up hb k hlt
      obtain ⟨v0, hv0⟩ := hf.some_ hlt
      have hfz := (hf.ok hlt).2
      have F := hide (hf.set_ hlt _ rfl)
      have B := hb.setCell (p := ⟨w.heap.size, k, none⟩) (Nat.le_refl _) (.int .i64 (zs[k]?.getD 0))
      clear hf h
      go_wp2
      go_roundw
      case rel => exact ⟨k + 1, by omega, by go_num, F.out, B⟩
      case measure => simp [intOf]; omega
    · go_wp2
      go_ret
      obtain rfl : k = n := by omega
      exact ⟨rfl, hf, hb⟩
/-- two slices that read as the same numbers -/
theorem l_eqInt64S (A B : Option Addr) (n c d : Nat) (zs : List Int) (w : World) (h : RdI w A n zs) (k : RdI w B n zs) (hn : n ≤ 1048576) :
    Calls Try.prog 18 #[.slice A n c, .slice B n d] w fun e w' => e = .returned (.bool true) ∧ Up w w' := by
  go_enter Try.func18, Try.ntmps18
  go_wp2
  go_loopw [5] (fun i wr => ∃ k : Nat, k ≤ n ∧ i = .int .i64 k ∧ Up w wr) (fun i _ => n - (intOf i).toNat)
  case atStart => exact ⟨0, Nat.zero_le _, rfl, Up.refl _⟩
  case round =>
    obtain ⟨j, hj, rfl, hb⟩ := hrel
    by_cases hlt : j < n
    · obtain ⟨b, o, rfl, hbl, hc⟩ := h.2.up hb j hlt
      obtain ⟨b2, o2, rfl, hbl2, hc2⟩ := k.2.up hb j hlt
      have hl : (j : Int) < (n : Int) := by omega
      clear h k
      go_wp2
      go_quiet (fail)
      go_wp2
      go_roundw
      case rel => exact ⟨j + 1, by omega, by go_num, hb.drewN _⟩
      case measure => simp [intOf]; omega
    · go_wp2
      go_ret
      exact ⟨rfl, hb⟩
theorem l_markPointS (g n c : Nat) (k : Int) (f : Nat → Value) (w : World) (h : Filled w g 28 (2 * n) (2 * n) f) (hn : n ≤ 1048576) (h0 : 0 ≤ k) (h1 : k ≤ 1000000000) :
    Calls Try.prog 35 #[.slice (some ⟨g, 0, none⟩) n c, .int .i64 k] w fun e w' => e = .returned (.int .i64 (k + 2 * n)) ∧ Filled w' g 28 (2 * n) (2 * n) (fun i => .int .i64 (k + i)) ∧ w.grownBy w' (some g) := by
  go_enter Try.func35, Try.ntmps35
  go_wp2
  go_loopw [1, 5] (fun q i wr => ∃ j : Nat, j ≤ n ∧ i = .int .i64 j ∧ q = .int .i64 (k + 2 * j) ∧ Filled wr g 28 (2 * n) (2 * j) (fun i => .int .i64 (k + i)) ∧ w.grownBy wr (some g)) (fun _ i _ => n - (intOf i).toNat)
  case atStart => exact ⟨0, Nat.zero_le _, rfl, by simp, h.anew _, grown_refl _ _⟩
  case round =>
    obtain ⟨j, hj, rfl, rfl, hf, hg⟩ := hrel
    by_cases hlt : j < n
    · obtain ⟨v0, hv0⟩ := hf.some_ (i := j * 2) (by omega)
      obtain ⟨v1, hv1⟩ := hf.some_ (i := j * 2 + 1) (by omega)
      have hf0 := (hf.ok (i := j * 2) (by omega)).2
      have hf1 := (hf.ok (i := j * 2 + 1) (by omega)).2
      go_wp2
      go_roundw
      case rel => exact ⟨j + 1, by omega, by go_num, val_int (by omega), (hf.put (by omega) rfl (by omega) _ (val_int (by omega))).put (by omega) (by omega) (by omega) _ (val_int (by omega)), grown_set (grown_set hg _ _) _ _⟩
      case measure => simp [intOf]; omega
    · go_wp2
      go_ret
      obtain rfl : j = n := by omega
      exact ⟨rfl, hf, hg⟩
theorem l_heldPointS (g n c : Nat) (k : Int) (w : World) (h : Filled w g 28 (2 * n) (2 * n) (fun i => .int .i64 (k + i))) (hn : n ≤ 1048576) (h0 : 0 ≤ k) (h1 : k ≤ 1000000000) :
    Calls Try.prog 36 #[.slice (some ⟨g, 0, none⟩) n c, .int .i64 k] w fun e w' => e = .returned (.int .i64 (k + 2 * n)) ∧ w = w' := by
  go_enter Try.func36, Try.ntmps36
  go_wp2
  go_loop [1, 5] (fun q i => ∃ j : Nat, j ≤ n ∧ i = .int .i64 j ∧ q = .int .i64 (k + 2 * j)) (fun _ i => n - (intOf i).toNat)
  case atStart => exact ⟨0, Nat.zero_le _, rfl, by simp⟩
  case round =>
    obtain ⟨j, hj, rfl, rfl⟩ := hrel
    by_cases hlt : j < n
    · have c0 := h.cell (i := j * 2) (by omega)
      have c1 := h.cell (i := j * 2 + 1) (by omega)
      rw [show k + ((j * 2 : Nat) : Int) = k + 2 * j from by omega] at c0
      rw [show k + ((j * 2 + 1 : Nat) : Int) = k + 2 * j + 1 from by omega] at c1
      go_wp2
      go_round
      case rel => exact ⟨j + 1, by omega, by go_num, val_int (by omega)⟩
      case measure => simp [intOf]; omega
    · go_wp2
      go_ret
      obtain rfl : j = n := by omega
      exact ⟨rfl, rfl⟩
/-- no slice: nothing to mark, to hold -/
theorem l_markPointS_nil (A : Option Addr) (c : Nat) (k : Int) (h0 : 0 ≤ k) (h1 : k ≤ 1000000000) (w : World) :
    Calls Try.prog 35 #[.slice A 0 c, .int .i64 k] w fun e w' => e = .returned (.int .i64 k) ∧ w = w' := by
  go_enter Try.func35, Try.ntmps35
  go_wp2
  go_loop [1, 5] (fun q i => i = .int .i64 0 ∧ q = .int .i64 k) (fun _ _ => 0)
  case atStart => exact ⟨rfl, rfl⟩
  case round =>
    obtain ⟨rfl, rfl⟩ := hrel
    go_wp2
    go_ret
    exact ⟨rfl, rfl⟩
theorem l_heldPointS_nil (A : Option Addr) (c : Nat) (k : Int) (h0 : 0 ≤ k) (h1 : k ≤ 1000000000) (w : World) :
    Calls Try.prog 36 #[.slice A 0 c, .int .i64 k] w fun e w' => e = .returned (.int .i64 k) ∧ w = w' := by
  go_enter Try.func36, Try.ntmps36
  go_wp2
  go_loop [1, 5] (fun q i => i = .int .i64 0 ∧ q = .int .i64 k) (fun _ _ => 0)
  case atStart => exact ⟨rfl, rfl⟩
  case round =>
    obtain ⟨rfl, rfl⟩ := hrel
    go_wp2
    go_ret
    exact ⟨rfl, rfl⟩
/-- two slices of points that read as the same -/
theorem l_eqPointS (A B : Option Addr) (n c d : Nat) (f : Nat → Int) (w : World) (h : RdF w A (2 * n) (fun i => .int .i64 (f i))) (k : RdF w B (2 * n) (fun i => .int .i64 (f i))) (hn : n ≤ 1048576) :
    Calls Try.prog 34 #[.slice A n c, .slice B n d] w fun e w' => e = .returned (.bool true) ∧ Up w w' := by
  go_enter Try.func34, Try.ntmps34
  go_wp2
  go_loopw [5] (fun i wr => ∃ k : Nat, k ≤ n ∧ i = .int .i64 k ∧ Up w wr) (fun i _ => n - (intOf i).toNat)
  case atStart => exact ⟨0, Nat.zero_le _, rfl, Up.refl _⟩
  case round =>
    obtain ⟨j, hj, rfl, hb⟩ := hrel
    by_cases hlt : j < n
    · obtain ⟨b, o, rfl, hbl, hc⟩ := (h.up hb).at_ (by omega)
      obtain ⟨b2, o2, rfl, hbl2, hc2⟩ := (k.up hb).at_ (by omega)
      have c0 := hc (j * 2) (by omega)
      have c1 := hc (j * 2 + 1) (by omega)
      have d0 := hc2 (j * 2) (by omega)
      have d1 := hc2 (j * 2 + 1) (by omega)
      rw [← Nat.add_assoc] at c1 d1
      have hl : (j : Int) < (n : Int) := by omega
      clear h k hc hc2
      go_wp2
      refine wp_region_later (by kernel_rfl) (by kernel_rfl) ?_
      repeat (go_big_quiet_step ((go_at_call 62; exact later_call (l_eqPoint _ _ _))))
      refine wpQuiet_nil ?_; intro _ hw'; obtain ⟨x, hw''⟩ := hw'; subst hw''; obtain ⟨wn, hu⟩ := x; dsimp only; obtain ⟨N, J, JF, hn1, hn2, hz, hc, hf⟩ := hu.facts; (try simp only [World.size_alloc, World.size_setCell, World.heap_drewN, World.size_drew] at hn1 hn2)
      go_wp2
      go_roundw
      case rel => exact ⟨j + 1, by omega, by go_num, hb.trans hu⟩
      case measure => simp [intOf]; omega
    · go_wp2
      go_ret
      exact ⟨rfl, hb⟩
end Go.Proofs.Ytconjcfefdbgnaa
