import Derived.Test.YtffkcgdgiggfoaaFace
/- The laws' own functions on slices of numbers: copies, comparisons, marks. -/
namespace Go.Proofs.Ytffkcgdgiggfoaa
set_option linter.unusedSimpArgs false
set_option linter.unusedVariables false
open Go.RowKit
attribute [local go_sem] cell_allocI frz_allocI later_cell later_frz
theorem Try.info_int64 : (Try.prog.info? 2).map (fun i => (i.zero, i.size, i.bytes)) = some (some (.int .i64 0), 1, 8) := by kernel_rfl
theorem l_szInt64S (A : Option Addr) (n c : Nat) (left : Int) (hn : n ≤ maxLen) (h0 : 0 ≤ left) (h1 : left ≤ 1048576) (w : World) :
    Calls Try.prog 114 #[.slice A n c, .int .i64 left] w fun e w' => e = .returned (.int .i64 (szS left n)) ∧ w = w' := by
  unfold maxLen at hn
  go_enter Try.func114, Try.ntmps114
  go_wp2
  all_goals (go_ret; refine ⟨ret_int ?_, rfl⟩; unfold szS; split <;> omega)
/-- what is left of a budget behind a body -/
def szB (left n m : Int) : Int := if left - n < 0 then -1 else if left - n - m < 0 then -1 else left - n - m
theorem l_szBody (A : Option Addr) (n c : Nat) (B : Option Addr) (m d : Nat) (left : Int) (hn : n ≤ maxLen) (hm : m ≤ maxLen) (h0 : 0 ≤ left) (h1 : left ≤ 1048576) (w : World) :
    Calls Try.prog 50 #[.agg #[.slice A n c, .slice B m d], .int .i64 left] w fun e w' => e = .returned (.int .i64 (szB left n m)) ∧ Up w w' := by
  by_cases k1 : left - n < 0
  · have e1 := hide (szS_no (left := left) (n := n) (by omega))
    go_enter Try.func50, Try.ntmps50
    go_wp2_with fail
    refine (l_szInt64S _ _ _ _ hn h0 h1 _).mono ?_
    rintro e w' ⟨rfl, rfl⟩
    rw [e1.out]
    go_wp2
    go_ret
    refine ⟨ret_int (by unfold szB; split <;> (try split) <;> omega), ?_⟩
    (repeat' (first | with_reducible exact Up.refl _ | with_reducible assumption | with_reducible refine Up.alloc ?_ _ | with_reducible refine Up.drew ?_ | with_reducible refine Up.drewN ?_ _ | with_reducible refine Up.setCell ?_ (by (try simp only [World.size_alloc, World.size_setCell, World.heap_drewN, World.size_drew]); omega) _ | (with_reducible refine Up.trans ?_ (by with_reducible assumption))))
  · have e1 := hide (szS_ok (left := left) (n := n) (by omega))
    by_cases k2 : left - n - m < 0
    · have e2 := hide (szS_no (left := left - n) (n := m) (by omega))
      have k1' : 0 ≤ left - n := by omega
      go_enter Try.func50, Try.ntmps50
      go_wp2_with fail
      refine (l_szInt64S _ _ _ _ hn h0 h1 _).mono ?_
      rintro e w' ⟨rfl, rfl⟩
      rw [e1.out]
      go_wp2_with fail
      refine (l_szInt64S _ _ _ _ hm k1' (by omega) _).mono ?_
      rintro e w' ⟨rfl, rfl⟩
      rw [e2.out]
      go_wp2
      go_ret
      refine ⟨ret_int (by unfold szB; split <;> (try split) <;> omega), ?_⟩
      (repeat' (first | with_reducible exact Up.refl _ | with_reducible assumption | with_reducible refine Up.alloc ?_ _ | with_reducible refine Up.drew ?_ | with_reducible refine Up.drewN ?_ _ | with_reducible refine Up.setCell ?_ (by (try simp only [World.size_alloc, World.size_setCell, World.heap_drewN, World.size_drew]); omega) _ | (with_reducible refine Up.trans ?_ (by with_reducible assumption))))
    · have e2 := hide (szS_ok (left := left - n) (n := m) (by omega))
      have k1' : 0 ≤ left - n := by omega
      go_enter Try.func50, Try.ntmps50
      go_wp2_with fail
      refine (l_szInt64S _ _ _ _ hn h0 h1 _).mono ?_
      rintro e w' ⟨rfl, rfl⟩
      rw [e1.out]
      go_wp2_with fail
      refine (l_szInt64S _ _ _ _ hm k1' (by omega) _).mono ?_
      rintro e w' ⟨rfl, rfl⟩
      rw [e2.out]
      go_wp2
      go_ret
      refine ⟨ret_int (by unfold szB; split <;> (try split) <;> omega), ?_⟩
      (repeat' (first | with_reducible exact Up.refl _ | with_reducible assumption | with_reducible refine Up.alloc ?_ _ | with_reducible refine Up.drew ?_ | with_reducible refine Up.drewN ?_ _ | with_reducible refine Up.setCell ?_ (by (try simp only [World.size_alloc, World.size_setCell, World.heap_drewN, World.size_drew]); omega) _ | (with_reducible refine Up.trans ?_ (by with_reducible assumption))))
theorem l_toInt64S (A : Option Addr) (n c : Nat) (zs : List Int) (w : World) (h : RdI w A n zs) (hn : n ≤ 1048576) :
    Calls Try.prog 30 #[.slice A n c] w fun e w' => e = .returned (.slice (some ⟨w.heap.size, 0, none⟩) n n) ∧ Filled w' w.heap.size 2 n n (fun k => .int .i64 (zs[k]?.getD 0)) ∧ Up w w' := by
  have hmk := run_make_row' (P := Try.prog) 46 2 (.int .i64 0) 8 Try.underlying46 Try.info_int64 rfl .i64 .i64 n (by omega) (by omega)
  go_enter Try.func30, Try.ntmps30
  go_wp2
  clear hmk
  go_loopw [4] (fun i wr => ∃ k : Nat, k ≤ n ∧ i = .int .i64 k ∧ Filled wr w.heap.size 2 n k (fun k => .int .i64 (zs[k]?.getD 0)) ∧ Up w wr) (fun i _ => n - (intOf i).toNat)
  case atStart => exact ⟨0, Nat.zero_le _, rfl, Filled.start _ _ _ _ _, (Up.refl _).alloc _⟩
  case round =>
    obtain ⟨k, hk, rfl, hf, hb⟩ := hrel
    by_cases hlt : k < n
    · obtain ⟨b, o, rfl, hbl, hc⟩ := h.2.up hb k hlt
      obtain ⟨v0, hv0⟩ := hf.some_ hlt
      have hfz := (hf.ok hlt).2
      have F := hide (hf.set_ hlt _ rfl)
      have B := hb.setCell (p := ⟨w.heap.size, k, none⟩) (Nat.le_refl _) (.int .i64 (zs[k]?.getD 0))
      clear hf h
      go_wp2
      go_roundw
      case rel => exact ⟨k + 1, by omega, by go_num, F.out, B⟩
      case measure => simp [intOf]; omega
    · go_wp2
      go_ret
      obtain rfl : k = n := by omega
      exact ⟨rfl, hf, hb⟩
/-- two slices that read as the same numbers -/
theorem l_eqInt64S (A B : Option Addr) (n c d : Nat) (zs : List Int) (w : World) (h : RdI w A n zs) (k : RdI w B n zs) (hn : n ≤ 1048576) :
    Calls Try.prog 33 #[.slice A n c, .slice B n d] w fun e w' => e = .returned (.bool true) ∧ Up w w' := by
  go_enter Try.func33, Try.ntmps33
  go_wp2
  go_loopw [5] (fun i wr => ∃ k : Nat, k ≤ n ∧ i = .int .i64 k ∧ Up w wr) (fun i _ => n - (intOf i).toNat)
  case atStart => exact ⟨0, Nat.zero_le _, rfl, Up.refl _⟩
  case round =>
    obtain ⟨j, hj, rfl, hb⟩ := hrel
    by_cases hlt : j < n
    · obtain ⟨b, o, rfl, hbl, hc⟩ := h.2.up hb j hlt
      obtain ⟨b2, o2, rfl, hbl2, hc2⟩ := k.2.up hb j hlt
      have hl : (j : Int) < (n : Int) := by omega
      clear h k
      go_wp2
      go_quiet (fail)
      go_wp2
      go_roundw
      case rel => exact ⟨j + 1, by omega, by go_num, hb.drewN _⟩
      case measure => simp [intOf]; omega
    · go_wp2
      go_ret
      exact ⟨rfl, hb⟩
theorem l_toBody (A : Option Addr) (n c : Nat) (zs : List Int) (B : Option Addr) (m d : Nat) (ys : List Int) (w : World) (h : RdI w A n zs) (k : RdI w B m ys) (hn : n ≤ 1048576) (hm : m ≤ 1048576) :
    Calls Try.prog 52 #[.agg #[.slice A n c, .slice B m d]] w fun e w' => ∃ g1 g2, e = .returned (.agg #[.slice (some ⟨g1, 0, none⟩) n n, .slice (some ⟨g2, 0, none⟩) m m]) ∧ w.heap.size ≤ g1 ∧ g1 < g2 ∧
      Filled w' g1 2 n n (fun k => .int .i64 (zs[k]?.getD 0)) ∧ Filled w' g2 2 m m (fun k => .int .i64 (ys[k]?.getD 0)) ∧ Up w w' := by
  go_enter Try.func52, Try.ntmps52
  go_wp2_with fail
  refine (l_toInt64S _ _ _ _ _ (h.up (by (repeat' (first | with_reducible exact Up.refl _ | with_reducible assumption | with_reducible refine Up.alloc ?_ _ | with_reducible refine Up.drew ?_ | with_reducible refine Up.drewN ?_ _ | with_reducible refine Up.setCell ?_ (by (try simp only [World.size_alloc, World.size_setCell, World.heap_drewN, World.size_drew]); omega) _ | (with_reducible refine Up.trans ?_ (by with_reducible assumption)))))) hn).mono ?_
  rintro e w1 ⟨rfl, F1, hu⟩; obtain ⟨N, J, JF, hn1, hn2, hz, hc, hf⟩ := hu.facts; (try simp only [World.size_alloc, World.size_setCell, World.heap_drewN, World.size_drew] at hn1 hn2)
  simp only [World.size_alloc, World.size_setCell, World.heap_drewN, World.size_drew] at F1
  have hlt1 := F1.lt
  go_wp2_with fail
  refine (l_toInt64S _ _ _ _ _ (k.up (by (repeat' (first | with_reducible exact Up.refl _ | with_reducible assumption | with_reducible refine Up.alloc ?_ _ | with_reducible refine Up.drew ?_ | with_reducible refine Up.drewN ?_ _ | with_reducible refine Up.setCell ?_ (by (try simp only [World.size_alloc, World.size_setCell, World.heap_drewN, World.size_drew]); omega) _ | (with_reducible refine Up.trans ?_ (by with_reducible assumption)))))) hm).mono ?_
  have F1 := F1.far (p := ⟨w.heap.size + 1 + 1, 0, none⟩) (by (try simp only [World.size_alloc, World.size_setCell, World.heap_drewN, World.size_drew]); omega) (.slice (some ⟨w.heap.size + 1 + 1 + 1, 0, none⟩) n n)
  rintro e w2 ⟨rfl, F2, hu2⟩
  have F1 := F1.up hu2
  have hu1 := hide hu
  have hu := hu2; obtain ⟨N, J, JF, hn1, hn2, hz, hc, hf⟩ := hu.facts; (try simp only [World.size_alloc, World.size_setCell, World.heap_drewN, World.size_drew] at hn1 hn2)
  simp only [World.size_alloc, World.size_setCell, World.heap_drewN, World.size_drew] at F2
  go_wp2
  refine ret_agg2 Try.results52 rfl Try.underlying100 rfl (by kernel_rfl) rfl (by simp [isSome_setCell, cell_allocI, ↓IntWalk.iteOmega, *]) (by simp [isSome_setCell, cell_allocI, ↓IntWalk.iteOmega, *]) ⟨_, _, rfl, ?_, ?_, ?_, ?_, ?_⟩
  · omega
  · omega
  · (repeat with_reducible refine Filled.far ?_ (by (try simp only [World.size_alloc, World.size_setCell, World.heap_drewN, World.size_drew]); omega) _)
    exact F1
  · (repeat with_reducible refine Filled.far ?_ (by (try simp only [World.size_alloc, World.size_setCell, World.heap_drewN, World.size_drew]); omega) _)
    exact F2
  · have hu1 := hu1.out
    (repeat' (first | with_reducible exact Up.refl _ | with_reducible assumption | with_reducible refine Up.alloc ?_ _ | with_reducible refine Up.drew ?_ | with_reducible refine Up.drewN ?_ _ | with_reducible refine Up.setCell ?_ (by (try simp only [World.size_alloc, World.size_setCell, World.heap_drewN, World.size_drew]); omega) _ | (with_reducible refine Up.trans ?_ (by with_reducible assumption))))
theorem l_eqBody (A : Option Addr) (n c : Nat) (B : Option Addr) (m d : Nat) (A2 : Option Addr) (c2 : Nat) (B2 : Option Addr) (d2 : Nat) (zs ys : List Int) (w : World) (h : RdI w A n zs) (k : RdI w B m ys) (h2 : RdI w A2 n zs) (k2 : RdI w B2 m ys) (hn : n ≤ 1048576) (hm : m ≤ 1048576) :
    Calls Try.prog 55 #[.agg #[.slice A n c, .slice B m d], .agg #[.slice A2 n c2, .slice B2 m d2]] w fun e w' => e = .returned (.bool true) ∧ Up w w' := by
  go_enter Try.func55, Try.ntmps55
  go_wp2_with fail
  refine (l_eqInt64S _ _ _ _ _ _ _ (h.up (by (repeat' (first | with_reducible exact Up.refl _ | with_reducible assumption | with_reducible refine Up.alloc ?_ _ | with_reducible refine Up.drew ?_ | with_reducible refine Up.drewN ?_ _ | with_reducible refine Up.setCell ?_ (by (try simp only [World.size_alloc, World.size_setCell, World.heap_drewN, World.size_drew]); omega) _ | (with_reducible refine Up.trans ?_ (by with_reducible assumption)))))) (h2.up (by (repeat' (first | with_reducible exact Up.refl _ | with_reducible assumption | with_reducible refine Up.alloc ?_ _ | with_reducible refine Up.drew ?_ | with_reducible refine Up.drewN ?_ _ | with_reducible refine Up.setCell ?_ (by (try simp only [World.size_alloc, World.size_setCell, World.heap_drewN, World.size_drew]); omega) _ | (with_reducible refine Up.trans ?_ (by with_reducible assumption)))))) hn).mono ?_
  rintro e w1 ⟨rfl, hu⟩; obtain ⟨N, J, JF, hn1, hn2, hz, hc, hf⟩ := hu.facts; (try simp only [World.size_alloc, World.size_setCell, World.heap_drewN, World.size_drew] at hn1 hn2)
  go_wp2_with fail
  refine (l_eqInt64S _ _ _ _ _ _ _ (k.up (by (repeat' (first | with_reducible exact Up.refl _ | with_reducible assumption | with_reducible refine Up.alloc ?_ _ | with_reducible refine Up.drew ?_ | with_reducible refine Up.drewN ?_ _ | with_reducible refine Up.setCell ?_ (by (try simp only [World.size_alloc, World.size_setCell, World.heap_drewN, World.size_drew]); omega) _ | (with_reducible refine Up.trans ?_ (by with_reducible assumption)))))) (k2.up (by (repeat' (first | with_reducible exact Up.refl _ | with_reducible assumption | with_reducible refine Up.alloc ?_ _ | with_reducible refine Up.drew ?_ | with_reducible refine Up.drewN ?_ _ | with_reducible refine Up.setCell ?_ (by (try simp only [World.size_alloc, World.size_setCell, World.heap_drewN, World.size_drew]); omega) _ | (with_reducible refine Up.trans ?_ (by with_reducible assumption)))))) hm).mono ?_
  rintro e w2 ⟨rfl, hu2⟩
  go_wp2
  go_ret
  refine ⟨rfl, ?_⟩
  (repeat' (first | with_reducible exact Up.refl _ | with_reducible assumption | with_reducible refine Up.alloc ?_ _ | with_reducible refine Up.drew ?_ | with_reducible refine Up.drewN ?_ _ | with_reducible refine Up.setCell ?_ (by (try simp only [World.size_alloc, World.size_setCell, World.heap_drewN, World.size_drew]); omega) _ | (with_reducible refine Up.trans ?_ (by with_reducible assumption))))
/-- the numbers k, k + 1 .. are written into a slice that is block 'g' -/
theorem l_markInt64S (g n c : Nat) (k : Int) (f : Nat → Value) (w : World) (h : Filled w g 2 n n f) (hn : n ≤ 1048576) (h0 : 0 ≤ k) (h1 : k ≤ 1000000000) :
    Calls Try.prog 39 #[.slice (some ⟨g, 0, none⟩) n c, .int .i64 k] w fun e w' => e = .returned (.int .i64 (k + n)) ∧ Filled w' g 2 n n (fun i => .int .i64 (k + i)) ∧ w.grownBy w' (some g) := by
  go_enter Try.func39, Try.ntmps39
  go_wp2
  go_loopw [1, 5] (fun q i wr => ∃ j : Nat, j ≤ n ∧ i = .int .i64 j ∧ q = .int .i64 (k + j) ∧ Filled wr g 2 n j (fun i => .int .i64 (k + i)) ∧ w.grownBy wr (some g)) (fun _ i _ => n - (intOf i).toNat)
  case atStart => exact ⟨0, Nat.zero_le _, rfl, by simp, h.anew _, grown_refl _ _⟩
  case round =>
    obtain ⟨j, hj, rfl, rfl, hf, hg⟩ := hrel
    by_cases hlt : j < n
    · obtain ⟨v0, hv0⟩ := hf.some_ (i := j) (by omega)
      have hf0 := (hf.ok (i := j) (by omega)).2
      go_wp2
      go_roundw
      case rel => exact ⟨j + 1, by omega, by go_num, val_int (by omega), hf.put (by omega) rfl (by omega) _ (val_int (by omega)), grown_set hg _ _⟩
      case measure => simp [intOf]; omega
    · go_wp2
      go_ret
      obtain rfl : j = n := by omega
      exact ⟨rfl, hf, hg⟩
theorem l_markInt64S_nil (A : Option Addr) (c : Nat) (k : Int) (h0 : 0 ≤ k) (h1 : k ≤ 1000000000) (w : World) :
    Calls Try.prog 39 #[.slice A 0 c, .int .i64 k] w fun e w' => e = .returned (.int .i64 k) ∧ w = w' := by
  go_enter Try.func39, Try.ntmps39
  go_wp2
  go_loop [1, 5] (fun q i => i = .int .i64 0 ∧ q = .int .i64 k) (fun _ _ => 0)
  case atStart => exact ⟨rfl, rfl⟩
  case round =>
    obtain ⟨rfl, rfl⟩ := hrel
    go_wp2
    go_ret
    exact ⟨rfl, rfl⟩
theorem l_heldInt64S (g n c : Nat) (k : Int) (w : World) (h : Filled w g 2 n n (fun i => .int .i64 (k + i))) (hn : n ≤ 1048576) (h0 : 0 ≤ k) (h1 : k ≤ 1000000000) :
    Calls Try.prog 40 #[.slice (some ⟨g, 0, none⟩) n c, .int .i64 k] w fun e w' => e = .returned (.int .i64 (k + n)) ∧ w = w' := by
  go_enter Try.func40, Try.ntmps40
  go_wp2
  go_loop [1, 5] (fun q i => ∃ j : Nat, j ≤ n ∧ i = .int .i64 j ∧ q = .int .i64 (k + j)) (fun _ i => n - (intOf i).toNat)
  case atStart => exact ⟨0, Nat.zero_le _, rfl, by simp⟩
  case round =>
    obtain ⟨j, hj, rfl, rfl⟩ := hrel
    by_cases hlt : j < n
    · have c0 := h.cell (i := j) (by omega)
      go_wp2
      go_round
      case rel => exact ⟨j + 1, by omega, by go_num, val_int (by omega)⟩
      case measure => simp [intOf]; omega
    · go_wp2
      go_ret
      obtain rfl : j = n := by omega
      exact ⟨rfl, rfl⟩
theorem l_heldInt64S_nil (A : Option Addr) (c : Nat) (k : Int) (h0 : 0 ≤ k) (h1 : k ≤ 1000000000) (w : World) :
    Calls Try.prog 40 #[.slice A 0 c, .int .i64 k] w fun e w' => e = .returned (.int .i64 k) ∧ w = w' := by
  go_enter Try.func40, Try.ntmps40
  go_wp2
  go_loop [1, 5] (fun q i => i = .int .i64 0 ∧ q = .int .i64 k) (fun _ _ => 0)
  case atStart => exact ⟨rfl, rfl⟩
  case round =>
    obtain ⟨rfl, rfl⟩ := hrel
    go_wp2
    go_ret
    exact ⟨rfl, rfl⟩
end Go.Proofs.Ytffkcgdgiggfoaa
