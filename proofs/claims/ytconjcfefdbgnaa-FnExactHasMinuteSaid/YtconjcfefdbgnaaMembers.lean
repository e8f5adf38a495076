import Derived.Test.YtconjcfefdbgnaaSetFns
/- The contract of members: the minutes of a set, one by one. -/
namespace Go.Proofs.Ytconjcfefdbgnaa
open Go.RowKit
attribute [local go_sem] cell_allocI frz_allocI later_cell later_frz
theorem Try.info_bool : (Try.prog.info? 4).map (fun i => (i.zero, i.size, i.bytes)) = some (some (.bool false), 1, 1) := by kernel_rfl
set_option maxHeartbeats 1000000 in
theorem i_members (A : Option Addr) (n c : Nat) (zs : List Int) (w : World) (h : RdI w A n zs) (hs : isSetB zs = true) :
    Calls Try.prog 56 #[.slice A n c] w fun e w' => e = .returned (.slice (some ⟨w.heap.size, 0, none⟩) 1440 1440) ∧ Filled w' w.heap.size 4 1440 1440 (fun m => .bool (memB zs m)) ∧ Up w w' := by
  obtain ⟨hlen, hr⟩ := h
  obtain ⟨s1, s2, s3⟩ := isSetB_iff.1 hs
  have hmk : ∀ w, (Instr.makeSlice 85 (.int .i64 1440) (.int .i64 1440)).run Try.prog w = .ok (.slice (some ⟨w.heap.size, 0, none⟩) 1440 1440) (w.alloc (.cells (madeCells #[.bool false] 1440) 4)) := fun w => by
    have := run_make_row' (P := Try.prog) 85 4 (.bool false) 1 Try.underlying85 Try.info_bool rfl .i64 .i64 1440 (by omega) (by omega) w
    simpa using this
  have s3 := hide s3
  clear hs
  go_enter Try.func56, Try.ntmps56
  go_wp2
  clear hmk
  go_loopw [4] (fun i wr => ∃ k : Nat, 2 * k ≤ n ∧ i = .int .i64 (2 * (k : Int)) ∧ Filled wr w.heap.size 4 1440 1440 (fun m => .bool (memK zs k m)) ∧ Up w wr) (fun i _ => n - (intOf i).toNat)
  case atStart => exact ⟨0, Nat.zero_le _, rfl, Filled.made _ _ _ _, (Up.refl _).alloc _⟩
  case round =>
    obtain ⟨k, hk, rfl, hf, hU⟩ := hrel
    by_cases hlt : 2 * k < n
    · obtain ⟨b, o, rfl, hbl, hc⟩ := (hr.up hU).at_ (by omega)
      obtain ⟨a1, a2, _, _⟩ := okAt_iff.1 (s3.out (2 * k) (by omega))
      obtain ⟨_, b2, b3, _⟩ := okAt_iff.1 (s3.out (2 * k + 1) (by omega))
      have b3 := b3 (by omega)
      rw [show 2 * k + 1 - 1 = 2 * k from by omega] at b3
      have c0 := hc (2 * k) (by omega)
      change _ = some (Value.int .i64 (nth zs (2 * k))) at c0
      have hr' := hide hr
      have hmk := hide (memK_succ zs k)
      generalize hx : nth zs (2 * k) = x at *
      generalize hy : nth zs (2 * k + 1) = y at *
      have Hx := hide hx
      have Hy := hide hy
      clear hc hr hx hy
      obtain ⟨X, rfl⟩ := Int.eq_ofNat_of_zero_le a1
      go_wp2
      obtain ⟨wo, rfl⟩ : ∃ wo : World, wo = wr := ⟨_, rfl⟩
      go_loopw [5] (fun v wi => ∃ q : Nat, X ≤ q ∧ (q : Int) ≤ y + 1 ∧ v = .int .i64 q ∧ Filled wi w.heap.size 4 1440 1440 (fun m => .bool (memK zs k m || (decide (X ≤ m) && decide (m < q)))) ∧ Up w wi) (fun v _ => (y + 1 - intOf v).toNat)
      case atStart => exact ⟨X, Nat.le_refl _, by omega, rfl, hf.congr (fun m _ => by rw [pair_zero]), hU⟩
      case round =>
        obtain ⟨q, q1, q2, rfl, hf2, hU2⟩ := hrel
        have c1 := (hr'.out.up hU2).at_ (by omega)
        obtain ⟨b', o', e', hb', hc1⟩ := c1
        injection e' with e'; injection e' with e1 e2; subst e1 e2
        have c1 := hc1 (2 * k + 1) (by omega)
        change _ = some (Value.int .i64 (nth zs (2 * k + 1))) at c1
        rw [Hy.out] at c1
        clear hc1
        by_cases hq : (q : Int) ≤ y
        · obtain ⟨v0, hv0⟩ := hf2.some_ (i := q) (by omega)
          have hfz := (hf2.ok (i := q) (by omega)).2
          have F := hide (hf2.upd (i := q) (by omega) (.bool true) (f' := fun m => .bool (memK zs k m || (decide (X ≤ m) && decide (m < q + 1)))) (by rw [pair_new _ q1]) (fun j _ hj => by rw [pair_keep _ hj]))
          have B := hide (hU2.setCell (p := ⟨w.heap.size, q, none⟩) (Nat.le_refl _) (.bool true))
          clear hf2 hU2 hmk
          go_wp2
          go_roundw
          case rel => exact ⟨q + 1, by omega, by omega, by go_num, F.out, B.out⟩
          case measure => simp [intOf]; omega
        · have F := hide (hf2.congr (f' := fun m => .bool (memK zs (k + 1) m)) (fun m _ => by rw [hmk.out, ← pair_last (X := X) (q := q) _ (by omega) m]))
          have B := hide hU2
          clear hf2 hmk
          go_wp2
          go_roundw
          case rel => exact ⟨k + 1, by omega, by go_num, F.out, B.out⟩
          case measure => simp [intOf]; omega
    · go_wp2
      go_ret
      have e : zs.length / 2 = k := by omega
      exact ⟨rfl, hf.congr (fun m _ => by unfold memB; rw [e]), hU⟩
end Go.Proofs.Ytconjcfefdbgnaa
