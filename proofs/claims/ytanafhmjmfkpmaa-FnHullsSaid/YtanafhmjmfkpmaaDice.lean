import Derived.Test.YtanafhmjmfkpmaaSource
import Derived.Laws.Bits64b
/- The laws' dice: their contracts. -/
namespace Go.Proofs.Ytanafhmjmfkpmaa
set_option linter.unusedSimpArgs false
set_option linter.unusedVariables false
open Go.RowKit
attribute [local go_sem] cell_allocI frz_allocI later_cell later_frz
attribute [local go_sem] cell_setI cell_drewI frz_drewI
/-- block 'g' is a dice -/
def Dice (w : World) (g t : Nat) : Prop := ∃ (A : Option Addr) (n c p : Nat) (s : Int), Blk w g t #[.slice A n c, .int .i64 p, .int .u64 s] ∧ p ≤ n ∧ (0 ≤ s ∧ s < 18446744073709551616) ∧ RdB w A n ∧ n ≤ 4096 ∧ (0 < n → ∀ b o, A = some ⟨b, o, none⟩ → b ≠ g)
theorem Dice.up {w w' : World} {g t : Nat} (h : Dice w g t) (hu : Up w w') : Dice w' g t := by obtain ⟨A, n, c, p, s, hB, h1, h2, h3, h4⟩ := h; exact ⟨A, n, c, p, s, hB.up hu, h1, h2, h3.up hu, h4⟩
theorem Dice.lt {w : World} {g t : Nat} (h : Dice w g t) : g < w.heap.size := by obtain ⟨A, n, c, p, s, hB, _⟩ := h; exact hB.lt
theorem mask24 (E : Int) (h0 : 0 ≤ E) (h1 : E < 18446744073709551616) : 0 ≤ bits .and .u64 E 16777215 ∧ bits .and .u64 E 16777215 ≤ 16777215 := by
  obtain ⟨e, rfl⟩ := Int.eq_ofNat_of_zero_le h0
  have h := bits_and_u64_nat e 16777215 (by omega) (by omega)
  rw [show ((16777215 : Nat) : Int) = 16777215 from rfl] at h
  rw [h]
  have := Nat.and_le_right (n := e) (m := 16777215)
  omega
theorem wrapU_in (x : Int) : 0 ≤ IntKind.u64.wrap x ∧ IntKind.u64.wrap x < 18446744073709551616 := by
  simp only [IntKind.wrap_u64]; omega
theorem wrap64_small {x : Int} (h0 : 0 ≤ x) (h1 : x ≤ 16777215) : wrap64 x = x := by unfold wrap64; omega
theorem l_big (A : Option Addr) (n c : Nat) (w : World) (hn : n ≤ maxLen) :
    Calls Try.prog 22 #[.slice A n c] w fun e w' => e = .returned (.bool (decide (4096 < (n : Int)))) ∧ w = w' := by
  unfold maxLen at hn
  go_enter Try.func22, Try.ntmps22
  go_wp2
  go_ret
  exact ⟨by simp, rfl⟩
set_option maxHeartbeats 1000000 in
theorem l_below (g : Nat) (m : Int) (w : World) (hS : Dice w g 81) (hm : 0 < m) (hm1 : m ≤ 4000000000000000000) :
    Calls Try.prog 32 #[.pointer (some ⟨g, 0, none⟩), .int .i64 m] w fun e w' => (∃ r : Int, e = .returned (.int .i64 r) ∧ 0 ≤ r ∧ r < m) ∧ Dice w' g 81 ∧ w.grownBy w' (some g) := by
  obtain ⟨A, n, c, p, s, hB, hp, ⟨s0, s1⟩, hR, hn, hA⟩ := hS
  have b0 := hB.cell 0
  have b1 := hB.cell 1
  have b2 := hB.cell 2
  have z1 := hB.frozen 1
  have z2 := hB.frozen 2
  simp at b0 b1 b2
  by_cases h : p < n
  · obtain ⟨f, hf, hb⟩ := id hR
    obtain ⟨b, o, rfl, hbl, hc⟩ := hf.at_ (by omega)
    have hbg := hA (by omega) b o rfl
    have c0 := hc p h
    obtain ⟨f0, f1⟩ := hb p
    clear hc hf
    have g1 : decide (p < n) = true := by simpa using h
    go_enter Try.func32, Try.ntmps32
    go_wp2
    obtain ⟨u0, u1⟩ := wrapU_in (IntKind.u64.wrap (s * 6364136223846793005) + 1442695040888963407)
    generalize IntKind.u64.wrap (IntKind.u64.wrap (s * 6364136223846793005) + 1442695040888963407) = s' at *
    obtain ⟨v0, v1⟩ := mask24 (s' / 8589934592) (by omega) (by omega)
    rw [wrap64_small v0 v1]
    generalize bits BinOp.and IntKind.u64 (s' / 8589934592) 16777215 = v at *
    go_region
    go_wp2
    go_region
    go_wp2
    go_ret
    refine ⟨⟨_, rfl, Int.emod_nonneg _ (by omega), Int.emod_lt_of_pos _ hm⟩, ⟨some ⟨b, o, none⟩, n, c, p + 1, s', (hB.set_ 2 (.int .u64 s')).set_ 1 (.int .i64 ((p : Int) + 1)), by omega, ⟨u0, u1⟩, hR.grown ?_ hA, hn, hA⟩, ?_⟩
    · (repeat' (first | with_reducible exact grown_refl _ _ | with_reducible assumption | with_reducible refine grown_new ?_ (by (try dsimp only); (try simp only [World.size_alloc, World.size_setCell, World.heap_drewN, World.size_drew]); omega) _ | with_reducible refine grown_set ?_ _ _ | with_reducible refine grown_up ?_ ((Up.refl _).drew) | with_reducible refine grown_up ?_ (Up.alloc (Up.refl _) _) | with_reducible refine grown_trans ?_ (by with_reducible assumption)))
    (repeat' (first | with_reducible exact grown_refl _ _ | with_reducible assumption | with_reducible refine grown_new ?_ (by (try dsimp only); (try simp only [World.size_alloc, World.size_setCell, World.heap_drewN, World.size_drew]); omega) _ | with_reducible refine grown_set ?_ _ _ | with_reducible refine grown_up ?_ ((Up.refl _).drew) | with_reducible refine grown_up ?_ (Up.alloc (Up.refl _) _) | with_reducible refine grown_trans ?_ (by with_reducible assumption)))
  · have g1 : decide (p < n) = false := by simpa using h
    go_enter Try.func32, Try.ntmps32
    go_wp2
    obtain ⟨u0, u1⟩ := wrapU_in (IntKind.u64.wrap (s * 6364136223846793005) + 1442695040888963407)
    generalize IntKind.u64.wrap (IntKind.u64.wrap (s * 6364136223846793005) + 1442695040888963407) = s' at *
    obtain ⟨v0, v1⟩ := mask24 (s' / 8589934592) (by omega) (by omega)
    rw [wrap64_small v0 v1]
    generalize bits BinOp.and IntKind.u64 (s' / 8589934592) 16777215 = v at *
    go_region
    go_wp2
    go_ret
    have gr : w.grownBy (w.setCell ⟨g, 2, none⟩ (.int .u64 s')) (some g) := by (repeat' (first | with_reducible exact grown_refl _ _ | with_reducible assumption | with_reducible refine grown_new ?_ (by (try dsimp only); (try simp only [World.size_alloc, World.size_setCell, World.heap_drewN, World.size_drew]); omega) _ | with_reducible refine grown_set ?_ _ _ | with_reducible refine grown_up ?_ ((Up.refl _).drew) | with_reducible refine grown_up ?_ (Up.alloc (Up.refl _) _) | with_reducible refine grown_trans ?_ (by with_reducible assumption)))
    refine ⟨⟨_, rfl, Int.emod_nonneg _ (by omega), Int.emod_lt_of_pos _ hm⟩, ⟨A, n, c, p, s', hB.set_ 2 (.int .u64 s'), by omega, ⟨u0, u1⟩, (hR.grown gr hA).up (by (repeat' (first | with_reducible exact Up.refl _ | with_reducible assumption | with_reducible refine Up.alloc ?_ _ | with_reducible refine Up.drew ?_ | with_reducible refine Up.drewN ?_ _ | with_reducible refine Up.setCell ?_ (by (try simp only [World.size_alloc, World.size_setCell, World.heap_drewN, World.size_drew]); omega) _ | (with_reducible refine Up.trans ?_ (by with_reducible assumption))))), hn, hA⟩, ?_⟩
    (repeat' (first | with_reducible exact grown_refl _ _ | with_reducible assumption | with_reducible refine grown_new ?_ (by (try dsimp only); (try simp only [World.size_alloc, World.size_setCell, World.heap_drewN, World.size_drew]); omega) _ | with_reducible refine grown_set ?_ _ _ | with_reducible refine grown_up ?_ ((Up.refl _).drew) | with_reducible refine grown_up ?_ (Up.alloc (Up.refl _) _) | with_reducible refine grown_trans ?_ (by with_reducible assumption)))
set_option maxHeartbeats 1000000 in
theorem l_roll (A : Option Addr) (n c : Nat) (q : Int) (w : World) (h : RdB w A n) (hn : n ≤ 4096) (hq : 0 ≤ q) (hq1 : q ≤ 1000000) :
    Calls Try.prog 31 #[.slice A n c, .int .u64 q] w fun e w' => e = .returned (.pointer (some ⟨w.heap.size, 0, none⟩)) ∧ Dice w' w.heap.size 81 ∧ Up w w' := by
  have hA : 0 < n → ∀ b o, A = some ⟨b, o, none⟩ → b ≠ w.heap.size := fun h0 b o e => by
    obtain ⟨f, hf, _⟩ := h
    obtain ⟨b', o', e', hb, _⟩ := hf 0 h0
    rw [e] at e'; injection e' with e'; injection e' with e1 e2; omega
  have hR := h
  obtain ⟨f, hf, hb⟩ := h
  go_enter Try.func31, Try.ntmps31
  go_wp2
  have hf := hide hf
  have hb := hide hb
  go_loopw [6] (fun i wr => ∃ (k : Nat) (s : Int), k ≤ n ∧ i = .int .i64 k ∧ Blk wr w.heap.size 81 #[.slice A n c, .int .i64 0, .int .u64 s] ∧ 0 ≤ s ∧ s < 18446744073709551616 ∧ Up w wr) (fun i _ => n - (intOf i).toNat)
  case atStart => exact ⟨0, q * 7919 + n, Nat.zero_le _, rfl, Blk.new _ _ _, by omega, by omega, by (repeat' (first | with_reducible exact Up.refl _ | with_reducible assumption | with_reducible refine Up.alloc ?_ _ | with_reducible refine Up.drew ?_ | with_reducible refine Up.drewN ?_ _ | with_reducible refine Up.setCell ?_ (by (try simp only [World.size_alloc, World.size_setCell, World.heap_drewN, World.size_drew]); omega) _ | (with_reducible refine Up.trans ?_ (by with_reducible assumption))))⟩
  case round =>
    obtain ⟨k, s, hk, rfl, hB, s0, s1, hU⟩ := hrel
    have b0 := hB.cell 0
    have b1 := hB.cell 1
    have b2 := hB.cell 2
    have z2 := hB.frozen 2
    have hs := hB.lt
    simp at b0 b1 b2
    by_cases hlt : k < n
    · obtain ⟨b, o, rfl, hbl, hc⟩ := (hf.out.up hU).at_ (by omega)
      have c0 := hc k hlt
      obtain ⟨f0, f1⟩ := hb.out k
      clear hc
      have g1 : decide (k < n) = true := by simpa using hlt
      go_wp2
      go_region
      go_wp2
      go_roundw
      case rel => exact ⟨k + 1, _, by omega, by go_num, (hB.set_ 2 _).drew, (wrapU_in _).1, (wrapU_in _).2, by (repeat' (first | with_reducible exact Up.refl _ | with_reducible assumption | with_reducible refine Up.alloc ?_ _ | with_reducible refine Up.drew ?_ | with_reducible refine Up.drewN ?_ _ | with_reducible refine Up.setCell ?_ (by (try simp only [World.size_alloc, World.size_setCell, World.heap_drewN, World.size_drew]); omega) _ | (with_reducible refine Up.trans ?_ (by with_reducible assumption))))⟩
      case measure => simp [intOf]; omega
    · have g1 : decide (k < n) = false := by simpa using hlt
      go_wp2
      go_ret
      exact ⟨rfl, ⟨A, n, c, 0, s, hB, by omega, ⟨s0, s1⟩, hR.up hU, hn, hA⟩, hU⟩
end Go.Proofs.Ytanafhmjmfkpmaa
