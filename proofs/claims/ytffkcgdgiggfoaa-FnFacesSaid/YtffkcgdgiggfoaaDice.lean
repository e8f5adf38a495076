import Derived.Test.YtffkcgdgiggfoaaSource
import Derived.Laws.Bits64b
/- The laws' dice: their contracts. -/
namespace Go.Proofs.Ytffkcgdgiggfoaa
set_option linter.unusedSimpArgs false
set_option linter.unusedVariables false
open Go.RowKit
attribute [local go_sem] cell_allocI frz_allocI later_cell later_frz
attribute [local go_sem] cell_setI cell_drewI frz_drewI
/-- block 'g' is a dice -/
def Dice (w : World) (g t : Nat) : Prop := ∃ (A : Option Addr) (n c p : Nat) (s : Int), Blk w g t #[.slice A n c, .int .i64 p, .int .u64 s] ∧ p ≤ n ∧ (0 ≤ s ∧ s < 18446744073709551616) ∧ RdB w A n ∧ n ≤ 4096 ∧ (0 < n → ∀ b o, A = some ⟨b, o, none⟩ → b ≠ g)
theorem Dice.up {w w' : World} {g t : Nat} (h : Dice w g t) (hu : Up w w') : Dice w' g t := by obtain ⟨A, n, c, p, s, hB, h1, h2, h3, h4⟩ := h; exact ⟨A, n, c, p, s, hB.up hu, h1, h2, h3.up hu, h4⟩
theorem Dice.lt {w : World} {g t : Nat} (h : Dice w g t) : g < w.heap.size := by obtain ⟨A, n, c, p, s, hB, _⟩ := h; exact hB.lt
theorem mask24 (E : Int) (h0 : 0 ≤ E) (h1 : E < 18446744073709551616) : 0 ≤ bits .and .u64 E 16777215 ∧ bits .and .u64 E 16777215 ≤ 16777215 := by
  obtain ⟨e, rfl⟩ := Int.eq_ofNat_of_zero_le h0
  have h := bits_and_u64_nat e 16777215 (by omega) (by omega)
  rw [show ((16777215 : Nat) : Int) = 16777215 from rfl] at h
  rw [h]
  have := Nat.and_le_right (n := e) (m := 16777215)
  omega
theorem wrapU_in (x : Int) : 0 ≤ IntKind.u64.wrap x ∧ IntKind.u64.wrap x < 18446744073709551616 := by
  simp only [IntKind.wrap_u64]; omega
theorem wrap64_small {x : Int} (h0 : 0 ≤ x) (h1 : x ≤ 16777215) : wrap64 x = x := by unfold wrap64; omega
theorem l_big (A : Option Addr) (n c : Nat) (w : World) (hn : n ≤ maxLen) :
    Calls Try.prog 18 #[.slice A n c] w fun e w' => e = .returned (.bool (decide (4096 < (n : Int)))) ∧ w = w' := by
  unfold maxLen at hn
  go_enter Try.func18, Try.ntmps18
  go_wp2
  go_ret
  exact ⟨by simp, rfl⟩
end Go.Proofs.Ytffkcgdgiggfoaa
