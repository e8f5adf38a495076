import Derived.Test.YtffkcgdgiggfoaaOpen
import Derived.Test.YtffkcgdgiggfoaaLabelS
/- How a list of labels is opened. -/
namespace Go.Proofs.Ytffkcgdgiggfoaa
set_option linter.unusedSimpArgs false
set_option linter.unusedVariables false
set_option maxRecDepth 20000
open Go.ChangeShapes Go.WideShapes Go.ChangeAt Go.RowKit Go.Deep
section
variable {H : Type} {enc : TypeId × Value → H} {w : World} {base b0 : Nat} {spare : Nat → Bool} {held : Bool} {r : Reach} {fuel : Nat} {cs : List Value} {x : DataW H × List MemPlace} {v : Value} {d : DataW H} {p : List MemPlace}
theorem o_Labels (hv : Value.okWide Try.prog w r b0 45 v) (h : DataW.Trod enc Try.prog w base spare held 45 v d p) : ∃ (A : Option Addr) (n c : Nat) (S : Nat → ByteArray) (X Y : Nat → Int), v = .slice A n c ∧ RdF w A (n * 3) (labF S X Y) ∧ (∀ i, i < n → (S i).size ≤ maxLen) ∧ n ≤ maxLen := by
  obtain ⟨a, n, c, rfl⟩ := okWide_slice Try.underlying45 hv
  obtain ⟨fuel, hf⟩ := h
  rcases open_slice Try.underlying45 hf with ⟨hcs, _⟩ | ⟨a', l, c', m, n', D, Pl, hcs, _, hl, hm, hmm, _, hx⟩
  · simp [Value.cells] at hcs
    obtain ⟨rfl, rfl, rfl⟩ := hcs
    exact ⟨none, 0, 0, fun _ => ByteArray.empty, fun _ => 0, fun _ => 0, rfl, RdF.zero _ _ _, fun i hi => by omega, Nat.zero_le _⟩
  · simp [Value.cells] at hcs
    obtain ⟨rfl, rfl, rfl⟩ := hcs
    have hk : Try.prog.cellsOf 67 = 3 := by kernel_rfl
    have hlm : n ≤ m := by rw [hmm]; split <;> omega
    have each : ∀ i, i < n → ∃ (s : ByteArray) (z1 z2 : Int), s.size ≤ maxLen ∧ w.cell? (a'.add (i * 3)) = some (.string s) ∧ w.cell? (a'.add (i * 3 + 1)) = some (.int .i64 z1) ∧ w.cell? (a'.add (i * 3 + 2)) = some (.int .i64 z2) := by
      intro i hi
      obtain ⟨cs', h1, h2⟩ := hx i (by omega)
      obtain ⟨s, z1, z2, rfl, hs, _, _⟩ := oc_Label h2
      rw [hk] at h1
      obtain ⟨_, _, h3⟩ := World.cells?_some h1
      have h40 := h3 0 (by omega)
      have h41 := h3 1 (by omega)
      have h42 := h3 2 (by omega)
      rw [add_of_add] at h40 h41 h42
      exact ⟨s, z1, z2, hs, h40, h41, h42⟩
    refine ⟨some a', n, c, fun i => match w.cell? (a'.add (i * 3)) with | some (.string s) => s | _ => ByteArray.empty, fun i => match w.cell? (a'.add (i * 3 + 1)) with | some (.int .i64 z) => z | _ => 0, fun i => match w.cell? (a'.add (i * 3 + 2)) with | some (.int .i64 z) => z | _ => 0, rfl, fun q hq => ?_, fun i hi => ?_, by omega⟩
    · obtain ⟨s0, _, _, _, hz0, _⟩ := each 0 (by omega)
      have hs := World.cell?_spot hz0
      obtain ⟨b, o, s⟩ := a'
      obtain rfl : s = none := by simpa [Addr.add] using hs
      have ea : ∀ q, (⟨b, o, none⟩ : Addr).add q = ⟨b, o + q, none⟩ := fun q => add_plain _ _ _
      simp only [ea] at each hz0 ⊢
      obtain ⟨s', z1, z2, _, e0, e1, e2⟩ := each (q / 3) (by omega)
      refine ⟨b, o, rfl, cell_lt hz0, ?_⟩
      unfold labF
      by_cases h0 : q % 3 = 0
      · rw [if_pos h0]; simp only [e0]; rw [show q = q / 3 * 3 by omega, e0]
      · rw [if_neg h0]
        by_cases h1 : q % 3 = 1
        · rw [if_pos h1]; simp only [e1]; rw [show q = q / 3 * 3 + 1 by omega, e1]
        · rw [if_neg h1]; simp only [e2]; rw [show q = q / 3 * 3 + 2 by omega, e2]
    · obtain ⟨s, z1, z2, hs, e0, _, _⟩ := each i hi
      simp only [e0]; exact hs
end
end Go.Proofs.Ytffkcgdgiggfoaa
