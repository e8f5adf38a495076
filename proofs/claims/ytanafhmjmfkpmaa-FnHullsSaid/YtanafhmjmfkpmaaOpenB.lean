import Derived.Test.YtanafhmjmfkpmaaOpen
import Derived.Test.YtanafhmjmfkpmaaSource
/- How an argument of bytes is opened. -/
namespace Go.Proofs.Ytanafhmjmfkpmaa
set_option linter.unusedSimpArgs false
set_option linter.unusedVariables false
set_option maxRecDepth 20000
open Go.ChangeShapes Go.WideShapes Go.ChangeAt Go.RowKit Go.Deep
section
variable {H : Type} {enc : TypeId × Value → H} {w : World} {base b0 : Nat} {spare : Nat → Bool} {held : Bool} {r : Reach} {v : Value} {d : DataW H} {p : List MemPlace}
theorem o_bytes (hv : Value.okWide Try.prog w r b0 37 v) (h : DataW.Trod enc Try.prog w base spare held 37 v d p) : ∃ A n c, v = .slice A n c ∧ RdB w A n ∧ n ≤ maxLen := by
  obtain ⟨a, n, c, rfl⟩ := okWide_slice Try.underlying37 hv
  obtain ⟨fuel, hf⟩ := h
  rcases open_ints Try.underlying37 Try.underlying5 (by kernel_rfl) hf with ⟨hcs, _⟩ | ⟨a', l, c', zs, hcs, _, hl, hm, hz, _, hcell, hwz⟩
  · simp [Value.cells] at hcs
    obtain ⟨rfl, rfl, rfl⟩ := hcs
    exact ⟨none, 0, 0, rfl, ⟨fun _ => 0, RdF.zero _ _ _, fun k => ⟨by simp, by simp⟩⟩, Nat.zero_le _⟩
  · simp [Value.cells] at hcs
    obtain ⟨rfl, rfl, rfl⟩ := hcs
    have hlz : n ≤ zs.length := by rw [hz]; split <;> omega
    refine ⟨some a', n, c, rfl, ⟨fun k => zs[k]?.getD 0, fun k hk => ?_, fun k => ?_⟩, by omega⟩
    · have h0 := hcell k (by omega)
      have hs := World.cell?_spot (hcell 0 (by omega))
      obtain ⟨b, o, s⟩ := a'
      obtain rfl : s = none := by simpa [Addr.add] using hs
      have ea : (⟨b, o, none⟩ : Addr).add k = ⟨b, o + k, none⟩ := add_plain _ _ _
      rw [ea] at h0
      refine ⟨b, o, rfl, cell_lt h0, ?_⟩
      rw [h0]
      simp [List.getD_eq_getElem?_getD]
    · rcases Nat.lt_or_ge k zs.length with hk | hk
      · have hm := hwz (zs[k]'hk) (List.getElem_mem _)
        simp only [List.getElem?_eq_getElem hk, Option.getD_some]
        simp [Lit.wf, IntKind.min, IntKind.max, IntKind.signed, IntKind.bits] at hm
        exact ⟨by omega, by omega⟩
      · simp [List.getElem?_eq_none hk]
end
end Go.Proofs.Ytanafhmjmfkpmaa
