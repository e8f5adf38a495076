import Derived.Test.YtffkcgdgiggfoaaOpen
/- How a list of observations is opened. -/
namespace Go.Proofs.Ytffkcgdgiggfoaa
set_option linter.unusedSimpArgs false
set_option linter.unusedVariables false
set_option maxRecDepth 20000
open Go.ChangeShapes Go.WideShapes Go.ChangeAt Go.RowKit Go.Deep
section
variable {H : Type} {enc : TypeId × Value → H} {w : World} {base b0 : Nat} {spare : Nat → Bool} {held : Bool} {r : Reach} {fuel : Nat} {cs : List Value} {x : DataW H × List MemPlace} {v : Value} {d : DataW H} {p : List MemPlace}
theorem oc_Obs (h : DataW.trod enc Try.prog w base spare held fuel 127 cs = some x) : ∃ a b c d, cs = [.int .i64 a, .int .i64 b, .int .i64 c, .int .i64 d] := by
  obtain ⟨n, hl, hf⟩ := fields Try.underlying127 h
  obtain ⟨c0, c1, c2, c3, rfl⟩ := len4 (hl.trans (show Try.prog.cellsOf 127 = 4 from by kernel_rfl))
  have k1 : Try.prog.cellsOf 2 = 1 := by kernel_rfl
  have k2 : Try.prog.cellsOf 65 = 2 := by kernel_rfl
  obtain ⟨y0, h0⟩ := hf 0 _ rfl
  obtain ⟨y1, h1⟩ := hf 1 _ rfl
  obtain ⟨y2, h2⟩ := hf 2 _ rfl
  simp [k1, k2] at h0 h1 h2
  obtain ⟨a, e0, w0⟩ := oc_int64 h0
  obtain ⟨b, e1, w1⟩ := oc_int64 h1
  obtain ⟨c, d, e2, w2, w3⟩ := oc_Point h2
  simp at e0 e1 e2
  obtain ⟨rfl, rfl⟩ := e2
  subst e0 e1
  exact ⟨a, b, c, d, rfl⟩
theorem o_Obs (hv : Value.okWide Try.prog w r b0 22 v) (h : DataW.Trod enc Try.prog w base spare held 22 v d p) : ∃ (A : Option Addr) (n c : Nat) (f : Nat → Int), v = .slice A n c ∧ RdF w A (n * 4) (fun i => .int .i64 (f i)) ∧ n ≤ maxLen := by
  obtain ⟨a, n, c, rfl⟩ := okWide_slice Try.underlying22 hv
  obtain ⟨fuel, hf⟩ := h
  rcases open_slice Try.underlying22 hf with ⟨hcs, _⟩ | ⟨a', l, c', m, n', D, Pl, hcs, _, hl, hm, hmm, _, hx⟩
  · simp [Value.cells] at hcs
    obtain ⟨rfl, rfl, rfl⟩ := hcs
    exact ⟨none, 0, 0, fun _ => 0, rfl, RdF.zero _ _ _, Nat.zero_le _⟩
  · simp [Value.cells] at hcs
    obtain ⟨rfl, rfl, rfl⟩ := hcs
    have hk : Try.prog.cellsOf 127 = 4 := by kernel_rfl
    have hlm : n ≤ m := by rw [hmm]; split <;> omega
    have each : ∀ i, i < n → ∃ z0 z1 z2 z3 : Int, ∀ j, j < 4 → w.cell? (a'.add (i * 4 + j)) = some (.int .i64 (List.getD [z0, z1, z2, z3] j 0)) := by
      intro i hi
      obtain ⟨cs', h1, h2⟩ := hx i (by omega)
      obtain ⟨z0, z1, z2, z3, rfl⟩ := oc_Obs h2
      rw [hk] at h1
      obtain ⟨_, _, h3⟩ := World.cells?_some h1
      refine ⟨z0, z1, z2, z3, fun j hj => ?_⟩
      have h4 := h3 j hj
      rw [add_of_add] at h4
      rw [h4]
      match j, hj with
      | 0, _ => rfl
      | 1, _ => rfl
      | 2, _ => rfl
      | 3, _ => rfl
      | j + 4, hj => omega
    have each1 : ∀ q, q < n * 4 → ∃ z : Int, w.cell? (a'.add q) = some (.int .i64 z) := by
      intro q hq
      obtain ⟨z0, z1, z2, z3, hz⟩ := each (q / 4) (by omega)
      have := hz (q % 4) (by omega)
      rw [show q / 4 * 4 + q % 4 = q by omega] at this
      exact ⟨_, this⟩
    refine ⟨some a', n, c, fun q => match w.cell? (a'.add q) with | some (.int .i64 z) => z | _ => 0, rfl, fun q hq => ?_, by omega⟩
    obtain ⟨z, hz⟩ := each1 q hq
    obtain ⟨zz, hz0⟩ := each1 0 (by omega)
    have hs := World.cell?_spot hz0
    obtain ⟨b, o, s⟩ := a'
    obtain rfl : s = none := by simpa [Addr.add] using hs
    have ea : (⟨b, o, none⟩ : Addr).add q = ⟨b, o + q, none⟩ := add_plain _ _ _
    rw [ea] at hz
    refine ⟨b, o, rfl, cell_lt hz, ?_⟩
    simp only [ea, hz]
end
end Go.Proofs.Ytffkcgdgiggfoaa
