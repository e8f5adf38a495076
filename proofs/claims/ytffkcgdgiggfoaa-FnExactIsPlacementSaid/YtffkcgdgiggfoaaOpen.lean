import Derived.Test.YtffkcgdgiggfoaaNum
import Derived.ProofKit
import Derived.OpenShut
import Derived.ShutString
import Derived.ChangeOld
import Derived.Below
import Derived.Deep.Slices
/- How the arguments of a law are opened: the value of each parameter's type, as the walks take it. -/
namespace Go.Proofs.Ytffkcgdgiggfoaa
set_option linter.unusedSimpArgs false
set_option linter.unusedVariables false
set_option maxRecDepth 20000
open Go.ChangeShapes Go.WideShapes Go.ChangeAt Go.RowKit Go.Deep
open Go.ChangeMaps (open_string shut_string)

theorem own : ownKnob Try.prog.godebug = none := by kernel_rfl
theorem laidOut : laidOutB Try.prog = true := by kernel_rfl

/-- an int64 -/
def I64 (a : Int) : Prop := -9223372036854775808 ≤ a ∧ a ≤ 9223372036854775807
theorem I64_of_wf {x : Int} (h : (Lit.int .i64 x).wf = true) : I64 x := by
  simp [Lit.wf, IntKind.min, IntKind.max, IntKind.signed, IntKind.bits] at h
  exact ⟨by omega, by omega⟩

section
variable {H : Type} {enc : TypeId × Value → H} {w : World} {base b0 : Nat} {spare : Nat → Bool} {held : Bool} {r : Reach} {fuel : Nat} {cs : List Value} {x : DataW H × List MemPlace} {v : Value} {d : DataW H} {p : List MemPlace}

theorem o_int64 (hv : Value.okWide Try.prog w r b0 2 v) (h : DataW.Trod enc Try.prog w base spare held 2 v d p) : ∃ a, v = .int .i64 a ∧ I64 a := by
  obtain ⟨a, rfl, rfl, rfl, wx⟩ := open_int Try.underlying2 hv h
  exact ⟨a, rfl, I64_of_wf wx⟩
/-- one cell that reads as an int64 -/
theorem oc_int64 (h : DataW.trod enc Try.prog w base spare held fuel 2 cs = some x) : ∃ a, cs = [.int .i64 a] ∧ I64 a := by
  obtain ⟨n, h1, _, h2⟩ := DataW.trod_int Try.underlying2 h
  exact ⟨n, h1, I64_of_wf h2⟩
theorem len1 {l : List Value} (h : l.length = 1) : ∃ a, l = [a] := by match l, h with | [a], _ => exact ⟨a, rfl⟩
theorem len2 {l : List Value} (h : l.length = 2) : ∃ a b, l = [a, b] := by match l, h with | [a, b], _ => exact ⟨a, b, rfl⟩
theorem len3 {l : List Value} (h : l.length = 3) : ∃ a b c, l = [a, b, c] := by match l, h with | [a, b, c], _ => exact ⟨a, b, c, rfl⟩
theorem len4 {l : List Value} (h : l.length = 4) : ∃ a b c d, l = [a, b, c, d] := by match l, h with | [a, b, c, d], _ => exact ⟨a, b, c, d, rfl⟩
theorem len6 {l : List Value} (h : l.length = 6) : ∃ a b c d e f, l = [a, b, c, d, e, f] := by match l, h with | [a, b, c, d, e, f], _ => exact ⟨a, b, c, d, e, f, rfl⟩
theorem fields {t : TypeId} {fs : Array Field} (ht : Try.prog.underlying t = some (.struct fs)) (h : DataW.trod enc Try.prog w base spare held fuel t cs = some x) :
    ∃ n, cs.length = Try.prog.cellsOf t ∧ ∀ (i : Nat) (f : Field), fs[i]? = some f → ∃ y, DataW.trod enc Try.prog w base spare held n f.type ((cs.drop f.offset).take (Try.prog.cellsOf f.type)) = some y := by
  obtain ⟨xs, n, _, _, hl, hx, hf⟩ := DataW.trod_struct ht h
  refine ⟨n, hl, fun i f hi => ?_⟩
  have hlt : i < fs.size := (Array.getElem?_eq_some_iff.1 hi).1
  exact ⟨xs[i]'(by omega), by rw [hf i f hi]; exact List.getElem?_eq_getElem (by omega)⟩
/-- a struct by value: its cells -/
theorem aggv {t : TypeId} {fs : Array Field} (ht : Try.prog.underlying t = some (.struct fs)) (hv : Value.okWide Try.prog w r b0 t v) (h : DataW.Trod enc Try.prog w base spare held t v d p) :
    ∃ l : List Value, v = .agg l.toArray ∧ ∃ fuel x, DataW.trod enc Try.prog w base spare held fuel t l = some x := by
  obtain ⟨cs, rfl, _⟩ := okWide_struct ht hv
  obtain ⟨fuel, hf⟩ := h
  exact ⟨cs.toList, by simp, fuel, _, hf⟩
theorem oc_Interval (h : DataW.trod enc Try.prog w base spare held fuel 95 cs = some x) : ∃ a b, cs = [.int .i64 a, .int .i64 b] ∧ I64 a ∧ I64 b := by
  obtain ⟨n, hl, hf⟩ := fields Try.underlying95 h
  obtain ⟨c0, c1, rfl⟩ := len2 (hl.trans (show Try.prog.cellsOf 95 = 2 from by kernel_rfl))
  have k1 : Try.prog.cellsOf 2 = 1 := by kernel_rfl
  obtain ⟨y0, h0⟩ := hf 0 _ rfl
  obtain ⟨y1, h1⟩ := hf 1 _ rfl
  simp [k1] at h0 h1
  obtain ⟨a, e0, w0⟩ := oc_int64 h0
  obtain ⟨b, e1, w1⟩ := oc_int64 h1
  simp at e0 e1
  subst e0 e1
  exact ⟨a, b, rfl, w0, w1⟩
theorem o_Interval (hv : Value.okWide Try.prog w r b0 95 v) (h : DataW.Trod enc Try.prog w base spare held 95 v d p) : ∃ a b, v = .agg #[.int .i64 a, .int .i64 b] ∧ I64 a ∧ I64 b := by
  obtain ⟨l, rfl, f, x, hx⟩ := aggv Try.underlying95 hv h
  obtain ⟨a, b, rfl, w0, w1⟩ := oc_Interval hx
  exact ⟨a, b, rfl, w0, w1⟩
theorem oc_Vector (h : DataW.trod enc Try.prog w base spare held fuel 97 cs = some x) : ∃ a b c d p q, cs = [.int .i64 a, .int .i64 b, .int .i64 c, .int .i64 d, .int .i64 p, .int .i64 q] ∧ (I64 a ∧ I64 b ∧ I64 c ∧ I64 d ∧ I64 p ∧ I64 q) := by
  obtain ⟨n, hl, hf⟩ := fields Try.underlying97 h
  obtain ⟨c0, c1, c2, c3, c4, c5, rfl⟩ := len6 (hl.trans (show Try.prog.cellsOf 97 = 6 from by kernel_rfl))
  have k1 : Try.prog.cellsOf 95 = 2 := by kernel_rfl
  obtain ⟨y0, h0⟩ := hf 0 _ rfl
  obtain ⟨y1, h1⟩ := hf 1 _ rfl
  obtain ⟨y2, h2⟩ := hf 2 _ rfl
  simp [k1] at h0 h1 h2
  obtain ⟨a, b, e0, w0, w1⟩ := oc_Interval h0
  obtain ⟨c, d, e1, w2, w3⟩ := oc_Interval h1
  obtain ⟨p, q, e2, w4, w5⟩ := oc_Interval h2
  simp at e0 e1 e2
  obtain ⟨rfl, rfl⟩ := e0
  obtain ⟨rfl, rfl⟩ := e1
  obtain ⟨rfl, rfl⟩ := e2
  exact ⟨a, b, c, d, p, q, rfl, w0, w1, w2, w3, w4, w5⟩
theorem o_Vector (hv : Value.okWide Try.prog w r b0 97 v) (h : DataW.Trod enc Try.prog w base spare held 97 v d p) : ∃ a b c d p q, v = .agg #[.int .i64 a, .int .i64 b, .int .i64 c, .int .i64 d, .int .i64 p, .int .i64 q] ∧ (I64 a ∧ I64 b ∧ I64 c ∧ I64 d ∧ I64 p ∧ I64 q) := by
  obtain ⟨l, rfl, f, x, hx⟩ := aggv Try.underlying97 hv h
  obtain ⟨a, b, c, d, p, q, rfl, hw⟩ := oc_Vector hx
  exact ⟨a, b, c, d, p, q, rfl, hw⟩
theorem oc_Face (h : DataW.trod enc Try.prog w base spare held fuel 44 cs = some x) : ∃ a b c d, cs = [.int .i64 a, .int .i64 b, .int .i64 c, .int .i64 d] ∧ I64 a ∧ I64 b ∧ I64 c ∧ I64 d := by
  obtain ⟨n, hl, hf⟩ := fields Try.underlying44 h
  obtain ⟨c0, c1, c2, c3, rfl⟩ := len4 (hl.trans (show Try.prog.cellsOf 44 = 4 from by kernel_rfl))
  have k1 : Try.prog.cellsOf 2 = 1 := by kernel_rfl
  obtain ⟨y0, h0⟩ := hf 0 _ rfl
  obtain ⟨y1, h1⟩ := hf 1 _ rfl
  obtain ⟨y2, h2⟩ := hf 2 _ rfl
  obtain ⟨y3, h3⟩ := hf 3 _ rfl
  simp [k1] at h0 h1 h2 h3
  obtain ⟨a, e0, w0⟩ := oc_int64 h0
  obtain ⟨b, e1, w1⟩ := oc_int64 h1
  obtain ⟨c, e2, w2⟩ := oc_int64 h2
  obtain ⟨d, e3, w3⟩ := oc_int64 h3
  simp at e0 e1 e2 e3
  subst e0 e1 e2 e3
  exact ⟨a, b, c, d, rfl, w0, w1, w2, w3⟩
theorem o_Face (hv : Value.okWide Try.prog w r b0 44 v) (h : DataW.Trod enc Try.prog w base spare held 44 v d p) : ∃ a b c d, v = .agg #[.int .i64 a, .int .i64 b, .int .i64 c, .int .i64 d] ∧ I64 a ∧ I64 b ∧ I64 c ∧ I64 d := by
  obtain ⟨l, rfl, f, x, hx⟩ := aggv Try.underlying44 hv h
  obtain ⟨a, b, c, d, rfl, w0, w1, w2, w3⟩ := oc_Face hx
  exact ⟨a, b, c, d, rfl, w0, w1, w2, w3⟩
theorem oc_Point (h : DataW.trod enc Try.prog w base spare held fuel 65 cs = some x) : ∃ a b, cs = [.int .i64 a, .int .i64 b] ∧ I64 a ∧ I64 b := by
  obtain ⟨n, hl, hf⟩ := fields Try.underlying65 h
  obtain ⟨c0, c1, rfl⟩ := len2 (hl.trans (show Try.prog.cellsOf 65 = 2 from by kernel_rfl))
  have k1 : Try.prog.cellsOf 2 = 1 := by kernel_rfl
  obtain ⟨y0, h0⟩ := hf 0 _ rfl
  obtain ⟨y1, h1⟩ := hf 1 _ rfl
  simp [k1] at h0 h1
  obtain ⟨a, e0, w0⟩ := oc_int64 h0
  obtain ⟨b, e1, w1⟩ := oc_int64 h1
  simp at e0 e1
  subst e0 e1
  exact ⟨a, b, rfl, w0, w1⟩
theorem oc_string (h : DataW.trod enc Try.prog w base spare held fuel 9 cs = some x) : ∃ s : ByteArray, cs = [.string s] ∧ s.size ≤ maxLen := by
  obtain ⟨n, h1, _, h2⟩ := DataW.trod_string Try.underlying9 h
  exact ⟨n, h1, h2⟩
theorem oc_Label (h : DataW.trod enc Try.prog w base spare held fuel 67 cs = some x) : ∃ (s : ByteArray) (a b : Int), cs = [.string s, .int .i64 a, .int .i64 b] ∧ s.size ≤ maxLen ∧ I64 a ∧ I64 b := by
  obtain ⟨n, hl, hf⟩ := fields Try.underlying67 h
  obtain ⟨c0, c1, c2, rfl⟩ := len3 (hl.trans (show Try.prog.cellsOf 67 = 3 from by kernel_rfl))
  have k1 : Try.prog.cellsOf 9 = 1 := by kernel_rfl
  have k2 : Try.prog.cellsOf 65 = 2 := by kernel_rfl
  obtain ⟨y0, h0⟩ := hf 0 _ rfl
  obtain ⟨y1, h1⟩ := hf 1 _ rfl
  simp [k1, k2] at h0 h1
  obtain ⟨s, e0, w0⟩ := oc_string h0
  obtain ⟨a, b, e1, w1, w2⟩ := oc_Point h1
  simp at e0 e1
  obtain ⟨rfl, rfl⟩ := e1
  subst e0
  exact ⟨s, a, b, rfl, w0, w1, w2⟩
theorem o_Label (hv : Value.okWide Try.prog w r b0 67 v) (h : DataW.Trod enc Try.prog w base spare held 67 v d p) : ∃ (s : ByteArray) (a b : Int), v = .agg #[.string s, .int .i64 a, .int .i64 b] ∧ s.size ≤ maxLen ∧ I64 a ∧ I64 b := by
  obtain ⟨l, rfl, f, x, hx⟩ := aggv Try.underlying67 hv h
  obtain ⟨s, a, b, rfl, w0, w1, w2⟩ := oc_Label hx
  exact ⟨s, a, b, rfl, w0, w1, w2⟩
/-- a cell that holds a slice of int64 -/
theorem oc_ints (h : DataW.trod enc Try.prog w base spare held fuel 46 cs = some x) : ∃ A n c zs, cs = [.slice A n c] ∧ RdI w A n zs ∧ (∀ k, k < n → I64 (zs[k]?.getD 0)) ∧ n ≤ maxLen := by
  rcases open_ints Try.underlying46 Try.underlying2 (by kernel_rfl) h with ⟨hcs, _⟩ | ⟨a, l, c, zs, hcs, _, hl, hm, hz, _, hcell, hwz⟩
  · exact ⟨none, 0, 0, [], hcs, RdI.nil _ _, fun k hk => by omega, Nat.zero_le _⟩
  · have hlz : l ≤ zs.length := by rw [hz]; split <;> omega
    refine ⟨some a, l, c, zs.take l, hcs, ⟨by simp; omega, fun k hk => ?_⟩, fun k hk => ?_, by omega⟩
    · have h0 := hcell k (by omega)
      have hs := World.cell?_spot (hcell 0 (by omega))
      obtain ⟨b, o, s⟩ := a
      obtain rfl : s = none := by simpa [Addr.add] using hs
      have ea : (⟨b, o, none⟩ : Addr).add k = ⟨b, o + k, none⟩ := add_plain _ _ _
      rw [ea] at h0
      refine ⟨b, o, rfl, cell_lt h0, ?_⟩
      rw [h0]
      simp [List.getD_eq_getElem?_getD, hk]
    · have hm := hwz (zs[k]'(by omega)) (List.getElem_mem _)
      have e : (zs.take l)[k]?.getD 0 = zs[k]'(by omega) := by simp [hk, show k < zs.length by omega]
      rw [e]; exact I64_of_wf hm
theorem o_ints (hv : Value.okWide Try.prog w r b0 46 v) (h : DataW.Trod enc Try.prog w base spare held 46 v d p) : ∃ A n c zs, v = .slice A n c ∧ RdI w A n zs ∧ (∀ k, k < n → I64 (zs[k]?.getD 0)) ∧ n ≤ maxLen := by
  obtain ⟨a, n, c, rfl⟩ := okWide_slice Try.underlying46 hv
  obtain ⟨fuel, hf⟩ := h
  obtain ⟨A, n', c', zs, e, h1, h2, h3⟩ := oc_ints hf
  simp [Value.cells] at e
  obtain ⟨rfl, rfl, rfl⟩ := e
  exact ⟨_, _, _, zs, rfl, h1, h2, h3⟩
theorem oc_Body (h : DataW.trod enc Try.prog w base spare held fuel 94 cs = some x) : ∃ A n c zs B m e ys, cs = [.slice A n c, .slice B m e] ∧ RdI w A n zs ∧ (∀ k, k < n → I64 (zs[k]?.getD 0)) ∧ n ≤ maxLen ∧ RdI w B m ys ∧ (∀ k, k < m → I64 (ys[k]?.getD 0)) ∧ m ≤ maxLen := by
  obtain ⟨n, hl, hf⟩ := fields Try.underlying94 h
  obtain ⟨c0, c1, rfl⟩ := len2 (hl.trans (show Try.prog.cellsOf 94 = 2 from by kernel_rfl))
  have k1 : Try.prog.cellsOf 46 = 1 := by kernel_rfl
  obtain ⟨y0, h0⟩ := hf 0 _ rfl
  obtain ⟨y1, h1⟩ := hf 1 _ rfl
  simp [k1] at h0 h1
  obtain ⟨A, n0, c, zs, e0, w0, w1, w2⟩ := oc_ints h0
  obtain ⟨B, m, e, ys, e1, w3, w4, w5⟩ := oc_ints h1
  simp at e0 e1
  subst e0 e1
  exact ⟨A, n0, c, zs, B, m, e, ys, rfl, w0, w1, w2, w3, w4, w5⟩
theorem o_Body (hv : Value.okWide Try.prog w r b0 94 v) (h : DataW.Trod enc Try.prog w base spare held 94 v d p) : ∃ A n c zs B m e ys, v = .agg #[.slice A n c, .slice B m e] ∧ RdI w A n zs ∧ (∀ k, k < n → I64 (zs[k]?.getD 0)) ∧ n ≤ maxLen ∧ RdI w B m ys ∧ (∀ k, k < m → I64 (ys[k]?.getD 0)) ∧ m ≤ maxLen := by
  obtain ⟨l, rfl, f, x, hx⟩ := aggv Try.underlying94 hv h
  obtain ⟨A, n0, c, zs, B, m, e, ys, rfl, w0⟩ := oc_Body hx
  exact ⟨A, n0, c, zs, B, m, e, ys, rfl, w0⟩
end
end Go.Proofs.Ytffkcgdgiggfoaa
