import Derived.WalkKit
import Derived.WalkSpells
import Derived.WalkLawsBesides
import Derived.Deep.QuietTactic
import Derived.BigQuiet
import Derived.Deep.OwnRows
import Derived.Deep.AppendLies
import Derived.Deep.Draws
import Derived.Deep.LoopGhost
import Derived.Laws.Rows
import Derived.Laws.ResultCell
import Derived.Deep.MidRow
import Derived.Deep.RegionHeld3
import Derived.Deep.DrawnRows
/- Words for memory that the walks of this seat use: 'Up w w2' (nothing of w is changed in w2), 'Blk' (a block known whole), 'RdI' (a slice that reads as numbers). No program in sight. -/
namespace Go.Proofs.Ytffkcgdgiggfoaa
set_option linter.unusedSimpArgs false
set_option linter.unusedVariables false
open Go.RowKit

theorem hide {p : Prop} (h : p) : Hid p := h
theorem block_of_add (a : Addr) (n : Nat) : (a.add n).block = a.block := by unfold Addr.add; split <;> rfl
theorem add_of_add (a : Addr) (i j : Nat) : (a.add i).add j = a.add (i + j) := by
  unfold Addr.add
  by_cases hi : i = 0 <;> by_cases hj : j = 0 <;> simp [hi, hj, Nat.add_assoc]
theorem ret_int {k : IntKind} {a b : Int} (h : a = b) : Ending.returned (.int k a) = .returned (.int k b) := by rw [h]
theorem ret_bool {a b : Bool} (h : a = b) : Ending.returned (.bool a) = .returned (.bool b) := by rw [h]

theorem cell_lt {w : World} {b o : Nat} {s : Option Nat} {v : Value} (h : w.cell? ⟨b, o, s⟩ = some v) : b < w.heap.size := by
  rcases Nat.lt_or_ge b w.heap.size with hlt | hge
  · exact hlt
  · unfold World.cell? at h; simp [Array.getElem?_eq_none hge] at h

theorem val_int {k : IntKind} {a b : Int} (h : a = b) : Value.int k a = .int k b := by rw [h]
theorem agg2 {a b a' b' : Int} (h : a = a') (k : b = b') : Ending.returned (.agg #[.int .i64 a, .int .i64 b]) = .returned (.agg #[.int .i64 a', .int .i64 b']) := by rw [h, k]
theorem tup2 {a b c a' b' c' : Int} (h : a = a') (k : b = b') (l : c = c') : Ending.returned (.tuple #[.agg #[.int .i64 a, .int .i64 b], .int .i64 c]) = .returned (.tuple #[.agg #[.int .i64 a', .int .i64 b'], .int .i64 c']) := by rw [h, k, l]

/-- 'w2' is 'w' with new blocks, cells of those written, and draws made: of what was there nothing has changed. -/
def Up (w w' : World) : Prop := Below w.heap.size w w'
section
variable {a b c w w' : World}
theorem Up.refl (w : World) : Up w w := Below.refl _ _
theorem Up.size (h : Up w w') : w.heap.size ≤ w'.heap.size := Below.size h
theorem Up.trans (h : Up a b) (k : Up b c) : Up a c := Below.trans h (Below.mono k (Below.size h))
theorem Up.alloc (h : Up a w) (o : Obj) : Up a (w.alloc o) := Below.alloc h (Below.size h) o
theorem Up.drew (h : Up a w) : Up a w.drew := Below.drew h
theorem Up.drewN (h : Up a w) (n : Nat) : Up a (w.drewN n) := ⟨h.os, h.tape, h.output, h.size, h.block⟩
theorem Up.setCell (h : Up a w) {p : Addr} (hp : a.heap.size ≤ p.block) (u : Value) : Up a (w.setCell p u) := Below.setCell h hp u
theorem Up.cells (h : Up w w') : ∀ b o, b < w.heap.size → w'.cell? ⟨b, o, none⟩ = w.cell? ⟨b, o, none⟩ := fun b o hb => Below.cell h (p := ⟨b, o, none⟩) hb
theorem Up.frz (h : Up w w') : ∀ b o, b < w.heap.size → w'.frozen? ⟨b, o, none⟩ = w.frozen? ⟨b, o, none⟩ := fun b o hb => Below.frozen h (p := ⟨b, o, none⟩) hb
theorem Up.lts (h : Up w w') : ∀ k, k < w.heap.size → k < w'.heap.size := fun _ hk => Nat.lt_of_lt_of_le hk h.size
/-- what a walk wants of a later world: the old cells and marks, below block 'N', which is the old heap's size -/
theorem Up.facts (h : Up w w') : ∃ (N : Nat) (J : Nat → Nat → Option Value) (JF : Nat → Nat → Bool), N ≤ w.heap.size ∧ w.heap.size ≤ N ∧ N ≤ w'.heap.size ∧
    (∀ b o, w'.cell? ⟨b, o, none⟩ = if b < N then w.cell? ⟨b, o, none⟩ else J b o) ∧ (∀ b o, w'.frozen? ⟨b, o, none⟩ = if b < N then w.frozen? ⟨b, o, none⟩ else JF b o) :=
  ⟨w.heap.size, fun b o => w'.cell? ⟨b, o, none⟩, fun b o => w'.frozen? ⟨b, o, none⟩, Nat.le_refl _, Nat.le_refl _, h.size, fun b o => by
    split
    · exact h.cells b o ‹_›
    · rfl, fun b o => by
    split
    · exact h.frz b o ‹_›
    · rfl⟩
theorem Up.grown (h : Up a w) {row : Option Nat} (hg : w.grownBy w' row) (hr : ∀ k, row = some k → a.heap.size ≤ k) : Up a w' := Below.grown h hg (Below.size h) hr
end

/-- block 'g' is the cells 'cs' of element type 't', none frozen -/
def Blk (w : World) (g : Nat) (t : TypeId) (cs : Array Value) : Prop := w.heap[g]? = some (.cells cs t (0, 0))
section
variable {w w' : World} {g : Nat} {t : TypeId} {cs : Array Value}
theorem Blk.lt (h : Blk w g t cs) : g < w.heap.size := by
  rcases Nat.lt_or_ge g w.heap.size with hlt | hge
  · exact hlt
  · unfold Blk at h; rw [Array.getElem?_eq_none hge] at h; cases h
theorem Blk.cell (h : Blk w g t cs) (i : Nat) : w.cell? ⟨g, i, none⟩ = cs[i]? := cell_of_row w g i cs t (0, 0) h
theorem Blk.frozen (h : Blk w g t cs) (i : Nat) : w.frozen? ⟨g, i, none⟩ = false := by
  unfold Blk at h
  simp [World.frozen?, h]
theorem Blk.new (w : World) (t : TypeId) (cs : Array Value) : Blk (w.alloc (.cells cs t)) w.heap.size t cs := heap_alloc_new w _
theorem Blk.drew (h : Blk w g t cs) : Blk w.drew g t cs := h
theorem Blk.drewN (h : Blk w g t cs) (n : Nat) : Blk (w.drewN n) g t cs := h
theorem Blk.alloc (h : Blk w g t cs) (o : Obj) : Blk (w.alloc o) g t cs := (Below.heap_alloc w o g h.lt).trans h
theorem Blk.set_ (h : Blk w g t cs) (i : Nat) (u : Value) : Blk (w.setCell ⟨g, i, none⟩ u) g t (cs.setIfInBounds i u) := by
  unfold Blk at h ⊢
  simp [World.setCell, Array.getElem?_modify, h]
theorem Blk.far (h : Blk w g t cs) {p : Addr} (hp : g ≠ p.block) (u : Value) : Blk (w.setCell p u) g t cs := (Below.heap_setCell w p u g hp).trans h
theorem Blk.up (h : Blk w g t cs) (hu : Up w w') : Blk w' g t cs := (Below.block hu g h.lt).trans h
theorem Blk.below {B : Nat} (h : Blk w g t cs) (hb : Below B w w') (hg : g < B) : Blk w' g t cs := (hb.block g hg).trans h
end

theorem cell_allocI (w : World) (cs : Array Value) (t : TypeId) (b o : Nat) : (w.alloc (.cells cs t)).cell? ⟨b, o, none⟩ = if b = w.heap.size then cs[o]? else w.cell? ⟨b, o, none⟩ := by
  split
  · rename_i e; subst e; exact World.cell?_alloc_new w cs t o
  · rename_i e; exact World.cell?_alloc_old w _ _ e
theorem frz_allocI (w : World) (cs : Array Value) (t : TypeId) (b o : Nat) : (w.alloc (.cells cs t)).frozen? ⟨b, o, none⟩ = if b = w.heap.size then false else w.frozen? ⟨b, o, none⟩ := by
  split
  · rename_i e; subst e; exact (Blk.new w t cs).frozen o
  · rename_i e; simp only [World.frozen?]
    have : (w.alloc (.cells cs t)).heap[b]? = w.heap[b]? := by
      unfold World.alloc; simp [Array.getElem?_push, e]
    rw [this]

/-- a slice's first 'm' cells (its address is 'A') are 'f'; nil let in where m = 0 -/
def RdF (w : World) (A : Option Addr) (m : Nat) (f : Nat → Value) : Prop :=
  ∀ k, k < m → ∃ b o, A = some ⟨b, o, none⟩ ∧ b < w.heap.size ∧ w.cell? ⟨b, o + k, none⟩ = some (f k)
/-- a slice (address 'A', 'n' elements) that reads as the int64 'zs' -/
def RdI (w : World) (A : Option Addr) (n : Nat) (zs : List Int) : Prop :=
  zs.length = n ∧ RdF w A n (fun k => .int .i64 (zs[k]?.getD 0))
/-- block 'g' has 'n' cells of type 't', none frozen; the first 'j' of them are 'f' -/
def Filled (w : World) (g t n j : Nat) (f : Nat → Value) : Prop := ∃ cs, Blk w g t cs ∧ cs.size = n ∧ ∀ i, i < j → cs[i]? = some (f i)
section
variable {w w' : World} {g t n m j : Nat} {A : Option Addr} {zs : List Int} {f f' : Nat → Value}
theorem RdF.up (h : RdF w A m f) (hu : Up w w') : RdF w' A m f := fun k hk => by
  obtain ⟨b, o, e, hb, hc⟩ := h k hk
  exact ⟨b, o, e, hu.lts _ hb, (hu.cells _ _ hb).trans hc⟩
theorem RdF.zero (w : World) (A : Option Addr) (f : Nat → Value) : RdF w A 0 f := fun _ h => by omega
theorem RdF.congr (h : RdF w A m f) (hf : ∀ k, k < m → f k = f' k) : RdF w A m f' := fun k hk => by rw [← hf k hk]; exact h k hk
theorem RdF.at_ (h : RdF w A m f) (hm : 0 < m) : ∃ b o, A = some ⟨b, o, none⟩ ∧ b < w.heap.size ∧ ∀ k, k < m → w.cell? ⟨b, o + k, none⟩ = some (f k) := by
  obtain ⟨b, o, rfl, hb, _⟩ := h 0 hm
  refine ⟨b, o, rfl, hb, fun k hk => ?_⟩
  obtain ⟨b', o', e, _, hc⟩ := h k hk
  injection e with e; injection e with e1 e2; subst e1 e2; exact hc
theorem RdI.up (h : RdI w A n zs) (hu : Up w w') : RdI w' A n zs := ⟨h.1, h.2.up hu⟩
theorem RdI.nil (w : World) (A : Option Addr) : RdI w A 0 [] := ⟨rfl, RdF.zero _ _ _⟩
theorem Filled.start (z : Array Value) (w : World) (t n : Nat) (f : Nat → Value) : Filled (w.alloc (.cells (madeCells z n) t)) w.heap.size t n 0 f :=
  ⟨_, Blk.new _ _ _, size_madeCells _ _, fun j hj => by omega⟩
theorem Filled.new (w : World) (t : Nat) (l : List Value) : Filled (w.alloc (.cells l.toArray t)) w.heap.size t l.length l.length (fun i => l[i]?.getD undef) :=
  ⟨_, Blk.new _ _ _, by simp, fun j hj => by simp [hj]⟩
theorem Filled.set_ (h : Filled w g t n j f) (hj : j < n) (u : Value) (hu : u = f j) : Filled (w.setCell ⟨g, j, none⟩ u) g t n (j+1) f := by
  obtain ⟨cs, hb, hs, hc⟩ := h
  subst hu
  refine ⟨_, hb.set_ j _, by simpa using hs, fun i hi => ?_⟩
  by_cases e : i = j
  · subst e; simp [hs, hj]
  · rw [Array.getElem?_setIfInBounds_ne (by omega)]; exact hc i (by omega)
theorem Filled.put (h : Filled w g t n j f) {i l : Nat} (hi : i = j) (hl : l = j + 1) (hj : j < n) (u : Value) (hu : u = f j) : Filled (w.setCell ⟨g, i, none⟩ u) g t n l f := by
  subst hi hl; exact h.set_ hj u hu
theorem Filled.upd (h : Filled w g t n n f) {i : Nat} (hi : i < n) (u : Value) {f' : Nat → Value} (hu : f' i = u) (hf : ∀ k, k < n → k ≠ i → f' k = f k) : Filled (w.setCell ⟨g, i, none⟩ u) g t n n f' := by
  obtain ⟨cs, hb, hs, hc⟩ := h
  refine ⟨_, hb.set_ i _, by simpa using hs, fun k hk => ?_⟩
  by_cases e : k = i
  · subst e; simp [hs, hk, hu]
  · rw [Array.getElem?_setIfInBounds_ne (by omega), hf k hk e]; exact hc k hk
theorem Filled.made (z : Value) (w : World) (t n : Nat) : Filled (w.alloc (.cells (madeCells #[z] n) t)) w.heap.size t n n (fun _ => z) :=
  ⟨_, Blk.new _ _ _, size_madeCells _ _, fun j hj => by simp [madeCells, hj, Nat.mod_one]⟩
theorem Filled.lt (h : Filled w g t n j f) : g < w.heap.size := by obtain ⟨cs, hb, _⟩ := h; exact hb.lt
theorem Filled.up (h : Filled w g t n j f) (hu : Up w w') : Filled w' g t n j f := by obtain ⟨cs, hb, r⟩ := h; exact ⟨cs, hb.up hu, r⟩
theorem Filled.grown (h : Filled w g t n j f) {row : Option Nat} (hu : w.grownBy w' row) (hne : some g ≠ row) : Filled w' g t n j f := by
  obtain ⟨cs, hb, r⟩ := h; exact ⟨cs, (hu.block g hb.lt hne).trans hb, r⟩
theorem Filled.far (h : Filled w g t n j f) {p : Addr} (hp : g ≠ p.block) (u : Value) : Filled (w.setCell p u) g t n j f := by obtain ⟨cs, hb, r⟩ := h; exact ⟨cs, hb.far hp u, r⟩
theorem Filled.alloc (h : Filled w g t n j f) (o : Obj) : Filled (w.alloc o) g t n j f := h.up ((Up.refl w).alloc o)
theorem Filled.weak (h : Filled w g t n j f) {i : Nat} (hi : i ≤ j) : Filled w g t n i f' → Filled w g t n i f := fun _ => by
  obtain ⟨cs, hb, hs, hc⟩ := h; exact ⟨cs, hb, hs, fun k hk => hc k (by omega)⟩
theorem Filled.anew (h : Filled w g t n j f) (f' : Nat → Value) : Filled w g t n 0 f' := by
  obtain ⟨cs, hb, hs, hc⟩ := h; exact ⟨cs, hb, hs, fun k hk => by omega⟩
theorem Filled.congr (h : Filled w g t n j f) (hf : ∀ k, k < j → f k = f' k) : Filled w g t n j f' := by
  obtain ⟨cs, hb, hs, hc⟩ := h; exact ⟨cs, hb, hs, fun k hk => by rw [← hf k hk]; exact hc k hk⟩
theorem Filled.ok (h : Filled w g t n j f) {i : Nat} (hi : i < n) : (w.cell? ⟨g, i, none⟩).isSome = true ∧ w.frozen? ⟨g, i, none⟩ = false := by
  obtain ⟨cs, hb, hs, hc⟩ := h
  exact ⟨by rw [hb.cell i, Array.getElem?_eq_getElem (by omega)]; rfl, hb.frozen i⟩
theorem Filled.some_ (h : Filled w g t n j f) {i : Nat} (hi : i < n) : ∃ v, w.cell? ⟨g, i, none⟩ = some v := Option.isSome_iff_exists.1 (h.ok hi).1
theorem Filled.cell (h : Filled w g t n j f) {i : Nat} (hi : i < j) : w.cell? ⟨g, i, none⟩ = some (f i) := by
  obtain ⟨cs, hb, hs, hc⟩ := h; rw [hb.cell i]; exact hc i hi
theorem Filled.rdF (h : Filled w g t n j f) : RdF w (some ⟨g, 0, none⟩) j f := fun k hk => ⟨g, 0, rfl, h.lt, by rw [Nat.zero_add]; exact h.cell hk⟩
theorem Filled.rdI (h : Filled w g t n n (fun k => .int .i64 (zs[k]?.getD 0))) (hn : zs.length = n) : RdI w (some ⟨g, 0, none⟩) n zs := ⟨hn, h.rdF⟩
/-- only block 'g' of what was there has changed: of an older world whose blocks lie below 'g' nothing has -/
theorem Up.only {a : World} (h : Up a w) (hg : w.grownBy w' (some g)) (hl : a.heap.size ≤ g) : Up a w' := h.grown hg (fun k hk => by injection hk with hk; omega)
theorem grown_refl (w : World) (r : Option Nat) : w.grownBy w r := ⟨rfl, rfl, rfl, Nat.le_refl _, fun _ _ _ => rfl⟩
theorem grown_set {a : World} (h : a.grownBy w (some g)) (i : Nat) (u : Value) : a.grownBy (w.setCell ⟨g, i, none⟩ u) (some g) :=
  ⟨h.os, h.tape, h.output, by simpa [World.setCell] using h.size, fun k hk hne => (Below.heap_setCell w _ u k (by
    rintro rfl; exact hne rfl)).trans (h.block k hk hne)⟩
theorem grown_up {a : World} {r : Option Nat} (h : a.grownBy w r) (hu : Up w w') : a.grownBy w' r :=
  ⟨hu.os.trans h.os, hu.tape.trans h.tape, hu.output.trans h.output, Nat.le_trans h.size hu.size, fun k hk hne => (hu.block k (Nat.lt_of_lt_of_le hk h.size)).trans (h.block k hk hne)⟩
theorem grown_trans {a b c : World} {r : Option Nat} (h : a.grownBy b r) (k : b.grownBy c r) : a.grownBy c r :=
  ⟨k.os.trans h.os, k.tape.trans h.tape, k.output.trans h.output, Nat.le_trans h.size k.size, fun i hi hne => (k.block i (Nat.lt_of_lt_of_le hi h.size) hne).trans (h.block i hi hne)⟩
end

theorem RdF.grown {w w' : World} {A : Option Addr} {m : Nat} {f : Nat → Value} {row : Option Nat} (h : RdF w A m f) (hu : w.grownBy w' row) (hne : ∀ b o, A = some ⟨b, o, none⟩ → some b ≠ row) : RdF w' A m f := fun k hk => by
  obtain ⟨b, o, e, hb, hc⟩ := h k hk
  refine ⟨b, o, e, Nat.lt_of_lt_of_le hb hu.size, ?_⟩
  have hh := hu.block b hb (hne b o e)
  rw [← hc]
  simp only [World.cell?, hh]
theorem grown_new {a w : World} {r : Option Nat} (h : a.grownBy w r) {p : Addr} (hp : a.heap.size ≤ p.block) (u : Value) : a.grownBy (w.setCell p u) r :=
  ⟨h.os, h.tape, h.output, by simpa [World.setCell] using h.size, fun k hk hne => (Below.heap_setCell w p u k (by omega)).trans (h.block k hk hne)⟩
/-- what stands in a world in which of the old only block 'g' has changed, as rules for the walk -/
theorem grown_facts {w w' : World} {g : Nat} (h : w.grownBy w' (some g)) : ∃ (N : Nat) (J : Nat → Nat → Option Value) (JF : Nat → Nat → Bool), N ≤ w.heap.size ∧ w.heap.size ≤ N ∧ N ≤ w'.heap.size ∧
    (∀ b o : Nat, w'.cell? ⟨b, o, none⟩ = if b < N then (if b = g then J b o else w.cell? ⟨b, o, none⟩) else J b o) ∧ (∀ b o : Nat, w'.frozen? ⟨b, o, none⟩ = if b < N then (if b = g then JF b o else w.frozen? ⟨b, o, none⟩) else JF b o) := by
  refine ⟨w.heap.size, fun b o => w'.cell? ⟨b, o, none⟩, fun b o => w'.frozen? ⟨b, o, none⟩, Nat.le_refl _, Nat.le_refl _, h.size, fun b o => ?_, fun b o => ?_⟩
  · split
    · split
      · rfl
      · have hh := h.block b ‹_› (by simpa using ‹¬ b = g›)
        simp only [World.cell?, hh]
    · rfl
  · split
    · split
      · rfl
      · have hh := h.block b ‹_› (by simpa using ‹¬ b = g›)
        simp only [World.frozen?, hh]
    · rfl

/-! the built-in min and max, under their own names -/
theorem min_two {P : Program} (w : World) (ts : Array TypeId) (t : TypeId) (k k' : IntKind) (x y : Int) : (Builtin.min_ ts t #[.int k x, .int k' y]).run P w = .ok (.int k (min x y)) w := by
  rw [run_min_int2]; congr 2; split <;> omega
theorem max_two {P : Program} (w : World) (ts : Array TypeId) (t : TypeId) (k k' : IntKind) (x y : Int) : (Builtin.max_ ts t #[.int k x, .int k' y]).run P w = .ok (.int k (max x y)) w := by
  rw [run_max_int2]; congr 2; split <;> omega
def min4 (x y z u : Int) : Int := min (min (min x y) z) u
def max4 (x y z u : Int) : Int := max (max (max x y) z) u
theorem min_four {P : Program} (w : World) (ts : Array TypeId) (t : TypeId) (k : IntKind) (x y z u : Int) : (Builtin.min_ ts t #[.int k x, .int k y, .int k z, .int k u]).run P w = .ok (.int k (min4 x y z u)) w := by
  simp [Builtin.min_, Builtin.min2]
  unfold min4; repeat' split
  all_goals omega
theorem max_four {P : Program} (w : World) (ts : Array TypeId) (t : TypeId) (k : IntKind) (x y z u : Int) : (Builtin.max_ ts t #[.int k x, .int k y, .int k z, .int k u]).run P w = .ok (.int k (max4 x y z u)) w := by
  simp [Builtin.max_, Builtin.max2]
  unfold max4; repeat' split
  all_goals omega

/-- a later world of 'w' -/
structure Later (a : World) where
  w : World
  up : Up a w
instance (w : World) : Nonempty (Later w) := ⟨⟨w, Up.refl w⟩⟩
/-- a cell or a mark of a later world that lies in no old block: no word is said of it -/
def Later.cellE {w : World} (x : Later w) (b o : Nat) : Option Value := x.w.cell? ⟨b, o, none⟩
def Later.frzE {w : World} (x : Later w) (b o : Nat) : Bool := x.w.frozen? ⟨b, o, none⟩
theorem later_cell {w : World} (x : Later w) (b o : Nat) : x.w.cell? ⟨b, o, none⟩ = if b < w.heap.size then w.cell? ⟨b, o, none⟩ else x.cellE b o := by
  split
  · exact x.up.cells b o ‹_›
  · rfl
theorem later_frz {w : World} (x : Later w) (b o : Nat) : x.w.frozen? ⟨b, o, none⟩ = if b < w.heap.size then w.frozen? ⟨b, o, none⟩ else x.frzE b o := by
  split
  · exact x.up.frz b o ‹_›
  · rfl
theorem wp_region_later {P : Program} {id : Nat} {Q : Exit → Act → World → Prop} {a : Act} {w : World} {l : List Oper} (hm : P.follows .mixedOrders = true) (hB : Region.lexB .any l.toArray = true)
    (h : wpQuiet P l.toArray (fun w' => ∃ x : Later w, w' = x.w) (fun a' => ∀ w', (∃ x : Later w, w' = x.w) → Q .normal a' w') l a) : (Code.region id l.toArray true).wp P Q a w :=
  wp_region_quiet (C := fun w' => ∃ x : Later w, w' = x.w) hm hB ⟨⟨_, (Up.refl w).drew⟩, rfl⟩ (by simpa using h)
theorem later_call {P : Program} {f : FuncId} {args : Array Value} {w : World} {x : Later w} {v : Value}
    (h : Calls P f args x.w fun e w' => e = .returned v ∧ Up x.w w') : Calls P f args x.w fun e w'' => e = .returned v ∧ ∃ y : Later w, w'' = y.w :=
  h.mono fun _ w' ⟨he, hu⟩ => ⟨he, ⟨w', x.up.trans hu⟩, rfl⟩
theorem later_same {P : Program} {f : FuncId} {args : Array Value} {w : World} {x : Later w} {v : Value}
    (h : Calls P f args x.w fun e w' => e = .returned v ∧ x.w = w') : Calls P f args x.w fun e w'' => e = .returned v ∧ ∃ y : Later w, w'' = y.w :=
  h.mono fun _ w' ⟨he, hu⟩ => ⟨he, x, hu.symm⟩

theorem wp_gen {P : Program} {c : Code} {Q : Exit → Act → World → Prop} {a : Act} {w : World} (h : ∀ W0 : World, W0 = w → c.wp P Q a W0) : c.wp P Q a w := h w rfl
/-! ### struct results -/
/-- a cell stays a cell -/
theorem isSome_setCell (w : World) (a b : Addr) (v : Value) : ((w.setCell a v).cell? b).isSome = (w.cell? b).isSome := by
  by_cases e : a = b
  · subst e
    cases h : w.cell? a with
    | some u => rw [World.cell?_setCell_same w a v h]; rfl
    | none =>
      simp only [World.cell?, World.setCell] at h ⊢
      rw [Array.getElem?_modify]
      simp only [if_true]
      cases hg : w.heap[a.block]? with
      | none => simp
      | some o => cases o <;> simp_all
  · rw [World.cell?_setCell_other w a b v e]
/-- what a cell holds ('undef' where it is none) -/
def cellV (w : World) (b o : Nat) : Value := (w.cell? ⟨b, o, none⟩).getD undef
theorem cellV_of {w : World} {b o : Nat} (h : (w.cell? ⟨b, o, none⟩).isSome = true) : w.cell? ⟨b, o, none⟩ = some (cellV w b o) := by
  unfold cellV
  cases e : w.cell? ⟨b, o, none⟩ with
  | none => rw [e] at h; cases h
  | some v => rfl
theorem cell_drewI (w : World) (a : Addr) : w.drew.cell? a = w.cell? a := rfl
theorem frz_drewI (w : World) (a : Addr) : w.drew.frozen? a = w.frozen? a := rfl
/-- a cell after a store, without a condition -/
theorem cell_setI (w : World) (m n : Nat) (i j : Nat) (v : Value) : (w.setCell ⟨m, i, none⟩ v).cell? ⟨n, j, none⟩ = if m = n then (if i = j then (w.cell? ⟨n, j, none⟩).map (fun _ => v) else w.cell? ⟨n, j, none⟩) else w.cell? ⟨n, j, none⟩ := by
  by_cases e : m = n
  · by_cases f : i = j
    · subst e f
      rw [if_pos rfl, if_pos rfl]
      cases h : w.cell? ⟨m, i, none⟩ with
      | some u => rw [World.cell?_setCell_same w _ v h]; rfl
      | none =>
        have := isSome_setCell w ⟨m, i, none⟩ ⟨m, i, none⟩ v
        rw [h] at this
        cases h2 : (w.setCell ⟨m, i, none⟩ v).cell? ⟨m, i, none⟩ with
        | none => rfl
        | some u => rw [h2] at this; simp at this
    · rw [if_pos e, if_neg f, World.cell?_setCell_other]; simp [f]
  · rw [if_neg e, World.cell?_setCell_other]; simp [e]
theorem results_cell {fn : Func} {p : Tmp} {ty : TypeId} (h : fn.results = #[.cell p ty]) (tmps : Array Value) (P : Program) (w : World) :
    (results fn tmps).run P w = ((asAddr (tmps.getD p undef)).run P w).andThen fun a w₁ => (loadVar ty a).run P w₁ := by
  simp only [results, h]
  simp [Sem.run_bind, Result.andThen]
theorem range2 {w : World} {g : Nat} {x0 x1 : Value} (h0 : (w.cell? ⟨g, 0, none⟩).isSome = true) (h1 : (w.cell? ⟨g, 1, none⟩).isSome = true) : World.rangeAt ((w.setCell ⟨g, 0, none⟩ x0).setCell ⟨g, 1, none⟩ x1) g 0 [x0, x1] := by
  have s : ∀ (w : World) (a b : Addr) (v : Value), (w.cell? b).isSome = true → ((w.setCell a v).cell? b).isSome = true := fun w a b v h => by rw [isSome_setCell]; exact h
  have c : ∀ (w : World) (i : Nat) (v : Value), (w.cell? ⟨g, i, none⟩).isSome = true → (w.setCell ⟨g, i, none⟩ v).cell? ⟨g, i, none⟩ = some v := fun w i v h => by
    obtain ⟨u, hu⟩ := Option.isSome_iff_exists.1 h; exact World.cell?_setCell_same w _ _ hu
  have o : ∀ (w : World) (i j : Nat) (v : Value), i ≠ j → (w.setCell ⟨g, i, none⟩ v).cell? ⟨g, j, none⟩ = w.cell? ⟨g, j, none⟩ := fun w i j v hn => World.cell?_setCell_other w _ _ _ (by simp [hn])
  intro j v hj
  match j, hj with
  | 0, hj => simp only [Nat.zero_add, List.getElem?_cons_zero, List.getElem?_cons_succ, Option.some.injEq] at hj ⊢; subst hj; rw [o _ 1 0 _ (by decide)]; exact c _ _ _ (by (try simp only [isSome_setCell]); assumption)
  | 1, hj => simp only [Nat.zero_add, List.getElem?_cons_zero, List.getElem?_cons_succ, Option.some.injEq] at hj ⊢; subst hj; exact c _ _ _ (by (try simp only [isSome_setCell]); assumption)
  | n + 2, hj => simp at hj
theorem ret_agg2 {P : Program} {fn : Func} {R : Ending → World → Prop} {a : Act} {w : World} {p : Tmp} {ty : TypeId} {g : Nat} {x0 x1 : Value} {d : TypeDesc} (hr : fn.results = #[.cell p ty]) (hp : a.tmps.getD p undef = .pointer (some ⟨g, 0, none⟩))
    (hu : P.underlying ty = some d) (hd : d.isRow = true) (hi : (P.info? ty).map (·.size) = some 2) (hdef : a.defers = []) (h0 : (w.cell? ⟨g, 0, none⟩).isSome = true) (h1 : (w.cell? ⟨g, 1, none⟩).isSome = true)
    (hR : R (.returned (.agg #[x0, x1])) ((w.setCell ⟨g, 0, none⟩ x0).setCell ⟨g, 1, none⟩ x1)) : bodyPost P fn R .ret a ((w.setCell ⟨g, 0, none⟩ x0).setCell ⟨g, 1, none⟩ x1) := by
  refine bodyPost_ret (v := (.agg #[x0, x1])) ?_ hdef hR
  rw [results_cell hr, hp]
  simp [asAddr, run_loadVar_mid _ g 0 ty [x0, x1] d (range2 h0 h1) hu hd hi]
theorem ret_agg2t {P : Program} {fn : Func} {R : Ending → World → Prop} {a : Act} {w : World} {p : Tmp} {u : Tmp} {ty : TypeId} {g : Nat} {x0 x1 : Value} {d : TypeDesc} (hr : fn.results = #[.cell p ty, .tmp u]) (hp : a.tmps.getD p undef = .pointer (some ⟨g, 0, none⟩))
    (hu : P.underlying ty = some d) (hd : d.isRow = true) (hi : (P.info? ty).map (·.size) = some 2) (hdef : a.defers = []) (h0 : (w.cell? ⟨g, 0, none⟩).isSome = true) (h1 : (w.cell? ⟨g, 1, none⟩).isSome = true)
    (hR : R (.returned (.tuple #[.agg #[x0, x1], a.tmps.getD u undef])) ((w.setCell ⟨g, 0, none⟩ x0).setCell ⟨g, 1, none⟩ x1)) : bodyPost P fn R .ret a ((w.setCell ⟨g, 0, none⟩ x0).setCell ⟨g, 1, none⟩ x1) := by
  refine bodyPost_ret (v := (.tuple #[.agg #[x0, x1], a.tmps.getD u undef])) ?_ hdef hR
  rw [results_cell_tmp hr, hp]
  simp [asAddr, run_loadVar_mid _ g 0 ty [x0, x1] d (range2 h0 h1) hu hd hi]
theorem range3 {w : World} {g : Nat} {x0 x1 x2 : Value} (h0 : (w.cell? ⟨g, 0, none⟩).isSome = true) (h1 : (w.cell? ⟨g, 1, none⟩).isSome = true) (h2 : (w.cell? ⟨g, 2, none⟩).isSome = true) : World.rangeAt (((w.setCell ⟨g, 0, none⟩ x0).setCell ⟨g, 1, none⟩ x1).setCell ⟨g, 2, none⟩ x2) g 0 [x0, x1, x2] := by
  have s : ∀ (w : World) (a b : Addr) (v : Value), (w.cell? b).isSome = true → ((w.setCell a v).cell? b).isSome = true := fun w a b v h => by rw [isSome_setCell]; exact h
  have c : ∀ (w : World) (i : Nat) (v : Value), (w.cell? ⟨g, i, none⟩).isSome = true → (w.setCell ⟨g, i, none⟩ v).cell? ⟨g, i, none⟩ = some v := fun w i v h => by
    obtain ⟨u, hu⟩ := Option.isSome_iff_exists.1 h; exact World.cell?_setCell_same w _ _ hu
  have o : ∀ (w : World) (i j : Nat) (v : Value), i ≠ j → (w.setCell ⟨g, i, none⟩ v).cell? ⟨g, j, none⟩ = w.cell? ⟨g, j, none⟩ := fun w i j v hn => World.cell?_setCell_other w _ _ _ (by simp [hn])
  intro j v hj
  match j, hj with
  | 0, hj => simp only [Nat.zero_add, List.getElem?_cons_zero, List.getElem?_cons_succ, Option.some.injEq] at hj ⊢; subst hj; rw [o _ 2 0 _ (by decide)]; rw [o _ 1 0 _ (by decide)]; exact c _ _ _ (by (try simp only [isSome_setCell]); assumption)
  | 1, hj => simp only [Nat.zero_add, List.getElem?_cons_zero, List.getElem?_cons_succ, Option.some.injEq] at hj ⊢; subst hj; rw [o _ 2 1 _ (by decide)]; exact c _ _ _ (by (try simp only [isSome_setCell]); assumption)
  | 2, hj => simp only [Nat.zero_add, List.getElem?_cons_zero, List.getElem?_cons_succ, Option.some.injEq] at hj ⊢; subst hj; exact c _ _ _ (by (try simp only [isSome_setCell]); assumption)
  | n + 3, hj => simp at hj
theorem ret_agg3 {P : Program} {fn : Func} {R : Ending → World → Prop} {a : Act} {w : World} {p : Tmp} {ty : TypeId} {g : Nat} {x0 x1 x2 : Value} {d : TypeDesc} (hr : fn.results = #[.cell p ty]) (hp : a.tmps.getD p undef = .pointer (some ⟨g, 0, none⟩))
    (hu : P.underlying ty = some d) (hd : d.isRow = true) (hi : (P.info? ty).map (·.size) = some 3) (hdef : a.defers = []) (h0 : (w.cell? ⟨g, 0, none⟩).isSome = true) (h1 : (w.cell? ⟨g, 1, none⟩).isSome = true) (h2 : (w.cell? ⟨g, 2, none⟩).isSome = true)
    (hR : R (.returned (.agg #[x0, x1, x2])) (((w.setCell ⟨g, 0, none⟩ x0).setCell ⟨g, 1, none⟩ x1).setCell ⟨g, 2, none⟩ x2)) : bodyPost P fn R .ret a (((w.setCell ⟨g, 0, none⟩ x0).setCell ⟨g, 1, none⟩ x1).setCell ⟨g, 2, none⟩ x2) := by
  refine bodyPost_ret (v := (.agg #[x0, x1, x2])) ?_ hdef hR
  rw [results_cell hr, hp]
  simp [asAddr, run_loadVar_mid _ g 0 ty [x0, x1, x2] d (range3 h0 h1 h2) hu hd hi]
theorem ret_agg3t {P : Program} {fn : Func} {R : Ending → World → Prop} {a : Act} {w : World} {p : Tmp} {u : Tmp} {ty : TypeId} {g : Nat} {x0 x1 x2 : Value} {d : TypeDesc} (hr : fn.results = #[.cell p ty, .tmp u]) (hp : a.tmps.getD p undef = .pointer (some ⟨g, 0, none⟩))
    (hu : P.underlying ty = some d) (hd : d.isRow = true) (hi : (P.info? ty).map (·.size) = some 3) (hdef : a.defers = []) (h0 : (w.cell? ⟨g, 0, none⟩).isSome = true) (h1 : (w.cell? ⟨g, 1, none⟩).isSome = true) (h2 : (w.cell? ⟨g, 2, none⟩).isSome = true)
    (hR : R (.returned (.tuple #[.agg #[x0, x1, x2], a.tmps.getD u undef])) (((w.setCell ⟨g, 0, none⟩ x0).setCell ⟨g, 1, none⟩ x1).setCell ⟨g, 2, none⟩ x2)) : bodyPost P fn R .ret a (((w.setCell ⟨g, 0, none⟩ x0).setCell ⟨g, 1, none⟩ x1).setCell ⟨g, 2, none⟩ x2) := by
  refine bodyPost_ret (v := (.tuple #[.agg #[x0, x1, x2], a.tmps.getD u undef])) ?_ hdef hR
  rw [results_cell_tmp hr, hp]
  simp [asAddr, run_loadVar_mid _ g 0 ty [x0, x1, x2] d (range3 h0 h1 h2) hu hd hi]
theorem range4 {w : World} {g : Nat} {x0 x1 x2 x3 : Value} (h0 : (w.cell? ⟨g, 0, none⟩).isSome = true) (h1 : (w.cell? ⟨g, 1, none⟩).isSome = true) (h2 : (w.cell? ⟨g, 2, none⟩).isSome = true) (h3 : (w.cell? ⟨g, 3, none⟩).isSome = true) : World.rangeAt ((((w.setCell ⟨g, 0, none⟩ x0).setCell ⟨g, 1, none⟩ x1).setCell ⟨g, 2, none⟩ x2).setCell ⟨g, 3, none⟩ x3) g 0 [x0, x1, x2, x3] := by
  have s : ∀ (w : World) (a b : Addr) (v : Value), (w.cell? b).isSome = true → ((w.setCell a v).cell? b).isSome = true := fun w a b v h => by rw [isSome_setCell]; exact h
  have c : ∀ (w : World) (i : Nat) (v : Value), (w.cell? ⟨g, i, none⟩).isSome = true → (w.setCell ⟨g, i, none⟩ v).cell? ⟨g, i, none⟩ = some v := fun w i v h => by
    obtain ⟨u, hu⟩ := Option.isSome_iff_exists.1 h; exact World.cell?_setCell_same w _ _ hu
  have o : ∀ (w : World) (i j : Nat) (v : Value), i ≠ j → (w.setCell ⟨g, i, none⟩ v).cell? ⟨g, j, none⟩ = w.cell? ⟨g, j, none⟩ := fun w i j v hn => World.cell?_setCell_other w _ _ _ (by simp [hn])
  intro j v hj
  match j, hj with
  | 0, hj => simp only [Nat.zero_add, List.getElem?_cons_zero, List.getElem?_cons_succ, Option.some.injEq] at hj ⊢; subst hj; rw [o _ 3 0 _ (by decide)]; rw [o _ 2 0 _ (by decide)]; rw [o _ 1 0 _ (by decide)]; exact c _ _ _ (by (try simp only [isSome_setCell]); assumption)
  | 1, hj => simp only [Nat.zero_add, List.getElem?_cons_zero, List.getElem?_cons_succ, Option.some.injEq] at hj ⊢; subst hj; rw [o _ 3 1 _ (by decide)]; rw [o _ 2 1 _ (by decide)]; exact c _ _ _ (by (try simp only [isSome_setCell]); assumption)
  | 2, hj => simp only [Nat.zero_add, List.getElem?_cons_zero, List.getElem?_cons_succ, Option.some.injEq] at hj ⊢; subst hj; rw [o _ 3 2 _ (by decide)]; exact c _ _ _ (by (try simp only [isSome_setCell]); assumption)
  | 3, hj => simp only [Nat.zero_add, List.getElem?_cons_zero, List.getElem?_cons_succ, Option.some.injEq] at hj ⊢; subst hj; exact c _ _ _ (by (try simp only [isSome_setCell]); assumption)
  | n + 4, hj => simp at hj
theorem ret_agg4 {P : Program} {fn : Func} {R : Ending → World → Prop} {a : Act} {w : World} {p : Tmp} {ty : TypeId} {g : Nat} {x0 x1 x2 x3 : Value} {d : TypeDesc} (hr : fn.results = #[.cell p ty]) (hp : a.tmps.getD p undef = .pointer (some ⟨g, 0, none⟩))
    (hu : P.underlying ty = some d) (hd : d.isRow = true) (hi : (P.info? ty).map (·.size) = some 4) (hdef : a.defers = []) (h0 : (w.cell? ⟨g, 0, none⟩).isSome = true) (h1 : (w.cell? ⟨g, 1, none⟩).isSome = true) (h2 : (w.cell? ⟨g, 2, none⟩).isSome = true) (h3 : (w.cell? ⟨g, 3, none⟩).isSome = true)
    (hR : R (.returned (.agg #[x0, x1, x2, x3])) ((((w.setCell ⟨g, 0, none⟩ x0).setCell ⟨g, 1, none⟩ x1).setCell ⟨g, 2, none⟩ x2).setCell ⟨g, 3, none⟩ x3)) : bodyPost P fn R .ret a ((((w.setCell ⟨g, 0, none⟩ x0).setCell ⟨g, 1, none⟩ x1).setCell ⟨g, 2, none⟩ x2).setCell ⟨g, 3, none⟩ x3) := by
  refine bodyPost_ret (v := (.agg #[x0, x1, x2, x3])) ?_ hdef hR
  rw [results_cell hr, hp]
  simp [asAddr, run_loadVar_mid _ g 0 ty [x0, x1, x2, x3] d (range4 h0 h1 h2 h3) hu hd hi]
theorem ret_agg4t {P : Program} {fn : Func} {R : Ending → World → Prop} {a : Act} {w : World} {p : Tmp} {u : Tmp} {ty : TypeId} {g : Nat} {x0 x1 x2 x3 : Value} {d : TypeDesc} (hr : fn.results = #[.cell p ty, .tmp u]) (hp : a.tmps.getD p undef = .pointer (some ⟨g, 0, none⟩))
    (hu : P.underlying ty = some d) (hd : d.isRow = true) (hi : (P.info? ty).map (·.size) = some 4) (hdef : a.defers = []) (h0 : (w.cell? ⟨g, 0, none⟩).isSome = true) (h1 : (w.cell? ⟨g, 1, none⟩).isSome = true) (h2 : (w.cell? ⟨g, 2, none⟩).isSome = true) (h3 : (w.cell? ⟨g, 3, none⟩).isSome = true)
    (hR : R (.returned (.tuple #[.agg #[x0, x1, x2, x3], a.tmps.getD u undef])) ((((w.setCell ⟨g, 0, none⟩ x0).setCell ⟨g, 1, none⟩ x1).setCell ⟨g, 2, none⟩ x2).setCell ⟨g, 3, none⟩ x3)) : bodyPost P fn R .ret a ((((w.setCell ⟨g, 0, none⟩ x0).setCell ⟨g, 1, none⟩ x1).setCell ⟨g, 2, none⟩ x2).setCell ⟨g, 3, none⟩ x3) := by
  refine bodyPost_ret (v := (.tuple #[.agg #[x0, x1, x2, x3], a.tmps.getD u undef])) ?_ hdef hR
  rw [results_cell_tmp hr, hp]
  simp [asAddr, run_loadVar_mid _ g 0 ty [x0, x1, x2, x3] d (range4 h0 h1 h2 h3) hu hd hi]
theorem range6 {w : World} {g : Nat} {x0 x1 x2 x3 x4 x5 : Value} (h0 : (w.cell? ⟨g, 0, none⟩).isSome = true) (h1 : (w.cell? ⟨g, 1, none⟩).isSome = true) (h2 : (w.cell? ⟨g, 2, none⟩).isSome = true) (h3 : (w.cell? ⟨g, 3, none⟩).isSome = true) (h4 : (w.cell? ⟨g, 4, none⟩).isSome = true) (h5 : (w.cell? ⟨g, 5, none⟩).isSome = true) : World.rangeAt ((((((w.setCell ⟨g, 0, none⟩ x0).setCell ⟨g, 1, none⟩ x1).setCell ⟨g, 2, none⟩ x2).setCell ⟨g, 3, none⟩ x3).setCell ⟨g, 4, none⟩ x4).setCell ⟨g, 5, none⟩ x5) g 0 [x0, x1, x2, x3, x4, x5] := by
  have s : ∀ (w : World) (a b : Addr) (v : Value), (w.cell? b).isSome = true → ((w.setCell a v).cell? b).isSome = true := fun w a b v h => by rw [isSome_setCell]; exact h
  have c : ∀ (w : World) (i : Nat) (v : Value), (w.cell? ⟨g, i, none⟩).isSome = true → (w.setCell ⟨g, i, none⟩ v).cell? ⟨g, i, none⟩ = some v := fun w i v h => by
    obtain ⟨u, hu⟩ := Option.isSome_iff_exists.1 h; exact World.cell?_setCell_same w _ _ hu
  have o : ∀ (w : World) (i j : Nat) (v : Value), i ≠ j → (w.setCell ⟨g, i, none⟩ v).cell? ⟨g, j, none⟩ = w.cell? ⟨g, j, none⟩ := fun w i j v hn => World.cell?_setCell_other w _ _ _ (by simp [hn])
  intro j v hj
  match j, hj with
  | 0, hj => simp only [Nat.zero_add, List.getElem?_cons_zero, List.getElem?_cons_succ, Option.some.injEq] at hj ⊢; subst hj; rw [o _ 5 0 _ (by decide)]; rw [o _ 4 0 _ (by decide)]; rw [o _ 3 0 _ (by decide)]; rw [o _ 2 0 _ (by decide)]; rw [o _ 1 0 _ (by decide)]; exact c _ _ _ (by (try simp only [isSome_setCell]); assumption)
  | 1, hj => simp only [Nat.zero_add, List.getElem?_cons_zero, List.getElem?_cons_succ, Option.some.injEq] at hj ⊢; subst hj; rw [o _ 5 1 _ (by decide)]; rw [o _ 4 1 _ (by decide)]; rw [o _ 3 1 _ (by decide)]; rw [o _ 2 1 _ (by decide)]; exact c _ _ _ (by (try simp only [isSome_setCell]); assumption)
  | 2, hj => simp only [Nat.zero_add, List.getElem?_cons_zero, List.getElem?_cons_succ, Option.some.injEq] at hj ⊢; subst hj; rw [o _ 5 2 _ (by decide)]; rw [o _ 4 2 _ (by decide)]; rw [o _ 3 2 _ (by decide)]; exact c _ _ _ (by (try simp only [isSome_setCell]); assumption)
  | 3, hj => simp only [Nat.zero_add, List.getElem?_cons_zero, List.getElem?_cons_succ, Option.some.injEq] at hj ⊢; subst hj; rw [o _ 5 3 _ (by decide)]; rw [o _ 4 3 _ (by decide)]; exact c _ _ _ (by (try simp only [isSome_setCell]); assumption)
  | 4, hj => simp only [Nat.zero_add, List.getElem?_cons_zero, List.getElem?_cons_succ, Option.some.injEq] at hj ⊢; subst hj; rw [o _ 5 4 _ (by decide)]; exact c _ _ _ (by (try simp only [isSome_setCell]); assumption)
  | 5, hj => simp only [Nat.zero_add, List.getElem?_cons_zero, List.getElem?_cons_succ, Option.some.injEq] at hj ⊢; subst hj; exact c _ _ _ (by (try simp only [isSome_setCell]); assumption)
  | n + 6, hj => simp at hj
theorem ret_agg6 {P : Program} {fn : Func} {R : Ending → World → Prop} {a : Act} {w : World} {p : Tmp} {ty : TypeId} {g : Nat} {x0 x1 x2 x3 x4 x5 : Value} {d : TypeDesc} (hr : fn.results = #[.cell p ty]) (hp : a.tmps.getD p undef = .pointer (some ⟨g, 0, none⟩))
    (hu : P.underlying ty = some d) (hd : d.isRow = true) (hi : (P.info? ty).map (·.size) = some 6) (hdef : a.defers = []) (h0 : (w.cell? ⟨g, 0, none⟩).isSome = true) (h1 : (w.cell? ⟨g, 1, none⟩).isSome = true) (h2 : (w.cell? ⟨g, 2, none⟩).isSome = true) (h3 : (w.cell? ⟨g, 3, none⟩).isSome = true) (h4 : (w.cell? ⟨g, 4, none⟩).isSome = true) (h5 : (w.cell? ⟨g, 5, none⟩).isSome = true)
    (hR : R (.returned (.agg #[x0, x1, x2, x3, x4, x5])) ((((((w.setCell ⟨g, 0, none⟩ x0).setCell ⟨g, 1, none⟩ x1).setCell ⟨g, 2, none⟩ x2).setCell ⟨g, 3, none⟩ x3).setCell ⟨g, 4, none⟩ x4).setCell ⟨g, 5, none⟩ x5)) : bodyPost P fn R .ret a ((((((w.setCell ⟨g, 0, none⟩ x0).setCell ⟨g, 1, none⟩ x1).setCell ⟨g, 2, none⟩ x2).setCell ⟨g, 3, none⟩ x3).setCell ⟨g, 4, none⟩ x4).setCell ⟨g, 5, none⟩ x5) := by
  refine bodyPost_ret (v := (.agg #[x0, x1, x2, x3, x4, x5])) ?_ hdef hR
  rw [results_cell hr, hp]
  simp [asAddr, run_loadVar_mid _ g 0 ty [x0, x1, x2, x3, x4, x5] d (range6 h0 h1 h2 h3 h4 h5) hu hd hi]
theorem ret_agg6t {P : Program} {fn : Func} {R : Ending → World → Prop} {a : Act} {w : World} {p : Tmp} {u : Tmp} {ty : TypeId} {g : Nat} {x0 x1 x2 x3 x4 x5 : Value} {d : TypeDesc} (hr : fn.results = #[.cell p ty, .tmp u]) (hp : a.tmps.getD p undef = .pointer (some ⟨g, 0, none⟩))
    (hu : P.underlying ty = some d) (hd : d.isRow = true) (hi : (P.info? ty).map (·.size) = some 6) (hdef : a.defers = []) (h0 : (w.cell? ⟨g, 0, none⟩).isSome = true) (h1 : (w.cell? ⟨g, 1, none⟩).isSome = true) (h2 : (w.cell? ⟨g, 2, none⟩).isSome = true) (h3 : (w.cell? ⟨g, 3, none⟩).isSome = true) (h4 : (w.cell? ⟨g, 4, none⟩).isSome = true) (h5 : (w.cell? ⟨g, 5, none⟩).isSome = true)
    (hR : R (.returned (.tuple #[.agg #[x0, x1, x2, x3, x4, x5], a.tmps.getD u undef])) ((((((w.setCell ⟨g, 0, none⟩ x0).setCell ⟨g, 1, none⟩ x1).setCell ⟨g, 2, none⟩ x2).setCell ⟨g, 3, none⟩ x3).setCell ⟨g, 4, none⟩ x4).setCell ⟨g, 5, none⟩ x5)) : bodyPost P fn R .ret a ((((((w.setCell ⟨g, 0, none⟩ x0).setCell ⟨g, 1, none⟩ x1).setCell ⟨g, 2, none⟩ x2).setCell ⟨g, 3, none⟩ x3).setCell ⟨g, 4, none⟩ x4).setCell ⟨g, 5, none⟩ x5) := by
  refine bodyPost_ret (v := (.tuple #[.agg #[x0, x1, x2, x3, x4, x5], a.tmps.getD u undef])) ?_ hdef hR
  rw [results_cell_tmp hr, hp]
  simp [asAddr, run_loadVar_mid _ g 0 ty [x0, x1, x2, x3, x4, x5] d (range6 h0 h1 h2 h3 h4 h5) hu hd hi]
theorem rangeAt2 {w : World} {g : Nat} {x0 x1 : Value} (h0 : w.cell? ⟨g, 0, none⟩ = some x0) (h1 : w.cell? ⟨g, 1, none⟩ = some x1) : World.rangeAt w g 0 [x0, x1] := by
  intro j v hj
  match j, hj with
  | 0, hj => simp only [Nat.zero_add, List.getElem?_cons_zero, Option.some.injEq] at hj ⊢; subst hj; exact h0
  | 1, hj => simp only [Nat.zero_add, List.getElem?_cons_zero, List.getElem?_cons_succ, Option.some.injEq] at hj ⊢; subst hj; exact h1
  | n + 2, hj => simp at hj
theorem rangeAt4 {w : World} {g : Nat} {x0 x1 x2 x3 : Value} (h0 : w.cell? ⟨g, 0, none⟩ = some x0) (h1 : w.cell? ⟨g, 1, none⟩ = some x1) (h2 : w.cell? ⟨g, 2, none⟩ = some x2) (h3 : w.cell? ⟨g, 3, none⟩ = some x3) : World.rangeAt w g 0 [x0, x1, x2, x3] := by
  intro j v hj
  match j, hj with
  | 0, hj => simp only [Nat.zero_add, List.getElem?_cons_zero, Option.some.injEq] at hj ⊢; subst hj; exact h0
  | 1, hj => simp only [Nat.zero_add, List.getElem?_cons_zero, List.getElem?_cons_succ, Option.some.injEq] at hj ⊢; subst hj; exact h1
  | 2, hj => simp only [Nat.zero_add, List.getElem?_cons_zero, List.getElem?_cons_succ, Option.some.injEq] at hj ⊢; subst hj; exact h2
  | 3, hj => simp only [Nat.zero_add, List.getElem?_cons_zero, List.getElem?_cons_succ, Option.some.injEq] at hj ⊢; subst hj; exact h3
  | n + 4, hj => simp at hj
theorem results_pair {fn : Func} {p q : Tmp} {t1 t2 : TypeId} (h : fn.results = #[.cell p t1, .cell q t2]) (tmps : Array Value) (P : Program) (w : World) :
    (results fn tmps).run P w = ((asAddr (tmps.getD p undef)).run P w).andThen fun a w₁ => ((loadVar t1 a).run P w₁).andThen fun v w₂ => ((asAddr (tmps.getD q undef)).run P w₂).andThen fun b w₃ => ((loadVar t2 b).run P w₃).andThen fun u w₄ => .ok (.tuple #[v, u]) w₄ := by
  simp only [results, h]
  simp [Sem.run_bind, Result.andThen]
theorem results_row2 {fn : Func} {p u v : Tmp} {t1 : TypeId} (h : fn.results = #[.cell p t1, .tmp u, .tmp v]) (tmps : Array Value) (P : Program) (w : World) :
    (results fn tmps).run P w = ((asAddr (tmps.getD p undef)).run P w).andThen fun a w₁ => ((loadVar t1 a).run P w₁).andThen fun x w₂ => .ok (.tuple #[x, tmps.getD u undef, tmps.getD v undef]) w₂ := by
  simp only [results, h]
  simp [Sem.run_bind, Result.andThen]
theorem ret_pair {P : Program} {fn : Func} {R : Ending → World → Prop} {a : Act} {W : World} {p q : Tmp} {t1 t2 : TypeId} {g1 g2 : Nat} {l1 l2 : List Value} {d1 d2 : TypeDesc} (hr : fn.results = #[.cell p t1, .cell q t2])
    (hp : a.tmps.getD p undef = .pointer (some ⟨g1, 0, none⟩)) (hq : a.tmps.getD q undef = .pointer (some ⟨g2, 0, none⟩))
    (hu1 : P.underlying t1 = some d1) (hd1 : d1.isRow = true) (hi1 : (P.info? t1).map (·.size) = some l1.length) (hu2 : P.underlying t2 = some d2) (hd2 : d2.isRow = true) (hi2 : (P.info? t2).map (·.size) = some l2.length) (hdef : a.defers = [])
    (h1 : World.rangeAt W g1 0 l1) (h2 : World.rangeAt W g2 0 l2)
    (hR : R (.returned (.tuple #[.agg l1.toArray, .agg l2.toArray])) W) : bodyPost P fn R .ret a W := by
  refine bodyPost_ret (v := (.tuple #[.agg l1.toArray, .agg l2.toArray])) ?_ hdef hR
  rw [results_pair hr, hp, hq]
  simp [asAddr, run_loadVar_mid _ g1 0 t1 l1 d1 h1 hu1 hd1 hi1, run_loadVar_mid _ g2 0 t2 l2 d2 h2 hu2 hd2 hi2]
theorem ret_row2 {P : Program} {fn : Func} {R : Ending → World → Prop} {a : Act} {W : World} {p u v : Tmp} {t1 : TypeId} {g1 : Nat} {l1 : List Value} {d1 : TypeDesc} (hr : fn.results = #[.cell p t1, .tmp u, .tmp v])
    (hp : a.tmps.getD p undef = .pointer (some ⟨g1, 0, none⟩))
    (hu1 : P.underlying t1 = some d1) (hd1 : d1.isRow = true) (hi1 : (P.info? t1).map (·.size) = some l1.length) (hdef : a.defers = [])
    (h1 : World.rangeAt W g1 0 l1)
    (hR : R (.returned (.tuple #[.agg l1.toArray, a.tmps.getD u undef, a.tmps.getD v undef])) W) : bodyPost P fn R .ret a W := by
  refine bodyPost_ret (v := (.tuple #[.agg l1.toArray, a.tmps.getD u undef, a.tmps.getD v undef])) ?_ hdef hR
  rw [results_row2 hr, hp]
  simp [asAddr, run_loadVar_mid _ g1 0 t1 l1 d1 h1 hu1 hd1 hi1]
/-- 'rangeAt' of an aggregate with a single value beside it -/
theorem ret_row1 {P : Program} {fn : Func} {R : Ending → World → Prop} {a : Act} {W : World} {p u : Tmp} {t1 : TypeId} {g1 : Nat} {l1 : List Value} {d1 : TypeDesc} (hr : fn.results = #[.cell p t1, .tmp u])
    (hp : a.tmps.getD p undef = .pointer (some ⟨g1, 0, none⟩))
    (hu1 : P.underlying t1 = some d1) (hd1 : d1.isRow = true) (hi1 : (P.info? t1).map (·.size) = some l1.length) (hdef : a.defers = [])
    (h1 : World.rangeAt W g1 0 l1)
    (hR : R (.returned (.tuple #[.agg l1.toArray, a.tmps.getD u undef])) W) : bodyPost P fn R .ret a W := by
  refine bodyPost_ret (v := (.tuple #[.agg l1.toArray, a.tmps.getD u undef])) ?_ hdef hR
  rw [results_cell_tmp hr, hp]
  simp [asAddr, run_loadVar_mid _ g1 0 t1 l1 d1 h1 hu1 hd1 hi1]
theorem ret_agg22 {P : Program} {fn : Func} {R : Ending → World → Prop} {a : Act} {w : World} {p q : Tmp} {t1 t2 : TypeId} {g1 g2 : Nat} {x0 x1 y0 y1 : Value} {d1 d2 : TypeDesc} (hr : fn.results = #[.cell p t1, .cell q t2])
    (hp : a.tmps.getD p undef = .pointer (some ⟨g1, 0, none⟩)) (hq : a.tmps.getD q undef = .pointer (some ⟨g2, 0, none⟩))
    (hu1 : P.underlying t1 = some d1) (hd1 : d1.isRow = true) (hi1 : (P.info? t1).map (·.size) = some 2) (hu2 : P.underlying t2 = some d2) (hd2 : d2.isRow = true) (hi2 : (P.info? t2).map (·.size) = some 2) (hdef : a.defers = [])
    (hg : g1 ≠ g2) (h0 : (w.cell? ⟨g1, 0, none⟩).isSome = true) (h1 : (w.cell? ⟨g1, 1, none⟩).isSome = true) (h2 : (w.cell? ⟨g2, 0, none⟩).isSome = true) (h3 : (w.cell? ⟨g2, 1, none⟩).isSome = true)
    (hR : R (.returned (.tuple #[.agg #[x0, x1], .agg #[y0, y1]])) ((((w.setCell ⟨g1, 0, none⟩ x0).setCell ⟨g1, 1, none⟩ x1).setCell ⟨g2, 0, none⟩ y0).setCell ⟨g2, 1, none⟩ y1)) :
    bodyPost P fn R .ret a ((((w.setCell ⟨g1, 0, none⟩ x0).setCell ⟨g1, 1, none⟩ x1).setCell ⟨g2, 0, none⟩ y0).setCell ⟨g2, 1, none⟩ y1) := by
  obtain ⟨v0, e0⟩ := Option.isSome_iff_exists.1 h0
  obtain ⟨v1, e1⟩ := Option.isSome_iff_exists.1 h1
  obtain ⟨v2, e2⟩ := Option.isSome_iff_exists.1 h2
  obtain ⟨v3, e3⟩ := Option.isSome_iff_exists.1 h3
  have hg' : g2 ≠ g1 := fun h => hg h.symm
  exact ret_pair (l1 := [x0, x1]) (l2 := [y0, y1]) hr hp hq hu1 hd1 hi1 hu2 hd2 hi2 hdef (rangeAt2 (by simp [cell_setI, *]) (by simp [cell_setI, *])) (rangeAt2 (by simp [cell_setI, *]) (by simp [cell_setI, *])) hR
theorem ret_agg4t2 {P : Program} {fn : Func} {R : Ending → World → Prop} {a : Act} {w : World} {p u v : Tmp} {t1 : TypeId} {g1 : Nat} {x0 x1 x2 x3 : Value} {d1 : TypeDesc} (hr : fn.results = #[.cell p t1, .tmp u, .tmp v])
    (hp : a.tmps.getD p undef = .pointer (some ⟨g1, 0, none⟩))
    (hu1 : P.underlying t1 = some d1) (hd1 : d1.isRow = true) (hi1 : (P.info? t1).map (·.size) = some 4) (hdef : a.defers = [])
    (h0 : (w.cell? ⟨g1, 0, none⟩).isSome = true) (h1 : (w.cell? ⟨g1, 1, none⟩).isSome = true) (h2 : (w.cell? ⟨g1, 2, none⟩).isSome = true) (h3 : (w.cell? ⟨g1, 3, none⟩).isSome = true)
    (hR : R (.returned (.tuple #[.agg #[x0, x1, x2, x3], a.tmps.getD u undef, a.tmps.getD v undef])) ((((w.setCell ⟨g1, 0, none⟩ x0).setCell ⟨g1, 1, none⟩ x1).setCell ⟨g1, 2, none⟩ x2).setCell ⟨g1, 3, none⟩ x3)) :
    bodyPost P fn R .ret a ((((w.setCell ⟨g1, 0, none⟩ x0).setCell ⟨g1, 1, none⟩ x1).setCell ⟨g1, 2, none⟩ x2).setCell ⟨g1, 3, none⟩ x3) := by
  obtain ⟨v0, e0⟩ := Option.isSome_iff_exists.1 h0
  obtain ⟨v1, e1⟩ := Option.isSome_iff_exists.1 h1
  obtain ⟨v2, e2⟩ := Option.isSome_iff_exists.1 h2
  obtain ⟨v3, e3⟩ := Option.isSome_iff_exists.1 h3
  exact ret_row2 (l1 := [x0, x1, x2, x3]) hr hp hu1 hd1 hi1 hdef (rangeAt4 (by simp [cell_setI, *]) (by simp [cell_setI, *]) (by simp [cell_setI, *]) (by simp [cell_setI, *])) hR
theorem ret_agg44 {P : Program} {fn : Func} {R : Ending → World → Prop} {a : Act} {w : World} {p q : Tmp} {t1 t2 : TypeId} {g1 g2 : Nat} {x0 x1 x2 x3 y0 y1 y2 y3 : Value} {d1 d2 : TypeDesc} (hr : fn.results = #[.cell p t1, .cell q t2])
    (hp : a.tmps.getD p undef = .pointer (some ⟨g1, 0, none⟩)) (hq : a.tmps.getD q undef = .pointer (some ⟨g2, 0, none⟩))
    (hu1 : P.underlying t1 = some d1) (hd1 : d1.isRow = true) (hi1 : (P.info? t1).map (·.size) = some 4) (hu2 : P.underlying t2 = some d2) (hd2 : d2.isRow = true) (hi2 : (P.info? t2).map (·.size) = some 4) (hdef : a.defers = [])
    (hg : g1 ≠ g2) (h0 : (w.cell? ⟨g1, 0, none⟩).isSome = true) (h1 : (w.cell? ⟨g1, 1, none⟩).isSome = true) (h2 : (w.cell? ⟨g1, 2, none⟩).isSome = true) (h3 : (w.cell? ⟨g1, 3, none⟩).isSome = true)
    (k0 : (w.cell? ⟨g2, 0, none⟩).isSome = true) (k1 : (w.cell? ⟨g2, 1, none⟩).isSome = true) (k2 : (w.cell? ⟨g2, 2, none⟩).isSome = true) (k3 : (w.cell? ⟨g2, 3, none⟩).isSome = true)
    (hR : R (.returned (.tuple #[.agg #[x0, x1, x2, x3], .agg #[y0, y1, y2, y3]])) ((((((((w.setCell ⟨g1, 0, none⟩ x0).setCell ⟨g1, 1, none⟩ x1).setCell ⟨g1, 2, none⟩ x2).setCell ⟨g1, 3, none⟩ x3).setCell ⟨g2, 0, none⟩ y0).setCell ⟨g2, 1, none⟩ y1).setCell ⟨g2, 2, none⟩ y2).setCell ⟨g2, 3, none⟩ y3)) :
    bodyPost P fn R .ret a ((((((((w.setCell ⟨g1, 0, none⟩ x0).setCell ⟨g1, 1, none⟩ x1).setCell ⟨g1, 2, none⟩ x2).setCell ⟨g1, 3, none⟩ x3).setCell ⟨g2, 0, none⟩ y0).setCell ⟨g2, 1, none⟩ y1).setCell ⟨g2, 2, none⟩ y2).setCell ⟨g2, 3, none⟩ y3) := by
  obtain ⟨v0, e0⟩ := Option.isSome_iff_exists.1 h0
  obtain ⟨v1, e1⟩ := Option.isSome_iff_exists.1 h1
  obtain ⟨v2, e2⟩ := Option.isSome_iff_exists.1 h2
  obtain ⟨v3, e3⟩ := Option.isSome_iff_exists.1 h3
  obtain ⟨u0, f0⟩ := Option.isSome_iff_exists.1 k0
  obtain ⟨u1, f1⟩ := Option.isSome_iff_exists.1 k1
  obtain ⟨u2, f2⟩ := Option.isSome_iff_exists.1 k2
  obtain ⟨u3, f3⟩ := Option.isSome_iff_exists.1 k3
  have hg' : g2 ≠ g1 := fun h => hg h.symm
  exact ret_pair (l1 := [x0, x1, x2, x3]) (l2 := [y0, y1, y2, y3]) hr hp hq hu1 hd1 hi1 hu2 hd2 hi2 hdef (rangeAt4 (by simp [cell_setI, *]) (by simp [cell_setI, *]) (by simp [cell_setI, *]) (by simp [cell_setI, *])) (rangeAt4 (by simp [cell_setI, *]) (by simp [cell_setI, *]) (by simp [cell_setI, *]) (by simp [cell_setI, *])) hR
/-! ### end struct results -/
end Go.Proofs.Ytffkcgdgiggfoaa
