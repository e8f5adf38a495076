import Derived.Test.YtffkcgdgiggfoaaIsPl
/- The boxes that a placement lays, as a list; the two ways to say that a box is free. No program in sight. -/
namespace Go.Proofs.Ytffkcgdgiggfoaa
set_option linter.unusedSimpArgs false
set_option linter.unusedVariables false
open Go.RowKit
abbrev Box4 := Int × Int × Int × Int
/-- the boxes of the first k labels that stand somewhere -/
def bxl (S : Nat → ByteArray) (X Y P : Nat → Int) : Nat → List Box4
  | 0 => []
  | k + 1 => if 0 ≤ P k then bxl S X Y P k ++ [(boxX (S k).size (X k) (P k), boxY (Y k) (P k), boxX (S k).size (X k) (P k) + 6 * (S k).size, boxY (Y k) (P k) + 10)] else bxl S X Y P k
theorem bxl_succ (S : Nat → ByteArray) (X Y P : Nat → Int) (k : Nat) : bxl S X Y P (k + 1) = if 0 ≤ P k then bxl S X Y P k ++ [(boxX (S k).size (X k) (P k), boxY (Y k) (P k), boxX (S k).size (X k) (P k) + 6 * (S k).size, boxY (Y k) (P k) + 10)] else bxl S X Y P k := rfl
/-- number i of the flat row of a list of boxes -/
def flatAt (l : List Box4) (i : Nat) : Int :=
  match l[i / 4]? with
  | some t => if i % 4 = 0 then t.1 else if i % 4 = 1 then t.2.1 else if i % 4 = 2 then t.2.2.1 else t.2.2.2
  | none => 0
/-- the row itself -/
def flat (l : List Box4) : List Value := (List.range (l.length * 4)).map (fun i => .int .i64 (flatAt l i))
theorem flat_length (l : List Box4) : (flat l).length = l.length * 4 := by simp [flat]
theorem flat_at (l : List Box4) {i : Nat} (h : i < l.length * 4) : (flat l)[i]?.getD undef = .int .i64 (flatAt l i) := by simp [flat, h]
theorem flatAt_parts {l : List Box4} {i : Nat} {t : Box4} (h : l[i]? = some t) : flatAt l (i * 4) = t.1 ∧ flatAt l (i * 4 + 1) = t.2.1 ∧ flatAt l (i * 4 + 2) = t.2.2.1 ∧ flatAt l (i * 4 + 3) = t.2.2.2 := by
  unfold flatAt
  rw [show i * 4 / 4 = i by omega, show (i * 4 + 1) / 4 = i by omega, show (i * 4 + 2) / 4 = i by omega, show (i * 4 + 3) / 4 = i by omega, h]
  refine ⟨?_, ?_, ?_, ?_⟩
  · simp
  · simp [show (i * 4 + 1) % 4 = 1 by omega]
  · simp [show (i * 4 + 2) % 4 = 2 by omega]
  · simp [show (i * 4 + 3) % 4 = 3 by omega]
theorem all_flat (p q r u : Int) (l : List Box4) : (List.range l.length).all (okBox p q r u (flatAt l)) = l.all (fun t => !ovB p q r u t.1 t.2.1 t.2.2.1 t.2.2.2) := by
  rw [Bool.eq_iff_iff, List.all_eq_true, List.all_eq_true]
  constructor
  · intro h t ht
    obtain ⟨i, hi, rfl⟩ := List.getElem_of_mem ht
    have := h i (List.mem_range.2 hi)
    obtain ⟨h1, h2, h3, h4⟩ := flatAt_parts (List.getElem?_eq_getElem hi)
    unfold okBox at this
    rwa [h1, h2, h3, h4] at this
  · intro h i hi
    have hi := List.mem_range.1 hi
    obtain ⟨h1, h2, h3, h4⟩ := flatAt_parts (List.getElem?_eq_getElem hi)
    unfold okBox
    rw [h1, h2, h3, h4]
    exact h _ (List.getElem_mem hi)
theorem all_bxl (p q r u : Int) (S : Nat → ByteArray) (X Y P : Nat → Int) (k : Nat) : (bxl S X Y P k).all (fun t => !ovB p q r u t.1 t.2.1 t.2.2.1 t.2.2.2) = (List.range k).all (okPl p q r u S X Y P) := by
  induction k with
  | zero => rfl
  | succ k ih =>
    rw [List.range_succ, List.all_append, ← ih, bxl_succ]
    by_cases h : 0 ≤ P k
    · rw [if_pos h, List.all_append]
      congr 1
      simp only [List.all_cons, List.all_nil, Bool.and_true, okPl]
      rw [ovB_comm]
      simp [h]
    · rw [if_neg h]
      simp only [List.all_cons, List.all_nil, Bool.and_true, okPl]
      simp [h]
/-- the program's 'fits' over the boxes so far is the reference's over the places so far -/
theorem fitsM_P (a b c d p q r u : Int) (S : Nat → ByteArray) (X Y P : Nat → Int) (k : Nat) : fitsM a b c d p q r u (flatAt (bxl S X Y P k)) (bxl S X Y P k).length = fitsP a b c d p q r u S X Y P k := by
  unfold fitsM fitsP
  rw [all_flat, all_bxl, Bool.and_comm]
theorem bxl_len (S : Nat → ByteArray) (X Y P : Nat → Int) (k : Nat) : (bxl S X Y P k).length ≤ k := by
  induction k with
  | zero => simp [bxl]
  | succ k ih => rw [bxl_succ]; split
                 · rw [List.length_append, List.length_singleton]; omega
                 · omega
theorem flat_get (l : List Box4) {i : Nat} (h : i < l.length * 4) : (flat l)[i]? = some (.int .i64 (flatAt l i)) := by
  simp only [flat, List.getElem?_map, List.getElem?_range h, Option.map_some]
theorem flat_none (l : List Box4) {i : Nat} (h : l.length * 4 ≤ i) : (flat l)[i]? = none := List.getElem?_eq_none (by rw [flat_length]; exact h)
theorem flat_snoc (l : List Box4) (t : Box4) : flat (l ++ [t]) = flat l ++ [.int .i64 t.1, .int .i64 t.2.1, .int .i64 t.2.2.1, .int .i64 t.2.2.2] := by
  apply List.ext_getElem?
  intro i
  have hlen : (l ++ [t]).length * 4 = l.length * 4 + 4 := by rw [List.length_append, List.length_singleton]; omega
  rcases Nat.lt_or_ge i (l.length * 4) with h | h
  · rw [List.getElem?_append_left (by rw [flat_length]; exact h), flat_get l h, flat_get _ (by omega)]
    have e : flatAt (l ++ [t]) i = flatAt l i := by unfold flatAt; rw [List.getElem?_append_left (by omega)]
    rw [e]
  · rw [List.getElem?_append_right (by rw [flat_length]; exact h), flat_length]
    have e0 : (l ++ [t])[l.length]? = some t := by simp
    obtain ⟨h1, h2, h3, h4⟩ := flatAt_parts e0
    obtain ⟨j, rfl⟩ : ∃ j, i = l.length * 4 + j := ⟨i - l.length * 4, by omega⟩
    rw [show l.length * 4 + j - l.length * 4 = j by omega]
    match j with
    | 0 => rw [flat_get _ (by omega), Nat.add_zero, h1]; rfl
    | 1 => rw [flat_get _ (by omega), h2]; rfl
    | 2 => rw [flat_get _ (by omega), h3]; rfl
    | 3 => rw [flat_get _ (by omega), h4]; rfl
    | j + 4 => rw [flat_none _ (by omega)]; rfl
end Go.Proofs.Ytffkcgdgiggfoaa
