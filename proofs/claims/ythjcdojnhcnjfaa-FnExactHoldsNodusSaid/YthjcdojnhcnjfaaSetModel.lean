import Derived.Test.YthjcdojnhcnjfaaNum
/- Sets of minutes: the test, in plain words. No walk. -/
namespace Go.Proofs.Ythjcdojnhcnjfaa
set_option linter.unusedSimpArgs false
set_option linter.unusedVariables false

/-- element i of a list of numbers -/
def nth (zs : List Int) (i : Nat) : Int := zs[i]?.getD 0
/-- is element i of a set as it must be? -/
def okAt (zs : List Int) (i : Nat) : Bool :=
  inB (nth zs i) 0 1439 && !(decide (i % 2 = 1) && decide (nth zs i < nth zs (i - 1))) && !(decide (0 < i) && decide (i % 2 = 0) && decide (nth zs i ≤ nth zs (i - 1) + 1))
def isSetB (zs : List Int) : Bool := decide (zs.length % 2 = 0) && decide (zs.length ≤ 80) && (List.range zs.length).all (okAt zs)
theorem isSetB_no {zs : List Int} {i : Nat} (hi : i < zs.length) (h : okAt zs i = false) : isSetB zs = false := by
  unfold isSetB
  rw [Bool.and_eq_false_iff]; right
  rw [List.all_eq_false]
  exact ⟨i, by simpa using hi, by simp [h]⟩
theorem isSetB_yes {zs : List Int} (h0 : zs.length % 2 = 0) (h1 : zs.length ≤ 80) (h : ∀ i, i < zs.length → okAt zs i = true) : isSetB zs = true := by
  unfold isSetB
  simp only [h0, h1, decide_true, Bool.true_and, List.all_eq_true]
  exact fun i hi => h i (by simpa using hi)
theorem isSetB_iff {zs : List Int} : isSetB zs = true ↔ (zs.length % 2 = 0 ∧ zs.length ≤ 80 ∧ ∀ i, i < zs.length → okAt zs i = true) := by
  unfold isSetB
  simp [List.all_eq_true, and_assoc]
theorem okAt_iff {zs : List Int} {i : Nat} : okAt zs i = true ↔ (0 ≤ nth zs i ∧ nth zs i ≤ 1439 ∧ (i % 2 = 1 → nth zs (i - 1) ≤ nth zs i) ∧ (0 < i → i % 2 = 0 → nth zs (i - 1) + 1 < nth zs i)) := by
  unfold okAt
  simp only [inB, Bool.and_eq_true, decide_eq_true_eq, Bool.not_eq_true', Bool.and_eq_false_iff, decide_eq_false_iff_not]
  omega
theorem okAt_no {zs : List Int} {i : Nat} (h : ¬ (0 ≤ nth zs i ∧ nth zs i ≤ 1439 ∧ (i % 2 = 1 → nth zs (i - 1) ≤ nth zs i) ∧ (0 < i → i % 2 = 0 → nth zs (i - 1) + 1 < nth zs i))) : okAt zs i = false := by
  cases e : okAt zs i with
  | false => rfl
  | true => exact absurd (okAt_iff.1 e) h
theorem ok_snoc {zs : List Int} {k : Nat} (h : ∀ j, j < k → okAt zs j = true) (hk : okAt zs k = true) : ∀ j, j < k + 1 → okAt zs j = true := fun j hj => by
  rcases Nat.lt_succ_iff_lt_or_eq.1 hj with h' | h'
  · exact h j h'
  · rw [h']; exact hk
/-- does one of the first k pairs hold the minute m? -/
def memK (zs : List Int) (k : Nat) (m : Int) : Bool := (List.range k).any fun i => inB m (nth zs (2 * i)) (nth zs (2 * i + 1))
def memB (zs : List Int) (m : Int) : Bool := memK zs (zs.length / 2) m
theorem memK_succ (zs : List Int) (k : Nat) (m : Int) : memK zs (k + 1) m = (memK zs k m || inB m (nth zs (2 * k)) (nth zs (2 * k + 1))) := by
  unfold memK; rw [List.range_succ, List.any_append]; simp
theorem pair_zero (p : Bool) (X m : Nat) : (p || (decide (X ≤ m) && decide (m < X))) = p := by
  have : (decide (X ≤ m) && decide (m < X)) = false := by simp <;> omega
  rw [this, Bool.or_false]
theorem pair_keep (p : Bool) {X q m : Nat} (h : m ≠ q) : (p || (decide (X ≤ m) && decide (m < q + 1))) = (p || (decide (X ≤ m) && decide (m < q))) := by
  have : decide (m < q + 1) = decide (m < q) := by rw [Bool.eq_iff_iff]; simp; omega
  rw [this]
theorem pair_new (p : Bool) {X q : Nat} (h : X ≤ q) : (p || (decide (X ≤ q) && decide (q < q + 1))) = true := by
  simp [h]
theorem pair_last (p : Bool) {X q : Nat} {y : Int} (h : (q : Int) = y + 1) (m : Nat) : (p || (decide (X ≤ m) && decide (m < q))) = (p || inB m X y) := by
  have : (decide (X ≤ m) && decide (m < q)) = inB m X y := by rw [Bool.eq_iff_iff]; simp [inB] <;> omega
  rw [this]
theorem memK_zero (zs : List Int) (m : Int) : memK zs 0 m = false := rfl
theorem memB_range {zs : List Int} {m : Int} (hs : isSetB zs = true) (h : memB zs m = true) : 0 ≤ m ∧ m ≤ 1439 := by
  obtain ⟨s1, s2, s3⟩ := isSetB_iff.1 hs
  unfold memB memK at h
  rw [List.any_eq_true] at h
  obtain ⟨i, hi, hm⟩ := h
  have hi := List.mem_range.1 hi
  obtain ⟨h1, h2⟩ := inB_iff.1 hm
  have a := okAt_iff.1 (s3 (2 * i) (by omega))
  have b := okAt_iff.1 (s3 (2 * i + 1) (by omega))
  omega
/-- how many minutes the first k pairs hold -/
def cntK (zs : List Int) : Nat → Int
  | 0 => 0
  | k + 1 => cntK zs k + (nth zs (2 * k + 1) - nth zs (2 * k) + 1)
theorem cntK_bd {zs : List Int} (hs : isSetB zs = true) : ∀ k, 2 * k ≤ zs.length → 0 ≤ cntK zs k ∧ cntK zs k ≤ 1440 * k
  | 0, _ => by simp [cntK]
  | k + 1, h => by
    obtain ⟨s1, s2, s3⟩ := isSetB_iff.1 hs
    have ih := cntK_bd hs k (by omega)
    have a := okAt_iff.1 (s3 (2 * k) (by omega))
    obtain ⟨b1, b2, b3, _⟩ := okAt_iff.1 (s3 (2 * k + 1) (by omega))
    have b3 := b3 (by omega)
    rw [show 2 * k + 1 - 1 = 2 * k from by omega] at b3
    simp only [cntK]
    omega
/-- CountMinutes -/
def countM (zs : List Int) : Int × Int := if isSetB zs = false then (0, 1) else (cntK zs (zs.length / 2), 0)
/-- HasMinute -/
def hasM (zs : List Int) (m : Int) : Bool × Int := if isSetB zs = false then (false, 1) else (memB zs m, 0)
end Go.Proofs.Ythjcdojnhcnjfaa
