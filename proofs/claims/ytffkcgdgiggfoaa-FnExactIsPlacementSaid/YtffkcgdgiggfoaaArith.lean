/- Plain arithmetic: division that rounds down. No program in sight. -/
namespace Go.Proofs.Ytffkcgdgiggfoaa
set_option linter.unusedSimpArgs false
set_option linter.unusedVariables false

theorem fl_neg0 {a b : Int} (hb : 0 < b) (h : a.tmod b = 0) : a.tdiv b = a / b := by
  have h1 := Int.mul_tdiv_add_tmod a b
  rw [h, Int.add_zero] at h1
  have : a / b = a.tdiv b := by
    conv => lhs; rw [← h1]
    exact Int.mul_ediv_cancel_left _ (by omega)
  exact this.symm
theorem fl_neg1 {a b : Int} (ha : a < 0) (hb : 0 < b) (h : a.tmod b ≠ 0) : a.tmod b < 0 ∧ a.tdiv b - 1 = a / b := by
  have h1 := Int.mul_tdiv_add_tmod a b
  have h2 : a.tmod b = -((-a) % b) := by
    have : a.tmod b = - ((-a).tmod b) := by rw [Int.neg_tmod, Int.neg_neg]
    rw [this, Int.tmod_eq_emod_of_nonneg (by omega)]
  have h3 := Int.emod_nonneg (-a) (show b ≠ 0 by omega)
  have h4 := Int.emod_lt_of_pos (-a) hb
  refine ⟨by omega, ?_⟩
  have h5 : a = (a.tdiv b - 1) * b + (a.tmod b + b) := by
    rw [Int.sub_mul, Int.one_mul, Int.mul_comm]; omega
  have : a / b = a.tdiv b - 1 := by
    conv => lhs; rw [h5]
    rw [Int.add_comm, Int.add_mul_ediv_right _ _ (by omega), Int.ediv_eq_zero_of_lt (by omega) (by omega)]; omega
  exact this.symm
theorem tdiv_bd {a b : Int} (hb : 0 < b) {M : Int} (h1 : -M ≤ a) (h2 : a ≤ M) : -M ≤ a.tdiv b ∧ a.tdiv b ≤ M := by
  have key : ∀ x : Int, 0 ≤ x → 0 ≤ x.tdiv b ∧ x.tdiv b ≤ x := fun x hx => by
    rw [Int.tdiv_eq_ediv_of_nonneg hx]
    exact ⟨Int.ediv_nonneg hx (by omega), Int.ediv_le_self _ hx⟩
  rcases Int.le_total 0 a with h | h
  · have := key a h; omega
  · have := key (-a) (by omega)
    rw [Int.neg_tdiv] at this
    omega
theorem ediv_bd {a b : Int} (hb : 0 < b) {M : Int} (h1 : -M ≤ a) (h2 : a ≤ M) : -M ≤ a / b ∧ a / b ≤ M := by
  constructor
  · have : -M ≤ a / b := by
      rw [Int.le_ediv_iff_mul_le hb]
      have : 0 ≤ M := by omega
      have := Int.mul_le_mul_of_nonneg_left (show (1 : Int) ≤ b by omega) this
      rw [Int.neg_mul]; omega
    exact this
  · by_cases h : 0 ≤ a
    · have := Int.ediv_le_self b h; omega
    · have : a / b < 0 := Int.ediv_neg_of_neg_of_pos (by omega) hb
      omega
theorem tmod_bd {a b : Int} (hb : 0 < b) : -b < a.tmod b ∧ a.tmod b < b := ⟨Int.lt_tmod_of_pos _ hb, Int.tmod_lt_of_pos _ hb⟩
/-- a / b rounded down, whatever sign b has -/
def fl (a b : Int) : Int := if 0 < b then a / b else (-a) / (-b)
theorem fl_pos {a b : Int} (h : 0 < b) : fl a b = a / b := by unfold fl; rw [if_pos h]
theorem fl_neg {a b : Int} (h : b < 0) : fl a b = (-a) / (-b) := by unfold fl; rw [if_neg (by omega)]
/-- a / b rounded up -/
def ce (a b : Int) : Int := -fl (-a) b
theorem tdiv_neg_neg (a b : Int) : (-a).tdiv (-b) = a.tdiv b := by rw [Int.neg_tdiv, Int.tdiv_neg, Int.neg_neg]
theorem tmod_neg_r (a b : Int) : a.tmod (-b) = a.tmod b := Int.tmod_neg a b
theorem tdiv_bdN {a b : Int} (hb : b < 0) {M : Int} (h1 : -M ≤ a) (h2 : a ≤ M) : -M ≤ a.tdiv b ∧ a.tdiv b ≤ M := by
  rw [← tdiv_neg_neg]; exact tdiv_bd (by omega) (by omega) (by omega)
theorem fl_N0 {a b : Int} (hb : b < 0) (h : a.tmod b = 0) : a.tdiv b = fl a b := by
  rw [fl_neg hb, ← tdiv_neg_neg]
  refine fl_neg0 (by omega) ?_
  rw [tmod_neg_r, Int.neg_tmod, h]; rfl
theorem fl_N1 {a b : Int} (hb : b < 0) (h : 0 < a.tmod b) : a.tdiv b - 1 = fl a b := by
  rw [fl_neg hb, ← tdiv_neg_neg]
  have hr : (-a).tmod (-b) = - a.tmod b := by rw [tmod_neg_r, Int.neg_tmod]
  refine (fl_neg1 ?_ (by omega) (by omega)).2
  rcases Int.lt_or_le (-a) 0 with h0 | h0
  · exact h0
  · have := Int.tmod_nonneg (-b) h0
    omega
theorem fl_N2 {a b : Int} (hb : b < 0) (h : a.tmod b < 0) : a.tdiv b = fl a b := by
  rw [fl_neg hb, ← tdiv_neg_neg]
  have hr : (-a).tmod (-b) = - a.tmod b := by rw [tmod_neg_r, Int.neg_tmod]
  refine Int.tdiv_eq_ediv_of_nonneg ?_
  rcases Int.lt_or_le (-a) 0 with h0 | h0
  · have := Int.tmod_nonneg (a := a) b (by omega)
    omega
  · exact h0
theorem fl_bd {a b : Int} (hb : b ≠ 0) {M : Int} (h1 : -M ≤ a) (h2 : a ≤ M) : -M ≤ fl a b ∧ fl a b ≤ M := by
  by_cases h : 0 < b
  · rw [fl_pos h]; exact ediv_bd h h1 h2
  · rw [fl_neg (by omega)]; exact ediv_bd (by omega) (by omega) (by omega)
theorem mod_twice (a : Int) {b : Int} (hb : 0 < b) : (a.tmod b + b) % b = a % b := by
  rw [Int.add_emod_right]
  have h1 := Int.mul_tdiv_add_tmod a b
  conv => rhs; rw [← h1]
  rw [Int.add_comm, Int.add_mul_emod_self_left]
/-- the nearest integer to a / b, b > 0 -/
def near (a b : Int) : Int := (2 * a + b) / (2 * b)
theorem near_up {a b : Int} (hb : 0 < b) (h : b - a % b ≤ a % b) : a / b + 1 = near a b := by
  unfold near
  have e0 := Int.mul_ediv_add_emod a b
  have m1 := Int.emod_lt_of_pos a hb
  have : 2 * a + b = (2 * (a % b) - b) + (2 * b) * (a / b + 1) := by
    rw [Int.mul_add, Int.mul_assoc]; omega
  have l1 : 0 ≤ 2 * (a % b) - b := by omega
  have l2 : 2 * (a % b) - b < 2 * b := by omega
  have l3 : 2 * b ≠ 0 := by omega
  rw [this, Int.add_mul_ediv_left _ _ l3, Int.ediv_eq_zero_of_lt l1 l2, Int.zero_add]
theorem near_down {a b : Int} (hb : 0 < b) (h : ¬ (b - a % b ≤ a % b)) : a / b = near a b := by
  unfold near
  have e0 := Int.mul_ediv_add_emod a b
  have m0 := Int.emod_nonneg a (show b ≠ 0 by omega)
  have : 2 * a + b = (2 * (a % b) + b) + (2 * b) * (a / b) := by
    rw [Int.mul_assoc]; omega
  have l1 : 0 ≤ 2 * (a % b) + b := by omega
  have l2 : 2 * (a % b) + b < 2 * b := by omega
  have l3 : 2 * b ≠ 0 := by omega
  rw [this, Int.add_mul_ediv_left _ _ l3, Int.ediv_eq_zero_of_lt l1 l2, Int.zero_add]
end Go.Proofs.Ytffkcgdgiggfoaa
