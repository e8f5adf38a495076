import Derived.Test.YtanafhmjmfkpmaaIvLaws
/- Products and quotients of numbers that lie in intervals: the plain facts. No program in sight. -/
namespace Go.Proofs.Ytanafhmjmfkpmaa
set_option linter.unusedSimpArgs false
set_option linter.unusedVariables false
open Go.RowKit
theorem wr {x : Int} (h1 : -9000000000000000000 ≤ x) (h2 : x ≤ 9000000000000000000) : IntKind.i64.wrap x = x := by simp only [IntKind.wrap_i64]; omega
/-- a product lies between the products of the ends of one factor -/
theorem mul_between {a b m k : Int} (h1 : a ≤ m) (h2 : m ≤ b) : min (a * k) (b * k) ≤ m * k ∧ m * k ≤ max (a * k) (b * k) := by
  rcases Int.le_total 0 k with hk | hk
  · have p := Int.mul_le_mul_of_nonneg_right h1 hk
    have q := Int.mul_le_mul_of_nonneg_right h2 hk
    omega
  · have p := Int.mul_le_mul_of_nonpos_right h1 hk
    have q := Int.mul_le_mul_of_nonpos_right h2 hk
    omega
theorem mul_corners {a b c d m k : Int} (h1 : a ≤ m) (h2 : m ≤ b) (h3 : c ≤ k) (h4 : k ≤ d) :
    min4 (a * c) (a * d) (b * c) (b * d) ≤ m * k ∧ m * k ≤ max4 (a * c) (a * d) (b * c) (b * d) := by
  have p := mul_between (k := k) h1 h2
  have q := mul_between (k := a) h3 h4
  have r := mul_between (k := b) h3 h4
  rw [Int.mul_comm c a, Int.mul_comm d a, Int.mul_comm k a] at q
  rw [Int.mul_comm c b, Int.mul_comm d b, Int.mul_comm k b] at r
  unfold min4 max4
  omega
theorem mulLo_le {a b c d m k : Int} (h1 : a ≤ m) (h2 : m ≤ b) (h3 : c ≤ k) (h4 : k ≤ d) : mulLo a b c d * 1000000 ≤ m * k ∧ m * k ≤ mulHi a b c d * 1000000 := by
  have h := mul_corners h1 h2 h3 h4
  unfold mulLo mulHi ce
  rw [fl_pos (by omega)]
  generalize min4 (a * c) (a * d) (b * c) (b * d) = x at *
  generalize max4 (a * c) (a * d) (b * c) (b * d) = y at *
  generalize m * k = z at *
  omega
/-- a quotient by a positive number between two others -/
theorem div_between {x c k d : Int} (hc : 0 < c) (h1 : c ≤ k) (h2 : k ≤ d) : min (x / c) (x / d) ≤ x / k := by
  rcases Int.le_total 0 x with hx | hx
  · have hq : 0 ≤ x / d := Int.ediv_nonneg hx (by omega)
    have : x / d ≤ x / k := Int.le_ediv_of_mul_le (by omega) (by
      have p := Int.mul_le_mul_of_nonneg_left h2 hq
      have q := Int.ediv_mul_le x (show d ≠ 0 by omega)
      omega)
    omega
  · have hq : x / c ≤ 0 := by
      have := Int.ediv_le_ediv hc hx
      simpa using this
    have : x / c ≤ x / k := Int.le_ediv_of_mul_le (by omega) (by
      have p := Int.mul_le_mul_of_nonpos_left hq h1
      have q := Int.ediv_mul_le x (show c ≠ 0 by omega)
      omega)
    omega
theorem fl_corners {a b c d m k : Int} (h1 : a ≤ m) (h2 : m ≤ b) (h3 : c ≤ k) (h4 : k ≤ d) (h0 : 0 < c ∨ d < 0) : min4 (fl a c) (fl a d) (fl b c) (fl b d) ≤ fl m k := by
  rcases h0 with h0 | h0
  · rw [fl_pos h0, fl_pos (show 0 < d by omega), fl_pos h0, fl_pos (show 0 < d by omega), fl_pos (show 0 < k by omega)]
    have p := div_between (x := m) h0 h3 h4
    have q1 := Int.ediv_le_ediv h0 h1
    have q2 := Int.ediv_le_ediv (show 0 < d by omega) h1
    unfold min4
    omega
  · rw [fl_neg (show c < 0 by omega), fl_neg h0, fl_neg (show c < 0 by omega), fl_neg h0, fl_neg (show k < 0 by omega)]
    have p := div_between (x := -m) (c := -d) (k := -k) (d := -c) (by omega) (by omega) (by omega)
    have q1 := Int.ediv_le_ediv (show 0 < -d by omega) (show -b ≤ -m by omega)
    have q2 := Int.ediv_le_ediv (show 0 < -c by omega) (show -b ≤ -m by omega)
    unfold min4
    omega
theorem divLo_le {a b c d m k : Int} (h1 : a ≤ m) (h2 : m ≤ b) (h3 : c ≤ k) (h4 : k ≤ d) (h0 : 0 < c ∨ d < 0) : divLo a b c d ≤ fl (m * 1000000) k ∧ ce (m * 1000000) k ≤ divHi a b c d := by
  have p := fl_corners (a := a * 1000000) (b := b * 1000000) (m := m * 1000000) (by omega) (by omega) h3 h4 h0
  have q := fl_corners (a := -(b * 1000000)) (b := -(a * 1000000)) (m := -(m * 1000000)) (by omega) (by omega) h3 h4 h0
  refine ⟨p, ?_⟩
  unfold divHi ce
  unfold min4 at q
  unfold max4
  omega
theorem fl_tdiv_pos {x y : Int} (hy : 0 < y) : x / y ≤ x.tdiv y ∧ x.tdiv y ≤ -((-x) / y) := by
  rcases Int.le_total 0 x with hx | hx
  · rw [Int.tdiv_eq_ediv_of_nonneg hx]
    refine ⟨Int.le_refl _, ?_⟩
    have p := Int.ediv_mul_le x (show y ≠ 0 by omega)
    have q := Int.ediv_mul_le (-x) (show y ≠ 0 by omega)
    have r : (x / y + (-x) / y) * y ≤ 0 := by rw [Int.add_mul]; omega
    by_cases h : 0 < x / y + (-x) / y
    · have := Int.mul_pos h hy; omega
    · omega
  · have e : x.tdiv y = -((-x) / y) := by rw [← Int.tdiv_eq_ediv_of_nonneg (show 0 ≤ -x by omega), Int.neg_tdiv, Int.neg_neg]
    rw [e]
    refine ⟨?_, Int.le_refl _⟩
    have p := Int.ediv_mul_le x (show y ≠ 0 by omega)
    have q := Int.ediv_mul_le (-x) (show y ≠ 0 by omega)
    have r : (x / y + (-x) / y) * y ≤ 0 := by rw [Int.add_mul]; omega
    by_cases h : 0 < x / y + (-x) / y
    · have := Int.mul_pos h hy; omega
    · omega
theorem fl_tdiv {x y : Int} (hy : y ≠ 0) : fl x y ≤ x.tdiv y ∧ x.tdiv y ≤ ce x y := by
  unfold ce
  rcases Int.lt_or_gt_of_ne hy with h | h
  · rw [fl_neg h, fl_neg h, ← tdiv_neg_neg x y]
    exact fl_tdiv_pos (by omega)
  · rw [fl_pos h, fl_pos h]
    exact fl_tdiv_pos h
theorem quo_in {a b c d m k : Int} (h1 : a ≤ m) (h2 : m ≤ b) (h3 : c ≤ k) (h4 : k ≤ d) (h0 : 0 < c ∨ d < 0) : divLo a b c d ≤ (m * 1000000).tdiv k + 1 ∧ (m * 1000000).tdiv k - 1 ≤ divHi a b c d := by
  have p := divLo_le h1 h2 h3 h4 h0
  have q := fl_tdiv (x := m * 1000000) (show k ≠ 0 by omega)
  omega
theorem prod_bd {m k : Int} (h1 : -1000000000 ≤ m) (h2 : m ≤ 1000000000) (h3 : -1000000000 ≤ k) (h4 : k ≤ 1000000000) : -1000000000000000000 ≤ m * k ∧ m * k ≤ 1000000000000000000 := by
  have h := mul_corners h1 h2 h3 h4
  unfold min4 max4 at h
  omega
theorem prod_wrap {a b c d r s : Int} (a1 : -1000000000 ≤ a) (b1 : b ≤ 1000000000) (c1 : -1000000000 ≤ c) (d1 : d ≤ 1000000000) (r0 : 0 ≤ r) (r1 : r < b - a + 1) (s0 : 0 ≤ s) (s1 : s < d - c + 1) :
    mulLo a b c d * 1000000 ≤ IntKind.i64.wrap (IntKind.i64.wrap (a + r) * IntKind.i64.wrap (c + s)) ∧ IntKind.i64.wrap (IntKind.i64.wrap (a + r) * IntKind.i64.wrap (c + s)) ≤ mulHi a b c d * 1000000 := by
  rw [wr (x := a + r) (by omega) (by omega), wr (x := c + s) (by omega) (by omega)]
  have pb := prod_bd (m := a + r) (k := c + s) (by omega) (by omega) (by omega) (by omega)
  rw [wr (by omega) (by omega)]
  exact mulLo_le (by omega) (by omega) (by omega) (by omega)
theorem mulR_ok {a b c d : Int} (h : (mulR a b c d).2.2 = 0) : mulR a b c d = (mulLo a b c d, mulHi a b c d, 0) ∧ (-1000000000 ≤ a ∧ a ≤ b ∧ b ≤ 1000000000 ∧ -1000000000 ≤ c ∧ c ≤ d ∧ d ≤ 1000000000) ∧ (-1000000000000 ≤ mulLo a b c d ∧ mulHi a b c d ≤ 1000000000000 ∧ -1000000000000 ≤ mulHi a b c d ∧ mulLo a b c d ≤ 1000000000000) := by
  unfold mulR at h ⊢
  by_cases k : facCode a b c d = 0
  · rw [if_pos k] at h ⊢
    unfold toldR at h ⊢
    split at h
    · rename_i l
      rw [if_pos l]
      rw [Bool.and_eq_true, inB_iff, inB_iff] at l
      exact ⟨rfl, facCode_ok.1 k, by omega⟩
    · simp at h
  · rw [if_neg k] at h
    exact absurd h k
theorem divR_ok {a b c d : Int} (h : (divR a b c d).2.2 = 0) : divR a b c d = (divLo a b c d, divHi a b c d, 0) ∧ (-1000000000 ≤ a ∧ a ≤ b ∧ b ≤ 1000000000 ∧ -1000000000 ≤ c ∧ c ≤ d ∧ d ≤ 1000000000) ∧ (0 < c ∨ d < 0) := by
  unfold divR at h ⊢
  by_cases k : facCode a b c d = 0
  · rw [if_pos k] at h ⊢
    by_cases z : inB 0 c d = true
    · rw [if_pos z] at h; simp at h
    · rw [if_neg z] at h ⊢
      unfold toldR at h ⊢
      split at h
      · rename_i l
        rw [if_pos l]
        rw [inB_iff] at z
        exact ⟨rfl, facCode_ok.1 k, by omega⟩
      · simp at h
  · rw [if_neg k] at h
    exact absurd h k
end Go.Proofs.Ytanafhmjmfkpmaa
