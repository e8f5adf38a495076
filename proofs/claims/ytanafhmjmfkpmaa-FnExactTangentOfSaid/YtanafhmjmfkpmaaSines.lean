import Derived.Test.YtanafhmjmfkpmaaDivide
import Derived.Test.YtanafhmjmfkpmaaDiv
/- The sines: the contracts. -/
namespace Go.Proofs.Ytanafhmjmfkpmaa
set_option linter.unusedSimpArgs false
set_option linter.unusedVariables false
open Go.RowKit
attribute [local go_sem] cell_allocI frz_allocI later_cell later_frz
attribute [local go_sem ↓] min_two max_two min_four max_four
attribute [local go_sem] cell_setI cell_drewI frz_drewI
def aX (r : Int) : Int := r * 48481368 / 10000
def aY (r : Int) : Int := aX r * aX r / 1000000000
def pT3 (r : Int) : Int := aX r * aY r / 1000000000 / 6
def pT5 (r : Int) : Int := pT3 r * aY r / 1000000000 / 20
def pT7 (r : Int) : Int := pT5 r * aY r / 1000000000 / 42
def pT9 (r : Int) : Int := pT7 r * aY r / 1000000000 / 72
def qC2 (r : Int) : Int := aY r / 2
def qC4 (r : Int) : Int := qC2 r * aY r / 1000000000 / 12
def qC6 (r : Int) : Int := qC4 r * aY r / 1000000000 / 30
def qC8 (r : Int) : Int := qC6 r * aY r / 1000000000 / 56
def qC10 (r : Int) : Int := qC8 r * aY r / 1000000000 / 90
def nP (r : Int) : Int := aX r - pT3 r + pT5 r - pT7 r + pT9 r
def nQ (r : Int) : Int := 1000000000 - qC2 r + qC4 r - qC6 r + qC8 r - qC10 r
theorem mulp {a b A B : Int} (h1 : 0 ≤ a) (h2 : a ≤ A) (h3 : 0 ≤ b) (h4 : b ≤ B) : 0 ≤ a * b ∧ a * b ≤ A * B :=
  ⟨Int.mul_nonneg h1 h3, Int.mul_le_mul h2 h4 h3 (by omega)⟩
/-- all that the walks want to know of the parts -/
theorem arc_bd {r : Int} (h0 : 0 ≤ r) (h1 : r ≤ 162000) : (0 ≤ aX r ∧ aX r ≤ 785398162) ∧ (0 ≤ aX r * aX r ∧ aX r * aX r ≤ 616850272872978244) ∧ (0 ≤ aY r ∧ aY r ≤ 616850273) := by
  have hx : 0 ≤ aX r ∧ aX r ≤ 785398162 := by unfold aX; omega
  have hxx := mulp hx.1 hx.2 hx.1 hx.2
  refine ⟨hx, ⟨hxx.1, by omega⟩, ?_⟩
  unfold aY
  generalize aX r * aX r = z at *
  omega
theorem step_bd {t y A : Int} (n : Int) (hn : 0 < n) (h0 : 0 ≤ t) (h1 : t ≤ A) (hA : A ≤ 1000000000) (y0 : 0 ≤ y) (y1 : y ≤ 616850273) : (0 ≤ t * y ∧ t * y ≤ 616850273000000000) ∧ 0 ≤ t * y / 1000000000 / n ∧ t * y / 1000000000 / n ≤ A := by
  obtain ⟨a, b⟩ := mulp h0 h1 y0 y1
  obtain ⟨a', b'⟩ := mulp h0 (Int.le_trans h1 hA) y0 y1
  have c : 0 ≤ t * y / 1000000000 := by omega
  have b2 : t * y ≤ 616850273000000000 := by omega
  refine ⟨⟨a, b2⟩, Int.ediv_nonneg c (by omega), ?_⟩
  have d : t * y / 1000000000 ≤ A := by
    have h := Int.mul_le_mul_of_nonneg_left (show y ≤ 1000000000 by omega) h0
    generalize t * y = z at *
    omega
  have e := Int.ediv_le_self n c
  omega
theorem p_bd {r : Int} (h0 : 0 ≤ r) (h1 : r ≤ 162000) : ((0 ≤ aX r * aY r ∧ aX r * aY r ≤ 616850273000000000) ∧ 0 ≤ pT3 r ∧ pT3 r ≤ 785398162) ∧ ((0 ≤ pT3 r * aY r ∧ pT3 r * aY r ≤ 616850273000000000) ∧ 0 ≤ pT5 r ∧ pT5 r ≤ 785398162) ∧ ((0 ≤ pT5 r * aY r ∧ pT5 r * aY r ≤ 616850273000000000) ∧ 0 ≤ pT7 r ∧ pT7 r ≤ 785398162) ∧ ((0 ≤ pT7 r * aY r ∧ pT7 r * aY r ≤ 616850273000000000) ∧ 0 ≤ pT9 r ∧ pT9 r ≤ 785398162) := by
  obtain ⟨⟨x0, x1⟩, -, y0, y1⟩ := arc_bd h0 h1
  have t3 := step_bd 6 (by omega) x0 x1 (by omega) y0 y1
  have t5 := step_bd 20 (by omega) t3.2.1 t3.2.2 (by omega) y0 y1
  have t7 := step_bd 42 (by omega) t5.2.1 t5.2.2 (by omega) y0 y1
  have t9 := step_bd 72 (by omega) t7.2.1 t7.2.2 (by omega) y0 y1
  exact ⟨t3, t5, t7, t9⟩
theorem q_bd {r : Int} (h0 : 0 ≤ r) (h1 : r ≤ 162000) : (0 ≤ qC2 r ∧ qC2 r ≤ 308425137) ∧ ((0 ≤ qC2 r * aY r ∧ qC2 r * aY r ≤ 616850273000000000) ∧ 0 ≤ qC4 r ∧ qC4 r ≤ 308425137) ∧ ((0 ≤ qC4 r * aY r ∧ qC4 r * aY r ≤ 616850273000000000) ∧ 0 ≤ qC6 r ∧ qC6 r ≤ 308425137) ∧ ((0 ≤ qC6 r * aY r ∧ qC6 r * aY r ≤ 616850273000000000) ∧ 0 ≤ qC8 r ∧ qC8 r ≤ 308425137) ∧ ((0 ≤ qC8 r * aY r ∧ qC8 r * aY r ≤ 616850273000000000) ∧ 0 ≤ qC10 r ∧ qC10 r ≤ 308425137) := by
  obtain ⟨⟨x0, x1⟩, -, y0, y1⟩ := arc_bd h0 h1
  have c2 : 0 ≤ qC2 r ∧ qC2 r ≤ 308425137 := by unfold qC2; omega
  have c4 := step_bd 12 (by omega) c2.1 c2.2 (by omega) y0 y1
  have c6 := step_bd 30 (by omega) c4.2.1 c4.2.2 (by omega) y0 y1
  have c8 := step_bd 56 (by omega) c6.2.1 c6.2.2 (by omega) y0 y1
  have c10 := step_bd 90 (by omega) c8.2.1 c8.2.2 (by omega) y0 y1
  exact ⟨c2, c4, c6, c8, c10⟩
def half (r : Int) : Int := if r ≤ 162000 then nP r else nQ (324000 - r)
/-- the nano sine -/
def nanoS (a : Int) : Int :=
  if a % 1296000 < 324000 then half (a % 1296000) else if a % 1296000 < 648000 then half (648000 - a % 1296000)
  else if a % 1296000 < 972000 then -half (a % 1296000 - 648000) else -half (1296000 - a % 1296000)
theorem step_le {t y : Int} (n : Int) (hn : 0 < n) (h0 : 0 ≤ t) (y1 : y ≤ 616850273) : t * y / 1000000000 / n ≤ t / n := by
  have h := Int.mul_le_mul_of_nonneg_left (show y ≤ 1000000000 by omega) h0
  refine Int.ediv_le_ediv hn ?_
  generalize t * y = z at *
  omega
theorem nP_bd {r : Int} (h0 : 1 ≤ r) (h1 : r ≤ 162000) : 3000 ≤ nP r ∧ nP r ≤ 1100000000 := by
  have hx : 4848 ≤ aX r ∧ aX r ≤ 785398162 := by unfold aX; omega
  obtain ⟨-, -, y0, y1⟩ := arc_bd (r := r) (by omega) h1
  obtain ⟨⟨-, a3, a4⟩, ⟨-, b3, b4⟩, ⟨-, c3, c4⟩, ⟨-, d3, d4⟩⟩ := p_bd (r := r) (by omega) h1
  have e3 : pT3 r ≤ aX r / 6 := step_le 6 (by omega) (by omega) y1
  have e5 : pT5 r ≤ pT3 r / 20 := step_le 20 (by omega) (by omega) y1
  have e7 : pT7 r ≤ pT5 r / 42 := step_le 42 (by omega) (by omega) y1
  have e9 : pT9 r ≤ pT7 r / 72 := step_le 72 (by omega) (by omega) y1
  unfold nP; omega
theorem nQ_bd {r : Int} (h0 : 0 ≤ r) (h1 : r ≤ 162000) : 3000 ≤ nQ r ∧ nQ r ≤ 1100000000 := by
  obtain ⟨-, -, y0, y1⟩ := arc_bd (r := r) (by omega) h1
  obtain ⟨⟨c20, c21⟩, ⟨-, a3, a4⟩, ⟨-, b3, b4⟩, ⟨-, c3, c4⟩, ⟨-, d3, d4⟩⟩ := q_bd (r := r) (by omega) h1
  have e4 : qC4 r ≤ qC2 r / 12 := step_le 12 (by omega) (by omega) y1
  have e6 : qC6 r ≤ qC4 r / 30 := step_le 30 (by omega) (by omega) y1
  have e8 : qC8 r ≤ qC6 r / 56 := step_le 56 (by omega) (by omega) y1
  have e10 : qC10 r ≤ qC8 r / 90 := step_le 90 (by omega) (by omega) y1
  unfold nQ; omega
theorem half_zero : half 0 = 0 := by decide +kernel
theorem half_pos {r : Int} (h0 : 1 ≤ r) (h1 : r ≤ 324000) : 3000 ≤ half r ∧ half r ≤ 1100000000 := by
  unfold half
  split
  · exact nP_bd h0 (by assumption)
  · exact nQ_bd (by omega) (by omega)
theorem half_cases {r : Int} (h0 : 0 ≤ r) (h1 : r ≤ 324000) : half r = 0 ∨ (3000 ≤ half r ∧ half r ≤ 1100000000) := by
  rcases Int.lt_or_eq_of_le h0 with h | h
  · exact Or.inr (half_pos (by omega) h1)
  · subst h; exact Or.inl half_zero
theorem half_bd {r : Int} (h0 : 0 ≤ r) (h1 : r ≤ 324000) : -2000000000 ≤ half r ∧ half r ≤ 2400000000 := by
  rcases half_cases h0 h1 with h | h <;> omega
theorem nano_cases (a : Int) : nanoS a = 0 ∨ (3000 ≤ nanoS a ∧ nanoS a ≤ 1100000000) ∨ (-1100000000 ≤ nanoS a ∧ nanoS a ≤ -3000) := by
  have h0 : 0 ≤ a % 1296000 := by omega
  have h1 : a % 1296000 < 1296000 := by omega
  unfold nanoS
  generalize a % 1296000 = b at *
  split
  · have := half_cases (r := b) h0 (by omega); omega
  · split
    · have := half_cases (r := 648000 - b) (by omega) (by omega); omega
    · split
      · have := half_cases (r := b - 648000) (by omega) (by omega); omega
      · have := half_cases (r := 1296000 - b) (by omega) (by omega); omega
theorem nano_bd (a : Int) : -1100000000 ≤ nanoS a ∧ nanoS a ≤ 1100000000 := by have := nano_cases a; omega
def sinLo (a : Int) : Int := (nanoS a - 60) / 1000
def sinHi (a : Int) : Int := ce (nanoS a + 60) 1000
theorem sin_bd (a : Int) : -1100001 ≤ sinLo a ∧ sinLo a ≤ sinHi a ∧ sinHi a ≤ 1100001 := by
  have := nano_bd a
  unfold sinLo sinHi ce; rw [fl_pos (by omega)]; omega
theorem sin_far (a : Int) : (sinLo a ≤ 0 ∧ 0 ≤ sinHi a) ∨ (2 ≤ sinLo a ∧ 2 ≤ sinHi a) ∨ (sinLo a ≤ -2 ∧ sinHi a ≤ -2) := by
  have := nano_cases a
  unfold sinLo sinHi ce; rw [fl_pos (by omega)]; omega
theorem fl_two {x y : Int} (hx : -1100001 ≤ x) (hx' : x ≤ 1100001) (hy : 2 ≤ y ∨ y ≤ -2) : (-1000000000000 ≤ fl (x * 1000000) y ∧ fl (x * 1000000) y ≤ 1000000000000) ∧ -1000000000000 ≤ ce (x * 1000000) y ∧ ce (x * 1000000) y ≤ 1000000000000 := by
  have hd : ∀ (z d : Int), -1100001000000 ≤ z → z ≤ 1100001000000 → 2 ≤ d → -1000000000000 ≤ z / d ∧ z / d ≤ 1000000000000 := by
    intro z d h1 h2 hd
    exact ⟨Int.le_ediv_of_mul_le (by omega) (by omega), Int.le_trans (Int.ediv_le_of_le_mul (b := 1000000000000) (by omega) (by omega)) (Int.le_refl _)⟩
  unfold ce
  rcases hy with hy | hy
  · rw [fl_pos (by omega), fl_pos (by omega)]
    have h1 := hd (x * 1000000) y (by omega) (by omega) hy
    have h2 := hd (-(x * 1000000)) y (by omega) (by omega) hy
    omega
  · rw [fl_neg (by omega), fl_neg (by omega)]
    have h1 := hd (-(x * 1000000)) (-y) (by omega) (by omega) (by omega)
    have h2 := hd (- -(x * 1000000)) (-y) (by omega) (by omega) (by omega)
    omega
def tanR (a : Int) : Int × Int × Int := if inB a (-1000000000000) 1000000000000 then divR (sinLo a) (sinHi a) (sinLo (a + 324000)) (sinHi (a + 324000)) else (0, 0, 2)
theorem tan_fac (a b : Int) : facCode (sinLo a) (sinHi a) (sinLo b) (sinHi b) = 0 := by
  have h := sin_bd a
  have k := sin_bd b
  exact facCode_ok.2 (by omega)
theorem tan_zero {a b : Int} (h1 : sinLo b ≤ 0) (h2 : 0 ≤ sinHi b) : divR (sinLo a) (sinHi a) (sinLo b) (sinHi b) = (0, 0, 5) := by
  unfold divR; rw [tan_fac, if_pos rfl, if_pos (by simp [inB]; omega)]
theorem tan_far {a b : Int} (h : ¬ (sinLo b ≤ 0 ∧ 0 ≤ sinHi b)) : divR (sinLo a) (sinHi a) (sinLo b) (sinHi b) = (divLo (sinLo a) (sinHi a) (sinLo b) (sinHi b), divHi (sinLo a) (sinHi a) (sinLo b) (sinHi b), 0) := by
  have s1 := sin_bd a
  have s2 := sin_bd b
  have s3 := sin_far b
  obtain ⟨a1, a2⟩ := fl_two (x := sinLo a) (y := sinLo b) (by omega) (by omega) (by omega)
  obtain ⟨b1, b2⟩ := fl_two (x := sinLo a) (y := sinHi b) (by omega) (by omega) (by omega)
  obtain ⟨c1, c2⟩ := fl_two (x := sinHi a) (y := sinLo b) (by omega) (by omega) (by omega)
  obtain ⟨d1, d2⟩ := fl_two (x := sinHi a) (y := sinHi b) (by omega) (by omega) (by omega)
  unfold divR
  rw [tan_fac, if_pos rfl, if_neg (by simp [inB]; omega)]
  unfold toldR
  rw [if_pos]
  simp only [inB, divLo, divHi, min4, max4]
  simp
  omega
theorem i_plain (a : Int) (h1 : -4000000000000000000 ≤ a) (h2 : a ≤ 4000000000000000000) (w : World) :
    Calls Try.prog 171 #[.int .i64 a] w fun e w' => e = .returned (.int .i64 (a % 1296000)) ∧ w = w' := by
  go_enter Try.func171, Try.ntmps171
  go_wp2_with (go_at_call 167; refine (i_mod _ _ (by omega) (by omega) (by omega) (by omega) _).mono ?_; rintro e w' ⟨rfl, rfl⟩)
  go_ret
  exact ⟨rfl, rfl⟩
theorem s_l03Plain (a : Int) (h1 : -4000000000000000000 ≤ a) (h2 : a ≤ 4000000000000000000) (w : World) :
    Calls Try.prog 163 #[.int .i64 a] w fun e w' => e = .returned (.int .i64 (a % 1296000)) ∧ w = w' := by
  go_enter Try.func163, Try.ntmps163
  go_wp2_with (go_at_call 176; refine (s_l01Mod _ _ (by omega) (by omega) (by omega) (by omega) _).mono ?_; rintro e w' ⟨rfl, rfl⟩)
  go_ret
  exact ⟨rfl, rfl⟩
set_option maxHeartbeats 1000000 in
theorem i_polynomials (r : Int) (h0 : 0 ≤ r) (h1 : r ≤ 162000) (w : World) :
    Calls Try.prog 175 #[.int .i64 r] w fun e w' => e = .returned (.tuple #[.int .i64 (nP r), .int .i64 (nQ r)]) ∧ Up w w' := by
  obtain ⟨⟨x0, x1⟩, ⟨xx0, xx1⟩, y0, y1⟩ := arc_bd h0 h1
  obtain ⟨⟨⟨a1, a2⟩, a3, a4⟩, ⟨⟨b1, b2⟩, b3, b4⟩, ⟨⟨c1, c2⟩, c3, c4⟩, ⟨⟨d1, d2⟩, d3, d4⟩⟩ := p_bd h0 h1
  obtain ⟨⟨e1, e2⟩, ⟨⟨f1, f2⟩, f3, f4⟩, ⟨⟨g1, g2⟩, g3, g4⟩, ⟨⟨k1, k2⟩, k3, k4⟩, ⟨⟨l1, l2⟩, l3, l4⟩⟩ := q_bd h0 h1
  have X : r * 48481368 / 10000 = aX r := rfl
  have Y : aX r * aX r / 1000000000 = aY r := rfl
  have T3 : aX r * aY r / 1000000000 / 6 = pT3 r := rfl
  have T5 : pT3 r * aY r / 1000000000 / 20 = pT5 r := rfl
  have T7 : pT5 r * aY r / 1000000000 / 42 = pT7 r := rfl
  have T9 : pT7 r * aY r / 1000000000 / 72 = pT9 r := rfl
  have C2 : aY r / 2 = qC2 r := rfl
  have C4 : qC2 r * aY r / 1000000000 / 12 = qC4 r := rfl
  have C6 : qC4 r * aY r / 1000000000 / 30 = qC6 r := rfl
  have C8 : qC6 r * aY r / 1000000000 / 56 = qC8 r := rfl
  have C10 : qC8 r * aY r / 1000000000 / 90 = qC10 r := rfl
  have P : aX r - pT3 r + pT5 r - pT7 r + pT9 r = nP r := rfl
  have Q : 1000000000 - qC2 r + qC4 r - qC6 r + qC8 r - qC10 r = nQ r := rfl
  generalize nP r = p, nQ r = q, aX r = x, aY r = y, pT3 r = t3, pT5 r = t5, pT7 r = t7, pT9 r = t9, qC2 r = u2, qC4 r = u4, qC6 r = u6, qC8 r = u8, qC10 r = u10 at *
  go_enter Try.func175, Try.ntmps175
  go_wp2
  go_ret2
  exact ⟨rfl, Up.refl _⟩
theorem s_l04Arc (r : Int) (h0 : 0 ≤ r) (h1 : r ≤ 162000) (w : World) :
    Calls Try.prog 177 #[.int .i64 r] w fun e w' => e = .returned (.tuple #[.int .i64 (aX r), .int .i64 (aY r)]) ∧ Up w w' := by
  obtain ⟨⟨x0, x1⟩, ⟨xx0, xx1⟩, y0, y1⟩ := arc_bd h0 h1
  have X : r * 48481368 / 10000 = aX r := rfl
  have Y : aX r * aX r / 1000000000 = aY r := rfl
  generalize aX r = x, aY r = y at *
  go_enter Try.func177, Try.ntmps177
  go_wp2
  go_ret2
  obtain rfl := Y
  obtain rfl := X
  exact ⟨rfl, Up.refl _⟩
set_option maxHeartbeats 1000000 in
theorem s_l04P (r : Int) (h0 : 0 ≤ r) (h1 : r ≤ 162000) (w : World) :
    Calls Try.prog 173 #[.int .i64 r] w fun e w' => e = .returned (.int .i64 (nP r)) ∧ Up w w' := by
  obtain ⟨⟨x0, x1⟩, -, y0, y1⟩ := arc_bd h0 h1
  obtain ⟨⟨⟨a1, a2⟩, a3, a4⟩, ⟨⟨b1, b2⟩, b3, b4⟩, ⟨⟨c1, c2⟩, c3, c4⟩, ⟨⟨d1, d2⟩, d3, d4⟩⟩ := p_bd h0 h1
  have hA := fun w => s_l04Arc r h0 h1 w
  have T3 : aX r * aY r / 1000000000 / 6 = pT3 r := rfl
  have T5 : pT3 r * aY r / 1000000000 / 20 = pT5 r := rfl
  have T7 : pT5 r * aY r / 1000000000 / 42 = pT7 r := rfl
  have T9 : pT7 r * aY r / 1000000000 / 72 = pT9 r := rfl
  have P : aX r - pT3 r + pT5 r - pT7 r + pT9 r = nP r := rfl
  generalize nP r = p, aX r = x, aY r = y, pT3 r = t3, pT5 r = t5, pT7 r = t7, pT9 r = t9 at *
  go_enter Try.func173, Try.ntmps173
  go_wp2_with (go_at_call 177; refine (hA _).mono ?_; clear hA; rintro e wn ⟨rfl, hu⟩; obtain ⟨N, J, JF, hn1, hn2, hz, hc, hf⟩ := hu.facts; (try simp only [World.size_alloc, World.size_setCell, World.heap_drewN, World.size_drew] at hn1 hn2); (try simp only [cell_drewI] at hc); (try simp only [frz_drewI] at hf))
  go_ret
  exact ⟨rfl, by (repeat' (first | with_reducible exact Up.refl _ | with_reducible assumption | with_reducible refine Up.alloc ?_ _ | with_reducible refine Up.drew ?_ | with_reducible refine Up.drewN ?_ _ | with_reducible refine Up.setCell ?_ (by (try simp only [World.size_alloc, World.size_setCell, World.heap_drewN, World.size_drew]); omega) _ | (with_reducible refine Up.trans ?_ (by with_reducible assumption))))⟩
set_option maxHeartbeats 1000000 in
theorem s_l04Q (r : Int) (h0 : 0 ≤ r) (h1 : r ≤ 162000) (w : World) :
    Calls Try.prog 174 #[.int .i64 r] w fun e w' => e = .returned (.int .i64 (nQ r)) ∧ Up w w' := by
  obtain ⟨⟨x0, x1⟩, -, y0, y1⟩ := arc_bd h0 h1
  obtain ⟨⟨e1, e2⟩, ⟨⟨f1, f2⟩, f3, f4⟩, ⟨⟨g1, g2⟩, g3, g4⟩, ⟨⟨k1, k2⟩, k3, k4⟩, ⟨⟨l1, l2⟩, l3, l4⟩⟩ := q_bd h0 h1
  have hA := fun w => s_l04Arc r h0 h1 w
  have C2 : aY r / 2 = qC2 r := rfl
  have C4 : qC2 r * aY r / 1000000000 / 12 = qC4 r := rfl
  have C6 : qC4 r * aY r / 1000000000 / 30 = qC6 r := rfl
  have C8 : qC6 r * aY r / 1000000000 / 56 = qC8 r := rfl
  have C10 : qC8 r * aY r / 1000000000 / 90 = qC10 r := rfl
  have Q : 1000000000 - qC2 r + qC4 r - qC6 r + qC8 r - qC10 r = nQ r := rfl
  generalize nQ r = q, aX r = x, aY r = y, qC2 r = u2, qC4 r = u4, qC6 r = u6, qC8 r = u8, qC10 r = u10 at *
  go_enter Try.func174, Try.ntmps174
  go_wp2_with (go_at_call 177; refine (hA _).mono ?_; clear hA; rintro e wn ⟨rfl, hu⟩; obtain ⟨N, J, JF, hn1, hn2, hz, hc, hf⟩ := hu.facts; (try simp only [World.size_alloc, World.size_setCell, World.heap_drewN, World.size_drew] at hn1 hn2); (try simp only [cell_drewI] at hc); (try simp only [frz_drewI] at hf))
  go_ret
  exact ⟨rfl, by (repeat' (first | with_reducible exact Up.refl _ | with_reducible assumption | with_reducible refine Up.alloc ?_ _ | with_reducible refine Up.drew ?_ | with_reducible refine Up.drewN ?_ _ | with_reducible refine Up.setCell ?_ (by (try simp only [World.size_alloc, World.size_setCell, World.heap_drewN, World.size_drew]); omega) _ | (with_reducible refine Up.trans ?_ (by with_reducible assumption))))⟩
theorem nano_q0 {a : Int} (h : a % 1296000 < 324000) : nanoS a = half (a % 1296000) := by unfold nanoS; rw [if_pos h]
theorem nano_q1 {a : Int} (h : ¬ a % 1296000 < 324000) (k : a % 1296000 < 648000) : nanoS a = half (648000 - a % 1296000) := by unfold nanoS; rw [if_neg h, if_pos k]
theorem nano_q2 {a : Int} (k : ¬ a % 1296000 < 648000) (l : a % 1296000 < 972000) : nanoS a = -half (a % 1296000 - 648000) := by unfold nanoS; rw [if_neg (by omega), if_neg k, if_pos l]
theorem nano_q3 {a : Int} (l : ¬ a % 1296000 < 972000) : nanoS a = -half (1296000 - a % 1296000) := by unfold nanoS; rw [if_neg (by omega), if_neg (by omega), if_neg l]
theorem half_lo {r : Int} (h : r ≤ 162000) : half r = nP r := by unfold half; rw [if_pos h]
theorem half_hi {r : Int} (h : ¬ r ≤ 162000) : half r = nQ (324000 - r) := by unfold half; rw [if_neg h]
theorem val_int' {a b : Int} (h : a = b) : Ending.returned (.int .i64 a) = .returned (.int .i64 b) := by rw [h]
set_option maxHeartbeats 2000000 in
theorem i_nanoSine (a : Int) (h1 : -4000000000000000000 ≤ a) (h2 : a ≤ 4000000000000000000) (w : World) :
    Calls Try.prog 162 #[.int .i64 a] w fun e w' => e = .returned (.int .i64 (nanoS a)) ∧ Up w w' := by
  have b0 : 0 ≤ a % 1296000 := by omega
  have b1 : a % 1296000 < 1296000 := by omega
  by_cases k0 : a % 1296000 < 324000
  · by_cases hs : a % 1296000 ≤ 162000
    · skip
      have hq := hide (nano_q0 k0)
      have hh := hide (half_lo hs)
      have dq : a % 1296000 / 324000 = 0 := by omega
      have mq : a % 1296000 % 324000 = a % 1296000 := by omega
      have v0 : 0 ≤ a % 1296000 := by omega
      have v1 : a % 1296000 ≤ 162000 := by omega
      have hb := half_bd (r := a % 1296000) (by omega) (by omega)
      rw [hh.out] at hb
      go_enter Try.func162, Try.ntmps162
      go_wp2_with (first
        | (go_at_call 171; refine (i_plain _ h1 h2 _).mono ?_; rintro e w' ⟨rfl, rfl⟩)
        | (go_at_call 175; refine (i_polynomials _ (by omega) (by omega) _).mono ?_; rintro e wn ⟨rfl, hu⟩; obtain ⟨N, J, JF, hn1, hn2, hz, hc, hf⟩ := hu.facts; (try simp only [World.size_alloc, World.size_setCell, World.heap_drewN, World.size_drew] at hn1 hn2); (try simp only [cell_drewI] at hc); (try simp only [frz_drewI] at hf)))
      go_ret
      refine ⟨val_int' ?_, by (repeat' (first | with_reducible exact Up.refl _ | with_reducible assumption | with_reducible refine Up.alloc ?_ _ | with_reducible refine Up.drew ?_ | with_reducible refine Up.drewN ?_ _ | with_reducible refine Up.setCell ?_ (by (try simp only [World.size_alloc, World.size_setCell, World.heap_drewN, World.size_drew]); omega) _ | (with_reducible refine Up.trans ?_ (by with_reducible assumption))))⟩
      rw [hq.out, hh.out]; (try congr 1); (try (congr 1; omega))
    · skip
      have hq := hide (nano_q0 k0)
      have hh := hide (half_hi hs)
      have dq : a % 1296000 / 324000 = 0 := by omega
      have mq : a % 1296000 % 324000 = a % 1296000 := by omega
      have v0 : 0 ≤ 324000 - (a % 1296000) := by omega
      have v1 : 324000 - (a % 1296000) ≤ 162000 := by omega
      have hb := half_bd (r := a % 1296000) (by omega) (by omega)
      rw [hh.out] at hb
      go_enter Try.func162, Try.ntmps162
      go_wp2_with (first
        | (go_at_call 171; refine (i_plain _ h1 h2 _).mono ?_; rintro e w' ⟨rfl, rfl⟩)
        | (go_at_call 175; refine (i_polynomials _ (by omega) (by omega) _).mono ?_; rintro e wn ⟨rfl, hu⟩; obtain ⟨N, J, JF, hn1, hn2, hz, hc, hf⟩ := hu.facts; (try simp only [World.size_alloc, World.size_setCell, World.heap_drewN, World.size_drew] at hn1 hn2); (try simp only [cell_drewI] at hc); (try simp only [frz_drewI] at hf)))
      go_ret
      refine ⟨val_int' ?_, by (repeat' (first | with_reducible exact Up.refl _ | with_reducible assumption | with_reducible refine Up.alloc ?_ _ | with_reducible refine Up.drew ?_ | with_reducible refine Up.drewN ?_ _ | with_reducible refine Up.setCell ?_ (by (try simp only [World.size_alloc, World.size_setCell, World.heap_drewN, World.size_drew]); omega) _ | (with_reducible refine Up.trans ?_ (by with_reducible assumption))))⟩
      rw [hq.out, hh.out]; (try congr 1); (try (congr 1; omega))
  · skip
    by_cases k1 : a % 1296000 < 648000
    · by_cases hs : 324000 - (a % 1296000 - 324000) ≤ 162000
      · skip
        have hq : Hid (nanoS a = half (324000 - (a % 1296000 - 324000))) := hide ((nano_q1 k0 k1).trans (by congr 1; omega))
        have hh := hide (half_lo hs)
        have dq : a % 1296000 / 324000 = 1 := by omega
        have mq : a % 1296000 % 324000 = a % 1296000 - 324000 := by omega
        have v0 : 0 ≤ 324000 - (a % 1296000 - 324000) := by omega
        have v1 : 324000 - (a % 1296000 - 324000) ≤ 162000 := by omega
        have hb := half_bd (r := 324000 - (a % 1296000 - 324000)) (by omega) (by omega)
        rw [hh.out] at hb
        go_enter Try.func162, Try.ntmps162
        go_wp2_with (first
          | (go_at_call 171; refine (i_plain _ h1 h2 _).mono ?_; rintro e w' ⟨rfl, rfl⟩)
          | (go_at_call 175; refine (i_polynomials _ (by omega) (by omega) _).mono ?_; rintro e wn ⟨rfl, hu⟩; obtain ⟨N, J, JF, hn1, hn2, hz, hc, hf⟩ := hu.facts; (try simp only [World.size_alloc, World.size_setCell, World.heap_drewN, World.size_drew] at hn1 hn2); (try simp only [cell_drewI] at hc); (try simp only [frz_drewI] at hf)))
        go_ret
        refine ⟨val_int' ?_, by (repeat' (first | with_reducible exact Up.refl _ | with_reducible assumption | with_reducible refine Up.alloc ?_ _ | with_reducible refine Up.drew ?_ | with_reducible refine Up.drewN ?_ _ | with_reducible refine Up.setCell ?_ (by (try simp only [World.size_alloc, World.size_setCell, World.heap_drewN, World.size_drew]); omega) _ | (with_reducible refine Up.trans ?_ (by with_reducible assumption))))⟩
        rw [hq.out, hh.out]; (try congr 1); (try (congr 1; omega))
      · skip
        have hq : Hid (nanoS a = half (324000 - (a % 1296000 - 324000))) := hide ((nano_q1 k0 k1).trans (by congr 1; omega))
        have hh := hide (half_hi hs)
        have dq : a % 1296000 / 324000 = 1 := by omega
        have mq : a % 1296000 % 324000 = a % 1296000 - 324000 := by omega
        have v0 : 0 ≤ 324000 - (324000 - (a % 1296000 - 324000)) := by omega
        have v1 : 324000 - (324000 - (a % 1296000 - 324000)) ≤ 162000 := by omega
        have hb := half_bd (r := 324000 - (a % 1296000 - 324000)) (by omega) (by omega)
        rw [hh.out] at hb
        go_enter Try.func162, Try.ntmps162
        go_wp2_with (first
          | (go_at_call 171; refine (i_plain _ h1 h2 _).mono ?_; rintro e w' ⟨rfl, rfl⟩)
          | (go_at_call 175; refine (i_polynomials _ (by omega) (by omega) _).mono ?_; rintro e wn ⟨rfl, hu⟩; obtain ⟨N, J, JF, hn1, hn2, hz, hc, hf⟩ := hu.facts; (try simp only [World.size_alloc, World.size_setCell, World.heap_drewN, World.size_drew] at hn1 hn2); (try simp only [cell_drewI] at hc); (try simp only [frz_drewI] at hf)))
        go_ret
        refine ⟨val_int' ?_, by (repeat' (first | with_reducible exact Up.refl _ | with_reducible assumption | with_reducible refine Up.alloc ?_ _ | with_reducible refine Up.drew ?_ | with_reducible refine Up.drewN ?_ _ | with_reducible refine Up.setCell ?_ (by (try simp only [World.size_alloc, World.size_setCell, World.heap_drewN, World.size_drew]); omega) _ | (with_reducible refine Up.trans ?_ (by with_reducible assumption))))⟩
        rw [hq.out, hh.out]; (try congr 1); (try (congr 1; omega))
    · skip
      by_cases k2 : a % 1296000 < 972000
      · by_cases hs : a % 1296000 - 648000 ≤ 162000
        · skip
          have hq := hide (nano_q2 k1 k2)
          have hh := hide (half_lo hs)
          have dq : a % 1296000 / 324000 = 2 := by omega
          have mq : a % 1296000 % 324000 = a % 1296000 - 648000 := by omega
          have v0 : 0 ≤ a % 1296000 - 648000 := by omega
          have v1 : a % 1296000 - 648000 ≤ 162000 := by omega
          have hb := half_bd (r := a % 1296000 - 648000) (by omega) (by omega)
          rw [hh.out] at hb
          go_enter Try.func162, Try.ntmps162
          go_wp2_with (first
            | (go_at_call 171; refine (i_plain _ h1 h2 _).mono ?_; rintro e w' ⟨rfl, rfl⟩)
            | (go_at_call 175; refine (i_polynomials _ (by omega) (by omega) _).mono ?_; rintro e wn ⟨rfl, hu⟩; obtain ⟨N, J, JF, hn1, hn2, hz, hc, hf⟩ := hu.facts; (try simp only [World.size_alloc, World.size_setCell, World.heap_drewN, World.size_drew] at hn1 hn2); (try simp only [cell_drewI] at hc); (try simp only [frz_drewI] at hf)))
          go_ret
          refine ⟨val_int' ?_, by (repeat' (first | with_reducible exact Up.refl _ | with_reducible assumption | with_reducible refine Up.alloc ?_ _ | with_reducible refine Up.drew ?_ | with_reducible refine Up.drewN ?_ _ | with_reducible refine Up.setCell ?_ (by (try simp only [World.size_alloc, World.size_setCell, World.heap_drewN, World.size_drew]); omega) _ | (with_reducible refine Up.trans ?_ (by with_reducible assumption))))⟩
          rw [hq.out, hh.out]; (try congr 1); (try (congr 1; omega))
        · skip
          have hq := hide (nano_q2 k1 k2)
          have hh := hide (half_hi hs)
          have dq : a % 1296000 / 324000 = 2 := by omega
          have mq : a % 1296000 % 324000 = a % 1296000 - 648000 := by omega
          have v0 : 0 ≤ 324000 - (a % 1296000 - 648000) := by omega
          have v1 : 324000 - (a % 1296000 - 648000) ≤ 162000 := by omega
          have hb := half_bd (r := a % 1296000 - 648000) (by omega) (by omega)
          rw [hh.out] at hb
          go_enter Try.func162, Try.ntmps162
          go_wp2_with (first
            | (go_at_call 171; refine (i_plain _ h1 h2 _).mono ?_; rintro e w' ⟨rfl, rfl⟩)
            | (go_at_call 175; refine (i_polynomials _ (by omega) (by omega) _).mono ?_; rintro e wn ⟨rfl, hu⟩; obtain ⟨N, J, JF, hn1, hn2, hz, hc, hf⟩ := hu.facts; (try simp only [World.size_alloc, World.size_setCell, World.heap_drewN, World.size_drew] at hn1 hn2); (try simp only [cell_drewI] at hc); (try simp only [frz_drewI] at hf)))
          go_ret
          refine ⟨val_int' ?_, by (repeat' (first | with_reducible exact Up.refl _ | with_reducible assumption | with_reducible refine Up.alloc ?_ _ | with_reducible refine Up.drew ?_ | with_reducible refine Up.drewN ?_ _ | with_reducible refine Up.setCell ?_ (by (try simp only [World.size_alloc, World.size_setCell, World.heap_drewN, World.size_drew]); omega) _ | (with_reducible refine Up.trans ?_ (by with_reducible assumption))))⟩
          rw [hq.out, hh.out]; (try congr 1); (try (congr 1; omega))
      · skip
        by_cases hs : 324000 - (a % 1296000 - 972000) ≤ 162000
        · skip
          have hq : Hid (nanoS a = -half (324000 - (a % 1296000 - 972000))) := hide ((nano_q3 k2).trans (by congr 2; omega))
          have hh := hide (half_lo hs)
          have dq : a % 1296000 / 324000 = 3 := by omega
          have mq : a % 1296000 % 324000 = a % 1296000 - 972000 := by omega
          have v0 : 0 ≤ 324000 - (a % 1296000 - 972000) := by omega
          have v1 : 324000 - (a % 1296000 - 972000) ≤ 162000 := by omega
          have hb := half_bd (r := 324000 - (a % 1296000 - 972000)) (by omega) (by omega)
          rw [hh.out] at hb
          go_enter Try.func162, Try.ntmps162
          go_wp2_with (first
            | (go_at_call 171; refine (i_plain _ h1 h2 _).mono ?_; rintro e w' ⟨rfl, rfl⟩)
            | (go_at_call 175; refine (i_polynomials _ (by omega) (by omega) _).mono ?_; rintro e wn ⟨rfl, hu⟩; obtain ⟨N, J, JF, hn1, hn2, hz, hc, hf⟩ := hu.facts; (try simp only [World.size_alloc, World.size_setCell, World.heap_drewN, World.size_drew] at hn1 hn2); (try simp only [cell_drewI] at hc); (try simp only [frz_drewI] at hf)))
          go_ret
          refine ⟨val_int' ?_, by (repeat' (first | with_reducible exact Up.refl _ | with_reducible assumption | with_reducible refine Up.alloc ?_ _ | with_reducible refine Up.drew ?_ | with_reducible refine Up.drewN ?_ _ | with_reducible refine Up.setCell ?_ (by (try simp only [World.size_alloc, World.size_setCell, World.heap_drewN, World.size_drew]); omega) _ | (with_reducible refine Up.trans ?_ (by with_reducible assumption))))⟩
          rw [hq.out, hh.out]; (try congr 1); (try (congr 1; omega))
        · skip
          have hq : Hid (nanoS a = -half (324000 - (a % 1296000 - 972000))) := hide ((nano_q3 k2).trans (by congr 2; omega))
          have hh := hide (half_hi hs)
          have dq : a % 1296000 / 324000 = 3 := by omega
          have mq : a % 1296000 % 324000 = a % 1296000 - 972000 := by omega
          have v0 : 0 ≤ 324000 - (324000 - (a % 1296000 - 972000)) := by omega
          have v1 : 324000 - (324000 - (a % 1296000 - 972000)) ≤ 162000 := by omega
          have hb := half_bd (r := 324000 - (a % 1296000 - 972000)) (by omega) (by omega)
          rw [hh.out] at hb
          go_enter Try.func162, Try.ntmps162
          go_wp2_with (first
            | (go_at_call 171; refine (i_plain _ h1 h2 _).mono ?_; rintro e w' ⟨rfl, rfl⟩)
            | (go_at_call 175; refine (i_polynomials _ (by omega) (by omega) _).mono ?_; rintro e wn ⟨rfl, hu⟩; obtain ⟨N, J, JF, hn1, hn2, hz, hc, hf⟩ := hu.facts; (try simp only [World.size_alloc, World.size_setCell, World.heap_drewN, World.size_drew] at hn1 hn2); (try simp only [cell_drewI] at hc); (try simp only [frz_drewI] at hf)))
          go_ret
          refine ⟨val_int' ?_, by (repeat' (first | with_reducible exact Up.refl _ | with_reducible assumption | with_reducible refine Up.alloc ?_ _ | with_reducible refine Up.drew ?_ | with_reducible refine Up.drewN ?_ _ | with_reducible refine Up.setCell ?_ (by (try simp only [World.size_alloc, World.size_setCell, World.heap_drewN, World.size_drew]); omega) _ | (with_reducible refine Up.trans ?_ (by with_reducible assumption))))⟩
          rw [hq.out, hh.out]; (try congr 1); (try (congr 1; omega))
set_option maxHeartbeats 2000000 in
theorem s_l04Sine (a : Int) (h1 : -4000000000000000000 ≤ a) (h2 : a ≤ 4000000000000000000) (w : World) :
    Calls Try.prog 161 #[.int .i64 a] w fun e w' => e = .returned (.int .i64 (nanoS a)) ∧ Up w w' := by
  have b0 : 0 ≤ a % 1296000 := by omega
  have b1 : a % 1296000 < 1296000 := by omega
  by_cases k0 : a % 1296000 < 324000
  · by_cases hs : a % 1296000 ≤ 162000
    · skip
      have hq := hide (nano_q0 k0)
      have hh := hide (half_lo hs)
      have dq : a % 1296000 / 324000 = 0 := by omega
      have mq : a % 1296000 % 324000 = a % 1296000 := by omega
      have v0 : 0 ≤ a % 1296000 := by omega
      have v1 : a % 1296000 ≤ 162000 := by omega
      have hb := half_bd (r := a % 1296000) (by omega) (by omega)
      rw [hh.out] at hb
      go_enter Try.func161, Try.ntmps161
      go_wp2_with (first
        | (go_at_call 163; refine (s_l03Plain _ h1 h2 _).mono ?_; rintro e w' ⟨rfl, rfl⟩)
        | (go_at_call 173; refine (s_l04P _ (by omega) (by omega) _).mono ?_; rintro e wn ⟨rfl, hu⟩; obtain ⟨N, J, JF, hn1, hn2, hz, hc, hf⟩ := hu.facts; (try simp only [World.size_alloc, World.size_setCell, World.heap_drewN, World.size_drew] at hn1 hn2); (try simp only [cell_drewI] at hc); (try simp only [frz_drewI] at hf))
        | (go_at_call 174; refine (s_l04Q _ (by omega) (by omega) _).mono ?_; rintro e wn ⟨rfl, hu⟩; obtain ⟨N, J, JF, hn1, hn2, hz, hc, hf⟩ := hu.facts; (try simp only [World.size_alloc, World.size_setCell, World.heap_drewN, World.size_drew] at hn1 hn2); (try simp only [cell_drewI] at hc); (try simp only [frz_drewI] at hf)))
      go_ret
      refine ⟨val_int' ?_, by (repeat' (first | with_reducible exact Up.refl _ | with_reducible assumption | with_reducible refine Up.alloc ?_ _ | with_reducible refine Up.drew ?_ | with_reducible refine Up.drewN ?_ _ | with_reducible refine Up.setCell ?_ (by (try simp only [World.size_alloc, World.size_setCell, World.heap_drewN, World.size_drew]); omega) _ | (with_reducible refine Up.trans ?_ (by with_reducible assumption))))⟩
      rw [hq.out, hh.out]; (try congr 1); (try (congr 1; omega))
    · skip
      have hq := hide (nano_q0 k0)
      have hh := hide (half_hi hs)
      have dq : a % 1296000 / 324000 = 0 := by omega
      have mq : a % 1296000 % 324000 = a % 1296000 := by omega
      have v0 : 0 ≤ 324000 - (a % 1296000) := by omega
      have v1 : 324000 - (a % 1296000) ≤ 162000 := by omega
      have hb := half_bd (r := a % 1296000) (by omega) (by omega)
      rw [hh.out] at hb
      go_enter Try.func161, Try.ntmps161
      go_wp2_with (first
        | (go_at_call 163; refine (s_l03Plain _ h1 h2 _).mono ?_; rintro e w' ⟨rfl, rfl⟩)
        | (go_at_call 173; refine (s_l04P _ (by omega) (by omega) _).mono ?_; rintro e wn ⟨rfl, hu⟩; obtain ⟨N, J, JF, hn1, hn2, hz, hc, hf⟩ := hu.facts; (try simp only [World.size_alloc, World.size_setCell, World.heap_drewN, World.size_drew] at hn1 hn2); (try simp only [cell_drewI] at hc); (try simp only [frz_drewI] at hf))
        | (go_at_call 174; refine (s_l04Q _ (by omega) (by omega) _).mono ?_; rintro e wn ⟨rfl, hu⟩; obtain ⟨N, J, JF, hn1, hn2, hz, hc, hf⟩ := hu.facts; (try simp only [World.size_alloc, World.size_setCell, World.heap_drewN, World.size_drew] at hn1 hn2); (try simp only [cell_drewI] at hc); (try simp only [frz_drewI] at hf)))
      go_ret
      refine ⟨val_int' ?_, by (repeat' (first | with_reducible exact Up.refl _ | with_reducible assumption | with_reducible refine Up.alloc ?_ _ | with_reducible refine Up.drew ?_ | with_reducible refine Up.drewN ?_ _ | with_reducible refine Up.setCell ?_ (by (try simp only [World.size_alloc, World.size_setCell, World.heap_drewN, World.size_drew]); omega) _ | (with_reducible refine Up.trans ?_ (by with_reducible assumption))))⟩
      rw [hq.out, hh.out]; (try congr 1); (try (congr 1; omega))
  · skip
    by_cases k1 : a % 1296000 < 648000
    · by_cases hs : 324000 - (a % 1296000 - 324000) ≤ 162000
      · skip
        have hq : Hid (nanoS a = half (324000 - (a % 1296000 - 324000))) := hide ((nano_q1 k0 k1).trans (by congr 1; omega))
        have hh := hide (half_lo hs)
        have dq : a % 1296000 / 324000 = 1 := by omega
        have mq : a % 1296000 % 324000 = a % 1296000 - 324000 := by omega
        have v0 : 0 ≤ 324000 - (a % 1296000 - 324000) := by omega
        have v1 : 324000 - (a % 1296000 - 324000) ≤ 162000 := by omega
        have hb := half_bd (r := 324000 - (a % 1296000 - 324000)) (by omega) (by omega)
        rw [hh.out] at hb
        go_enter Try.func161, Try.ntmps161
        go_wp2_with (first
          | (go_at_call 163; refine (s_l03Plain _ h1 h2 _).mono ?_; rintro e w' ⟨rfl, rfl⟩)
          | (go_at_call 173; refine (s_l04P _ (by omega) (by omega) _).mono ?_; rintro e wn ⟨rfl, hu⟩; obtain ⟨N, J, JF, hn1, hn2, hz, hc, hf⟩ := hu.facts; (try simp only [World.size_alloc, World.size_setCell, World.heap_drewN, World.size_drew] at hn1 hn2); (try simp only [cell_drewI] at hc); (try simp only [frz_drewI] at hf))
          | (go_at_call 174; refine (s_l04Q _ (by omega) (by omega) _).mono ?_; rintro e wn ⟨rfl, hu⟩; obtain ⟨N, J, JF, hn1, hn2, hz, hc, hf⟩ := hu.facts; (try simp only [World.size_alloc, World.size_setCell, World.heap_drewN, World.size_drew] at hn1 hn2); (try simp only [cell_drewI] at hc); (try simp only [frz_drewI] at hf)))
        go_ret
        refine ⟨val_int' ?_, by (repeat' (first | with_reducible exact Up.refl _ | with_reducible assumption | with_reducible refine Up.alloc ?_ _ | with_reducible refine Up.drew ?_ | with_reducible refine Up.drewN ?_ _ | with_reducible refine Up.setCell ?_ (by (try simp only [World.size_alloc, World.size_setCell, World.heap_drewN, World.size_drew]); omega) _ | (with_reducible refine Up.trans ?_ (by with_reducible assumption))))⟩
        rw [hq.out, hh.out]; (try congr 1); (try (congr 1; omega))
      · skip
        have hq : Hid (nanoS a = half (324000 - (a % 1296000 - 324000))) := hide ((nano_q1 k0 k1).trans (by congr 1; omega))
        have hh := hide (half_hi hs)
        have dq : a % 1296000 / 324000 = 1 := by omega
        have mq : a % 1296000 % 324000 = a % 1296000 - 324000 := by omega
        have v0 : 0 ≤ 324000 - (324000 - (a % 1296000 - 324000)) := by omega
        have v1 : 324000 - (324000 - (a % 1296000 - 324000)) ≤ 162000 := by omega
        have hb := half_bd (r := 324000 - (a % 1296000 - 324000)) (by omega) (by omega)
        rw [hh.out] at hb
        go_enter Try.func161, Try.ntmps161
        go_wp2_with (first
          | (go_at_call 163; refine (s_l03Plain _ h1 h2 _).mono ?_; rintro e w' ⟨rfl, rfl⟩)
          | (go_at_call 173; refine (s_l04P _ (by omega) (by omega) _).mono ?_; rintro e wn ⟨rfl, hu⟩; obtain ⟨N, J, JF, hn1, hn2, hz, hc, hf⟩ := hu.facts; (try simp only [World.size_alloc, World.size_setCell, World.heap_drewN, World.size_drew] at hn1 hn2); (try simp only [cell_drewI] at hc); (try simp only [frz_drewI] at hf))
          | (go_at_call 174; refine (s_l04Q _ (by omega) (by omega) _).mono ?_; rintro e wn ⟨rfl, hu⟩; obtain ⟨N, J, JF, hn1, hn2, hz, hc, hf⟩ := hu.facts; (try simp only [World.size_alloc, World.size_setCell, World.heap_drewN, World.size_drew] at hn1 hn2); (try simp only [cell_drewI] at hc); (try simp only [frz_drewI] at hf)))
        go_ret
        refine ⟨val_int' ?_, by (repeat' (first | with_reducible exact Up.refl _ | with_reducible assumption | with_reducible refine Up.alloc ?_ _ | with_reducible refine Up.drew ?_ | with_reducible refine Up.drewN ?_ _ | with_reducible refine Up.setCell ?_ (by (try simp only [World.size_alloc, World.size_setCell, World.heap_drewN, World.size_drew]); omega) _ | (with_reducible refine Up.trans ?_ (by with_reducible assumption))))⟩
        rw [hq.out, hh.out]; (try congr 1); (try (congr 1; omega))
    · skip
      by_cases k2 : a % 1296000 < 972000
      · by_cases hs : a % 1296000 - 648000 ≤ 162000
        · skip
          have hq := hide (nano_q2 k1 k2)
          have hh := hide (half_lo hs)
          have dq : a % 1296000 / 324000 = 2 := by omega
          have mq : a % 1296000 % 324000 = a % 1296000 - 648000 := by omega
          have v0 : 0 ≤ a % 1296000 - 648000 := by omega
          have v1 : a % 1296000 - 648000 ≤ 162000 := by omega
          have hb := half_bd (r := a % 1296000 - 648000) (by omega) (by omega)
          rw [hh.out] at hb
          go_enter Try.func161, Try.ntmps161
          go_wp2_with (first
            | (go_at_call 163; refine (s_l03Plain _ h1 h2 _).mono ?_; rintro e w' ⟨rfl, rfl⟩)
            | (go_at_call 173; refine (s_l04P _ (by omega) (by omega) _).mono ?_; rintro e wn ⟨rfl, hu⟩; obtain ⟨N, J, JF, hn1, hn2, hz, hc, hf⟩ := hu.facts; (try simp only [World.size_alloc, World.size_setCell, World.heap_drewN, World.size_drew] at hn1 hn2); (try simp only [cell_drewI] at hc); (try simp only [frz_drewI] at hf))
            | (go_at_call 174; refine (s_l04Q _ (by omega) (by omega) _).mono ?_; rintro e wn ⟨rfl, hu⟩; obtain ⟨N, J, JF, hn1, hn2, hz, hc, hf⟩ := hu.facts; (try simp only [World.size_alloc, World.size_setCell, World.heap_drewN, World.size_drew] at hn1 hn2); (try simp only [cell_drewI] at hc); (try simp only [frz_drewI] at hf)))
          go_ret
          refine ⟨val_int' ?_, by (repeat' (first | with_reducible exact Up.refl _ | with_reducible assumption | with_reducible refine Up.alloc ?_ _ | with_reducible refine Up.drew ?_ | with_reducible refine Up.drewN ?_ _ | with_reducible refine Up.setCell ?_ (by (try simp only [World.size_alloc, World.size_setCell, World.heap_drewN, World.size_drew]); omega) _ | (with_reducible refine Up.trans ?_ (by with_reducible assumption))))⟩
          rw [hq.out, hh.out]; (try congr 1); (try (congr 1; omega))
        · skip
          have hq := hide (nano_q2 k1 k2)
          have hh := hide (half_hi hs)
          have dq : a % 1296000 / 324000 = 2 := by omega
          have mq : a % 1296000 % 324000 = a % 1296000 - 648000 := by omega
          have v0 : 0 ≤ 324000 - (a % 1296000 - 648000) := by omega
          have v1 : 324000 - (a % 1296000 - 648000) ≤ 162000 := by omega
          have hb := half_bd (r := a % 1296000 - 648000) (by omega) (by omega)
          rw [hh.out] at hb
          go_enter Try.func161, Try.ntmps161
          go_wp2_with (first
            | (go_at_call 163; refine (s_l03Plain _ h1 h2 _).mono ?_; rintro e w' ⟨rfl, rfl⟩)
            | (go_at_call 173; refine (s_l04P _ (by omega) (by omega) _).mono ?_; rintro e wn ⟨rfl, hu⟩; obtain ⟨N, J, JF, hn1, hn2, hz, hc, hf⟩ := hu.facts; (try simp only [World.size_alloc, World.size_setCell, World.heap_drewN, World.size_drew] at hn1 hn2); (try simp only [cell_drewI] at hc); (try simp only [frz_drewI] at hf))
            | (go_at_call 174; refine (s_l04Q _ (by omega) (by omega) _).mono ?_; rintro e wn ⟨rfl, hu⟩; obtain ⟨N, J, JF, hn1, hn2, hz, hc, hf⟩ := hu.facts; (try simp only [World.size_alloc, World.size_setCell, World.heap_drewN, World.size_drew] at hn1 hn2); (try simp only [cell_drewI] at hc); (try simp only [frz_drewI] at hf)))
          go_ret
          refine ⟨val_int' ?_, by (repeat' (first | with_reducible exact Up.refl _ | with_reducible assumption | with_reducible refine Up.alloc ?_ _ | with_reducible refine Up.drew ?_ | with_reducible refine Up.drewN ?_ _ | with_reducible refine Up.setCell ?_ (by (try simp only [World.size_alloc, World.size_setCell, World.heap_drewN, World.size_drew]); omega) _ | (with_reducible refine Up.trans ?_ (by with_reducible assumption))))⟩
          rw [hq.out, hh.out]; (try congr 1); (try (congr 1; omega))
      · skip
        by_cases hs : 324000 - (a % 1296000 - 972000) ≤ 162000
        · skip
          have hq : Hid (nanoS a = -half (324000 - (a % 1296000 - 972000))) := hide ((nano_q3 k2).trans (by congr 2; omega))
          have hh := hide (half_lo hs)
          have dq : a % 1296000 / 324000 = 3 := by omega
          have mq : a % 1296000 % 324000 = a % 1296000 - 972000 := by omega
          have v0 : 0 ≤ 324000 - (a % 1296000 - 972000) := by omega
          have v1 : 324000 - (a % 1296000 - 972000) ≤ 162000 := by omega
          have hb := half_bd (r := 324000 - (a % 1296000 - 972000)) (by omega) (by omega)
          rw [hh.out] at hb
          go_enter Try.func161, Try.ntmps161
          go_wp2_with (first
            | (go_at_call 163; refine (s_l03Plain _ h1 h2 _).mono ?_; rintro e w' ⟨rfl, rfl⟩)
            | (go_at_call 173; refine (s_l04P _ (by omega) (by omega) _).mono ?_; rintro e wn ⟨rfl, hu⟩; obtain ⟨N, J, JF, hn1, hn2, hz, hc, hf⟩ := hu.facts; (try simp only [World.size_alloc, World.size_setCell, World.heap_drewN, World.size_drew] at hn1 hn2); (try simp only [cell_drewI] at hc); (try simp only [frz_drewI] at hf))
            | (go_at_call 174; refine (s_l04Q _ (by omega) (by omega) _).mono ?_; rintro e wn ⟨rfl, hu⟩; obtain ⟨N, J, JF, hn1, hn2, hz, hc, hf⟩ := hu.facts; (try simp only [World.size_alloc, World.size_setCell, World.heap_drewN, World.size_drew] at hn1 hn2); (try simp only [cell_drewI] at hc); (try simp only [frz_drewI] at hf)))
          go_ret
          refine ⟨val_int' ?_, by (repeat' (first | with_reducible exact Up.refl _ | with_reducible assumption | with_reducible refine Up.alloc ?_ _ | with_reducible refine Up.drew ?_ | with_reducible refine Up.drewN ?_ _ | with_reducible refine Up.setCell ?_ (by (try simp only [World.size_alloc, World.size_setCell, World.heap_drewN, World.size_drew]); omega) _ | (with_reducible refine Up.trans ?_ (by with_reducible assumption))))⟩
          rw [hq.out, hh.out]; (try congr 1); (try (congr 1; omega))
        · skip
          have hq : Hid (nanoS a = -half (324000 - (a % 1296000 - 972000))) := hide ((nano_q3 k2).trans (by congr 2; omega))
          have hh := hide (half_hi hs)
          have dq : a % 1296000 / 324000 = 3 := by omega
          have mq : a % 1296000 % 324000 = a % 1296000 - 972000 := by omega
          have v0 : 0 ≤ 324000 - (324000 - (a % 1296000 - 972000)) := by omega
          have v1 : 324000 - (324000 - (a % 1296000 - 972000)) ≤ 162000 := by omega
          have hb := half_bd (r := 324000 - (a % 1296000 - 972000)) (by omega) (by omega)
          rw [hh.out] at hb
          go_enter Try.func161, Try.ntmps161
          go_wp2_with (first
            | (go_at_call 163; refine (s_l03Plain _ h1 h2 _).mono ?_; rintro e w' ⟨rfl, rfl⟩)
            | (go_at_call 173; refine (s_l04P _ (by omega) (by omega) _).mono ?_; rintro e wn ⟨rfl, hu⟩; obtain ⟨N, J, JF, hn1, hn2, hz, hc, hf⟩ := hu.facts; (try simp only [World.size_alloc, World.size_setCell, World.heap_drewN, World.size_drew] at hn1 hn2); (try simp only [cell_drewI] at hc); (try simp only [frz_drewI] at hf))
            | (go_at_call 174; refine (s_l04Q _ (by omega) (by omega) _).mono ?_; rintro e wn ⟨rfl, hu⟩; obtain ⟨N, J, JF, hn1, hn2, hz, hc, hf⟩ := hu.facts; (try simp only [World.size_alloc, World.size_setCell, World.heap_drewN, World.size_drew] at hn1 hn2); (try simp only [cell_drewI] at hc); (try simp only [frz_drewI] at hf)))
          go_ret
          refine ⟨val_int' ?_, by (repeat' (first | with_reducible exact Up.refl _ | with_reducible assumption | with_reducible refine Up.alloc ?_ _ | with_reducible refine Up.drew ?_ | with_reducible refine Up.drewN ?_ _ | with_reducible refine Up.setCell ?_ (by (try simp only [World.size_alloc, World.size_setCell, World.heap_drewN, World.size_drew]); omega) _ | (with_reducible refine Up.trans ?_ (by with_reducible assumption))))⟩
          rw [hq.out, hh.out]; (try congr 1); (try (congr 1; omega))
theorem s_l04Cosine (a : Int) (h1 : -3000000000000000000 ≤ a) (h2 : a ≤ 3000000000000000000) (w : World) :
    Calls Try.prog 160 #[.int .i64 a] w fun e w' => e = .returned (.int .i64 (nanoS (a + 324000))) ∧ Up w w' := by
  go_enter Try.func160, Try.ntmps160
  go_wp2_with (first
    | (go_at_call 161; refine (s_l04Sine _ (by omega) (by omega) _).mono ?_; rintro e wn ⟨rfl, hu⟩; obtain ⟨N, J, JF, hn1, hn2, hz, hc, hf⟩ := hu.facts; (try simp only [World.size_alloc, World.size_setCell, World.heap_drewN, World.size_drew] at hn1 hn2); (try simp only [cell_drewI] at hc); (try simp only [frz_drewI] at hf)))
  go_ret
  exact ⟨rfl, by (repeat' (first | with_reducible exact Up.refl _ | with_reducible assumption | with_reducible refine Up.alloc ?_ _ | with_reducible refine Up.drew ?_ | with_reducible refine Up.drewN ?_ _ | with_reducible refine Up.setCell ?_ (by (try simp only [World.size_alloc, World.size_setCell, World.heap_drewN, World.size_drew]); omega) _ | (with_reducible refine Up.trans ?_ (by with_reducible assumption))))⟩
theorem i_sine (a : Int) (h1 : -3000000000000000000 ≤ a) (h2 : a ≤ 3000000000000000000) (w : World) :
    Calls Try.prog 112 #[.int .i64 a] w fun e w' => e = .returned (.agg #[.int .i64 (sinLo a), .int .i64 (sinHi a)]) ∧ Up w w' := by
  have hb := nano_bd a
  go_enter Try.func112, Try.ntmps112
  go_wp2_with (first
    | (go_at_call 162; refine (i_nanoSine _ (by omega) (by omega) _).mono ?_; rintro e wn ⟨rfl, hu⟩; obtain ⟨N, J, JF, hn1, hn2, hz, hc, hf⟩ := hu.facts; (try simp only [World.size_alloc, World.size_setCell, World.heap_drewN, World.size_drew] at hn1 hn2); (try simp only [cell_drewI] at hc); (try simp only [frz_drewI] at hf))
    | (go_at_call 99; refine (i_floorP _ _ (by omega) (by omega) (by omega) (by omega) _).mono ?_; rintro e w' ⟨rfl, rfl⟩)
    | (go_at_call 100; refine (i_ceil _ _ (by omega) (by omega) (by omega) (by omega) (by omega) _).mono ?_; rintro e w' ⟨rfl, rfl⟩))
  refine ret_agg2 Try.results112 rfl Try.underlying26 rfl (by kernel_rfl) rfl (by simp [isSome_setCell, cell_setI, cell_drewI, cell_allocI, ↓IntWalk.iteOmega, *]) (by simp [isSome_setCell, cell_setI, cell_drewI, cell_allocI, ↓IntWalk.iteOmega, *]) ⟨rfl, ?_⟩
  (repeat' (first | with_reducible exact Up.refl _ | with_reducible assumption | with_reducible refine Up.alloc ?_ _ | with_reducible refine Up.drew ?_ | with_reducible refine Up.drewN ?_ _ | with_reducible refine Up.setCell ?_ (by (try simp only [World.size_alloc, World.size_setCell, World.heap_drewN, World.size_drew]); omega) _ | (with_reducible refine Up.trans ?_ (by with_reducible assumption))))
theorem i_cosine (a : Int) (h1 : -2000000000000000000 ≤ a) (h2 : a ≤ 2000000000000000000) (w : World) :
    Calls Try.prog 113 #[.int .i64 a] w fun e w' => e = .returned (.agg #[.int .i64 (sinLo (a + 324000)), .int .i64 (sinHi (a + 324000))]) ∧ Up w w' := by
  go_enter Try.func113, Try.ntmps113
  go_wp2_with (first
    | (go_at_call 112; refine (i_sine _ (by omega) (by omega) _).mono ?_; rintro e wn ⟨rfl, hu⟩; obtain ⟨N, J, JF, hn1, hn2, hz, hc, hf⟩ := hu.facts; (try simp only [World.size_alloc, World.size_setCell, World.heap_drewN, World.size_drew] at hn1 hn2); (try simp only [cell_drewI] at hc); (try simp only [frz_drewI] at hf)))
  refine ret_agg2 Try.results113 rfl Try.underlying26 rfl (by kernel_rfl) rfl (by simp [isSome_setCell, cell_setI, cell_drewI, cell_allocI, ↓IntWalk.iteOmega, *]) (by simp [isSome_setCell, cell_setI, cell_drewI, cell_allocI, ↓IntWalk.iteOmega, *]) ⟨rfl, ?_⟩
  (repeat' (first | with_reducible exact Up.refl _ | with_reducible assumption | with_reducible refine Up.alloc ?_ _ | with_reducible refine Up.drew ?_ | with_reducible refine Up.drewN ?_ _ | with_reducible refine Up.setCell ?_ (by (try simp only [World.size_alloc, World.size_setCell, World.heap_drewN, World.size_drew]); omega) _ | (with_reducible refine Up.trans ?_ (by with_reducible assumption))))
theorem s_l04Interval (n : Int) (h1 : -3000000000000000000 ≤ n) (h2 : n ≤ 3000000000000000000) (w : World) :
    Calls Try.prog 159 #[.int .i64 n] w fun e w' => e = .returned (.agg #[.int .i64 ((n - 60) / 1000), .int .i64 (ce (n + 60) 1000)]) ∧ Up w w' := by
  go_enter Try.func159, Try.ntmps159
  go_wp2_with (first
    | (go_at_call 129; refine (s_l01FloorP _ _ (by omega) (by omega) (by omega) (by omega) _).mono ?_; rintro e w' ⟨rfl, rfl⟩)
    | (go_at_call 157; refine (s_l01Ceil _ _ (by omega) (by omega) (by omega) (by omega) (by omega) _).mono ?_; rintro e w' ⟨rfl, rfl⟩))
  simp [bodyPost, results, go_sem, Try.results159]
  (repeat' (first | with_reducible exact Up.refl _ | with_reducible assumption | with_reducible refine Up.alloc ?_ _ | with_reducible refine Up.drew ?_ | with_reducible refine Up.drewN ?_ _ | with_reducible refine Up.setCell ?_ (by (try simp only [World.size_alloc, World.size_setCell, World.heap_drewN, World.size_drew]); omega) _ | (with_reducible refine Up.trans ?_ (by with_reducible assumption))))
theorem s_l04Sin (a : Int) (h1 : -3000000000000000000 ≤ a) (h2 : a ≤ 3000000000000000000) (w : World) :
    Calls Try.prog 111 #[.int .i64 a] w fun e w' => e = .returned (.agg #[.int .i64 (sinLo a), .int .i64 (sinHi a)]) ∧ Up w w' := by
  have hb := nano_bd a
  go_enter Try.func111, Try.ntmps111
  go_wp2_with (first
    | (go_at_call 161; refine (s_l04Sine _ (by omega) (by omega) _).mono ?_; rintro e wn ⟨rfl, hu⟩; obtain ⟨N, J, JF, hn1, hn2, hz, hc, hf⟩ := hu.facts; (try simp only [World.size_alloc, World.size_setCell, World.heap_drewN, World.size_drew] at hn1 hn2); (try simp only [cell_drewI] at hc); (try simp only [frz_drewI] at hf))
    | (go_at_call 159; refine (s_l04Interval _ (by omega) (by omega) _).mono ?_; rintro e wn ⟨rfl, hu⟩; obtain ⟨N, J, JF, hn1, hn2, hz, hc, hf⟩ := hu.facts; (try simp only [World.size_alloc, World.size_setCell, World.heap_drewN, World.size_drew] at hn1 hn2); (try simp only [cell_drewI] at hc); (try simp only [frz_drewI] at hf)))
  refine ret_agg2 Try.results111 rfl Try.underlying26 rfl (by kernel_rfl) rfl (by simp [isSome_setCell, cell_setI, cell_drewI, cell_allocI, ↓IntWalk.iteOmega, *]) (by simp [isSome_setCell, cell_setI, cell_drewI, cell_allocI, ↓IntWalk.iteOmega, *]) ⟨rfl, ?_⟩
  (repeat' (first | with_reducible exact Up.refl _ | with_reducible assumption | with_reducible refine Up.alloc ?_ _ | with_reducible refine Up.drew ?_ | with_reducible refine Up.drewN ?_ _ | with_reducible refine Up.setCell ?_ (by (try simp only [World.size_alloc, World.size_setCell, World.heap_drewN, World.size_drew]); omega) _ | (with_reducible refine Up.trans ?_ (by with_reducible assumption))))
theorem s_l04Cos (a : Int) (h1 : -3000000000000000000 ≤ a) (h2 : a ≤ 3000000000000000000) (w : World) :
    Calls Try.prog 110 #[.int .i64 a] w fun e w' => e = .returned (.agg #[.int .i64 (sinLo (a + 324000)), .int .i64 (sinHi (a + 324000))]) ∧ Up w w' := by
  have hb := nano_bd (a + 324000)
  go_enter Try.func110, Try.ntmps110
  go_wp2_with (first
    | (go_at_call 160; refine (s_l04Cosine _ (by omega) (by omega) _).mono ?_; rintro e wn ⟨rfl, hu⟩; obtain ⟨N, J, JF, hn1, hn2, hz, hc, hf⟩ := hu.facts; (try simp only [World.size_alloc, World.size_setCell, World.heap_drewN, World.size_drew] at hn1 hn2); (try simp only [cell_drewI] at hc); (try simp only [frz_drewI] at hf))
    | (go_at_call 159; refine (s_l04Interval _ (by omega) (by omega) _).mono ?_; rintro e wn ⟨rfl, hu⟩; obtain ⟨N, J, JF, hn1, hn2, hz, hc, hf⟩ := hu.facts; (try simp only [World.size_alloc, World.size_setCell, World.heap_drewN, World.size_drew] at hn1 hn2); (try simp only [cell_drewI] at hc); (try simp only [frz_drewI] at hf)))
  refine ret_agg2 Try.results110 rfl Try.underlying26 rfl (by kernel_rfl) rfl (by simp [isSome_setCell, cell_setI, cell_drewI, cell_allocI, ↓IntWalk.iteOmega, *]) (by simp [isSome_setCell, cell_setI, cell_drewI, cell_allocI, ↓IntWalk.iteOmega, *]) ⟨rfl, ?_⟩
  (repeat' (first | with_reducible exact Up.refl _ | with_reducible assumption | with_reducible refine Up.alloc ?_ _ | with_reducible refine Up.drew ?_ | with_reducible refine Up.drewN ?_ _ | with_reducible refine Up.setCell ?_ (by (try simp only [World.size_alloc, World.size_setCell, World.heap_drewN, World.size_drew]); omega) _ | (with_reducible refine Up.trans ?_ (by with_reducible assumption))))
set_option maxHeartbeats 1000000 in
theorem i_TangentOf (a : Int) (w : World) :
    Calls Try.prog 40 #[.int .i64 a] w fun e w' => e = .returned (.tuple #[.agg #[.int .i64 (tanR a).1, .int .i64 (tanR a).2.1], .int .i64 (tanR a).2.2]) ∧ Up w w' := by
  by_cases h : inB a (-1000000000000) 1000000000000 = true
  · have hv := hide (show tanR a = divR (sinLo a) (sinHi a) (sinLo (a + 324000)) (sinHi (a + 324000)) by unfold tanR; rw [if_pos h])
    obtain ⟨p1, p2⟩ := inB_iff.1 h
    go_enter Try.func40, Try.ntmps40
    go_wp2_with (first
      | (go_at_call 106; refine (i_isValue _ _).mono ?_; rintro e w' ⟨rfl, rfl⟩)
      | (go_at_call 112; refine (i_sine _ (by omega) (by omega) _).mono ?_; rintro e wn ⟨rfl, hu⟩; obtain ⟨N, J, JF, hn1, hn2, hz, hc, hf⟩ := hu.facts; (try simp only [World.size_alloc, World.size_setCell, World.heap_drewN, World.size_drew] at hn1 hn2); (try simp only [cell_drewI] at hc); (try simp only [frz_drewI] at hf))
      | (go_at_call 113; refine (i_cosine _ (by omega) (by omega) _).mono ?_; rintro e wn ⟨rfl, hu⟩; obtain ⟨N, J, JF, hn1, hn2, hz, hc, hf⟩ := hu.facts; (try simp only [World.size_alloc, World.size_setCell, World.heap_drewN, World.size_drew] at hn1 hn2); (try simp only [cell_drewI] at hc); (try simp only [frz_drewI] at hf))
      | (go_at_call 21; refine (i_DivideIntervals _ _ _ _ _).mono ?_; rintro e wn ⟨rfl, hu⟩; obtain ⟨N, J, JF, hn1, hn2, hz, hc, hf⟩ := hu.facts; (try simp only [World.size_alloc, World.size_setCell, World.heap_drewN, World.size_drew] at hn1 hn2); (try simp only [cell_drewI] at hc); (try simp only [frz_drewI] at hf)))
    all_goals (first | (refine ret_agg2t Try.results40 rfl Try.underlying26 rfl (by kernel_rfl) rfl (by simp [isSome_setCell, cell_setI, cell_drewI, cell_allocI, ↓IntWalk.iteOmega, *]) (by simp [isSome_setCell, cell_setI, cell_drewI, cell_allocI, ↓IntWalk.iteOmega, *]) ⟨(by rw [hv.out] <;> rfl), ?_⟩; (repeat' (first | with_reducible exact Up.refl _ | with_reducible assumption | with_reducible refine Up.alloc ?_ _ | with_reducible refine Up.drew ?_ | with_reducible refine Up.drewN ?_ _ | with_reducible refine Up.setCell ?_ (by (try simp only [World.size_alloc, World.size_setCell, World.heap_drewN, World.size_drew]); omega) _ | (with_reducible refine Up.trans ?_ (by with_reducible assumption)))); done) | (simp [bodyPost, results, go_sem, Try.results40]; refine ⟨(by simp [hv.out]), ?_⟩; (repeat' (first | with_reducible exact Up.refl _ | with_reducible assumption | with_reducible refine Up.alloc ?_ _ | with_reducible refine Up.drew ?_ | with_reducible refine Up.drewN ?_ _ | with_reducible refine Up.setCell ?_ (by (try simp only [World.size_alloc, World.size_setCell, World.heap_drewN, World.size_drew]); omega) _ | (with_reducible refine Up.trans ?_ (by with_reducible assumption)))); done) | skip)
  · have hv := hide (show tanR a = (0, 0, 2) by unfold tanR; rw [if_neg h])
    have h : inB a (-1000000000000) 1000000000000 = false := by simpa using h
    go_enter Try.func40, Try.ntmps40
    go_wp2_with (go_at_call 106; refine (i_isValue _ _).mono ?_; rintro e w' ⟨rfl, rfl⟩)
    all_goals (first | (refine ret_agg2t Try.results40 rfl Try.underlying26 rfl (by kernel_rfl) rfl (by simp [isSome_setCell, cell_setI, cell_drewI, cell_allocI, ↓IntWalk.iteOmega, *]) (by simp [isSome_setCell, cell_setI, cell_drewI, cell_allocI, ↓IntWalk.iteOmega, *]) ⟨(by rw [hv.out] <;> rfl), ?_⟩; (repeat' (first | with_reducible exact Up.refl _ | with_reducible assumption | with_reducible refine Up.alloc ?_ _ | with_reducible refine Up.drew ?_ | with_reducible refine Up.drewN ?_ _ | with_reducible refine Up.setCell ?_ (by (try simp only [World.size_alloc, World.size_setCell, World.heap_drewN, World.size_drew]); omega) _ | (with_reducible refine Up.trans ?_ (by with_reducible assumption)))); done) | (simp [bodyPost, results, go_sem, Try.results40]; refine ⟨(by simp [hv.out]), ?_⟩; (repeat' (first | with_reducible exact Up.refl _ | with_reducible assumption | with_reducible refine Up.alloc ?_ _ | with_reducible refine Up.drew ?_ | with_reducible refine Up.drewN ?_ _ | with_reducible refine Up.setCell ?_ (by (try simp only [World.size_alloc, World.size_setCell, World.heap_drewN, World.size_drew]); omega) _ | (with_reducible refine Up.trans ?_ (by with_reducible assumption)))); done) | skip)
set_option maxHeartbeats 1000000 in
theorem s_TangentOf (a : Int) (w : World) :
    Calls Try.prog 39 #[.int .i64 a] w fun e w' => e = .returned (.tuple #[.agg #[.int .i64 (tanR a).1, .int .i64 (tanR a).2.1], .int .i64 (tanR a).2.2]) ∧ Up w w' := by
  by_cases h : inB a (-1000000000000) 1000000000000 = true
  · have h0 := hide (show tanR a = divR (sinLo a) (sinHi a) (sinLo (a + 324000)) (sinHi (a + 324000)) by unfold tanR; rw [if_pos h])
    obtain ⟨p1, p2⟩ := inB_iff.1 h
    have s1 := sin_bd a
    have s2 := sin_bd (a + 324000)
    have s3 := sin_far (a + 324000)
    by_cases z1 : sinLo (a + 324000) ≤ 0
    · by_cases z2 : 0 ≤ sinHi (a + 324000)
      · have hv := hide (h0.out.trans (tan_zero z1 z2))
        go_enter Try.func39, Try.ntmps39
        go_wp2_with (first
          | (go_at_call 107; refine (s_l01Is _ _).mono ?_; rintro e w' ⟨rfl, rfl⟩)
          | (go_at_call 111; refine (s_l04Sin _ (by omega) (by omega) _).mono ?_; rintro e wn ⟨rfl, hu⟩; obtain ⟨N, J, JF, hn1, hn2, hz, hc, hf⟩ := hu.facts; (try simp only [World.size_alloc, World.size_setCell, World.heap_drewN, World.size_drew] at hn1 hn2); (try simp only [cell_drewI] at hc); (try simp only [frz_drewI] at hf))
          | (go_at_call 110; refine (s_l04Cos _ (by omega) (by omega) _).mono ?_; rintro e wn ⟨rfl, hu⟩; obtain ⟨N, J, JF, hn1, hn2, hz, hc, hf⟩ := hu.facts; (try simp only [World.size_alloc, World.size_setCell, World.heap_drewN, World.size_drew] at hn1 hn2); (try simp only [cell_drewI] at hc); (try simp only [frz_drewI] at hf))
          | (go_at_call 96; refine (s_l02Div _ _ _ _ (by omega) (by omega) (by omega) (by omega) (by omega) (by omega) (by omega) (by omega) (by omega) (by omega) _).mono ?_; rintro e wn ⟨rfl, hu⟩; obtain ⟨N, J, JF, hn1, hn2, hz, hc, hf⟩ := hu.facts; (try simp only [World.size_alloc, World.size_setCell, World.heap_drewN, World.size_drew] at hn1 hn2); (try simp only [cell_drewI] at hc); (try simp only [frz_drewI] at hf)))
        all_goals (first | (refine ret_agg2t Try.results39 rfl Try.underlying26 rfl (by kernel_rfl) rfl (by simp [isSome_setCell, cell_setI, cell_drewI, cell_allocI, ↓IntWalk.iteOmega, *]) (by simp [isSome_setCell, cell_setI, cell_drewI, cell_allocI, ↓IntWalk.iteOmega, *]) ⟨(by rw [hv.out] <;> rfl), ?_⟩; (repeat' (first | with_reducible exact Up.refl _ | with_reducible assumption | with_reducible refine Up.alloc ?_ _ | with_reducible refine Up.drew ?_ | with_reducible refine Up.drewN ?_ _ | with_reducible refine Up.setCell ?_ (by (try simp only [World.size_alloc, World.size_setCell, World.heap_drewN, World.size_drew]); omega) _ | (with_reducible refine Up.trans ?_ (by with_reducible assumption)))); done) | (simp [bodyPost, results, go_sem, Try.results39]; refine ⟨(by simp [hv.out]), ?_⟩; (repeat' (first | with_reducible exact Up.refl _ | with_reducible assumption | with_reducible refine Up.alloc ?_ _ | with_reducible refine Up.drew ?_ | with_reducible refine Up.drewN ?_ _ | with_reducible refine Up.setCell ?_ (by (try simp only [World.size_alloc, World.size_setCell, World.heap_drewN, World.size_drew]); omega) _ | (with_reducible refine Up.trans ?_ (by with_reducible assumption)))); done) | skip)
      · have hv := hide (h0.out.trans (tan_far (a := a) (by omega)))
        go_enter Try.func39, Try.ntmps39
        go_wp2_with (first
          | (go_at_call 107; refine (s_l01Is _ _).mono ?_; rintro e w' ⟨rfl, rfl⟩)
          | (go_at_call 111; refine (s_l04Sin _ (by omega) (by omega) _).mono ?_; rintro e wn ⟨rfl, hu⟩; obtain ⟨N, J, JF, hn1, hn2, hz, hc, hf⟩ := hu.facts; (try simp only [World.size_alloc, World.size_setCell, World.heap_drewN, World.size_drew] at hn1 hn2); (try simp only [cell_drewI] at hc); (try simp only [frz_drewI] at hf))
          | (go_at_call 110; refine (s_l04Cos _ (by omega) (by omega) _).mono ?_; rintro e wn ⟨rfl, hu⟩; obtain ⟨N, J, JF, hn1, hn2, hz, hc, hf⟩ := hu.facts; (try simp only [World.size_alloc, World.size_setCell, World.heap_drewN, World.size_drew] at hn1 hn2); (try simp only [cell_drewI] at hc); (try simp only [frz_drewI] at hf))
          | (go_at_call 96; refine (s_l02Div _ _ _ _ (by omega) (by omega) (by omega) (by omega) (by omega) (by omega) (by omega) (by omega) (by omega) (by omega) _).mono ?_; rintro e wn ⟨rfl, hu⟩; obtain ⟨N, J, JF, hn1, hn2, hz, hc, hf⟩ := hu.facts; (try simp only [World.size_alloc, World.size_setCell, World.heap_drewN, World.size_drew] at hn1 hn2); (try simp only [cell_drewI] at hc); (try simp only [frz_drewI] at hf)))
        refine wp_gen ?_
        intro W0 hW0
        have s1 : W0.cell? ⟨wn.heap.size, 0, none⟩ = some (.int .i64 (sinLo (a + 324000))) := by rw [hW0]; (simp [isSome_setCell, cell_setI, cell_drewI, cell_allocI, ↓IntWalk.iteOmega, *])
        have s2 : W0.cell? ⟨wn.heap.size, 1, none⟩ = some (.int .i64 (sinHi (a + 324000))) := by rw [hW0]; (simp [isSome_setCell, cell_setI, cell_drewI, cell_allocI, ↓IntWalk.iteOmega, *])
        have z0 : W0.frozen? ⟨w.heap.size, 0, none⟩ = false := by rw [hW0]; (simp [frz_drewI, frz_allocI, ↓IntWalk.iteOmega, *])
        have z1 : W0.frozen? ⟨w.heap.size, 1, none⟩ = false := by rw [hW0]; (simp [frz_drewI, frz_allocI, ↓IntWalk.iteOmega, *])
        have r0 : W0.cell? ⟨w.heap.size, 0, none⟩ = some (.int .i64 0) := by rw [hW0]; (simp [isSome_setCell, cell_setI, cell_drewI, cell_allocI, ↓IntWalk.iteOmega, *])
        have r1 : W0.cell? ⟨w.heap.size, 1, none⟩ = some (.int .i64 0) := by rw [hW0]; (simp [isSome_setCell, cell_setI, cell_drewI, cell_allocI, ↓IntWalk.iteOmega, *])
        have hU0 : Up w W0 := by rw [hW0]; (repeat' (first | with_reducible exact Up.refl _ | with_reducible assumption | with_reducible refine Up.alloc ?_ _ | with_reducible refine Up.drew ?_ | with_reducible refine Up.drewN ?_ _ | with_reducible refine Up.setCell ?_ (by (try simp only [World.size_alloc, World.size_setCell, World.heap_drewN, World.size_drew]); omega) _ | (with_reducible refine Up.trans ?_ (by with_reducible assumption))))
        have hs0 : wn.heap.size < W0.heap.size := by rw [hW0]; (try simp only [World.size_alloc, World.size_setCell, World.heap_drewN, World.size_drew]); omega
        have hs1 : w.heap.size < wn.heap.size := by omega
        clear hW0 hc hf hu hz hn1 hn2
        have kS : ∀ w', Up W0 w' → w'.cell? ⟨wn.heap.size, 0, none⟩ = some (.int .i64 (sinLo (a + 324000))) ∧ w'.cell? ⟨wn.heap.size, 1, none⟩ = some (.int .i64 (sinHi (a + 324000))) ∧ w'.cell? ⟨w.heap.size, 0, none⟩ = some (cellV w' w.heap.size 0) ∧ w'.cell? ⟨w.heap.size, 1, none⟩ = some (cellV w' w.heap.size 1) := fun w' hU => ⟨(hU.cells _ _ (cell_lt s1)).trans s1, (hU.cells _ _ (cell_lt s2)).trans s2, cellV_of (by rw [(hU.cells _ _ (cell_lt r0)).trans r0]; rfl), cellV_of (by rw [(hU.cells _ _ (cell_lt r1)).trans r1]; rfl)⟩
        go_region_held3 (fun w' => w'.cell? ⟨wn.heap.size, 0, none⟩ = some (.int .i64 (sinLo (a + 324000))) ∧ w'.cell? ⟨wn.heap.size, 1, none⟩ = some (.int .i64 (sinHi (a + 324000))) ∧ w'.cell? ⟨w.heap.size, 0, none⟩ = some (cellV w' w.heap.size 0) ∧ w'.cell? ⟨w.heap.size, 1, none⟩ = some (cellV w' w.heap.size 1))
          (first | (refine kS _ ?_; (repeat' (first | with_reducible exact Up.refl _ | with_reducible assumption | with_reducible refine Up.alloc ?_ _ | with_reducible refine Up.drew ?_ | with_reducible refine Up.drewN ?_ _ | with_reducible refine Up.setCell ?_ (by (try simp only [World.size_alloc, World.size_setCell, World.heap_drewN, World.size_drew]); omega) _ | (with_reducible refine Up.trans ?_ (by with_reducible assumption)))); done) | ((try dsimp only); (repeat' apply And.intro) <;> (first | (simp [cell_setI, isSome_setCell, ↓IntWalk.iteOmega, *]; done) | exact cellV_of (by simp [isSome_setCell, *]))))
          (first
            | (go_at_call 111; refine (s_l04Sin _ (by omega) (by omega) _).mono ?_; rintro e wn ⟨rfl, hu⟩; obtain ⟨N, J, JF, hn1, hn2, hz, hc, hf⟩ := hu.facts; (try simp only [World.size_alloc, World.size_setCell, World.heap_drewN, World.size_drew] at hn1 hn2); (try simp only [cell_drewI] at hc); (try simp only [frz_drewI] at hf))
            | (go_at_call 96; refine (s_l02Div _ _ _ _ (by omega) (by omega) (by omega) (by omega) (by omega) (by omega) (by omega) (by omega) (by omega) (by omega) _).mono ?_; rintro e wn ⟨rfl, hu⟩; obtain ⟨N, J, JF, hn1, hn2, hz, hc, hf⟩ := hu.facts; (try simp only [World.size_alloc, World.size_setCell, World.heap_drewN, World.size_drew] at hn1 hn2); (try simp only [cell_drewI] at hc); (try simp only [frz_drewI] at hf)))
        go_wp2_with fail
        all_goals (first | (refine ret_agg2t Try.results39 rfl Try.underlying26 rfl (by kernel_rfl) rfl (by simp [isSome_setCell, cell_setI, cell_drewI, cell_allocI, ↓IntWalk.iteOmega, *]) (by simp [isSome_setCell, cell_setI, cell_drewI, cell_allocI, ↓IntWalk.iteOmega, *]) ⟨(by rw [hv.out] <;> rfl), ?_⟩; (repeat' (first | with_reducible exact Up.refl _ | with_reducible assumption | with_reducible refine Up.alloc ?_ _ | with_reducible refine Up.drew ?_ | with_reducible refine Up.drewN ?_ _ | with_reducible refine Up.setCell ?_ (by (try simp only [World.size_alloc, World.size_setCell, World.heap_drewN, World.size_drew]); omega) _ | (with_reducible refine Up.trans ?_ (by with_reducible assumption)))); done) | (simp [bodyPost, results, go_sem, Try.results39]; refine ⟨(by simp [hv.out]), ?_⟩; (repeat' (first | with_reducible exact Up.refl _ | with_reducible assumption | with_reducible refine Up.alloc ?_ _ | with_reducible refine Up.drew ?_ | with_reducible refine Up.drewN ?_ _ | with_reducible refine Up.setCell ?_ (by (try simp only [World.size_alloc, World.size_setCell, World.heap_drewN, World.size_drew]); omega) _ | (with_reducible refine Up.trans ?_ (by with_reducible assumption)))); done) | skip)
    · have hv := hide (h0.out.trans (tan_far (a := a) (by omega)))
      go_enter Try.func39, Try.ntmps39
      go_wp2_with (first
        | (go_at_call 107; refine (s_l01Is _ _).mono ?_; rintro e w' ⟨rfl, rfl⟩)
        | (go_at_call 111; refine (s_l04Sin _ (by omega) (by omega) _).mono ?_; rintro e wn ⟨rfl, hu⟩; obtain ⟨N, J, JF, hn1, hn2, hz, hc, hf⟩ := hu.facts; (try simp only [World.size_alloc, World.size_setCell, World.heap_drewN, World.size_drew] at hn1 hn2); (try simp only [cell_drewI] at hc); (try simp only [frz_drewI] at hf))
        | (go_at_call 110; refine (s_l04Cos _ (by omega) (by omega) _).mono ?_; rintro e wn ⟨rfl, hu⟩; obtain ⟨N, J, JF, hn1, hn2, hz, hc, hf⟩ := hu.facts; (try simp only [World.size_alloc, World.size_setCell, World.heap_drewN, World.size_drew] at hn1 hn2); (try simp only [cell_drewI] at hc); (try simp only [frz_drewI] at hf))
        | (go_at_call 96; refine (s_l02Div _ _ _ _ (by omega) (by omega) (by omega) (by omega) (by omega) (by omega) (by omega) (by omega) (by omega) (by omega) _).mono ?_; rintro e wn ⟨rfl, hu⟩; obtain ⟨N, J, JF, hn1, hn2, hz, hc, hf⟩ := hu.facts; (try simp only [World.size_alloc, World.size_setCell, World.heap_drewN, World.size_drew] at hn1 hn2); (try simp only [cell_drewI] at hc); (try simp only [frz_drewI] at hf)))
      refine wp_gen ?_
      intro W0 hW0
      have s1 : W0.cell? ⟨wn.heap.size, 0, none⟩ = some (.int .i64 (sinLo (a + 324000))) := by rw [hW0]; (simp [isSome_setCell, cell_setI, cell_drewI, cell_allocI, ↓IntWalk.iteOmega, *])
      have s2 : W0.cell? ⟨wn.heap.size, 1, none⟩ = some (.int .i64 (sinHi (a + 324000))) := by rw [hW0]; (simp [isSome_setCell, cell_setI, cell_drewI, cell_allocI, ↓IntWalk.iteOmega, *])
      have z0 : W0.frozen? ⟨w.heap.size, 0, none⟩ = false := by rw [hW0]; (simp [frz_drewI, frz_allocI, ↓IntWalk.iteOmega, *])
      have z1 : W0.frozen? ⟨w.heap.size, 1, none⟩ = false := by rw [hW0]; (simp [frz_drewI, frz_allocI, ↓IntWalk.iteOmega, *])
      have r0 : W0.cell? ⟨w.heap.size, 0, none⟩ = some (.int .i64 0) := by rw [hW0]; (simp [isSome_setCell, cell_setI, cell_drewI, cell_allocI, ↓IntWalk.iteOmega, *])
      have r1 : W0.cell? ⟨w.heap.size, 1, none⟩ = some (.int .i64 0) := by rw [hW0]; (simp [isSome_setCell, cell_setI, cell_drewI, cell_allocI, ↓IntWalk.iteOmega, *])
      have hU0 : Up w W0 := by rw [hW0]; (repeat' (first | with_reducible exact Up.refl _ | with_reducible assumption | with_reducible refine Up.alloc ?_ _ | with_reducible refine Up.drew ?_ | with_reducible refine Up.drewN ?_ _ | with_reducible refine Up.setCell ?_ (by (try simp only [World.size_alloc, World.size_setCell, World.heap_drewN, World.size_drew]); omega) _ | (with_reducible refine Up.trans ?_ (by with_reducible assumption))))
      have hs0 : wn.heap.size < W0.heap.size := by rw [hW0]; (try simp only [World.size_alloc, World.size_setCell, World.heap_drewN, World.size_drew]); omega
      have hs1 : w.heap.size < wn.heap.size := by omega
      clear hW0 hc hf hu hz hn1 hn2
      have kS : ∀ w', Up W0 w' → w'.cell? ⟨wn.heap.size, 0, none⟩ = some (.int .i64 (sinLo (a + 324000))) ∧ w'.cell? ⟨wn.heap.size, 1, none⟩ = some (.int .i64 (sinHi (a + 324000))) ∧ w'.cell? ⟨w.heap.size, 0, none⟩ = some (cellV w' w.heap.size 0) ∧ w'.cell? ⟨w.heap.size, 1, none⟩ = some (cellV w' w.heap.size 1) := fun w' hU => ⟨(hU.cells _ _ (cell_lt s1)).trans s1, (hU.cells _ _ (cell_lt s2)).trans s2, cellV_of (by rw [(hU.cells _ _ (cell_lt r0)).trans r0]; rfl), cellV_of (by rw [(hU.cells _ _ (cell_lt r1)).trans r1]; rfl)⟩
      go_region_held3 (fun w' => w'.cell? ⟨wn.heap.size, 0, none⟩ = some (.int .i64 (sinLo (a + 324000))) ∧ w'.cell? ⟨wn.heap.size, 1, none⟩ = some (.int .i64 (sinHi (a + 324000))) ∧ w'.cell? ⟨w.heap.size, 0, none⟩ = some (cellV w' w.heap.size 0) ∧ w'.cell? ⟨w.heap.size, 1, none⟩ = some (cellV w' w.heap.size 1))
        (first | (refine kS _ ?_; (repeat' (first | with_reducible exact Up.refl _ | with_reducible assumption | with_reducible refine Up.alloc ?_ _ | with_reducible refine Up.drew ?_ | with_reducible refine Up.drewN ?_ _ | with_reducible refine Up.setCell ?_ (by (try simp only [World.size_alloc, World.size_setCell, World.heap_drewN, World.size_drew]); omega) _ | (with_reducible refine Up.trans ?_ (by with_reducible assumption)))); done) | ((try dsimp only); (repeat' apply And.intro) <;> (first | (simp [cell_setI, isSome_setCell, ↓IntWalk.iteOmega, *]; done) | exact cellV_of (by simp [isSome_setCell, *]))))
        (first
          | (go_at_call 111; refine (s_l04Sin _ (by omega) (by omega) _).mono ?_; rintro e wn ⟨rfl, hu⟩; obtain ⟨N, J, JF, hn1, hn2, hz, hc, hf⟩ := hu.facts; (try simp only [World.size_alloc, World.size_setCell, World.heap_drewN, World.size_drew] at hn1 hn2); (try simp only [cell_drewI] at hc); (try simp only [frz_drewI] at hf))
          | (go_at_call 96; refine (s_l02Div _ _ _ _ (by omega) (by omega) (by omega) (by omega) (by omega) (by omega) (by omega) (by omega) (by omega) (by omega) _).mono ?_; rintro e wn ⟨rfl, hu⟩; obtain ⟨N, J, JF, hn1, hn2, hz, hc, hf⟩ := hu.facts; (try simp only [World.size_alloc, World.size_setCell, World.heap_drewN, World.size_drew] at hn1 hn2); (try simp only [cell_drewI] at hc); (try simp only [frz_drewI] at hf)))
      go_wp2_with fail
      all_goals (first | (refine ret_agg2t Try.results39 rfl Try.underlying26 rfl (by kernel_rfl) rfl (by simp [isSome_setCell, cell_setI, cell_drewI, cell_allocI, ↓IntWalk.iteOmega, *]) (by simp [isSome_setCell, cell_setI, cell_drewI, cell_allocI, ↓IntWalk.iteOmega, *]) ⟨(by rw [hv.out] <;> rfl), ?_⟩; (repeat' (first | with_reducible exact Up.refl _ | with_reducible assumption | with_reducible refine Up.alloc ?_ _ | with_reducible refine Up.drew ?_ | with_reducible refine Up.drewN ?_ _ | with_reducible refine Up.setCell ?_ (by (try simp only [World.size_alloc, World.size_setCell, World.heap_drewN, World.size_drew]); omega) _ | (with_reducible refine Up.trans ?_ (by with_reducible assumption)))); done) | (simp [bodyPost, results, go_sem, Try.results39]; refine ⟨(by simp [hv.out]), ?_⟩; (repeat' (first | with_reducible exact Up.refl _ | with_reducible assumption | with_reducible refine Up.alloc ?_ _ | with_reducible refine Up.drew ?_ | with_reducible refine Up.drewN ?_ _ | with_reducible refine Up.setCell ?_ (by (try simp only [World.size_alloc, World.size_setCell, World.heap_drewN, World.size_drew]); omega) _ | (with_reducible refine Up.trans ?_ (by with_reducible assumption)))); done) | skip)
  · have hv := hide (show tanR a = (0, 0, 2) by unfold tanR; rw [if_neg h])
    have h : inB a (-1000000000000) 1000000000000 = false := by simpa using h
    go_enter Try.func39, Try.ntmps39
    go_wp2_with (go_at_call 107; refine (s_l01Is _ _).mono ?_; rintro e w' ⟨rfl, rfl⟩)
    all_goals (first | (refine ret_agg2t Try.results39 rfl Try.underlying26 rfl (by kernel_rfl) rfl (by simp [isSome_setCell, cell_setI, cell_drewI, cell_allocI, ↓IntWalk.iteOmega, *]) (by simp [isSome_setCell, cell_setI, cell_drewI, cell_allocI, ↓IntWalk.iteOmega, *]) ⟨(by rw [hv.out] <;> rfl), ?_⟩; (repeat' (first | with_reducible exact Up.refl _ | with_reducible assumption | with_reducible refine Up.alloc ?_ _ | with_reducible refine Up.drew ?_ | with_reducible refine Up.drewN ?_ _ | with_reducible refine Up.setCell ?_ (by (try simp only [World.size_alloc, World.size_setCell, World.heap_drewN, World.size_drew]); omega) _ | (with_reducible refine Up.trans ?_ (by with_reducible assumption)))); done) | (simp [bodyPost, results, go_sem, Try.results39]; refine ⟨(by simp [hv.out]), ?_⟩; (repeat' (first | with_reducible exact Up.refl _ | with_reducible assumption | with_reducible refine Up.alloc ?_ _ | with_reducible refine Up.drew ?_ | with_reducible refine Up.drewN ?_ _ | with_reducible refine Up.setCell ?_ (by (try simp only [World.size_alloc, World.size_setCell, World.heap_drewN, World.size_drew]); omega) _ | (with_reducible refine Up.trans ?_ (by with_reducible assumption)))); done) | skip)
end Go.Proofs.Ytanafhmjmfkpmaa
