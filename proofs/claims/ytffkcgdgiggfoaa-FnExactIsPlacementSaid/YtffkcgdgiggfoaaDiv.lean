import Derived.Test.YtffkcgdgiggfoaaNum
/- The contracts of the divisions that round. -/
namespace Go.Proofs.Ytffkcgdgiggfoaa
set_option linter.unusedSimpArgs false
set_option linter.unusedVariables false
open Go.RowKit
attribute [local go_sem] cell_allocI frz_allocI later_cell later_frz
theorem s_l01FloorP (a b : Int) (hb : 0 < b) (hb' : b ≤ 4611686018427387904) (h1 : -4611686018427387904 ≤ a) (h2 : a ≤ 4611686018427387904) (w : World) :
    Calls Try.prog 167 #[.int .i64 a, .int .i64 b] w fun e w' => e = .returned (.int .i64 (a / b)) ∧ w = w' := by
  have hz : ((b : Int) == 0) = false := by simp; omega
  obtain ⟨t1, t2⟩ := tdiv_bd (b := b) hb h1 h2
  obtain ⟨m1, m2⟩ := tmod_bd (a := a) hb
  have hd2 : decide (b < 0) = false := by simp; omega
  by_cases h0 : 0 ≤ a
  · have e0 := hide (Int.tdiv_eq_ediv_of_nonneg (b := b) h0)
    have q1 := Int.emod_nonneg a (show b ≠ 0 by omega)
    have hd1 : decide (a % b < 0) = false := by simp; omega
    clear t1 t2 m1 m2
    obtain ⟨t1, t2⟩ := tdiv_bd (b := b) hb h1 h2
    go_enter Try.func167, Try.ntmps167
    go_wp2
    all_goals (go_ret; exact ⟨ret_int e0.out, rfl⟩)
  · by_cases hr : a.tmod b = 0
    · have e0 := hide (fl_neg0 hb hr)
      have hr : (a.tmod b != 0) = false := by simpa using hr
      have hd1 : decide (a.tmod b < 0) = false := by simp at hr; simp [hr]
      go_enter Try.func167, Try.ntmps167
      go_wp2
      go_ret
      exact ⟨ret_int e0.out, rfl⟩
    · obtain ⟨n1, n2⟩ := fl_neg1 (by omega) hb hr
      have e0 := hide n2
      have hr : (a.tmod b != 0) = true := by simpa using hr
      have hd1 : decide (a.tmod b < 0) = true := by simpa using n1
      clear n2
      go_enter Try.func167, Try.ntmps167
      go_wp2
      go_ret
      exact ⟨ret_int e0.out, rfl⟩
theorem s_l01Floor (a b : Int) (hb : b ≠ 0) (hb1 : -4611686018427387904 ≤ b) (hb2 : b ≤ 4611686018427387904) (h1 : -4611686018427387904 ≤ a) (h2 : a ≤ 4611686018427387904) (w : World) :
    Calls Try.prog 167 #[.int .i64 a, .int .i64 b] w fun e w' => e = .returned (.int .i64 (fl a b)) ∧ w = w' := by
  by_cases hp : 0 < b
  · rw [fl_pos hp]
    exact s_l01FloorP a b hp hb2 h1 h2 w
  · have hz : ((b : Int) == 0) = false := by simp; omega
    have hlt : b < 0 := by omega
    obtain ⟨t1, t2⟩ := tdiv_bdN (a := a) (b := b) hlt (M := 4611686018427387904) (by omega) (by omega)
    have hz' : ((-b : Int) == 0) = false := by simp; omega
    by_cases ha : 0 < a.tmod b
    · have e0 := hide (fl_N1 hlt ha)
      go_enter Try.func167, Try.ntmps167
      go_wp2
      go_ret
      exact ⟨ret_int e0.out, rfl⟩
    · have e0 : a.tdiv b = fl a b := by
        rcases Int.lt_or_le (a.tmod b) 0 with h | h
        · exact fl_N2 hlt h
        · exact fl_N0 hlt (by omega)
      have E0 := hide e0
      clear e0
      go_enter Try.func167, Try.ntmps167
      go_wp2
      go_ret
      exact ⟨ret_int E0.out, rfl⟩
theorem s_l01Ceil (a b : Int) (hb : b ≠ 0) (hb1 : -4611686018427387904 ≤ b) (hb2 : b ≤ 4611686018427387904) (h1 : -4611686018427387904 ≤ a) (h2 : a ≤ 4611686018427387904) (w : World) :
    Calls Try.prog 165 #[.int .i64 a, .int .i64 b] w fun e w' => e = .returned (.int .i64 (ce a b)) ∧ w = w' := by
  obtain ⟨f1, f2⟩ := fl_bd (a := -a) (b := b) hb (M := 4611686018427387904) (by omega) (by omega)
  go_enter Try.func165, Try.ntmps165
  go_wp2_with (go_at_call 167; refine (s_l01Floor _ _ hb hb1 hb2 (by omega) (by omega) _).mono ?_; rintro e w' ⟨rfl, rfl⟩)
  go_ret
  exact ⟨rfl, rfl⟩
end Go.Proofs.Ytffkcgdgiggfoaa
