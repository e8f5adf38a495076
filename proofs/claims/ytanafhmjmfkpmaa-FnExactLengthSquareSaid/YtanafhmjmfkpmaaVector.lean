import Derived.Test.YtanafhmjmfkpmaaIvOps
import Derived.Deep.RegionHeld3
import Derived.Deep.DeepCutAuto
/- Vectors: the contracts. -/
namespace Go.Proofs.Ytanafhmjmfkpmaa
set_option linter.unusedSimpArgs false
set_option linter.unusedVariables false
open Go.RowKit
attribute [local go_sem] cell_allocI frz_allocI later_cell later_frz
attribute [local go_sem ↓] min_two max_two min_four max_four
attribute [local go_sem] cell_setI cell_drewI frz_drewI
def partB (a b : Int) : Bool := inB a (-10000000) b && inB b (-10000000) 10000000
theorem partB_iff {a b : Int} : partB a b = true ↔ (-10000000 ≤ a ∧ a ≤ b ∧ b ≤ 10000000) := by simp [partB, inB]; omega
def vecB (a b c d p q : Int) : Bool := partB a b && (partB c d && partB p q)
/-- the square of an interval in millionths -/
def sqLo (a b : Int) : Int := if 0 < a then (a * a) / 1000000 else if b < 0 then (b * b) / 1000000 else 0
def sqHi (a b : Int) : Int := if -a ≤ b then ce (b * b) 1000000 else ce (a * a) 1000000
theorem sq_le {a b : Int} (h1 : -b ≤ a) (h2 : a ≤ b) : a * a ≤ b * b := by
  have h := Int.mul_nonneg (show 0 ≤ b - a by omega) (show 0 ≤ b + a by omega)
  rw [show (b - a) * (b + a) = b * b - a * a by rw [Int.sub_mul, Int.mul_add, Int.mul_add, Int.mul_comm b a]; omega] at h
  omega
theorem sq_bd {a : Int} (h1 : -10000000 ≤ a) (h2 : a ≤ 10000000) : 0 ≤ a * a ∧ a * a ≤ 100000000000000 :=
  ⟨by rcases Int.le_total 0 a with h | h
      · exact Int.mul_nonneg h h
      · exact Int.mul_nonneg_of_nonpos_of_nonpos h h, sq_le (b := 10000000) (by omega) h2⟩
theorem ce_bd {x : Int} (h1 : 0 ≤ x) (h2 : x ≤ 100000000000000) : 0 ≤ ce x 1000000 ∧ ce x 1000000 ≤ 100000000 := by
  unfold ce; rw [fl_pos (by omega)]; omega
theorem sq_out {a b : Int} (h : partB a b = true) : 0 ≤ sqLo a b ∧ sqLo a b ≤ 100000000 ∧ 0 ≤ sqHi a b ∧ sqHi a b ≤ 100000000 := by
  obtain ⟨h1, h2, h3⟩ := partB_iff.1 h
  obtain ⟨a1, a2⟩ := sq_bd (a := a) h1 (by omega)
  obtain ⟨b1, b2⟩ := sq_bd (a := b) (by omega) h3
  obtain ⟨c1, c2⟩ := ce_bd a1 a2
  obtain ⟨d1, d2⟩ := ce_bd b1 b2
  unfold sqLo sqHi
  generalize ce (a * a) 1000000 = u at *
  generalize ce (b * b) 1000000 = v at *
  generalize a * a = x at *
  generalize b * b = y at *
  split <;> split <;> (try split) <;> omega
theorem s_l06Part (a b : Int) (w : World) :
    Calls Try.prog 128 #[.agg #[.int .i64 a, .int .i64 b]] w fun e w' => e = .returned (.bool (partB a b)) ∧ Up w w' := by
  unfold partB
  go_enter Try.func128, Try.ntmps128
  go_wp2_with (first
    | (go_at_call 121; refine (s_l01In _ _ _ _).mono ?_; rintro e w' ⟨rfl, rfl⟩))
  all_goals (go_ret; refine ⟨ret_bool ?_, ?_⟩; · simp [*]
             (repeat' (first | with_reducible exact Up.refl _ | with_reducible assumption | with_reducible refine Up.alloc ?_ _ | with_reducible refine Up.drew ?_ | with_reducible refine Up.drewN ?_ _ | with_reducible refine Up.setCell ?_ (by (try simp only [World.size_alloc, World.size_setCell, World.heap_drewN, World.size_drew]); omega) _ | (with_reducible refine Up.trans ?_ (by with_reducible assumption)))))
theorem i_isPart (a b : Int) (w : World) :
    Calls Try.prog 127 #[.agg #[.int .i64 a, .int .i64 b]] w fun e w' => e = .returned (.bool (partB a b)) ∧ Up w w' := by
  have e : partB a b = (isIvB a b && (inB a (-10000000) 10000000 && inB b (-10000000) 10000000)) := by
    rw [Bool.eq_iff_iff, partB_iff, Bool.and_eq_true, isIvB_iff]; simp [inB]; omega
  rw [e]
  clear e
  go_enter Try.func127, Try.ntmps127
  go_wp2_with (first
    | (go_at_call 29; refine (i_IsInterval _ _ _).mono ?_; rintro e wn ⟨rfl, hu⟩; obtain ⟨N, J, JF, hn1, hn2, hz, hc, hf⟩ := hu.facts; (try simp only [World.size_alloc, World.size_setCell, World.heap_drewN, World.size_drew] at hn1 hn2))
    | (go_at_call 158; refine (im_Interval_within _ _ _ (by omega) (by omega) _).mono ?_; rintro e wn ⟨rfl, hu⟩; obtain ⟨N, J, JF, hn1, hn2, hz, hc, hf⟩ := hu.facts; (try simp only [World.size_alloc, World.size_setCell, World.heap_drewN, World.size_drew] at hn1 hn2)))
  all_goals (go_ret; refine ⟨ret_bool ?_, ?_⟩; · simp [*]
             (repeat' (first | with_reducible exact Up.refl _ | with_reducible assumption | with_reducible refine Up.alloc ?_ _ | with_reducible refine Up.drew ?_ | with_reducible refine Up.drewN ?_ _ | with_reducible refine Up.setCell ?_ (by (try simp only [World.size_alloc, World.size_setCell, World.heap_drewN, World.size_drew]); omega) _ | (with_reducible refine Up.trans ?_ (by with_reducible assumption)))))
theorem s_IsVector (a b c d p q : Int) (w : World) :
    Calls Try.prog 59 #[.agg #[.int .i64 a, .int .i64 b, .int .i64 c, .int .i64 d, .int .i64 p, .int .i64 q]] w fun e w' => e = .returned (.bool (vecB a b c d p q)) ∧ Up w w' := by
  unfold vecB
  go_enter Try.func59, Try.ntmps59
  go_wp2_with (first
    | (go_at_call 128; refine (s_l06Part _ _ _).mono ?_; rintro e wn ⟨rfl, hu⟩; obtain ⟨N, J, JF, hn1, hn2, hz, hc, hf⟩ := hu.facts; (try simp only [World.size_alloc, World.size_setCell, World.heap_drewN, World.size_drew] at hn1 hn2)))
  all_goals (go_ret; refine ⟨ret_bool ?_, ?_⟩; · simp [*]
             (repeat' (first | with_reducible exact Up.refl _ | with_reducible assumption | with_reducible refine Up.alloc ?_ _ | with_reducible refine Up.drew ?_ | with_reducible refine Up.drewN ?_ _ | with_reducible refine Up.setCell ?_ (by (try simp only [World.size_alloc, World.size_setCell, World.heap_drewN, World.size_drew]); omega) _ | (with_reducible refine Up.trans ?_ (by with_reducible assumption)))))
theorem i_IsVector (a b c d p q : Int) (w : World) :
    Calls Try.prog 58 #[.agg #[.int .i64 a, .int .i64 b, .int .i64 c, .int .i64 d, .int .i64 p, .int .i64 q]] w fun e w' => e = .returned (.bool (vecB a b c d p q)) ∧ Up w w' := by
  unfold vecB
  go_enter Try.func58, Try.ntmps58
  go_wp2_with (first
    | (go_at_call 127; refine (i_isPart _ _ _).mono ?_; rintro e wn ⟨rfl, hu⟩; obtain ⟨N, J, JF, hn1, hn2, hz, hc, hf⟩ := hu.facts; (try simp only [World.size_alloc, World.size_setCell, World.heap_drewN, World.size_drew] at hn1 hn2)))
  all_goals (go_ret; refine ⟨ret_bool ?_, ?_⟩; · simp [*]
             (repeat' (first | with_reducible exact Up.refl _ | with_reducible assumption | with_reducible refine Up.alloc ?_ _ | with_reducible refine Up.drew ?_ | with_reducible refine Up.drewN ?_ _ | with_reducible refine Up.setCell ?_ (by (try simp only [World.size_alloc, World.size_setCell, World.heap_drewN, World.size_drew]); omega) _ | (with_reducible refine Up.trans ?_ (by with_reducible assumption)))))
theorem s_l06Square (a b : Int) (h : partB a b = true) (w : World) :
    Calls Try.prog 90 #[.agg #[.int .i64 a, .int .i64 b]] w fun e w' => e = .returned (.agg #[.int .i64 (sqLo a b), .int .i64 (sqHi a b)]) ∧ Up w w' := by
  obtain ⟨h1, h2, h3⟩ := partB_iff.1 h
  obtain ⟨a1, a2⟩ := sq_bd (a := a) h1 (by omega)
  obtain ⟨b1, b2⟩ := sq_bd (a := b) (by omega) h3
  by_cases p : 0 < a
  · have r : -a ≤ b := by omega
    rw [show sqLo a b = (a * a) / 1000000 by unfold sqLo; rw [if_pos p], show sqHi a b = ce (b * b) 1000000 by unfold sqHi; rw [if_pos r]]
    have mx : max b (-a) = b := by omega
    go_enter Try.func90, Try.ntmps90
    go_wp2_with (first
      | (go_at_call 129; refine (s_l01FloorP _ _ (by omega) (by omega) (by omega) (by omega) _).mono ?_; rintro e w' ⟨rfl, rfl⟩)
      | (go_at_call 157; refine (s_l01Ceil _ _ (by omega) (by omega) (by omega) (by omega) (by omega) _).mono ?_; rintro e w' ⟨rfl, rfl⟩))
    simp [bodyPost, results, go_sem, Try.results90]
    (repeat' (first | with_reducible exact Up.refl _ | with_reducible assumption | with_reducible refine Up.alloc ?_ _ | with_reducible refine Up.drew ?_ | with_reducible refine Up.drewN ?_ _ | with_reducible refine Up.setCell ?_ (by (try simp only [World.size_alloc, World.size_setCell, World.heap_drewN, World.size_drew]); omega) _ | (with_reducible refine Up.trans ?_ (by with_reducible assumption))))
  · by_cases q : b < 0
    · have r : ¬ -a ≤ b := by omega
      rw [show sqLo a b = (b * b) / 1000000 by unfold sqLo; rw [if_neg p, if_pos q], show sqHi a b = ce (a * a) 1000000 by unfold sqHi; rw [if_neg r]]
      have mx : max b (-a) = -a := by omega
      have ng : -a * -a = a * a := Int.neg_mul_neg a a
      have nb : -b * -b = b * b := Int.neg_mul_neg b b
      go_enter Try.func90, Try.ntmps90
      go_wp2_with (first
      | (go_at_call 129; refine (s_l01FloorP _ _ (by omega) (by omega) (by omega) (by omega) _).mono ?_; rintro e w' ⟨rfl, rfl⟩)
      | (go_at_call 157; refine (s_l01Ceil _ _ (by omega) (by omega) (by omega) (by omega) (by omega) _).mono ?_; rintro e w' ⟨rfl, rfl⟩))
      simp [bodyPost, results, go_sem, Try.results90]
      (repeat' (first | with_reducible exact Up.refl _ | with_reducible assumption | with_reducible refine Up.alloc ?_ _ | with_reducible refine Up.drew ?_ | with_reducible refine Up.drewN ?_ _ | with_reducible refine Up.setCell ?_ (by (try simp only [World.size_alloc, World.size_setCell, World.heap_drewN, World.size_drew]); omega) _ | (with_reducible refine Up.trans ?_ (by with_reducible assumption))))
    · by_cases r : -a ≤ b
      · rw [show sqLo a b = 0 by unfold sqLo; rw [if_neg p, if_neg q], show sqHi a b = ce (b * b) 1000000 by unfold sqHi; rw [if_pos r]]
        have mx : max b (-a) = b := by omega
        go_enter Try.func90, Try.ntmps90
        go_wp2_with (first
        | (go_at_call 129; refine (s_l01FloorP _ _ (by omega) (by omega) (by omega) (by omega) _).mono ?_; rintro e w' ⟨rfl, rfl⟩)
        | (go_at_call 157; refine (s_l01Ceil _ _ (by omega) (by omega) (by omega) (by omega) (by omega) _).mono ?_; rintro e w' ⟨rfl, rfl⟩))
        simp [bodyPost, results, go_sem, Try.results90]
        (repeat' (first | with_reducible exact Up.refl _ | with_reducible assumption | with_reducible refine Up.alloc ?_ _ | with_reducible refine Up.drew ?_ | with_reducible refine Up.drewN ?_ _ | with_reducible refine Up.setCell ?_ (by (try simp only [World.size_alloc, World.size_setCell, World.heap_drewN, World.size_drew]); omega) _ | (with_reducible refine Up.trans ?_ (by with_reducible assumption))))
      · skip
        rw [show sqLo a b = 0 by unfold sqLo; rw [if_neg p, if_neg q], show sqHi a b = ce (a * a) 1000000 by unfold sqHi; rw [if_neg r]]
        have mx : max b (-a) = -a := by omega
        have ng : -a * -a = a * a := Int.neg_mul_neg a a
        go_enter Try.func90, Try.ntmps90
        go_wp2_with (first
      | (go_at_call 129; refine (s_l01FloorP _ _ (by omega) (by omega) (by omega) (by omega) _).mono ?_; rintro e w' ⟨rfl, rfl⟩)
      | (go_at_call 157; refine (s_l01Ceil _ _ (by omega) (by omega) (by omega) (by omega) (by omega) _).mono ?_; rintro e w' ⟨rfl, rfl⟩))
        simp [bodyPost, results, go_sem, Try.results90]
        (repeat' (first | with_reducible exact Up.refl _ | with_reducible assumption | with_reducible refine Up.alloc ?_ _ | with_reducible refine Up.drew ?_ | with_reducible refine Up.drewN ?_ _ | with_reducible refine Up.setCell ?_ (by (try simp only [World.size_alloc, World.size_setCell, World.heap_drewN, World.size_drew]); omega) _ | (with_reducible refine Up.trans ?_ (by with_reducible assumption))))
set_option maxHeartbeats 1000000 in
theorem im_Interval_square (a b : Int) (h : partB a b = true) (w : World) :
    Calls Try.prog 91 #[.agg #[.int .i64 a, .int .i64 b]] w fun e w' => e = .returned (.agg #[.int .i64 (sqLo a b), .int .i64 (sqHi a b)]) ∧ Up w w' := by
  obtain ⟨h1, h2, h3⟩ := partB_iff.1 h
  obtain ⟨a1, a2⟩ := sq_bd (a := a) h1 (by omega)
  obtain ⟨b1, b2⟩ := sq_bd (a := b) (by omega) h3
  by_cases p : 0 < a
  · have u : a * a ≤ b * b := sq_le (by omega) h2
    have hl := hide (show sqLo a b = (a * a) / 1000000 by unfold sqLo; rw [if_pos p])
    have hh := hide (show sqHi a b = ce (b * b) 1000000 by unfold sqHi; rw [if_pos (by omega)])
    have z : inB 0 a b = false := by simp [inB]; omega
    have g : decide (b * b < a * a) = false := by simpa using u
    go_enter Try.func91, Try.ntmps91
    go_wp2_with fail
    go_quiet (fail)
    go_wp2_with (first
      | (go_at_call 98; refine (im_Interval_has _ _ _ _).mono ?_; rintro e wn ⟨rfl, hu⟩; obtain ⟨N, J, JF, hn1, hn2, hz, hc, hf⟩ := hu.facts; (try simp only [World.size_alloc, World.size_setCell, World.heap_drewN, World.size_drew] at hn1 hn2))
      | (go_at_call 99; refine (i_floorP _ _ (by omega) (by omega) (by omega) (by omega) _).mono ?_; rintro e w' ⟨rfl, rfl⟩)
      | (go_at_call 100; refine (i_ceil _ _ (by omega) (by omega) (by omega) (by omega) (by omega) _).mono ?_; rintro e w' ⟨rfl, rfl⟩))
    refine ret_agg2 Try.results91 rfl Try.underlying26 rfl (by kernel_rfl) rfl (by simp [isSome_setCell, cell_setI, cell_drewI, cell_allocI, ↓IntWalk.iteOmega, *]) (by simp [isSome_setCell, cell_setI, cell_drewI, cell_allocI, ↓IntWalk.iteOmega, *]) ⟨?_, ?_⟩
    · rw [hl.out, hh.out]
    (repeat' (first | with_reducible exact Up.refl _ | with_reducible assumption | with_reducible refine Up.alloc ?_ _ | with_reducible refine Up.drew ?_ | with_reducible refine Up.drewN ?_ _ | with_reducible refine Up.setCell ?_ (by (try simp only [World.size_alloc, World.size_setCell, World.heap_drewN, World.size_drew]); omega) _ | (with_reducible refine Up.trans ?_ (by with_reducible assumption))))
  · by_cases q : b < 0
    · have v : b * b ≤ a * a := by rw [← Int.neg_mul_neg b b, ← Int.neg_mul_neg a a]; exact sq_le (by omega) (by omega)
      by_cases u : b * b < a * a
      · skip
        have hl := hide (show sqLo a b = (b * b) / 1000000 by unfold sqLo; rw [if_neg p, if_pos q])
        have hh := hide (show sqHi a b = ce (a * a) 1000000 by unfold sqHi; rw [if_neg (by omega)])
        have z : inB 0 a b = false := by simp [inB]; omega
        have g : decide (b * b < a * a) = true := by simpa using u
        go_enter Try.func91, Try.ntmps91
        go_wp2_with fail
        go_quiet (fail)
        go_wp2_with (first
          | (go_at_call 98; refine (im_Interval_has _ _ _ _).mono ?_; rintro e wn ⟨rfl, hu⟩; obtain ⟨N, J, JF, hn1, hn2, hz, hc, hf⟩ := hu.facts; (try simp only [World.size_alloc, World.size_setCell, World.heap_drewN, World.size_drew] at hn1 hn2))
          | (go_at_call 99; refine (i_floorP _ _ (by omega) (by omega) (by omega) (by omega) _).mono ?_; rintro e w' ⟨rfl, rfl⟩)
          | (go_at_call 100; refine (i_ceil _ _ (by omega) (by omega) (by omega) (by omega) (by omega) _).mono ?_; rintro e w' ⟨rfl, rfl⟩))
        refine ret_agg2 Try.results91 rfl Try.underlying26 rfl (by kernel_rfl) rfl (by simp [isSome_setCell, cell_setI, cell_drewI, cell_allocI, ↓IntWalk.iteOmega, *]) (by simp [isSome_setCell, cell_setI, cell_drewI, cell_allocI, ↓IntWalk.iteOmega, *]) ⟨?_, ?_⟩
        · rw [hl.out, hh.out]
        (repeat' (first | with_reducible exact Up.refl _ | with_reducible assumption | with_reducible refine Up.alloc ?_ _ | with_reducible refine Up.drew ?_ | with_reducible refine Up.drewN ?_ _ | with_reducible refine Up.setCell ?_ (by (try simp only [World.size_alloc, World.size_setCell, World.heap_drewN, World.size_drew]); omega) _ | (with_reducible refine Up.trans ?_ (by with_reducible assumption))))
      · have u2 : a * a = b * b := by omega
        have u := Int.not_lt.1 u
        have u2 := hide u2
        have hl := hide (show sqLo a b = (a * a) / 1000000 by unfold sqLo; rw [if_neg p, if_pos q, u2.out])
        have hh := hide (show sqHi a b = ce (b * b) 1000000 by unfold sqHi; rw [if_neg (by omega), u2.out])
        have z : inB 0 a b = false := by simp [inB]; omega
        have g : decide (b * b < a * a) = false := by simpa using u
        clear u v
        go_enter Try.func91, Try.ntmps91
        go_wp2_with fail
        go_quiet (fail)
        go_wp2_with (first
          | (go_at_call 98; refine (im_Interval_has _ _ _ _).mono ?_; rintro e wn ⟨rfl, hu⟩; obtain ⟨N, J, JF, hn1, hn2, hz, hc, hf⟩ := hu.facts; (try simp only [World.size_alloc, World.size_setCell, World.heap_drewN, World.size_drew] at hn1 hn2))
          | (go_at_call 99; refine (i_floorP _ _ (by omega) (by omega) (by omega) (by omega) _).mono ?_; rintro e w' ⟨rfl, rfl⟩)
          | (go_at_call 100; refine (i_ceil _ _ (by omega) (by omega) (by omega) (by omega) (by omega) _).mono ?_; rintro e w' ⟨rfl, rfl⟩))
        refine ret_agg2 Try.results91 rfl Try.underlying26 rfl (by kernel_rfl) rfl (by simp [isSome_setCell, cell_setI, cell_drewI, cell_allocI, ↓IntWalk.iteOmega, *]) (by simp [isSome_setCell, cell_setI, cell_drewI, cell_allocI, ↓IntWalk.iteOmega, *]) ⟨?_, ?_⟩
        · rw [hl.out, hh.out, u2.out]
        (repeat' (first | with_reducible exact Up.refl _ | with_reducible assumption | with_reducible refine Up.alloc ?_ _ | with_reducible refine Up.drew ?_ | with_reducible refine Up.drewN ?_ _ | with_reducible refine Up.setCell ?_ (by (try simp only [World.size_alloc, World.size_setCell, World.heap_drewN, World.size_drew]); omega) _ | (with_reducible refine Up.trans ?_ (by with_reducible assumption))))
    · by_cases r : -a ≤ b
      · have u : a * a ≤ b * b := sq_le (by omega) h2
        have hl := hide (show sqLo a b = 0 by unfold sqLo; rw [if_neg p, if_neg q])
        have hh := hide (show sqHi a b = ce (b * b) 1000000 by unfold sqHi; rw [if_pos r])
        have z : inB 0 a b = true := by simp [inB]; omega
        have g : decide (b * b < a * a) = false := by simpa using u
        go_enter Try.func91, Try.ntmps91
        go_wp2_with fail
        go_quiet (fail)
        go_wp2_with (first
          | (go_at_call 98; refine (im_Interval_has _ _ _ _).mono ?_; rintro e wn ⟨rfl, hu⟩; obtain ⟨N, J, JF, hn1, hn2, hz, hc, hf⟩ := hu.facts; (try simp only [World.size_alloc, World.size_setCell, World.heap_drewN, World.size_drew] at hn1 hn2))
          | (go_at_call 99; refine (i_floorP _ _ (by omega) (by omega) (by omega) (by omega) _).mono ?_; rintro e w' ⟨rfl, rfl⟩)
          | (go_at_call 100; refine (i_ceil _ _ (by omega) (by omega) (by omega) (by omega) (by omega) _).mono ?_; rintro e w' ⟨rfl, rfl⟩))
        refine ret_agg2 Try.results91 rfl Try.underlying26 rfl (by kernel_rfl) rfl (by simp [isSome_setCell, cell_setI, cell_drewI, cell_allocI, ↓IntWalk.iteOmega, *]) (by simp [isSome_setCell, cell_setI, cell_drewI, cell_allocI, ↓IntWalk.iteOmega, *]) ⟨?_, ?_⟩
        · rw [hl.out, hh.out]
        (repeat' (first | with_reducible exact Up.refl _ | with_reducible assumption | with_reducible refine Up.alloc ?_ _ | with_reducible refine Up.drew ?_ | with_reducible refine Up.drewN ?_ _ | with_reducible refine Up.setCell ?_ (by (try simp only [World.size_alloc, World.size_setCell, World.heap_drewN, World.size_drew]); omega) _ | (with_reducible refine Up.trans ?_ (by with_reducible assumption))))
      · have v : b * b ≤ a * a := by rw [← Int.neg_mul_neg a a]; exact sq_le (by omega) (by omega)
        by_cases u : b * b < a * a
        · skip
          have hl := hide (show sqLo a b = 0 by unfold sqLo; rw [if_neg p, if_neg q])
          have hh := hide (show sqHi a b = ce (a * a) 1000000 by unfold sqHi; rw [if_neg r])
          have z : inB 0 a b = true := by simp [inB]; omega
          have g : decide (b * b < a * a) = true := by simpa using u
          go_enter Try.func91, Try.ntmps91
          go_wp2_with fail
          go_quiet (fail)
          go_wp2_with (first
            | (go_at_call 98; refine (im_Interval_has _ _ _ _).mono ?_; rintro e wn ⟨rfl, hu⟩; obtain ⟨N, J, JF, hn1, hn2, hz, hc, hf⟩ := hu.facts; (try simp only [World.size_alloc, World.size_setCell, World.heap_drewN, World.size_drew] at hn1 hn2))
            | (go_at_call 99; refine (i_floorP _ _ (by omega) (by omega) (by omega) (by omega) _).mono ?_; rintro e w' ⟨rfl, rfl⟩)
            | (go_at_call 100; refine (i_ceil _ _ (by omega) (by omega) (by omega) (by omega) (by omega) _).mono ?_; rintro e w' ⟨rfl, rfl⟩))
          refine ret_agg2 Try.results91 rfl Try.underlying26 rfl (by kernel_rfl) rfl (by simp [isSome_setCell, cell_setI, cell_drewI, cell_allocI, ↓IntWalk.iteOmega, *]) (by simp [isSome_setCell, cell_setI, cell_drewI, cell_allocI, ↓IntWalk.iteOmega, *]) ⟨?_, ?_⟩
          · rw [hl.out, hh.out]
          (repeat' (first | with_reducible exact Up.refl _ | with_reducible assumption | with_reducible refine Up.alloc ?_ _ | with_reducible refine Up.drew ?_ | with_reducible refine Up.drewN ?_ _ | with_reducible refine Up.setCell ?_ (by (try simp only [World.size_alloc, World.size_setCell, World.heap_drewN, World.size_drew]); omega) _ | (with_reducible refine Up.trans ?_ (by with_reducible assumption))))
        · have u2 : a * a = b * b := by omega
          have u := Int.not_lt.1 u
          have u2 := hide u2
          have hl := hide (show sqLo a b = 0 by unfold sqLo; rw [if_neg p, if_neg q])
          have hh := hide (show sqHi a b = ce (b * b) 1000000 by unfold sqHi; rw [if_neg r, u2.out])
          have z : inB 0 a b = true := by simp [inB]; omega
          have g : decide (b * b < a * a) = false := by simpa using u
          clear u v
          go_enter Try.func91, Try.ntmps91
          go_wp2_with fail
          go_quiet (fail)
          go_wp2_with (first
            | (go_at_call 98; refine (im_Interval_has _ _ _ _).mono ?_; rintro e wn ⟨rfl, hu⟩; obtain ⟨N, J, JF, hn1, hn2, hz, hc, hf⟩ := hu.facts; (try simp only [World.size_alloc, World.size_setCell, World.heap_drewN, World.size_drew] at hn1 hn2))
            | (go_at_call 99; refine (i_floorP _ _ (by omega) (by omega) (by omega) (by omega) _).mono ?_; rintro e w' ⟨rfl, rfl⟩)
            | (go_at_call 100; refine (i_ceil _ _ (by omega) (by omega) (by omega) (by omega) (by omega) _).mono ?_; rintro e w' ⟨rfl, rfl⟩))
          refine ret_agg2 Try.results91 rfl Try.underlying26 rfl (by kernel_rfl) rfl (by simp [isSome_setCell, cell_setI, cell_drewI, cell_allocI, ↓IntWalk.iteOmega, *]) (by simp [isSome_setCell, cell_setI, cell_drewI, cell_allocI, ↓IntWalk.iteOmega, *]) ⟨?_, ?_⟩
          · rw [hl.out, hh.out]
          (repeat' (first | with_reducible exact Up.refl _ | with_reducible assumption | with_reducible refine Up.alloc ?_ _ | with_reducible refine Up.drew ?_ | with_reducible refine Up.drewN ?_ _ | with_reducible refine Up.setCell ?_ (by (try simp only [World.size_alloc, World.size_setCell, World.heap_drewN, World.size_drew]); omega) _ | (with_reducible refine Up.trans ?_ (by with_reducible assumption))))
/-- what LengthSquare returns -/
def lenLo (a b c d p q : Int) : Int := sqLo a b + sqLo c d + sqLo p q
def lenHi (a b c d p q : Int) : Int := sqHi a b + sqHi c d + sqHi p q
def lenR (a b c d p q : Int) : Int × Int × Int := if vecB a b c d p q then (lenLo a b c d p q, lenHi a b c d p q, 0) else (0, 0, 1)
theorem vecB_iff {a b c d p q : Int} : vecB a b c d p q = true ↔ (partB a b = true ∧ partB c d = true ∧ partB p q = true) := by simp [vecB]
set_option maxHeartbeats 2000000 in
theorem s_LengthSquare (a b c d p q : Int) (w : World) :
    Calls Try.prog 15 #[.agg #[.int .i64 a, .int .i64 b, .int .i64 c, .int .i64 d, .int .i64 p, .int .i64 q]] w fun e w' => e = .returned (.tuple #[.agg #[.int .i64 (lenR a b c d p q).1, .int .i64 (lenR a b c d p q).2.1], .int .i64 (lenR a b c d p q).2.2]) ∧ Up w w' := by
  by_cases h : vecB a b c d p q = true
  · have hv := hide (show lenR a b c d p q = (lenLo a b c d p q, lenHi a b c d p q, 0) by unfold lenR; rw [if_pos h])
    obtain ⟨v1, v2, v3⟩ := vecB_iff.1 h
    obtain ⟨x1, x2, x3, x4⟩ := sq_out v1
    obtain ⟨y1, y2, y3, y4⟩ := sq_out v2
    obtain ⟨z1, z2, z3, z4⟩ := sq_out v3
    go_enter Try.func15, Try.ntmps15
    go_upto_region 3 with (go_at_call 59; refine (s_IsVector _ _ _ _ _ _ _).mono ?_; rintro e wn ⟨rfl, hu⟩; obtain ⟨N, J, JF, hn1, hn2, hz, hc, hf⟩ := hu.facts; (try simp only [World.size_alloc, World.size_setCell, World.heap_drewN, World.size_drew] at hn1 hn2); (try simp only [cell_drewI] at hc); (try simp only [frz_drewI] at hf))
    refine wp_gen ?_
    intro W0 hW0
    have s1 : W0.cell? ⟨w.heap.size, 0, none⟩ = some (.int .i64 a) := by rw [hW0]; (simp [isSome_setCell, cell_setI, cell_drewI, cell_allocI, ↓IntWalk.iteOmega, *])
    have s2 : W0.cell? ⟨w.heap.size, 1, none⟩ = some (.int .i64 b) := by rw [hW0]; (simp [isSome_setCell, cell_setI, cell_drewI, cell_allocI, ↓IntWalk.iteOmega, *])
    have s3 : W0.cell? ⟨w.heap.size, 2, none⟩ = some (.int .i64 c) := by rw [hW0]; (simp [isSome_setCell, cell_setI, cell_drewI, cell_allocI, ↓IntWalk.iteOmega, *])
    have s4 : W0.cell? ⟨w.heap.size, 3, none⟩ = some (.int .i64 d) := by rw [hW0]; (simp [isSome_setCell, cell_setI, cell_drewI, cell_allocI, ↓IntWalk.iteOmega, *])
    have s5 : W0.cell? ⟨w.heap.size, 4, none⟩ = some (.int .i64 p) := by rw [hW0]; (simp [isSome_setCell, cell_setI, cell_drewI, cell_allocI, ↓IntWalk.iteOmega, *])
    have s6 : W0.cell? ⟨w.heap.size, 5, none⟩ = some (.int .i64 q) := by rw [hW0]; (simp [isSome_setCell, cell_setI, cell_drewI, cell_allocI, ↓IntWalk.iteOmega, *])
    have z0 : W0.frozen? ⟨w.heap.size + 1, 0, none⟩ = false := by rw [hW0]; (simp [frz_drewI, frz_allocI, ↓IntWalk.iteOmega, *])
    have r0 : W0.cell? ⟨w.heap.size + 1, 0, none⟩ = some (.int .i64 0) := by rw [hW0]; (simp [isSome_setCell, cell_setI, cell_drewI, cell_allocI, ↓IntWalk.iteOmega, *])
    have z1 : W0.frozen? ⟨w.heap.size + 1, 1, none⟩ = false := by rw [hW0]; (simp [frz_drewI, frz_allocI, ↓IntWalk.iteOmega, *])
    have r1 : W0.cell? ⟨w.heap.size + 1, 1, none⟩ = some (.int .i64 0) := by rw [hW0]; (simp [isSome_setCell, cell_setI, cell_drewI, cell_allocI, ↓IntWalk.iteOmega, *])
    have hU0 : Up w W0 := by rw [hW0]; (repeat' (first | with_reducible exact Up.refl _ | with_reducible assumption | with_reducible refine Up.alloc ?_ _ | with_reducible refine Up.drew ?_ | with_reducible refine Up.drewN ?_ _ | with_reducible refine Up.setCell ?_ (by (try simp only [World.size_alloc, World.size_setCell, World.heap_drewN, World.size_drew]); omega) _ | (with_reducible refine Up.trans ?_ (by with_reducible assumption))))
    have hs0 : w.heap.size + 1 + 1 ≤ W0.heap.size := by rw [hW0]; (try simp only [World.size_alloc, World.size_setCell, World.heap_drewN, World.size_drew]); omega
    clear hW0 hc hf hu hz hn1 hn2
    have kS : ∀ w', Up W0 w' → w'.cell? ⟨w.heap.size, 0, none⟩ = some (.int .i64 a) ∧ w'.cell? ⟨w.heap.size, 1, none⟩ = some (.int .i64 b) ∧ w'.cell? ⟨w.heap.size, 2, none⟩ = some (.int .i64 c) ∧ w'.cell? ⟨w.heap.size, 3, none⟩ = some (.int .i64 d) ∧ w'.cell? ⟨w.heap.size, 4, none⟩ = some (.int .i64 p) ∧ w'.cell? ⟨w.heap.size, 5, none⟩ = some (.int .i64 q) ∧ w'.cell? ⟨w.heap.size + 1, 0, none⟩ = some (cellV w' (w.heap.size + 1) 0) ∧ w'.cell? ⟨w.heap.size + 1, 1, none⟩ = some (cellV w' (w.heap.size + 1) 1) := fun w' hU => ⟨(hU.cells _ _ (cell_lt s1)).trans s1, (hU.cells _ _ (cell_lt s2)).trans s2, (hU.cells _ _ (cell_lt s3)).trans s3, (hU.cells _ _ (cell_lt s4)).trans s4, (hU.cells _ _ (cell_lt s5)).trans s5, (hU.cells _ _ (cell_lt s6)).trans s6, cellV_of (by rw [(hU.cells _ _ (cell_lt r0)).trans r0]; rfl), cellV_of (by rw [(hU.cells _ _ (cell_lt r1)).trans r1]; rfl)⟩
    go_region_held3 (fun w' => w'.cell? ⟨w.heap.size, 0, none⟩ = some (.int .i64 a) ∧ w'.cell? ⟨w.heap.size, 1, none⟩ = some (.int .i64 b) ∧ w'.cell? ⟨w.heap.size, 2, none⟩ = some (.int .i64 c) ∧ w'.cell? ⟨w.heap.size, 3, none⟩ = some (.int .i64 d) ∧ w'.cell? ⟨w.heap.size, 4, none⟩ = some (.int .i64 p) ∧ w'.cell? ⟨w.heap.size, 5, none⟩ = some (.int .i64 q) ∧ w'.cell? ⟨w.heap.size + 1, 0, none⟩ = some (cellV w' (w.heap.size + 1) 0) ∧ w'.cell? ⟨w.heap.size + 1, 1, none⟩ = some (cellV w' (w.heap.size + 1) 1))
      (first | (refine kS _ ?_; (repeat' (first | with_reducible exact Up.refl _ | with_reducible assumption | with_reducible refine Up.alloc ?_ _ | with_reducible refine Up.drew ?_ | with_reducible refine Up.drewN ?_ _ | with_reducible refine Up.setCell ?_ (by (try simp only [World.size_alloc, World.size_setCell, World.heap_drewN, World.size_drew]); omega) _ | (with_reducible refine Up.trans ?_ (by with_reducible assumption)))); done) | ((try dsimp only); (repeat' apply And.intro) <;> (first | (simp [cell_setI, isSome_setCell, ↓IntWalk.iteOmega, *]; done) | exact cellV_of (by simp [isSome_setCell, *]))))
      (first
        | (go_at_call 90; refine (s_l06Square _ _ (by assumption) _).mono ?_; rintro e wn ⟨rfl, hu⟩; obtain ⟨N, J, JF, hn1, hn2, hz, hc, hf⟩ := hu.facts; (try simp only [World.size_alloc, World.size_setCell, World.heap_drewN, World.size_drew] at hn1 hn2); (try simp only [cell_drewI] at hc); (try simp only [frz_drewI] at hf))
        | (go_at_call 89; refine (s_l02Add _ _ _ _ (by omega) (by omega) (by omega) (by omega) (by omega) (by omega) (by omega) (by omega) _).mono ?_; rintro e wn ⟨rfl, hu⟩; obtain ⟨N, J, JF, hn1, hn2, hz, hc, hf⟩ := hu.facts; (try simp only [World.size_alloc, World.size_setCell, World.heap_drewN, World.size_drew] at hn1 hn2); (try simp only [cell_drewI] at hc); (try simp only [frz_drewI] at hf)))
    go_wp2_with fail
    refine ret_agg2t Try.results15 rfl Try.underlying26 rfl (by kernel_rfl) rfl (by simp [isSome_setCell, cell_setI, cell_drewI, cell_allocI, ↓IntWalk.iteOmega, *]) (by simp [isSome_setCell, cell_setI, cell_drewI, cell_allocI, ↓IntWalk.iteOmega, *]) ⟨?_, ?_⟩
    · rw [hv.out]; rfl
    (repeat' (first | with_reducible exact Up.refl _ | with_reducible assumption | with_reducible refine Up.alloc ?_ _ | with_reducible refine Up.drew ?_ | with_reducible refine Up.drewN ?_ _ | with_reducible refine Up.setCell ?_ (by (try simp only [World.size_alloc, World.size_setCell, World.heap_drewN, World.size_drew]); omega) _ | (with_reducible refine Up.trans ?_ (by with_reducible assumption))))
  · have hv := hide (show lenR a b c d p q = (0, 0, 1) by unfold lenR; rw [if_neg h])
    have h : vecB a b c d p q = false := by simpa using h
    go_enter Try.func15, Try.ntmps15
    go_wp2_with (go_at_call 59; refine (s_IsVector _ _ _ _ _ _ _).mono ?_; rintro e wn ⟨rfl, hu⟩; obtain ⟨N, J, JF, hn1, hn2, hz, hc, hf⟩ := hu.facts; (try simp only [World.size_alloc, World.size_setCell, World.heap_drewN, World.size_drew] at hn1 hn2); (try simp only [cell_drewI] at hc); (try simp only [frz_drewI] at hf))
    refine ret_agg2t Try.results15 rfl Try.underlying26 rfl (by kernel_rfl) rfl (by simp [isSome_setCell, cell_setI, cell_drewI, cell_allocI, ↓IntWalk.iteOmega, *]) (by simp [isSome_setCell, cell_setI, cell_drewI, cell_allocI, ↓IntWalk.iteOmega, *]) ⟨?_, ?_⟩
    · rw [hv.out]; rfl
    (repeat' (first | with_reducible exact Up.refl _ | with_reducible assumption | with_reducible refine Up.alloc ?_ _ | with_reducible refine Up.drew ?_ | with_reducible refine Up.drewN ?_ _ | with_reducible refine Up.setCell ?_ (by (try simp only [World.size_alloc, World.size_setCell, World.heap_drewN, World.size_drew]); omega) _ | (with_reducible refine Up.trans ?_ (by with_reducible assumption))))
set_option maxHeartbeats 2000000 in
theorem i_LengthSquare (a b c d p q : Int) (w : World) :
    Calls Try.prog 17 #[.agg #[.int .i64 a, .int .i64 b, .int .i64 c, .int .i64 d, .int .i64 p, .int .i64 q]] w fun e w' => e = .returned (.tuple #[.agg #[.int .i64 (lenR a b c d p q).1, .int .i64 (lenR a b c d p q).2.1], .int .i64 (lenR a b c d p q).2.2]) ∧ Up w w' := by
  by_cases h : vecB a b c d p q = true
  · have hv := hide (show lenR a b c d p q = (lenLo a b c d p q, lenHi a b c d p q, 0) by unfold lenR; rw [if_pos h])
    obtain ⟨v1, v2, v3⟩ := vecB_iff.1 h
    obtain ⟨x1, x2, x3, x4⟩ := sq_out v1
    obtain ⟨y1, y2, y3, y4⟩ := sq_out v2
    obtain ⟨z1, z2, z3, z4⟩ := sq_out v3
    go_enter Try.func17, Try.ntmps17
    go_upto_region 3 with (go_at_call 58; refine (i_IsVector _ _ _ _ _ _ _).mono ?_; rintro e wn ⟨rfl, hu⟩; obtain ⟨N, J, JF, hn1, hn2, hz, hc, hf⟩ := hu.facts; (try simp only [World.size_alloc, World.size_setCell, World.heap_drewN, World.size_drew] at hn1 hn2); (try simp only [cell_drewI] at hc); (try simp only [frz_drewI] at hf))
    refine wp_gen ?_
    intro W0 hW0
    have s1 : W0.cell? ⟨w.heap.size, 0, none⟩ = some (.int .i64 a) := by rw [hW0]; (simp [isSome_setCell, cell_setI, cell_drewI, cell_allocI, ↓IntWalk.iteOmega, *])
    have s2 : W0.cell? ⟨w.heap.size, 1, none⟩ = some (.int .i64 b) := by rw [hW0]; (simp [isSome_setCell, cell_setI, cell_drewI, cell_allocI, ↓IntWalk.iteOmega, *])
    have s3 : W0.cell? ⟨w.heap.size, 2, none⟩ = some (.int .i64 c) := by rw [hW0]; (simp [isSome_setCell, cell_setI, cell_drewI, cell_allocI, ↓IntWalk.iteOmega, *])
    have s4 : W0.cell? ⟨w.heap.size, 3, none⟩ = some (.int .i64 d) := by rw [hW0]; (simp [isSome_setCell, cell_setI, cell_drewI, cell_allocI, ↓IntWalk.iteOmega, *])
    have s5 : W0.cell? ⟨w.heap.size, 4, none⟩ = some (.int .i64 p) := by rw [hW0]; (simp [isSome_setCell, cell_setI, cell_drewI, cell_allocI, ↓IntWalk.iteOmega, *])
    have s6 : W0.cell? ⟨w.heap.size, 5, none⟩ = some (.int .i64 q) := by rw [hW0]; (simp [isSome_setCell, cell_setI, cell_drewI, cell_allocI, ↓IntWalk.iteOmega, *])
    have z0 : W0.frozen? ⟨w.heap.size + 1, 0, none⟩ = false := by rw [hW0]; (simp [frz_drewI, frz_allocI, ↓IntWalk.iteOmega, *])
    have r0 : W0.cell? ⟨w.heap.size + 1, 0, none⟩ = some (.int .i64 0) := by rw [hW0]; (simp [isSome_setCell, cell_setI, cell_drewI, cell_allocI, ↓IntWalk.iteOmega, *])
    have z1 : W0.frozen? ⟨w.heap.size + 1, 1, none⟩ = false := by rw [hW0]; (simp [frz_drewI, frz_allocI, ↓IntWalk.iteOmega, *])
    have r1 : W0.cell? ⟨w.heap.size + 1, 1, none⟩ = some (.int .i64 0) := by rw [hW0]; (simp [isSome_setCell, cell_setI, cell_drewI, cell_allocI, ↓IntWalk.iteOmega, *])
    have hU0 : Up w W0 := by rw [hW0]; (repeat' (first | with_reducible exact Up.refl _ | with_reducible assumption | with_reducible refine Up.alloc ?_ _ | with_reducible refine Up.drew ?_ | with_reducible refine Up.drewN ?_ _ | with_reducible refine Up.setCell ?_ (by (try simp only [World.size_alloc, World.size_setCell, World.heap_drewN, World.size_drew]); omega) _ | (with_reducible refine Up.trans ?_ (by with_reducible assumption))))
    have hs0 : w.heap.size + 1 + 1 ≤ W0.heap.size := by rw [hW0]; (try simp only [World.size_alloc, World.size_setCell, World.heap_drewN, World.size_drew]); omega
    clear hW0 hc hf hu hz hn1 hn2
    have kS : ∀ w', Up W0 w' → w'.cell? ⟨w.heap.size, 0, none⟩ = some (.int .i64 a) ∧ w'.cell? ⟨w.heap.size, 1, none⟩ = some (.int .i64 b) ∧ w'.cell? ⟨w.heap.size, 2, none⟩ = some (.int .i64 c) ∧ w'.cell? ⟨w.heap.size, 3, none⟩ = some (.int .i64 d) ∧ w'.cell? ⟨w.heap.size, 4, none⟩ = some (.int .i64 p) ∧ w'.cell? ⟨w.heap.size, 5, none⟩ = some (.int .i64 q) ∧ w'.cell? ⟨w.heap.size + 1, 0, none⟩ = some (cellV w' (w.heap.size + 1) 0) ∧ w'.cell? ⟨w.heap.size + 1, 1, none⟩ = some (cellV w' (w.heap.size + 1) 1) := fun w' hU => ⟨(hU.cells _ _ (cell_lt s1)).trans s1, (hU.cells _ _ (cell_lt s2)).trans s2, (hU.cells _ _ (cell_lt s3)).trans s3, (hU.cells _ _ (cell_lt s4)).trans s4, (hU.cells _ _ (cell_lt s5)).trans s5, (hU.cells _ _ (cell_lt s6)).trans s6, cellV_of (by rw [(hU.cells _ _ (cell_lt r0)).trans r0]; rfl), cellV_of (by rw [(hU.cells _ _ (cell_lt r1)).trans r1]; rfl)⟩
    go_region_held3 (fun w' => w'.cell? ⟨w.heap.size, 0, none⟩ = some (.int .i64 a) ∧ w'.cell? ⟨w.heap.size, 1, none⟩ = some (.int .i64 b) ∧ w'.cell? ⟨w.heap.size, 2, none⟩ = some (.int .i64 c) ∧ w'.cell? ⟨w.heap.size, 3, none⟩ = some (.int .i64 d) ∧ w'.cell? ⟨w.heap.size, 4, none⟩ = some (.int .i64 p) ∧ w'.cell? ⟨w.heap.size, 5, none⟩ = some (.int .i64 q) ∧ w'.cell? ⟨w.heap.size + 1, 0, none⟩ = some (cellV w' (w.heap.size + 1) 0) ∧ w'.cell? ⟨w.heap.size + 1, 1, none⟩ = some (cellV w' (w.heap.size + 1) 1))
      (first | (refine kS _ ?_; (repeat' (first | with_reducible exact Up.refl _ | with_reducible assumption | with_reducible refine Up.alloc ?_ _ | with_reducible refine Up.drew ?_ | with_reducible refine Up.drewN ?_ _ | with_reducible refine Up.setCell ?_ (by (try simp only [World.size_alloc, World.size_setCell, World.heap_drewN, World.size_drew]); omega) _ | (with_reducible refine Up.trans ?_ (by with_reducible assumption)))); done) | ((try dsimp only); (repeat' apply And.intro) <;> (first | (simp [cell_setI, isSome_setCell, ↓IntWalk.iteOmega, *]; done) | exact cellV_of (by simp [isSome_setCell, *]))))
      (first
        | (go_at_call 91; refine (im_Interval_square _ _ (by assumption) _).mono ?_; rintro e wn ⟨rfl, hu⟩; obtain ⟨N, J, JF, hn1, hn2, hz, hc, hf⟩ := hu.facts; (try simp only [World.size_alloc, World.size_setCell, World.heap_drewN, World.size_drew] at hn1 hn2); (try simp only [cell_drewI] at hc); (try simp only [frz_drewI] at hf))
        | (go_at_call 92; refine (im_Interval_plus _ _ _ _ (by omega) (by omega) (by omega) (by omega) (by omega) (by omega) (by omega) (by omega) _).mono ?_; rintro e wn ⟨rfl, hu⟩; obtain ⟨N, J, JF, hn1, hn2, hz, hc, hf⟩ := hu.facts; (try simp only [World.size_alloc, World.size_setCell, World.heap_drewN, World.size_drew] at hn1 hn2); (try simp only [cell_drewI] at hc); (try simp only [frz_drewI] at hf)))
    go_wp2_with fail
    refine ret_agg2t Try.results17 rfl Try.underlying26 rfl (by kernel_rfl) rfl (by simp [isSome_setCell, cell_setI, cell_drewI, cell_allocI, ↓IntWalk.iteOmega, *]) (by simp [isSome_setCell, cell_setI, cell_drewI, cell_allocI, ↓IntWalk.iteOmega, *]) ⟨?_, ?_⟩
    · rw [hv.out]; rfl
    (repeat' (first | with_reducible exact Up.refl _ | with_reducible assumption | with_reducible refine Up.alloc ?_ _ | with_reducible refine Up.drew ?_ | with_reducible refine Up.drewN ?_ _ | with_reducible refine Up.setCell ?_ (by (try simp only [World.size_alloc, World.size_setCell, World.heap_drewN, World.size_drew]); omega) _ | (with_reducible refine Up.trans ?_ (by with_reducible assumption))))
  · have hv := hide (show lenR a b c d p q = (0, 0, 1) by unfold lenR; rw [if_neg h])
    have h : vecB a b c d p q = false := by simpa using h
    go_enter Try.func17, Try.ntmps17
    go_wp2_with (go_at_call 58; refine (i_IsVector _ _ _ _ _ _ _).mono ?_; rintro e wn ⟨rfl, hu⟩; obtain ⟨N, J, JF, hn1, hn2, hz, hc, hf⟩ := hu.facts; (try simp only [World.size_alloc, World.size_setCell, World.heap_drewN, World.size_drew] at hn1 hn2); (try simp only [cell_drewI] at hc); (try simp only [frz_drewI] at hf))
    refine ret_agg2t Try.results17 rfl Try.underlying26 rfl (by kernel_rfl) rfl (by simp [isSome_setCell, cell_setI, cell_drewI, cell_allocI, ↓IntWalk.iteOmega, *]) (by simp [isSome_setCell, cell_setI, cell_drewI, cell_allocI, ↓IntWalk.iteOmega, *]) ⟨?_, ?_⟩
    · rw [hv.out]; rfl
    (repeat' (first | with_reducible exact Up.refl _ | with_reducible assumption | with_reducible refine Up.alloc ?_ _ | with_reducible refine Up.drew ?_ | with_reducible refine Up.drewN ?_ _ | with_reducible refine Up.setCell ?_ (by (try simp only [World.size_alloc, World.size_setCell, World.heap_drewN, World.size_drew]); omega) _ | (with_reducible refine Up.trans ?_ (by with_reducible assumption))))
end Go.Proofs.Ytanafhmjmfkpmaa
