import Derived.Test.YtanafhmjmfkpmaaIvOps
import Derived.LoopN
/- DivideIntervals: the contracts. -/
namespace Go.Proofs.Ytanafhmjmfkpmaa
set_option linter.unusedSimpArgs false
set_option linter.unusedVariables false
open Go.RowKit
attribute [local go_sem] cell_allocI frz_allocI later_cell later_frz
attribute [local go_sem ↓] min_two max_two min_four max_four
attribute [local go_sem] cell_setI
/-- may both intervals be multiplied, or divided? -/
def smallB (a b : Int) : Bool := inB a (-1000000000) 1000000000 && inB b (-1000000000) 1000000000
def facCode (a b c d : Int) : Int := if isIvB a b && isIvB c d then (if smallB a b && smallB c d then 0 else 2) else 1
theorem facCode_ok {a b c d : Int} : facCode a b c d = 0 ↔ (-1000000000 ≤ a ∧ a ≤ b ∧ b ≤ 1000000000 ∧ -1000000000 ≤ c ∧ c ≤ d ∧ d ≤ 1000000000) := by
  unfold facCode
  constructor
  · intro h
    split at h
    · split at h
      · simp_all [smallB, isIvB, inB]
      · cases h
    · cases h
  · intro h
    have h1 : (isIvB a b && isIvB c d) = true := by simp [isIvB, inB]; omega
    have h2 : (smallB a b && smallB c d) = true := by simp [smallB, inB]; omega
    rw [if_pos h1, if_pos h2]
def divLo (a b c d : Int) : Int := min4 (fl (a * 1000000) c) (fl (a * 1000000) d) (fl (b * 1000000) c) (fl (b * 1000000) d)
def divHi (a b c d : Int) : Int := max4 (ce (a * 1000000) c) (ce (a * 1000000) d) (ce (b * 1000000) c) (ce (b * 1000000) d)
def divR (a b c d : Int) : Int × Int × Int := if facCode a b c d = 0 then (if inB 0 c d then (0, 0, 5) else toldR (divLo a b c d) (divHi a b c d)) else (0, 0, facCode a b c d)
theorem quo_bd {x y : Int} (hy : y ≠ 0) (h1 : -1000000000 ≤ x) (h2 : x ≤ 1000000000) : -1000000000000000 ≤ fl (x * 1000000) y ∧ fl (x * 1000000) y ≤ 1000000000000000 ∧ -1000000000000000 ≤ ce (x * 1000000) y ∧ ce (x * 1000000) y ≤ 1000000000000000 := by
  have := fl_bd (a := x * 1000000) hy (M := 1000000000000000) (by omega) (by omega)
  have := fl_bd (a := -(x * 1000000)) hy (M := 1000000000000000) (by omega) (by omega)
  unfold ce
  omega
theorem i_factors (a b c d : Int) (w : World) :
    Calls Try.prog 97 #[.agg #[.int .i64 a, .int .i64 b], .agg #[.int .i64 c, .int .i64 d]] w fun e w' => e = .returned (.int .i64 (facCode a b c d)) ∧ Up w w' := by
  by_cases h1 : isIvB a b = true
  · by_cases h2 : isIvB c d = true
    · by_cases h3 : (inB a (-1000000000) 1000000000 && inB b (-1000000000) 1000000000) = true
      · by_cases h4 : (inB c (-1000000000) 1000000000 && inB d (-1000000000) 1000000000) = true
        · have hv := hide (show facCode a b c d = 0 by unfold facCode smallB; simp only [h1, h2, h3, h4, Bool.and_true, Bool.true_and, Bool.and_false, Bool.false_and, if_true, Bool.false_eq_true, if_false])
          go_enter Try.func97, Try.ntmps97
          go_wp2_with (first
      | (go_at_call 29; refine (i_IsInterval _ _ _).mono ?_; rintro e wn ⟨rfl, hu⟩; obtain ⟨N, J, JF, hn1, hn2, hz, hc, hf⟩ := hu.facts; (try simp only [World.size_alloc, World.size_setCell, World.heap_drewN, World.size_drew] at hn1 hn2))
      | (go_at_call 158; refine (im_Interval_within _ _ _ (by omega) (by omega) _).mono ?_; rintro e wn ⟨rfl, hu⟩; obtain ⟨N, J, JF, hn1, hn2, hz, hc, hf⟩ := hu.facts; (try simp only [World.size_alloc, World.size_setCell, World.heap_drewN, World.size_drew] at hn1 hn2)))
          go_ret
          refine ⟨by rw [hv.out]; rfl, ?_⟩
          (repeat' (first | with_reducible exact Up.refl _ | with_reducible assumption | with_reducible refine Up.alloc ?_ _ | with_reducible refine Up.drew ?_ | with_reducible refine Up.drewN ?_ _ | with_reducible refine Up.setCell ?_ (by (try simp only [World.size_alloc, World.size_setCell, World.heap_drewN, World.size_drew]); omega) _ | (with_reducible refine Up.trans ?_ (by with_reducible assumption))))
        · have h4n : (inB c (-1000000000) 1000000000 && inB d (-1000000000) 1000000000) = false := by simpa using h4
          clear h4
          have h4 := h4n
          clear h4n
          have hv := hide (show facCode a b c d = 2 by unfold facCode smallB; simp only [h1, h2, h3, h4, Bool.and_true, Bool.true_and, Bool.and_false, Bool.false_and, if_true, Bool.false_eq_true, if_false])
          go_enter Try.func97, Try.ntmps97
          go_wp2_with (first
      | (go_at_call 29; refine (i_IsInterval _ _ _).mono ?_; rintro e wn ⟨rfl, hu⟩; obtain ⟨N, J, JF, hn1, hn2, hz, hc, hf⟩ := hu.facts; (try simp only [World.size_alloc, World.size_setCell, World.heap_drewN, World.size_drew] at hn1 hn2))
      | (go_at_call 158; refine (im_Interval_within _ _ _ (by omega) (by omega) _).mono ?_; rintro e wn ⟨rfl, hu⟩; obtain ⟨N, J, JF, hn1, hn2, hz, hc, hf⟩ := hu.facts; (try simp only [World.size_alloc, World.size_setCell, World.heap_drewN, World.size_drew] at hn1 hn2)))
          go_ret
          refine ⟨by rw [hv.out]; rfl, ?_⟩
          (repeat' (first | with_reducible exact Up.refl _ | with_reducible assumption | with_reducible refine Up.alloc ?_ _ | with_reducible refine Up.drew ?_ | with_reducible refine Up.drewN ?_ _ | with_reducible refine Up.setCell ?_ (by (try simp only [World.size_alloc, World.size_setCell, World.heap_drewN, World.size_drew]); omega) _ | (with_reducible refine Up.trans ?_ (by with_reducible assumption))))
      · have h3n : (inB a (-1000000000) 1000000000 && inB b (-1000000000) 1000000000) = false := by simpa using h3
        clear h3
        have h3 := h3n
        clear h3n
        have hv := hide (show facCode a b c d = 2 by unfold facCode smallB; simp only [h1, h2, h3, Bool.and_true, Bool.true_and, Bool.and_false, Bool.false_and, if_true, Bool.false_eq_true, if_false])
        go_enter Try.func97, Try.ntmps97
        go_wp2_with (first
      | (go_at_call 29; refine (i_IsInterval _ _ _).mono ?_; rintro e wn ⟨rfl, hu⟩; obtain ⟨N, J, JF, hn1, hn2, hz, hc, hf⟩ := hu.facts; (try simp only [World.size_alloc, World.size_setCell, World.heap_drewN, World.size_drew] at hn1 hn2))
      | (go_at_call 158; refine (im_Interval_within _ _ _ (by omega) (by omega) _).mono ?_; rintro e wn ⟨rfl, hu⟩; obtain ⟨N, J, JF, hn1, hn2, hz, hc, hf⟩ := hu.facts; (try simp only [World.size_alloc, World.size_setCell, World.heap_drewN, World.size_drew] at hn1 hn2)))
        go_ret
        refine ⟨by rw [hv.out]; rfl, ?_⟩
        (repeat' (first | with_reducible exact Up.refl _ | with_reducible assumption | with_reducible refine Up.alloc ?_ _ | with_reducible refine Up.drew ?_ | with_reducible refine Up.drewN ?_ _ | with_reducible refine Up.setCell ?_ (by (try simp only [World.size_alloc, World.size_setCell, World.heap_drewN, World.size_drew]); omega) _ | (with_reducible refine Up.trans ?_ (by with_reducible assumption))))
    · have h2n : isIvB c d = false := by simpa using h2
      clear h2
      have h2 := h2n
      clear h2n
      have hv := hide (show facCode a b c d = 1 by unfold facCode smallB; simp only [h1, h2, Bool.and_true, Bool.true_and, Bool.and_false, Bool.false_and, if_true, Bool.false_eq_true, if_false])
      go_enter Try.func97, Try.ntmps97
      go_wp2_with (first
      | (go_at_call 29; refine (i_IsInterval _ _ _).mono ?_; rintro e wn ⟨rfl, hu⟩; obtain ⟨N, J, JF, hn1, hn2, hz, hc, hf⟩ := hu.facts; (try simp only [World.size_alloc, World.size_setCell, World.heap_drewN, World.size_drew] at hn1 hn2))
      | (go_at_call 158; refine (im_Interval_within _ _ _ (by omega) (by omega) _).mono ?_; rintro e wn ⟨rfl, hu⟩; obtain ⟨N, J, JF, hn1, hn2, hz, hc, hf⟩ := hu.facts; (try simp only [World.size_alloc, World.size_setCell, World.heap_drewN, World.size_drew] at hn1 hn2)))
      go_ret
      refine ⟨by rw [hv.out]; rfl, ?_⟩
      (repeat' (first | with_reducible exact Up.refl _ | with_reducible assumption | with_reducible refine Up.alloc ?_ _ | with_reducible refine Up.drew ?_ | with_reducible refine Up.drewN ?_ _ | with_reducible refine Up.setCell ?_ (by (try simp only [World.size_alloc, World.size_setCell, World.heap_drewN, World.size_drew]); omega) _ | (with_reducible refine Up.trans ?_ (by with_reducible assumption))))
  · have h1n : isIvB a b = false := by simpa using h1
    clear h1
    have h1 := h1n
    clear h1n
    have hv := hide (show facCode a b c d = 1 by unfold facCode smallB; simp only [h1, Bool.and_true, Bool.true_and, Bool.and_false, Bool.false_and, if_true, Bool.false_eq_true, if_false])
    go_enter Try.func97, Try.ntmps97
    go_wp2_with (first
      | (go_at_call 29; refine (i_IsInterval _ _ _).mono ?_; rintro e wn ⟨rfl, hu⟩; obtain ⟨N, J, JF, hn1, hn2, hz, hc, hf⟩ := hu.facts; (try simp only [World.size_alloc, World.size_setCell, World.heap_drewN, World.size_drew] at hn1 hn2))
      | (go_at_call 158; refine (im_Interval_within _ _ _ (by omega) (by omega) _).mono ?_; rintro e wn ⟨rfl, hu⟩; obtain ⟨N, J, JF, hn1, hn2, hz, hc, hf⟩ := hu.facts; (try simp only [World.size_alloc, World.size_setCell, World.heap_drewN, World.size_drew] at hn1 hn2)))
    go_ret
    refine ⟨by rw [hv.out]; rfl, ?_⟩
    (repeat' (first | with_reducible exact Up.refl _ | with_reducible assumption | with_reducible refine Up.alloc ?_ _ | with_reducible refine Up.drew ?_ | with_reducible refine Up.drewN ?_ _ | with_reducible refine Up.setCell ?_ (by (try simp only [World.size_alloc, World.size_setCell, World.heap_drewN, World.size_drew]); omega) _ | (with_reducible refine Up.trans ?_ (by with_reducible assumption))))
theorem s_l02Two (a b c d : Int) (w : World) :
    Calls Try.prog 93 #[.agg #[.int .i64 a, .int .i64 b], .agg #[.int .i64 c, .int .i64 d]] w fun e w' => e = .returned (.bool (isIvB a b && isIvB c d)) ∧ Up w w' := by
  go_enter Try.func93, Try.ntmps93
  go_wp2_with (first
      | (go_at_call 30; refine (s_IsInterval _ _ _).mono ?_; rintro e wn ⟨rfl, hu⟩; obtain ⟨N, J, JF, hn1, hn2, hz, hc, hf⟩ := hu.facts; (try simp only [World.size_alloc, World.size_setCell, World.heap_drewN, World.size_drew] at hn1 hn2)))
  all_goals (go_ret; refine ⟨ret_bool ?_, ?_⟩; · simp [*]
             (repeat' (first | with_reducible exact Up.refl _ | with_reducible assumption | with_reducible refine Up.alloc ?_ _ | with_reducible refine Up.drew ?_ | with_reducible refine Up.drewN ?_ _ | with_reducible refine Up.setCell ?_ (by (try simp only [World.size_alloc, World.size_setCell, World.heap_drewN, World.size_drew]); omega) _ | (with_reducible refine Up.trans ?_ (by with_reducible assumption)))))
theorem s_l02Small (a b : Int) (w : World) :
    Calls Try.prog 94 #[.agg #[.int .i64 a, .int .i64 b]] w fun e w' => e = .returned (.bool (smallB a b)) ∧ Up w w' := by
  unfold smallB
  go_enter Try.func94, Try.ntmps94
  go_wp2_with (first
      | (go_at_call 121; refine (s_l01In _ _ _ _).mono ?_; rintro e w' ⟨rfl, rfl⟩))
  all_goals (go_ret; refine ⟨ret_bool ?_, ?_⟩; · simp [*]
             (repeat' (first | with_reducible exact Up.refl _ | with_reducible assumption | with_reducible refine Up.alloc ?_ _ | with_reducible refine Up.drew ?_ | with_reducible refine Up.drewN ?_ _ | with_reducible refine Up.setCell ?_ (by (try simp only [World.size_alloc, World.size_setCell, World.heap_drewN, World.size_drew]); omega) _ | (with_reducible refine Up.trans ?_ (by with_reducible assumption)))))
theorem s_l02Div (a b c d : Int) (a1 : -1000000000 ≤ a) (a2 : a ≤ 1000000000) (b1 : -1000000000 ≤ b) (b2 : b ≤ 1000000000) (c0 : c ≠ 0) (c1 : -1000000000 ≤ c) (c2 : c ≤ 1000000000) (d0 : d ≠ 0) (d1 : -1000000000 ≤ d) (d2 : d ≤ 1000000000) (w : World) :
    Calls Try.prog 96 #[.agg #[.int .i64 a, .int .i64 b], .agg #[.int .i64 c, .int .i64 d]] w fun e w' => e = .returned (.agg #[.int .i64 (divLo a b c d), .int .i64 (divHi a b c d)]) ∧ Up w w' := by
  unfold divLo divHi
  obtain ⟨x1, x2, x3, x4⟩ := quo_bd c0 a1 a2
  obtain ⟨y1, y2, y3, y4⟩ := quo_bd d0 a1 a2
  obtain ⟨z1, z2, z3, z4⟩ := quo_bd c0 b1 b2
  obtain ⟨u1, u2, u3, u4⟩ := quo_bd d0 b1 b2
  go_enter Try.func96, Try.ntmps96
  go_wp2
  refine wp_region_later (by kernel_rfl) (by kernel_rfl) ?_
  repeat (go_big_quiet_step ((go_at_call 129; exact later_same (s_l01Floor _ _ (by omega) (by omega) (by omega) (by omega) (by omega) _))))
  refine wpQuiet_nil ?_; intro _ hw'; obtain ⟨x, hw''⟩ := hw'; subst hw''; obtain ⟨wn, hu⟩ := x; dsimp only; obtain ⟨N, J, JF, hn1, hn2, hz, hc, hf⟩ := hu.facts; (try simp only [World.size_alloc, World.size_setCell, World.heap_drewN, World.size_drew] at hn1 hn2)
  go_wp2
  refine wp_region_later (by kernel_rfl) (by kernel_rfl) ?_
  repeat (go_big_quiet_step ((go_at_call 157; exact later_same (s_l01Ceil _ _ (by omega) (by omega) (by omega) (by omega) (by omega) _))))
  refine wpQuiet_nil ?_; intro _ hw'; obtain ⟨x, hw''⟩ := hw'; subst hw''; obtain ⟨wn, hu⟩ := x; dsimp only; obtain ⟨N, J, JF, hn1, hn2, hz, hc, hf⟩ := hu.facts; (try simp only [World.size_alloc, World.size_setCell, World.heap_drewN, World.size_drew] at hn1 hn2)
  go_wp2
  refine ret_agg2 Try.results96 rfl Try.underlying26 rfl (by kernel_rfl) rfl (by simp [isSome_setCell, cell_allocI, ↓IntWalk.iteOmega, *]) (by simp [isSome_setCell, cell_allocI, ↓IntWalk.iteOmega, *]) ⟨rfl, ?_⟩
  (repeat' (first | with_reducible exact Up.refl _ | with_reducible assumption | with_reducible refine Up.alloc ?_ _ | with_reducible refine Up.drew ?_ | with_reducible refine Up.drewN ?_ _ | with_reducible refine Up.setCell ?_ (by (try simp only [World.size_alloc, World.size_setCell, World.heap_drewN, World.size_drew]); omega) _ | (with_reducible refine Up.trans ?_ (by with_reducible assumption))))
set_option maxHeartbeats 1000000 in
theorem s_DivideIntervals (a b c d : Int) (w : World) :
    Calls Try.prog 19 #[.agg #[.int .i64 a, .int .i64 b], .agg #[.int .i64 c, .int .i64 d]] w fun e w' => e = .returned (.tuple #[.agg #[.int .i64 (divR a b c d).1, .int .i64 (divR a b c d).2.1], .int .i64 (divR a b c d).2.2]) ∧ Up w w' := by
  by_cases h1 : (isIvB a b && isIvB c d) = true
  · by_cases h2 : smallB a b = true
    · by_cases h3 : smallB c d = true
      · have hfc : facCode a b c d = 0 := by unfold facCode; simp [h1, h2, h3]
        obtain ⟨k1, k9, k4, k5, k10, k8⟩ := facCode_ok.1 hfc
        have k2 : -1000000000 ≤ b := by omega
        have k3 : a ≤ 1000000000 := by omega
        have k6 : -1000000000 ≤ d := by omega
        have k7 : c ≤ 1000000000 := by omega
        by_cases hz : c ≤ 0 ∧ 0 ≤ d
        · have hv := hide (show divR a b c d = (0, 0, 5) by unfold divR; rw [hfc, if_pos rfl, if_pos (by simp [inB]; omega)])
          clear hfc
          obtain ⟨z1, z2⟩ := hz
          go_enter Try.func19, Try.ntmps19
          go_wp2_with (first
      | (go_at_call 93; refine (s_l02Two _ _ _ _ _).mono ?_; rintro e wn ⟨rfl, hu⟩; obtain ⟨N, J, JF, hn1, hn2, hz, hc, hf⟩ := hu.facts; (try simp only [World.size_alloc, World.size_setCell, World.heap_drewN, World.size_drew] at hn1 hn2))
      | (go_at_call 94; refine (s_l02Small _ _ _).mono ?_; rintro e wn ⟨rfl, hu⟩; obtain ⟨N, J, JF, hn1, hn2, hz, hc, hf⟩ := hu.facts; (try simp only [World.size_alloc, World.size_setCell, World.heap_drewN, World.size_drew] at hn1 hn2))
      | (go_at_call 95; refine (s_l02Result _ _ _).mono ?_; rintro e wn ⟨rfl, hu⟩; obtain ⟨N, J, JF, hn1, hn2, hz, hc, hf⟩ := hu.facts; (try simp only [World.size_alloc, World.size_setCell, World.heap_drewN, World.size_drew] at hn1 hn2)))
          refine ret_agg2t Try.results19 rfl Try.underlying26 rfl (by kernel_rfl) rfl (by simp [isSome_setCell, cell_allocI, ↓IntWalk.iteOmega, *]) (by simp [isSome_setCell, cell_allocI, ↓IntWalk.iteOmega, *]) ⟨?_, ?_⟩
          · rw [hv.out]; rfl
          (repeat' (first | with_reducible exact Up.refl _ | with_reducible assumption | with_reducible refine Up.alloc ?_ _ | with_reducible refine Up.drew ?_ | with_reducible refine Up.drewN ?_ _ | with_reducible refine Up.setCell ?_ (by (try simp only [World.size_alloc, World.size_setCell, World.heap_drewN, World.size_drew]); omega) _ | (with_reducible refine Up.trans ?_ (by with_reducible assumption))))
        · have hv := hide (show divR a b c d = toldR (divLo a b c d) (divHi a b c d) by unfold divR; rw [hfc, if_pos rfl, if_neg (by simp [inB]; omega)])
          clear hfc
          have n0 : c ≠ 0 := by omega
          have n1 : d ≠ 0 := by omega
          by_cases hz1 : c ≤ 0
          · have hz2 : d < 0 := by omega
            clear hz
            go_enter Try.func19, Try.ntmps19
            go_wp2_with (first
      | (go_at_call 93; refine (s_l02Two _ _ _ _ _).mono ?_; rintro e wn ⟨rfl, hu⟩; obtain ⟨N, J, JF, hn1, hn2, hz, hc, hf⟩ := hu.facts; (try simp only [World.size_alloc, World.size_setCell, World.heap_drewN, World.size_drew] at hn1 hn2))
      | (go_at_call 94; refine (s_l02Small _ _ _).mono ?_; rintro e wn ⟨rfl, hu⟩; obtain ⟨N, J, JF, hn1, hn2, hz, hc, hf⟩ := hu.facts; (try simp only [World.size_alloc, World.size_setCell, World.heap_drewN, World.size_drew] at hn1 hn2))
      | (go_at_call 96; refine (s_l02Div _ _ _ _ k1 k3 k2 k4 n0 k5 k7 n1 k6 k8 _).mono ?_; rintro e wn ⟨rfl, hu⟩; obtain ⟨N, J, JF, hn1, hn2, hz, hc, hf⟩ := hu.facts; (try simp only [World.size_alloc, World.size_setCell, World.heap_drewN, World.size_drew] at hn1 hn2))
      | (go_at_call 95; refine (s_l02Result _ _ _).mono ?_; rintro e wn ⟨rfl, hu⟩; obtain ⟨N, J, JF, hn1, hn2, hz, hc, hf⟩ := hu.facts; (try simp only [World.size_alloc, World.size_setCell, World.heap_drewN, World.size_drew] at hn1 hn2)))
            refine ret_agg2t Try.results19 rfl Try.underlying26 rfl (by kernel_rfl) rfl (by simp [isSome_setCell, cell_allocI, ↓IntWalk.iteOmega, *]) (by simp [isSome_setCell, cell_allocI, ↓IntWalk.iteOmega, *]) ⟨?_, ?_⟩
            · rw [hv.out]; rfl
            (repeat' (first | with_reducible exact Up.refl _ | with_reducible assumption | with_reducible refine Up.alloc ?_ _ | with_reducible refine Up.drew ?_ | with_reducible refine Up.drewN ?_ _ | with_reducible refine Up.setCell ?_ (by (try simp only [World.size_alloc, World.size_setCell, World.heap_drewN, World.size_drew]); omega) _ | (with_reducible refine Up.trans ?_ (by with_reducible assumption))))
          · have hz2 : 0 < c := by omega
            clear hz
            go_enter Try.func19, Try.ntmps19
            go_wp2_with (first
      | (go_at_call 93; refine (s_l02Two _ _ _ _ _).mono ?_; rintro e wn ⟨rfl, hu⟩; obtain ⟨N, J, JF, hn1, hn2, hz, hc, hf⟩ := hu.facts; (try simp only [World.size_alloc, World.size_setCell, World.heap_drewN, World.size_drew] at hn1 hn2))
      | (go_at_call 94; refine (s_l02Small _ _ _).mono ?_; rintro e wn ⟨rfl, hu⟩; obtain ⟨N, J, JF, hn1, hn2, hz, hc, hf⟩ := hu.facts; (try simp only [World.size_alloc, World.size_setCell, World.heap_drewN, World.size_drew] at hn1 hn2))
      | (go_at_call 96; refine (s_l02Div _ _ _ _ k1 k3 k2 k4 n0 k5 k7 n1 k6 k8 _).mono ?_; rintro e wn ⟨rfl, hu⟩; obtain ⟨N, J, JF, hn1, hn2, hz, hc, hf⟩ := hu.facts; (try simp only [World.size_alloc, World.size_setCell, World.heap_drewN, World.size_drew] at hn1 hn2))
      | (go_at_call 95; refine (s_l02Result _ _ _).mono ?_; rintro e wn ⟨rfl, hu⟩; obtain ⟨N, J, JF, hn1, hn2, hz, hc, hf⟩ := hu.facts; (try simp only [World.size_alloc, World.size_setCell, World.heap_drewN, World.size_drew] at hn1 hn2)))
            refine ret_agg2t Try.results19 rfl Try.underlying26 rfl (by kernel_rfl) rfl (by simp [isSome_setCell, cell_allocI, ↓IntWalk.iteOmega, *]) (by simp [isSome_setCell, cell_allocI, ↓IntWalk.iteOmega, *]) ⟨?_, ?_⟩
            · rw [hv.out]; rfl
            (repeat' (first | with_reducible exact Up.refl _ | with_reducible assumption | with_reducible refine Up.alloc ?_ _ | with_reducible refine Up.drew ?_ | with_reducible refine Up.drewN ?_ _ | with_reducible refine Up.setCell ?_ (by (try simp only [World.size_alloc, World.size_setCell, World.heap_drewN, World.size_drew]); omega) _ | (with_reducible refine Up.trans ?_ (by with_reducible assumption))))
      · have h3n : smallB c d = false := by simpa using h3
        clear h3
        have h3 := h3n
        clear h3n
        have hfc : facCode a b c d = 2 := by unfold facCode; simp [h1, h2, h3]
        have hv := hide (show divR a b c d = (0, 0, 2) by unfold divR; rw [hfc]; rfl)
        clear hfc
        go_enter Try.func19, Try.ntmps19
        go_wp2_with (first
      | (go_at_call 93; refine (s_l02Two _ _ _ _ _).mono ?_; rintro e wn ⟨rfl, hu⟩; obtain ⟨N, J, JF, hn1, hn2, hz, hc, hf⟩ := hu.facts; (try simp only [World.size_alloc, World.size_setCell, World.heap_drewN, World.size_drew] at hn1 hn2))
      | (go_at_call 94; refine (s_l02Small _ _ _).mono ?_; rintro e wn ⟨rfl, hu⟩; obtain ⟨N, J, JF, hn1, hn2, hz, hc, hf⟩ := hu.facts; (try simp only [World.size_alloc, World.size_setCell, World.heap_drewN, World.size_drew] at hn1 hn2))
      | (go_at_call 95; refine (s_l02Result _ _ _).mono ?_; rintro e wn ⟨rfl, hu⟩; obtain ⟨N, J, JF, hn1, hn2, hz, hc, hf⟩ := hu.facts; (try simp only [World.size_alloc, World.size_setCell, World.heap_drewN, World.size_drew] at hn1 hn2)))
        refine ret_agg2t Try.results19 rfl Try.underlying26 rfl (by kernel_rfl) rfl (by simp [isSome_setCell, cell_allocI, ↓IntWalk.iteOmega, *]) (by simp [isSome_setCell, cell_allocI, ↓IntWalk.iteOmega, *]) ⟨?_, ?_⟩
        · rw [hv.out]; rfl
        (repeat' (first | with_reducible exact Up.refl _ | with_reducible assumption | with_reducible refine Up.alloc ?_ _ | with_reducible refine Up.drew ?_ | with_reducible refine Up.drewN ?_ _ | with_reducible refine Up.setCell ?_ (by (try simp only [World.size_alloc, World.size_setCell, World.heap_drewN, World.size_drew]); omega) _ | (with_reducible refine Up.trans ?_ (by with_reducible assumption))))
    · have h2n : smallB a b = false := by simpa using h2
      clear h2
      have h2 := h2n
      clear h2n
      have hfc : facCode a b c d = 2 := by unfold facCode; simp [h1, h2]
      have hv := hide (show divR a b c d = (0, 0, 2) by unfold divR; rw [hfc]; rfl)
      clear hfc
      go_enter Try.func19, Try.ntmps19
      go_wp2_with (first
      | (go_at_call 93; refine (s_l02Two _ _ _ _ _).mono ?_; rintro e wn ⟨rfl, hu⟩; obtain ⟨N, J, JF, hn1, hn2, hz, hc, hf⟩ := hu.facts; (try simp only [World.size_alloc, World.size_setCell, World.heap_drewN, World.size_drew] at hn1 hn2))
      | (go_at_call 94; refine (s_l02Small _ _ _).mono ?_; rintro e wn ⟨rfl, hu⟩; obtain ⟨N, J, JF, hn1, hn2, hz, hc, hf⟩ := hu.facts; (try simp only [World.size_alloc, World.size_setCell, World.heap_drewN, World.size_drew] at hn1 hn2))
      | (go_at_call 95; refine (s_l02Result _ _ _).mono ?_; rintro e wn ⟨rfl, hu⟩; obtain ⟨N, J, JF, hn1, hn2, hz, hc, hf⟩ := hu.facts; (try simp only [World.size_alloc, World.size_setCell, World.heap_drewN, World.size_drew] at hn1 hn2)))
      refine ret_agg2t Try.results19 rfl Try.underlying26 rfl (by kernel_rfl) rfl (by simp [isSome_setCell, cell_allocI, ↓IntWalk.iteOmega, *]) (by simp [isSome_setCell, cell_allocI, ↓IntWalk.iteOmega, *]) ⟨?_, ?_⟩
      · rw [hv.out]; rfl
      (repeat' (first | with_reducible exact Up.refl _ | with_reducible assumption | with_reducible refine Up.alloc ?_ _ | with_reducible refine Up.drew ?_ | with_reducible refine Up.drewN ?_ _ | with_reducible refine Up.setCell ?_ (by (try simp only [World.size_alloc, World.size_setCell, World.heap_drewN, World.size_drew]); omega) _ | (with_reducible refine Up.trans ?_ (by with_reducible assumption))))
  · have h1n : (isIvB a b && isIvB c d) = false := by simpa using h1
    clear h1
    have h1 := h1n
    clear h1n
    have hfc : facCode a b c d = 1 := by unfold facCode; simp [h1]
    have hv := hide (show divR a b c d = (0, 0, 1) by unfold divR; rw [hfc]; rfl)
    clear hfc
    go_enter Try.func19, Try.ntmps19
    go_wp2_with (first
      | (go_at_call 93; refine (s_l02Two _ _ _ _ _).mono ?_; rintro e wn ⟨rfl, hu⟩; obtain ⟨N, J, JF, hn1, hn2, hz, hc, hf⟩ := hu.facts; (try simp only [World.size_alloc, World.size_setCell, World.heap_drewN, World.size_drew] at hn1 hn2))
      | (go_at_call 94; refine (s_l02Small _ _ _).mono ?_; rintro e wn ⟨rfl, hu⟩; obtain ⟨N, J, JF, hn1, hn2, hz, hc, hf⟩ := hu.facts; (try simp only [World.size_alloc, World.size_setCell, World.heap_drewN, World.size_drew] at hn1 hn2))
      | (go_at_call 95; refine (s_l02Result _ _ _).mono ?_; rintro e wn ⟨rfl, hu⟩; obtain ⟨N, J, JF, hn1, hn2, hz, hc, hf⟩ := hu.facts; (try simp only [World.size_alloc, World.size_setCell, World.heap_drewN, World.size_drew] at hn1 hn2)))
    refine ret_agg2t Try.results19 rfl Try.underlying26 rfl (by kernel_rfl) rfl (by simp [isSome_setCell, cell_allocI, ↓IntWalk.iteOmega, *]) (by simp [isSome_setCell, cell_allocI, ↓IntWalk.iteOmega, *]) ⟨?_, ?_⟩
    · rw [hv.out]; rfl
    (repeat' (first | with_reducible exact Up.refl _ | with_reducible assumption | with_reducible refine Up.alloc ?_ _ | with_reducible refine Up.drew ?_ | with_reducible refine Up.drewN ?_ _ | with_reducible refine Up.setCell ?_ (by (try simp only [World.size_alloc, World.size_setCell, World.heap_drewN, World.size_drew]); omega) _ | (with_reducible refine Up.trans ?_ (by with_reducible assumption))))
set_option maxHeartbeats 4000000 in
theorem i_DivideIntervals (a b c d : Int) (w : World) :
    Calls Try.prog 21 #[.agg #[.int .i64 a, .int .i64 b], .agg #[.int .i64 c, .int .i64 d]] w fun e w' => e = .returned (.tuple #[.agg #[.int .i64 (divR a b c d).1, .int .i64 (divR a b c d).2.1], .int .i64 (divR a b c d).2.2]) ∧ Up w w' := by
  by_cases h : facCode a b c d = 0
  · obtain ⟨k1, k9, k4, k5, k10, k8⟩ := facCode_ok.1 h
    have k2 : -1000000000 ≤ b := by omega
    have k3 : a ≤ 1000000000 := by omega
    have k6 : -1000000000 ≤ d := by omega
    have k7 : c ≤ 1000000000 := by omega
    by_cases hz : inB 0 c d = true
    · have hv := hide (show divR a b c d = (0, 0, 5) by unfold divR; rw [if_pos h, if_pos hz])
      have hc0 : (facCode a b c d != 0) = false := by rw [h]; rfl
      go_enter Try.func21, Try.ntmps21
      go_wp2_with (first
      | (go_at_call 97; refine (i_factors _ _ _ _ _).mono ?_; rintro e wn ⟨rfl, hu⟩; obtain ⟨N, J, JF, hn1, hn2, hz, hc, hf⟩ := hu.facts; (try simp only [World.size_alloc, World.size_setCell, World.heap_drewN, World.size_drew] at hn1 hn2))
      | (go_at_call 98; refine (im_Interval_has _ _ _ _).mono ?_; rintro e wn ⟨rfl, hu⟩; obtain ⟨N, J, JF, hn1, hn2, hz, hc, hf⟩ := hu.facts; (try simp only [World.size_alloc, World.size_setCell, World.heap_drewN, World.size_drew] at hn1 hn2)))
      refine ret_agg2t Try.results21 rfl Try.underlying26 rfl (by kernel_rfl) rfl (by simp [isSome_setCell, cell_allocI, ↓IntWalk.iteOmega, *]) (by simp [isSome_setCell, cell_allocI, ↓IntWalk.iteOmega, *]) ⟨?_, ?_⟩
      · rw [hv.out]; rfl
      (repeat' (first | with_reducible exact Up.refl _ | with_reducible assumption | with_reducible refine Up.alloc ?_ _ | with_reducible refine Up.drew ?_ | with_reducible refine Up.drewN ?_ _ | with_reducible refine Up.setCell ?_ (by (try simp only [World.size_alloc, World.size_setCell, World.heap_drewN, World.size_drew]); omega) _ | (with_reducible refine Up.trans ?_ (by with_reducible assumption))))
    · have hv := hide (show divR a b c d = toldR (divLo a b c d) (divHi a b c d) by unfold divR; rw [if_pos h, if_neg hz])
      have hc0 : (facCode a b c d != 0) = false := by rw [h]; rfl
      have n0 : c ≠ 0 := by rintro rfl; simp [inB] at hz; omega
      have n1 : d ≠ 0 := by rintro rfl; simp [inB] at hz; omega
      have hzf : inB 0 c d = false := by simpa using hz
      clear hz
      have hzz := hzf
      clear hzf
      obtain ⟨x1, x2, x3, x4⟩ := quo_bd n0 k1 k3
      obtain ⟨y1, y2, y3, y4⟩ := quo_bd n1 k1 k3
      obtain ⟨z1, z2, z3, z4⟩ := quo_bd n0 k2 k4
      obtain ⟨u1, u2, u3, u4⟩ := quo_bd n1 k2 k4
      go_enter Try.func21, Try.ntmps21
      go_wp2_with (first
      | (go_at_call 97; refine (i_factors _ _ _ _ _).mono ?_; rintro e wn ⟨rfl, hu⟩; obtain ⟨N, J, JF, hn1, hn2, hz, hc, hf⟩ := hu.facts; (try simp only [World.size_alloc, World.size_setCell, World.heap_drewN, World.size_drew] at hn1 hn2))
      | (go_at_call 98; refine (im_Interval_has _ _ _ _).mono ?_; rintro e wn ⟨rfl, hu⟩; obtain ⟨N, J, JF, hn1, hn2, hz, hc, hf⟩ := hu.facts; (try simp only [World.size_alloc, World.size_setCell, World.heap_drewN, World.size_drew] at hn1 hn2))
      | (go_at_call 99; refine (i_floor _ _ (by omega) (by omega) (by omega) (by omega) (by omega) _).mono ?_; rintro e w' ⟨rfl, rfl⟩)
      | (go_at_call 100; refine (i_ceil _ _ (by omega) (by omega) (by omega) (by omega) (by omega) _).mono ?_; rintro e w' ⟨rfl, rfl⟩)
      | (go_at_call 101; refine (im_Interval_hull _ _ _ _ (by omega) (by omega) (by omega) (by omega) (by omega) (by omega) (by omega) (by omega) _).mono ?_; rintro e wn ⟨rfl, hu⟩; obtain ⟨N, J, JF, hn1, hn2, hz, hc, hf⟩ := hu.facts; (try simp only [World.size_alloc, World.size_setCell, World.heap_drewN, World.size_drew] at hn1 hn2))
      | (go_at_call 102; refine (i_told _ _ _).mono ?_; rintro e wn ⟨rfl, hu⟩; obtain ⟨N, J, JF, hn1, hn2, hz, hc, hf⟩ := hu.facts; (try simp only [World.size_alloc, World.size_setCell, World.heap_drewN, World.size_drew] at hn1 hn2)))
      refine wp_loop_rounds 3 ?_
      repeat any_goals (rw [rounds_succ]; go_wp2_with (first
        | (go_at_call 97; refine (i_factors _ _ _ _ _).mono ?_; rintro e wn ⟨rfl, hu⟩; obtain ⟨N, J, JF, hn1, hn2, hz, hc, hf⟩ := hu.facts; (try simp only [World.size_alloc, World.size_setCell, World.heap_drewN, World.size_drew] at hn1 hn2))
        | (go_at_call 98; refine (im_Interval_has _ _ _ _).mono ?_; rintro e wn ⟨rfl, hu⟩; obtain ⟨N, J, JF, hn1, hn2, hz, hc, hf⟩ := hu.facts; (try simp only [World.size_alloc, World.size_setCell, World.heap_drewN, World.size_drew] at hn1 hn2))
        | (go_at_call 99; refine (i_floor _ _ (by omega) (by omega) (by omega) (by omega) (by omega) _).mono ?_; rintro e w' ⟨rfl, rfl⟩)
        | (go_at_call 100; refine (i_ceil _ _ (by omega) (by omega) (by omega) (by omega) (by omega) _).mono ?_; rintro e w' ⟨rfl, rfl⟩)
        | (go_at_call 101; refine (im_Interval_hull _ _ _ _ (by omega) (by omega) (by omega) (by omega) (by omega) (by omega) (by omega) (by omega) _).mono ?_; rintro e wn ⟨rfl, hu⟩; obtain ⟨N, J, JF, hn1, hn2, hz, hc, hf⟩ := hu.facts; (try simp only [World.size_alloc, World.size_setCell, World.heap_drewN, World.size_drew] at hn1 hn2))
        | (go_at_call 102; refine (i_told _ _ _).mono ?_; rintro e wn ⟨rfl, hu⟩; obtain ⟨N, J, JF, hn1, hn2, hz, hc, hf⟩ := hu.facts; (try simp only [World.size_alloc, World.size_setCell, World.heap_drewN, World.size_drew] at hn1 hn2))); try refine wp_loop_rounds 3 ?_)
      refine ret_agg2t Try.results21 rfl Try.underlying26 rfl (by kernel_rfl) rfl (by simp [isSome_setCell, cell_allocI, ↓IntWalk.iteOmega, *]) (by simp [isSome_setCell, cell_allocI, ↓IntWalk.iteOmega, *]) ⟨?_, ?_⟩
      · have e1 : divLo a b c d = min (fl (a * 1000000) c) (min (fl (a * 1000000) d) (min (fl (b * 1000000) c) (fl (b * 1000000) d))) := by unfold divLo min4; omega
        have e2 : divHi a b c d = max (ce (a * 1000000) c) (max (ce (a * 1000000) d) (max (ce (b * 1000000) c) (ce (b * 1000000) d))) := by unfold divHi max4; omega
        rw [hv.out, e1, e2]; rfl
      (repeat' (first | with_reducible exact Up.refl _ | with_reducible assumption | with_reducible refine Up.alloc ?_ _ | with_reducible refine Up.drew ?_ | with_reducible refine Up.drewN ?_ _ | with_reducible refine Up.setCell ?_ (by (try simp only [World.size_alloc, World.size_setCell, World.heap_drewN, World.size_drew]); omega) _ | (with_reducible refine Up.trans ?_ (by with_reducible assumption))))
  · have hc0 : (facCode a b c d != 0) = true := by simpa using h
    have hv := hide (show divR a b c d = (0, 0, facCode a b c d) by unfold divR; rw [if_neg h])
    clear h
    go_enter Try.func21, Try.ntmps21
    go_wp2_with (first
      | (go_at_call 97; refine (i_factors _ _ _ _ _).mono ?_; rintro e wn ⟨rfl, hu⟩; obtain ⟨N, J, JF, hn1, hn2, hz, hc, hf⟩ := hu.facts; (try simp only [World.size_alloc, World.size_setCell, World.heap_drewN, World.size_drew] at hn1 hn2))
      | (go_at_call 98; refine (im_Interval_has _ _ _ _).mono ?_; rintro e wn ⟨rfl, hu⟩; obtain ⟨N, J, JF, hn1, hn2, hz, hc, hf⟩ := hu.facts; (try simp only [World.size_alloc, World.size_setCell, World.heap_drewN, World.size_drew] at hn1 hn2)))
    refine ret_agg2t Try.results21 rfl Try.underlying26 rfl (by kernel_rfl) rfl (by simp [isSome_setCell, cell_allocI, ↓IntWalk.iteOmega, *]) (by simp [isSome_setCell, cell_allocI, ↓IntWalk.iteOmega, *]) ⟨?_, ?_⟩
    · rw [hv.out]; rfl
    (repeat' (first | with_reducible exact Up.refl _ | with_reducible assumption | with_reducible refine Up.alloc ?_ _ | with_reducible refine Up.drew ?_ | with_reducible refine Up.drewN ?_ _ | with_reducible refine Up.setCell ?_ (by (try simp only [World.size_alloc, World.size_setCell, World.heap_drewN, World.size_drew]); omega) _ | (with_reducible refine Up.trans ?_ (by with_reducible assumption))))
end Go.Proofs.Ytanafhmjmfkpmaa
