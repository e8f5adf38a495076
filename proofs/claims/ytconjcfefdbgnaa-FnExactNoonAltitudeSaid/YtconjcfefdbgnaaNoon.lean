import Derived.Test.YtconjcfefdbgnaaIv
/- NoonAltitude. -/
namespace Go.Proofs.Ytconjcfefdbgnaa
open Go.RowKit
attribute [local go_sem] cell_allocI frz_allocI

def noonAlt (x a b : Int) : Int × Int × Int :=
  if isDeclB a b = false then (0, 0, 1) else if inB x (-324000) 324000 = false then (0, 0, 2)
  else (324000 - max (max (x - a) (-(x - a))) (max (x - b) (-(x - b))), 324000 - (if inB x a b then 0 else min (max (x - a) (-(x - a))) (max (x - b) (-(x - b)))), 0)
set_option maxHeartbeats 1000000 in
theorem i_NoonAltitude (x a b : Int) (w : World) :
    Calls Try.prog 21 #[.int .i64 x, .agg #[.int .i64 a, .int .i64 b]] w fun e w' => e = .returned (.tuple #[.agg #[.int .i64 (noonAlt x a b).1, .int .i64 (noonAlt x a b).2.1], .int .i64 (noonAlt x a b).2.2]) ∧ Up w w' := by
  by_cases hd : isDeclB a b = true
  · by_cases hl : inB x (-324000) 324000 = true
    · obtain ⟨d1, d2, d3⟩ := isDeclB_iff.1 hd
      obtain ⟨l1, l2⟩ := inB_iff.1 hl
      go_enter Try.func21, Try.ntmps21
      go_wp2_with (first
        | (go_at_call 51; refine (i_isDeclination _ _ _).mono ?_; rintro e wn ⟨rfl, hu⟩; obtain ⟨N, J, JF, hn1, hn2, hz, hc, hf⟩ := hu.facts; (try simp only [World.size_alloc, World.size_setCell, World.heap_drewN, World.size_drew] at hn1 hn2))
        | (go_at_call 52; refine (i_isLatitude _ _).mono ?_; rintro e w' ⟨rfl, rfl⟩)
        | (go_at_call 54; refine (im_Interval_has _ _ _ _).mono ?_; rintro e wn ⟨rfl, hu⟩; obtain ⟨N, J, JF, hn1, hn2, hz, hc, hf⟩ := hu.facts; (try simp only [World.size_alloc, World.size_setCell, World.heap_drewN, World.size_drew] at hn1 hn2)))
      go_quiet ((go_at_call 53; exact Calls.quiet_of_same ((i_abs _ (by omega) (by omega) _).mono (fun _ _ h => ⟨h.1, h.2.symm⟩))))
      go_wp2_with (first
        | (go_at_call 54; refine (im_Interval_has _ _ _ _).mono ?_; rintro e wn ⟨rfl, hu⟩; obtain ⟨N, J, JF, hn1, hn2, hz, hc, hf⟩ := hu.facts; (try simp only [World.size_alloc, World.size_setCell, World.heap_drewN, World.size_drew] at hn1 hn2)))
      all_goals
        simp [bodyPost, results, go_sem, cell_allocI, frz_allocI, ↓IntWalk.iteOmega, *, Try.results21]
        refine ⟨?_, ?_⟩
        · simp [noonAlt, *]; try omega
        (repeat' (first | exact Up.refl _ | assumption | (refine Up.trans ?_ (by assumption)) | refine Up.alloc ?_ _ | refine Up.drew ?_ | refine Up.drewN ?_ _ | refine Up.setCell ?_ (by (try simp only [World.size_alloc, World.size_setCell, World.heap_drewN, World.size_drew]); omega) _))
    · have hl : inB x (-324000) 324000 = false := by simpa using hl
      go_enter Try.func21, Try.ntmps21
      go_wp2_with (first
        | (go_at_call 51; refine (i_isDeclination _ _ _).mono ?_; rintro e wn ⟨rfl, hu⟩; obtain ⟨N, J, JF, hn1, hn2, hz, hc, hf⟩ := hu.facts; (try simp only [World.size_alloc, World.size_setCell, World.heap_drewN, World.size_drew] at hn1 hn2))
        | (go_at_call 52; refine (i_isLatitude _ _).mono ?_; rintro e w' ⟨rfl, rfl⟩))
      simp [bodyPost, results, go_sem, cell_allocI, frz_allocI, ↓IntWalk.iteOmega, *, Try.results21]
      refine ⟨?_, ?_⟩
      · simp [noonAlt, *]
      (repeat' (first | exact Up.refl _ | assumption | (refine Up.trans ?_ (by assumption)) | refine Up.alloc ?_ _ | refine Up.drew ?_ | refine Up.drewN ?_ _ | refine Up.setCell ?_ (by (try simp only [World.size_alloc, World.size_setCell, World.heap_drewN, World.size_drew]); omega) _))
  · have hd : isDeclB a b = false := by simpa using hd
    go_enter Try.func21, Try.ntmps21
    go_wp2_with (first
      | (go_at_call 51; refine (i_isDeclination _ _ _).mono ?_; rintro e wn ⟨rfl, hu⟩; obtain ⟨N, J, JF, hn1, hn2, hz, hc, hf⟩ := hu.facts; (try simp only [World.size_alloc, World.size_setCell, World.heap_drewN, World.size_drew] at hn1 hn2)))
    simp [bodyPost, results, go_sem, cell_allocI, frz_allocI, ↓IntWalk.iteOmega, *, Try.results21]
    refine ⟨?_, ?_⟩
    · simp [noonAlt, *]
    (repeat' (first | exact Up.refl _ | assumption | (refine Up.trans ?_ (by assumption)) | refine Up.alloc ?_ _ | refine Up.drew ?_ | refine Up.drewN ?_ _ | refine Up.setCell ?_ (by (try simp only [World.size_alloc, World.size_setCell, World.heap_drewN, World.size_drew]); omega) _))
def absLo (a b : Int) : Int := if a ≤ 0 ∧ 0 ≤ b then 0 else min (max a (-a)) (max b (-b))
theorem absLo_bd {a b : Int} (h1 : -1000000 ≤ a) (h3 : b ≤ 1000000) (h : a ≤ b) : 0 ≤ absLo a b ∧ absLo a b ≤ 1000000 := by unfold absLo; split <;> omega
theorem s_l09Abs (a b : Int) (h1 : -1000000 ≤ a) (h2 : a ≤ b) (h3 : b ≤ 1000000) (w : World) :
    Calls Try.prog 50 #[.agg #[.int .i64 a, .int .i64 b]] w fun e w' => e = .returned (.agg #[.int .i64 (absLo a b), .int .i64 (max (max a (-a)) (max b (-b)))]) ∧ Up w w' := by
  go_enter Try.func50, Try.ntmps50
  go_wp2
  all_goals
    simp [bodyPost, results, go_sem, Try.results50]
    refine ⟨⟨?_, ?_⟩, ?_⟩
    · unfold absLo; split <;> omega
    · omega
    (repeat' (first | exact Up.refl _ | assumption | (refine Up.trans ?_ (by assumption)) | refine Up.alloc ?_ _ | refine Up.drew ?_ | refine Up.drewN ?_ _ | refine Up.setCell ?_ (by (try simp only [World.size_alloc, World.size_setCell, World.heap_drewN, World.size_drew]); omega) _))
set_option maxHeartbeats 1000000 in
theorem s_NoonAltitude (x a b : Int) (w : World) :
    Calls Try.prog 19 #[.int .i64 x, .agg #[.int .i64 a, .int .i64 b]] w fun e w' => e = .returned (.tuple #[.agg #[.int .i64 (noonAlt x a b).1, .int .i64 (noonAlt x a b).2.1], .int .i64 (noonAlt x a b).2.2]) ∧ Up w w' := by
  by_cases hd : isDeclB a b = true
  · by_cases hl : inB x (-324000) 324000 = true
    · obtain ⟨d1, d2, d3⟩ := isDeclB_iff.1 hd
      obtain ⟨l1, l2⟩ := inB_iff.1 hl
      go_enter Try.func19, Try.ntmps19
      go_wp2_with (first
        | (go_at_call 48; refine (s_l09Declination _ _ _).mono ?_; rintro e wn ⟨rfl, hu⟩; obtain ⟨N, J, JF, hn1, hn2, hz, hc, hf⟩ := hu.facts; (try simp only [World.size_alloc, World.size_setCell, World.heap_drewN, World.size_drew] at hn1 hn2))
        | (go_at_call 49; refine (s_l09Latitude _ _).mono ?_; rintro e w' ⟨rfl, rfl⟩)
        | (go_at_call 50; refine (s_l09Abs _ _ (by omega) (by omega) (by omega) _).mono ?_; rintro e wn ⟨rfl, hu⟩; obtain ⟨N, J, JF, hn1, hn2, hz, hc, hf⟩ := hu.facts; (try simp only [World.size_alloc, World.size_setCell, World.heap_drewN, World.size_drew] at hn1 hn2); obtain ⟨ab1, ab2⟩ := absLo_bd (a := x - b) (b := x - a) (by omega) (by omega) (by omega)))
      all_goals
        simp [bodyPost, results, go_sem, cell_allocI, frz_allocI, ↓IntWalk.iteOmega, *, Try.results19]
        refine ⟨?_, ?_⟩
        · simp only [noonAlt, hd, hl, Bool.true_eq_false, if_false]; simp only [inB, absLo]; simp; refine ⟨?_, ?_⟩ <;> (try split) <;> (try split) <;> omega
        (repeat' (first | exact Up.refl _ | assumption | (refine Up.trans ?_ (by assumption)) | refine Up.alloc ?_ _ | refine Up.drew ?_ | refine Up.drewN ?_ _ | refine Up.setCell ?_ (by (try simp only [World.size_alloc, World.size_setCell, World.heap_drewN, World.size_drew]); omega) _))
    · have hl : inB x (-324000) 324000 = false := by simpa using hl
      go_enter Try.func19, Try.ntmps19
      go_wp2_with (first
        | (go_at_call 48; refine (s_l09Declination _ _ _).mono ?_; rintro e wn ⟨rfl, hu⟩; obtain ⟨N, J, JF, hn1, hn2, hz, hc, hf⟩ := hu.facts; (try simp only [World.size_alloc, World.size_setCell, World.heap_drewN, World.size_drew] at hn1 hn2))
        | (go_at_call 49; refine (s_l09Latitude _ _).mono ?_; rintro e w' ⟨rfl, rfl⟩))
      simp [bodyPost, results, go_sem, cell_allocI, frz_allocI, ↓IntWalk.iteOmega, *, Try.results19]
      refine ⟨?_, ?_⟩
      · simp [noonAlt, *]
      (repeat' (first | exact Up.refl _ | assumption | (refine Up.trans ?_ (by assumption)) | refine Up.alloc ?_ _ | refine Up.drew ?_ | refine Up.drewN ?_ _ | refine Up.setCell ?_ (by (try simp only [World.size_alloc, World.size_setCell, World.heap_drewN, World.size_drew]); omega) _))
  · have hd : isDeclB a b = false := by simpa using hd
    go_enter Try.func19, Try.ntmps19
    go_wp2_with (first
      | (go_at_call 48; refine (s_l09Declination _ _ _).mono ?_; rintro e wn ⟨rfl, hu⟩; obtain ⟨N, J, JF, hn1, hn2, hz, hc, hf⟩ := hu.facts; (try simp only [World.size_alloc, World.size_setCell, World.heap_drewN, World.size_drew] at hn1 hn2)))
    simp [bodyPost, results, go_sem, cell_allocI, frz_allocI, ↓IntWalk.iteOmega, *, Try.results19]
    refine ⟨?_, ?_⟩
    · simp [noonAlt, *]
    (repeat' (first | exact Up.refl _ | assumption | (refine Up.trans ?_ (by assumption)) | refine Up.alloc ?_ _ | refine Up.drew ?_ | refine Up.drewN ?_ _ | refine Up.setCell ?_ (by (try simp only [World.size_alloc, World.size_setCell, World.heap_drewN, World.size_drew]); omega) _))
end Go.Proofs.Ytconjcfefdbgnaa
