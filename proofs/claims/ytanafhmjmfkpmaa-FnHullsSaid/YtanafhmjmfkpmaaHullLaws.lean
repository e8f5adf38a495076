import Derived.Test.YtanafhmjmfkpmaaIvLaws
import Derived.Deep.DeepCutAuto
import Derived.Deep.RegionHeld3
/- MeetIntervals and HullOf: the contracts. -/
namespace Go.Proofs.Ytanafhmjmfkpmaa
set_option linter.unusedSimpArgs false
set_option linter.unusedVariables false
open Go.RowKit
attribute [local go_sem] cell_allocI frz_allocI later_cell later_frz
attribute [local go_sem ↓] min_two max_two min_four max_four
attribute [local go_sem] cell_setI cell_drewI frz_drewI
theorem s_l02Meet (a b c d : Int) (w : World) :
    Calls Try.prog 118 #[.agg #[.int .i64 a, .int .i64 b], .agg #[.int .i64 c, .int .i64 d]] w fun e w' => e = .returned (.tuple #[.agg #[.int .i64 (max a c), .int .i64 (min b d)], .bool (decide (max a c ≤ min b d))]) ∧ Up w w' := by
  go_enter Try.func118, Try.ntmps118
  go_wp2
  go_region
  go_wp2
  all_goals (first | (refine ret_agg2t Try.results118 rfl Try.underlying26 rfl (by kernel_rfl) rfl (by simp [isSome_setCell, cell_setI, cell_drewI, cell_allocI, ↓IntWalk.iteOmega, *]) (by simp [isSome_setCell, cell_setI, cell_drewI, cell_allocI, ↓IntWalk.iteOmega, *]) ⟨(by simp [*]), ?_⟩; (repeat' (first | with_reducible exact Up.refl _ | with_reducible assumption | with_reducible refine Up.alloc ?_ _ | with_reducible refine Up.drew ?_ | with_reducible refine Up.drewN ?_ _ | with_reducible refine Up.setCell ?_ (by (try simp only [World.size_alloc, World.size_setCell, World.heap_drewN, World.size_drew]); omega) _ | (with_reducible refine Up.trans ?_ (by with_reducible assumption)))); done) | (simp [bodyPost, results, go_sem, Try.results118]; (try refine ⟨(by simp [*]), ?_⟩); (repeat' (first | with_reducible exact Up.refl _ | with_reducible assumption | with_reducible refine Up.alloc ?_ _ | with_reducible refine Up.drew ?_ | with_reducible refine Up.drewN ?_ _ | with_reducible refine Up.setCell ?_ (by (try simp only [World.size_alloc, World.size_setCell, World.heap_drewN, World.size_drew]); omega) _ | (with_reducible refine Up.trans ?_ (by with_reducible assumption))))))
set_option maxHeartbeats 1000000 in
theorem i_MeetIntervals (a b c d : Int) (w : World) :
    Calls Try.prog 45 #[.agg #[.int .i64 a, .int .i64 b], .agg #[.int .i64 c, .int .i64 d]] w fun e w' => e = .returned (.tuple #[.agg #[.int .i64 (meetR a b c d).1, .int .i64 (meetR a b c d).2.1], .int .i64 (meetR a b c d).2.2]) ∧ Up w w' := by
  by_cases h1 : isIvB a b = true
  · by_cases h2 : isIvB c d = true
    · have h12 : (isIvB a b && isIvB c d) = true := by simp [h1, h2]
      by_cases k : max a c ≤ min b d
      · have hv := hide (show (meetR a b c d) = (max a c, min b d, 0) by unfold meetR; rw [if_pos h12, if_pos k])
        have k1 : decide (max a c ≤ min b d) = true := by simpa using k
        have k2 : decide (min b d < max a c) = false := by simpa using k
        clear k
        go_enter Try.func45, Try.ntmps45
        go_wp2_with (first
          | (go_at_call 29; refine (i_IsInterval _ _ _).mono ?_; rintro e wn ⟨rfl, hu⟩; obtain ⟨N, J, JF, hn1, hn2, hz, hc, hf⟩ := hu.facts; (try simp only [World.size_alloc, World.size_setCell, World.heap_drewN, World.size_drew] at hn1 hn2); (try simp only [cell_drewI] at hc); (try simp only [frz_drewI] at hf)))
        all_goals (refine ret_agg2t Try.results45 rfl Try.underlying26 rfl (by kernel_rfl) rfl (by simp [isSome_setCell, cell_setI, cell_drewI, cell_allocI, ↓IntWalk.iteOmega, *]) (by simp [isSome_setCell, cell_setI, cell_drewI, cell_allocI, ↓IntWalk.iteOmega, *]) ⟨(by rw [hv.out] <;> rfl), ?_⟩; (repeat' (first | with_reducible exact Up.refl _ | with_reducible assumption | with_reducible refine Up.alloc ?_ _ | with_reducible refine Up.drew ?_ | with_reducible refine Up.drewN ?_ _ | with_reducible refine Up.setCell ?_ (by (try simp only [World.size_alloc, World.size_setCell, World.heap_drewN, World.size_drew]); omega) _ | (with_reducible refine Up.trans ?_ (by with_reducible assumption)))))
      · have hv := hide (show (meetR a b c d) = (0, 0, 4) by unfold meetR; rw [if_pos h12, if_neg k])
        have k1 : decide (max a c ≤ min b d) = false := by simpa using k
        have k2 : decide (min b d < max a c) = true := by simpa using k
        clear k
        go_enter Try.func45, Try.ntmps45
        go_wp2_with (first
          | (go_at_call 29; refine (i_IsInterval _ _ _).mono ?_; rintro e wn ⟨rfl, hu⟩; obtain ⟨N, J, JF, hn1, hn2, hz, hc, hf⟩ := hu.facts; (try simp only [World.size_alloc, World.size_setCell, World.heap_drewN, World.size_drew] at hn1 hn2); (try simp only [cell_drewI] at hc); (try simp only [frz_drewI] at hf)))
        all_goals (refine ret_agg2t Try.results45 rfl Try.underlying26 rfl (by kernel_rfl) rfl (by simp [isSome_setCell, cell_setI, cell_drewI, cell_allocI, ↓IntWalk.iteOmega, *]) (by simp [isSome_setCell, cell_setI, cell_drewI, cell_allocI, ↓IntWalk.iteOmega, *]) ⟨(by rw [hv.out] <;> rfl), ?_⟩; (repeat' (first | with_reducible exact Up.refl _ | with_reducible assumption | with_reducible refine Up.alloc ?_ _ | with_reducible refine Up.drew ?_ | with_reducible refine Up.drewN ?_ _ | with_reducible refine Up.setCell ?_ (by (try simp only [World.size_alloc, World.size_setCell, World.heap_drewN, World.size_drew]); omega) _ | (with_reducible refine Up.trans ?_ (by with_reducible assumption)))))
    · have h2 : isIvB c d = false := by simpa using h2
      have h12 : (isIvB a b && isIvB c d) = false := by simp [h2]
      have hv := hide (show (meetR a b c d) = (0, 0, 1) by unfold meetR; rw [h12]; rfl)
      go_enter Try.func45, Try.ntmps45
      go_wp2_with (first
        | (go_at_call 29; refine (i_IsInterval _ _ _).mono ?_; rintro e wn ⟨rfl, hu⟩; obtain ⟨N, J, JF, hn1, hn2, hz, hc, hf⟩ := hu.facts; (try simp only [World.size_alloc, World.size_setCell, World.heap_drewN, World.size_drew] at hn1 hn2); (try simp only [cell_drewI] at hc); (try simp only [frz_drewI] at hf)))
      all_goals (refine ret_agg2t Try.results45 rfl Try.underlying26 rfl (by kernel_rfl) rfl (by simp [isSome_setCell, cell_setI, cell_drewI, cell_allocI, ↓IntWalk.iteOmega, *]) (by simp [isSome_setCell, cell_setI, cell_drewI, cell_allocI, ↓IntWalk.iteOmega, *]) ⟨(by rw [hv.out] <;> rfl), ?_⟩; (repeat' (first | with_reducible exact Up.refl _ | with_reducible assumption | with_reducible refine Up.alloc ?_ _ | with_reducible refine Up.drew ?_ | with_reducible refine Up.drewN ?_ _ | with_reducible refine Up.setCell ?_ (by (try simp only [World.size_alloc, World.size_setCell, World.heap_drewN, World.size_drew]); omega) _ | (with_reducible refine Up.trans ?_ (by with_reducible assumption)))))
  · have h1 : isIvB a b = false := by simpa using h1
    have h12 : (isIvB a b && isIvB c d) = false := by simp [h1]
    have hv := hide (show (meetR a b c d) = (0, 0, 1) by unfold meetR; rw [h12]; rfl)
    go_enter Try.func45, Try.ntmps45
    go_wp2_with (first
      | (go_at_call 29; refine (i_IsInterval _ _ _).mono ?_; rintro e wn ⟨rfl, hu⟩; obtain ⟨N, J, JF, hn1, hn2, hz, hc, hf⟩ := hu.facts; (try simp only [World.size_alloc, World.size_setCell, World.heap_drewN, World.size_drew] at hn1 hn2); (try simp only [cell_drewI] at hc); (try simp only [frz_drewI] at hf)))
    all_goals (refine ret_agg2t Try.results45 rfl Try.underlying26 rfl (by kernel_rfl) rfl (by simp [isSome_setCell, cell_setI, cell_drewI, cell_allocI, ↓IntWalk.iteOmega, *]) (by simp [isSome_setCell, cell_setI, cell_drewI, cell_allocI, ↓IntWalk.iteOmega, *]) ⟨(by rw [hv.out] <;> rfl), ?_⟩; (repeat' (first | with_reducible exact Up.refl _ | with_reducible assumption | with_reducible refine Up.alloc ?_ _ | with_reducible refine Up.drew ?_ | with_reducible refine Up.drewN ?_ _ | with_reducible refine Up.setCell ?_ (by (try simp only [World.size_alloc, World.size_setCell, World.heap_drewN, World.size_drew]); omega) _ | (with_reducible refine Up.trans ?_ (by with_reducible assumption)))))
set_option maxHeartbeats 1000000 in
theorem s_MeetIntervals (a b c d : Int) (w : World) :
    Calls Try.prog 46 #[.agg #[.int .i64 a, .int .i64 b], .agg #[.int .i64 c, .int .i64 d]] w fun e w' => e = .returned (.tuple #[.agg #[.int .i64 (meetR a b c d).1, .int .i64 (meetR a b c d).2.1], .int .i64 (meetR a b c d).2.2]) ∧ Up w w' := by
  by_cases h1 : isIvB a b = true
  · by_cases h2 : isIvB c d = true
    · have h12 : (isIvB a b && isIvB c d) = true := by simp [h1, h2]
      by_cases k : max a c ≤ min b d
      · have hv := hide (show (meetR a b c d) = (max a c, min b d, 0) by unfold meetR; rw [if_pos h12, if_pos k])
        have k1 : decide (max a c ≤ min b d) = true := by simpa using k
        have k2 : decide (min b d < max a c) = false := by simpa using k
        clear k
        go_enter Try.func46, Try.ntmps46
        go_wp2_with (first
          | (go_at_call 93; refine (s_l02Two _ _ _ _ _).mono ?_; rintro e wn ⟨rfl, hu⟩; obtain ⟨N, J, JF, hn1, hn2, hz, hc, hf⟩ := hu.facts; (try simp only [World.size_alloc, World.size_setCell, World.heap_drewN, World.size_drew] at hn1 hn2); (try simp only [cell_drewI] at hc); (try simp only [frz_drewI] at hf))
          | (go_at_call 118; refine (s_l02Meet _ _ _ _ _).mono ?_; rintro e wn ⟨rfl, hu⟩; obtain ⟨N, J, JF, hn1, hn2, hz, hc, hf⟩ := hu.facts; (try simp only [World.size_alloc, World.size_setCell, World.heap_drewN, World.size_drew] at hn1 hn2); (try simp only [cell_drewI] at hc); (try simp only [frz_drewI] at hf)))
        all_goals (refine ret_agg2t Try.results46 rfl Try.underlying26 rfl (by kernel_rfl) rfl (by simp [isSome_setCell, cell_setI, cell_drewI, cell_allocI, ↓IntWalk.iteOmega, *]) (by simp [isSome_setCell, cell_setI, cell_drewI, cell_allocI, ↓IntWalk.iteOmega, *]) ⟨(by rw [hv.out] <;> rfl), ?_⟩; (repeat' (first | with_reducible exact Up.refl _ | with_reducible assumption | with_reducible refine Up.alloc ?_ _ | with_reducible refine Up.drew ?_ | with_reducible refine Up.drewN ?_ _ | with_reducible refine Up.setCell ?_ (by (try simp only [World.size_alloc, World.size_setCell, World.heap_drewN, World.size_drew]); omega) _ | (with_reducible refine Up.trans ?_ (by with_reducible assumption)))))
      · have hv := hide (show (meetR a b c d) = (0, 0, 4) by unfold meetR; rw [if_pos h12, if_neg k])
        have k1 : decide (max a c ≤ min b d) = false := by simpa using k
        have k2 : decide (min b d < max a c) = true := by simpa using k
        clear k
        go_enter Try.func46, Try.ntmps46
        go_wp2_with (first
          | (go_at_call 93; refine (s_l02Two _ _ _ _ _).mono ?_; rintro e wn ⟨rfl, hu⟩; obtain ⟨N, J, JF, hn1, hn2, hz, hc, hf⟩ := hu.facts; (try simp only [World.size_alloc, World.size_setCell, World.heap_drewN, World.size_drew] at hn1 hn2); (try simp only [cell_drewI] at hc); (try simp only [frz_drewI] at hf))
          | (go_at_call 118; refine (s_l02Meet _ _ _ _ _).mono ?_; rintro e wn ⟨rfl, hu⟩; obtain ⟨N, J, JF, hn1, hn2, hz, hc, hf⟩ := hu.facts; (try simp only [World.size_alloc, World.size_setCell, World.heap_drewN, World.size_drew] at hn1 hn2); (try simp only [cell_drewI] at hc); (try simp only [frz_drewI] at hf)))
        all_goals (refine ret_agg2t Try.results46 rfl Try.underlying26 rfl (by kernel_rfl) rfl (by simp [isSome_setCell, cell_setI, cell_drewI, cell_allocI, ↓IntWalk.iteOmega, *]) (by simp [isSome_setCell, cell_setI, cell_drewI, cell_allocI, ↓IntWalk.iteOmega, *]) ⟨(by rw [hv.out] <;> rfl), ?_⟩; (repeat' (first | with_reducible exact Up.refl _ | with_reducible assumption | with_reducible refine Up.alloc ?_ _ | with_reducible refine Up.drew ?_ | with_reducible refine Up.drewN ?_ _ | with_reducible refine Up.setCell ?_ (by (try simp only [World.size_alloc, World.size_setCell, World.heap_drewN, World.size_drew]); omega) _ | (with_reducible refine Up.trans ?_ (by with_reducible assumption)))))
    · have h2 : isIvB c d = false := by simpa using h2
      have h12 : (isIvB a b && isIvB c d) = false := by simp [h2]
      have hv := hide (show (meetR a b c d) = (0, 0, 1) by unfold meetR; rw [h12]; rfl)
      go_enter Try.func46, Try.ntmps46
      go_wp2_with (first
        | (go_at_call 93; refine (s_l02Two _ _ _ _ _).mono ?_; rintro e wn ⟨rfl, hu⟩; obtain ⟨N, J, JF, hn1, hn2, hz, hc, hf⟩ := hu.facts; (try simp only [World.size_alloc, World.size_setCell, World.heap_drewN, World.size_drew] at hn1 hn2); (try simp only [cell_drewI] at hc); (try simp only [frz_drewI] at hf))
        | (go_at_call 118; refine (s_l02Meet _ _ _ _ _).mono ?_; rintro e wn ⟨rfl, hu⟩; obtain ⟨N, J, JF, hn1, hn2, hz, hc, hf⟩ := hu.facts; (try simp only [World.size_alloc, World.size_setCell, World.heap_drewN, World.size_drew] at hn1 hn2); (try simp only [cell_drewI] at hc); (try simp only [frz_drewI] at hf)))
      all_goals (refine ret_agg2t Try.results46 rfl Try.underlying26 rfl (by kernel_rfl) rfl (by simp [isSome_setCell, cell_setI, cell_drewI, cell_allocI, ↓IntWalk.iteOmega, *]) (by simp [isSome_setCell, cell_setI, cell_drewI, cell_allocI, ↓IntWalk.iteOmega, *]) ⟨(by rw [hv.out] <;> rfl), ?_⟩; (repeat' (first | with_reducible exact Up.refl _ | with_reducible assumption | with_reducible refine Up.alloc ?_ _ | with_reducible refine Up.drew ?_ | with_reducible refine Up.drewN ?_ _ | with_reducible refine Up.setCell ?_ (by (try simp only [World.size_alloc, World.size_setCell, World.heap_drewN, World.size_drew]); omega) _ | (with_reducible refine Up.trans ?_ (by with_reducible assumption)))))
  · have h1 : isIvB a b = false := by simpa using h1
    have h12 : (isIvB a b && isIvB c d) = false := by simp [h1]
    have hv := hide (show (meetR a b c d) = (0, 0, 1) by unfold meetR; rw [h12]; rfl)
    go_enter Try.func46, Try.ntmps46
    go_wp2_with (first
      | (go_at_call 93; refine (s_l02Two _ _ _ _ _).mono ?_; rintro e wn ⟨rfl, hu⟩; obtain ⟨N, J, JF, hn1, hn2, hz, hc, hf⟩ := hu.facts; (try simp only [World.size_alloc, World.size_setCell, World.heap_drewN, World.size_drew] at hn1 hn2); (try simp only [cell_drewI] at hc); (try simp only [frz_drewI] at hf))
      | (go_at_call 118; refine (s_l02Meet _ _ _ _ _).mono ?_; rintro e wn ⟨rfl, hu⟩; obtain ⟨N, J, JF, hn1, hn2, hz, hc, hf⟩ := hu.facts; (try simp only [World.size_alloc, World.size_setCell, World.heap_drewN, World.size_drew] at hn1 hn2); (try simp only [cell_drewI] at hc); (try simp only [frz_drewI] at hf)))
    all_goals (refine ret_agg2t Try.results46 rfl Try.underlying26 rfl (by kernel_rfl) rfl (by simp [isSome_setCell, cell_setI, cell_drewI, cell_allocI, ↓IntWalk.iteOmega, *]) (by simp [isSome_setCell, cell_setI, cell_drewI, cell_allocI, ↓IntWalk.iteOmega, *]) ⟨(by rw [hv.out] <;> rfl), ?_⟩; (repeat' (first | with_reducible exact Up.refl _ | with_reducible assumption | with_reducible refine Up.alloc ?_ _ | with_reducible refine Up.drew ?_ | with_reducible refine Up.drewN ?_ _ | with_reducible refine Up.setCell ?_ (by (try simp only [World.size_alloc, World.size_setCell, World.heap_drewN, World.size_drew]); omega) _ | (with_reducible refine Up.trans ?_ (by with_reducible assumption)))))
def ivAt (f : Nat → Int) (i : Nat) : Bool := isIvB (f (i * 2)) (f (i * 2 + 1))
def allIv (f : Nat → Int) (n : Nat) : Bool := (List.range n).all (ivAt f)
theorem allIv_yes {f : Nat → Int} {n : Nat} (h : ∀ i, i < n → ivAt f i = true) : allIv f n = true := by
  unfold allIv; rw [List.all_eq_true]; intro i hi; exact h i (List.mem_range.1 hi)
theorem allIv_no {f : Nat → Int} {n i : Nat} (hi : i < n) (h : ivAt f i = false) : allIv f n = false := by
  unfold allIv; rw [List.all_eq_false]; exact ⟨i, List.mem_range.2 hi, by rw [h]; decide⟩
theorem allIv_at {f : Nat → Int} {n i : Nat} (h : allIv f n = true) (hi : i < n) : ivAt f i = true := by
  unfold allIv at h; rw [List.all_eq_true] at h; exact h i (List.mem_range.2 hi)
/-- the hull of the first k intervals; the first one is in it -/
def hl (f : Nat → Int) : Nat → Int
  | 0 => f 0
  | k + 1 => min (hl f k) (f (k * 2))
def hh (f : Nat → Int) : Nat → Int
  | 0 => f 1
  | k + 1 => max (hh f k) (f (k * 2 + 1))
theorem hull_bd {f : Nat → Int} {n k : Nat} (h : ∀ i, i < n → ivAt f i = true) (hn : 0 < n) (hk : k ≤ n) : (-1000000000000 ≤ hl f k ∧ hl f k ≤ 1000000000000) ∧ (-1000000000000 ≤ hh f k ∧ hh f k ≤ 1000000000000) ∧ hl f k ≤ hh f k := by
  induction k with
  | zero => have := isIvB_iff.1 (h 0 hn); unfold hl hh; simp at this; omega
  | succ k ih =>
    have h1 := ih (by omega)
    have h2 := isIvB_iff.1 (h k (by omega))
    unfold hl hh
    omega
theorem hull_in {f : Nat → Int} {k i : Nat} (hi : i < k) : hl f k ≤ f (i * 2) ∧ f (i * 2 + 1) ≤ hh f k := by
  induction k with
  | zero => omega
  | succ k ih =>
    unfold hl hh
    rcases Nat.lt_or_ge i k with h | h
    · have := ih h; omega
    · obtain rfl : i = k := by omega
      omega
def hullR (f : Nat → Int) (n : Nat) : Int × Int × Int := if allIv f n then (if 100 < n then (0, 0, 3) else if n = 0 then (0, 0, 4) else (hl f n, hh f n, 0)) else (0, 0, 1)
set_option maxRecDepth 20000 in
set_option maxHeartbeats 4000000 in
theorem i_HullOf (A : Option Addr) (n c : Nat) (f : Nat → Int) (w : World) (h : RdF w A (2 * n) (fun i => .int .i64 (f i))) (hn : n ≤ 1048576) :
    Calls Try.prog 42 #[.slice A n c] w fun e w' => e = .returned (.tuple #[.agg #[.int .i64 (hullR f n).1, .int .i64 (hullR f n).2.1], .int .i64 (hullR f n).2.2]) ∧ Up w w' := by
  go_enter Try.func42, Try.ntmps42
  go_wp2
  have hA := Blk.new w 26 #[.int .i64 0, .int .i64 0]
  go_loopw [11] (fun i wr => ∃ k : Nat, k ≤ n ∧ i = .int .i64 k ∧ (∀ j, j < k → ivAt f j = true) ∧ Up (w.alloc (.cells #[.int .i64 0, .int .i64 0] 26)) wr) (fun i _ => n - (intOf i).toNat)
  case atStart => exact ⟨0, Nat.zero_le _, rfl, fun j hj => by omega, Up.refl _⟩
  case round =>
    obtain ⟨k, hk, rfl, hok, hb⟩ := hrel
    have hok := hide hok
    have hB := hA.up hb
    have hlt0 := hB.lt
    have d0 := hB.cell 0
    have d1 := hB.cell 1
    have q0 := hB.frozen 0
    have q1 := hB.frozen 1
    simp at d0 d1
    by_cases hlt : k < n
    · obtain ⟨b, o, rfl, hbl, hc⟩ := ((h.up ((Up.refl w).alloc _)).up hb).at_ (by omega)
      have c0 := hc (k * 2) (by omega)
      have c1 := hc (k * 2 + 1) (by omega)
      rw [← Nat.add_assoc] at c1
      have hl : (k : Int) < (n : Int) := by omega
      clear h hc hA hB
      by_cases hm : ivAt f k = true
      · have hm' := hm
        unfold ivAt at hm'
        go_wp2_with (go_at_call 29; refine (i_IsInterval _ _ _).mono ?_; rw [hm']; rintro e wn ⟨rfl, hu⟩; obtain ⟨N, J, JF, hn1, hn2, hz, hc, hf⟩ := hu.facts; (try simp only [World.size_alloc, World.size_setCell, World.heap_drewN, World.size_drew] at hn1 hn2); (try simp only [cell_drewI] at hc); (try simp only [frz_drewI] at hf))
        go_roundw
        case rel => exact ⟨k + 1, by omega, by go_num, fun j hj => by rcases Nat.lt_or_ge j k with h1 | h1; exact hok.out j h1; rw [show j = k by omega]; exact hm, by (repeat' (first | with_reducible exact Up.refl _ | with_reducible assumption | with_reducible refine Up.alloc ?_ _ | with_reducible refine Up.drew ?_ | with_reducible refine Up.drewN ?_ _ | with_reducible refine Up.setCell ?_ (by (try simp only [World.size_alloc, World.size_setCell, World.heap_drewN, World.size_drew]); omega) _ | (with_reducible refine Up.trans ?_ (by with_reducible assumption))))⟩
        case measure => simp [intOf]; omega
      · have hm : ivAt f k = false := by simpa using hm
        have hv := hide (show hullR f n = (0, 0, 1) by unfold hullR; rw [allIv_no hlt hm]; rfl)
        have hm' := hm
        unfold ivAt at hm'
        go_wp2_with (go_at_call 29; refine (i_IsInterval _ _ _).mono ?_; rw [hm']; rintro e wn ⟨rfl, hu⟩; obtain ⟨N, J, JF, hn1, hn2, hz, hc, hf⟩ := hu.facts; (try simp only [World.size_alloc, World.size_setCell, World.heap_drewN, World.size_drew] at hn1 hn2); (try simp only [cell_drewI] at hc); (try simp only [frz_drewI] at hf))
        refine ret_agg2t Try.results42 rfl Try.underlying26 rfl (by kernel_rfl) rfl (by simp [isSome_setCell, cell_setI, cell_drewI, cell_allocI, ↓IntWalk.iteOmega, *]) (by simp [isSome_setCell, cell_setI, cell_drewI, cell_allocI, ↓IntWalk.iteOmega, *]) ⟨(by rw [hv.out] <;> rfl), ?_⟩
        have hb' := (Up.refl w).alloc (.cells #[.int .i64 0, .int .i64 0] 26) |>.trans hb
        (repeat' (first | with_reducible exact Up.refl _ | with_reducible assumption | with_reducible refine Up.alloc ?_ _ | with_reducible refine Up.drew ?_ | with_reducible refine Up.drewN ?_ _ | with_reducible refine Up.setCell ?_ (by (try simp only [World.size_alloc, World.size_setCell, World.heap_drewN, World.size_drew]); omega) _ | (with_reducible refine Up.trans ?_ (by with_reducible assumption))))
    · obtain rfl : k = n := by omega
      have hb' := (Up.refl w).alloc (.cells #[.int .i64 0, .int .i64 0] 26) |>.trans hb
      by_cases h100 : 100 < k
      · have hv := hide (show hullR f k = (0, 0, 3) by unfold hullR; rw [if_pos (allIv_yes hok.out), if_pos h100])
        have hi1 : decide (100 < (k : Int)) = true := by simp; omega
        go_wp2
        refine ret_agg2t Try.results42 rfl Try.underlying26 rfl (by kernel_rfl) rfl (by simp [isSome_setCell, cell_setI, cell_drewI, cell_allocI, ↓IntWalk.iteOmega, *]) (by simp [isSome_setCell, cell_setI, cell_drewI, cell_allocI, ↓IntWalk.iteOmega, *]) ⟨(by rw [hv.out] <;> rfl), ?_⟩
        (repeat' (first | with_reducible exact Up.refl _ | with_reducible assumption | with_reducible refine Up.alloc ?_ _ | with_reducible refine Up.drew ?_ | with_reducible refine Up.drewN ?_ _ | with_reducible refine Up.setCell ?_ (by (try simp only [World.size_alloc, World.size_setCell, World.heap_drewN, World.size_drew]); omega) _ | (with_reducible refine Up.trans ?_ (by with_reducible assumption))))
      · by_cases hz0 : k = 0
        · have hv := hide (show hullR f k = (0, 0, 4) by unfold hullR; rw [if_pos (allIv_yes hok.out), if_neg h100, if_pos hz0])
          subst hz0
          go_wp2
          refine ret_agg2t Try.results42 rfl Try.underlying26 rfl (by kernel_rfl) rfl (by simp [isSome_setCell, cell_setI, cell_drewI, cell_allocI, ↓IntWalk.iteOmega, *]) (by simp [isSome_setCell, cell_setI, cell_drewI, cell_allocI, ↓IntWalk.iteOmega, *]) ⟨(by rw [hv.out] <;> rfl), ?_⟩
          (repeat' (first | with_reducible exact Up.refl _ | with_reducible assumption | with_reducible refine Up.alloc ?_ _ | with_reducible refine Up.drew ?_ | with_reducible refine Up.drewN ?_ _ | with_reducible refine Up.setCell ?_ (by (try simp only [World.size_alloc, World.size_setCell, World.heap_drewN, World.size_drew]); omega) _ | (with_reducible refine Up.trans ?_ (by with_reducible assumption))))
        · have hv := hide (show hullR f k = (hl f k, hh f k, 0) by unfold hullR; rw [if_pos (allIv_yes hok.out), if_neg h100, if_neg hz0])
          have hi1 : decide (100 < (k : Int)) = false := by simp; omega
          have hi2 : ((k : Int) == 0) = false := by simp; omega
          obtain ⟨b, o, rfl, hbl, hc⟩ := ((h.up ((Up.refl w).alloc _)).up hb).at_ (by omega)
          have c0 := hc 0 (by omega)
          have c1 := hc 1 (by omega)
          simp only [Nat.add_zero] at c0
          have hkp : 0 < (k : Int) := by omega
          clear hc
          go_wp2
          go_loopw [35] (fun i wx => ∃ j : Nat, j ≤ k ∧ i = .int .i64 j ∧ Blk wx wr.heap.size 26 #[.int .i64 (hl f j), .int .i64 (hh f j)] ∧ Blk wx w.heap.size 26 #[.int .i64 0, .int .i64 0] ∧ Up wr wx) (fun i _ => k - (intOf i).toNat)
          case atStart => exact ⟨0, Nat.zero_le _, rfl, Blk.new _ _ _, (hB.alloc _), by (repeat' (first | with_reducible exact Up.refl _ | with_reducible assumption | with_reducible refine Up.alloc ?_ _ | with_reducible refine Up.drew ?_ | with_reducible refine Up.drewN ?_ _ | with_reducible refine Up.setCell ?_ (by (try simp only [World.size_alloc, World.size_setCell, World.heap_drewN, World.size_drew]); omega) _ | (with_reducible refine Up.trans ?_ (by with_reducible assumption))))⟩
          case round =>
            clear hB d0 d1 q0 q1
            obtain ⟨j, hj, rfl, hT, hB, hbx⟩ := hrel
            have hlT := hT.lt
            have t0 := hT.cell 0
            have t1 := hT.cell 1
            have y0 := hT.frozen 0
            have y1 := hT.frozen 1
            have d0 := hB.cell 0
            have d1 := hB.cell 1
            have q0 := hB.frozen 0
            have q1 := hB.frozen 1
            simp at t0 t1 d0 d1
            have hT := hide hT
            have hB := hide hB
            obtain ⟨⟨m1, m2⟩, ⟨m3, m4⟩, m5⟩ := hull_bd (k := j) hok.out (by omega) (by omega)
            by_cases hjk : j < k
            · have iv := isIvB_iff.1 (show isIvB (f (j * 2)) (f (j * 2 + 1)) = true from hok.out j hjk)
              obtain ⟨i1, i2, i3⟩ := iv
              have e1 : hl f (j + 1) = min (hl f j) (f (j * 2)) := rfl
              have e2 : hh f (j + 1) = max (hh f j) (f (j * 2 + 1)) := rfl
              obtain ⟨b', o', hEq, hbl', hc⟩ := (((h.up ((Up.refl w).alloc _)).up hb).up hbx).at_ (by omega)
              injection hEq with hEq; injection hEq with h1 h2; subst h1 h2
              have c0' := hc (j * 2) (by omega)
              have c1' := hc (j * 2 + 1) (by omega)
              rw [← Nat.add_assoc] at c1'
              have hl' : (j : Int) < (k : Int) := by omega
              clear hc c0 c1
              go_wp2_with (first
                | (go_at_call 101; refine (im_Interval_hull _ _ _ _ (by omega) (by omega) (by omega) (by omega) (by omega) (by omega) (by omega) (by omega) _).mono ?_; rintro e wn ⟨rfl, hu⟩; obtain ⟨N, J, JF, hn1, hn2, hz, hc, hf⟩ := hu.facts; (try simp only [World.size_alloc, World.size_setCell, World.heap_drewN, World.size_drew] at hn1 hn2); (try simp only [cell_drewI] at hc); (try simp only [frz_drewI] at hf)))
              go_roundw
              case rel => exact ⟨j + 1, by omega, by go_num, (((hT.out.alloc _).up hu).set_ 0 _).set_ 1 _, ((((hB.out.alloc _).up hu).far (by (try dsimp only); omega) _).far (by (try dsimp only); omega) _), by (repeat' (first | with_reducible exact Up.refl _ | with_reducible assumption | with_reducible refine Up.alloc ?_ _ | with_reducible refine Up.drew ?_ | with_reducible refine Up.drewN ?_ _ | with_reducible refine Up.setCell ?_ (by (try simp only [World.size_alloc, World.size_setCell, World.heap_drewN, World.size_drew]); omega) _ | (with_reducible refine Up.trans ?_ (by with_reducible assumption))))⟩
              case measure => simp [intOf]; omega
            · obtain rfl : j = k := by omega
              go_wp2
              refine ret_agg2t Try.results42 rfl Try.underlying26 rfl (by kernel_rfl) rfl (by simp [isSome_setCell, cell_setI, cell_drewI, cell_allocI, ↓IntWalk.iteOmega, *]) (by simp [isSome_setCell, cell_setI, cell_drewI, cell_allocI, ↓IntWalk.iteOmega, *]) ⟨(by rw [hv.out] <;> rfl), ?_⟩
              (repeat' (first | with_reducible exact Up.refl _ | with_reducible assumption | with_reducible refine Up.alloc ?_ _ | with_reducible refine Up.drew ?_ | with_reducible refine Up.drewN ?_ _ | with_reducible refine Up.setCell ?_ (by (try simp only [World.size_alloc, World.size_setCell, World.heap_drewN, World.size_drew]); omega) _ | (with_reducible refine Up.trans ?_ (by with_reducible assumption))))
set_option maxRecDepth 20000 in
set_option maxHeartbeats 4000000 in
theorem s_HullOf (A : Option Addr) (n c : Nat) (f : Nat → Int) (w : World) (h : RdF w A (2 * n) (fun i => .int .i64 (f i))) (hn : n ≤ 1048576) :
    Calls Try.prog 43 #[.slice A n c] w fun e w' => e = .returned (.tuple #[.agg #[.int .i64 (hullR f n).1, .int .i64 (hullR f n).2.1], .int .i64 (hullR f n).2.2]) ∧ Up w w' := by
  go_enter Try.func43, Try.ntmps43
  go_wp2
  have hA := Blk.new w 26 #[.int .i64 0, .int .i64 0]
  go_loopw [4] (fun i wr => ∃ k : Nat, k ≤ n ∧ i = .int .i64 k ∧ (∀ j, j < k → ivAt f j = true) ∧ Up (w.alloc (.cells #[.int .i64 0, .int .i64 0] 26)) wr) (fun i _ => n - (intOf i).toNat)
  case atStart => exact ⟨0, Nat.zero_le _, rfl, fun j hj => by omega, Up.refl _⟩
  case round =>
    obtain ⟨k, hk, rfl, hok, hb⟩ := hrel
    have hok := hide hok
    have hB := hA.up hb
    have hlt0 := hB.lt
    have d0 := hB.cell 0
    have d1 := hB.cell 1
    have q0 := hB.frozen 0
    have q1 := hB.frozen 1
    simp at d0 d1
    by_cases hlt : k < n
    · obtain ⟨b, o, rfl, hbl, hc⟩ := ((h.up ((Up.refl w).alloc _)).up hb).at_ (by omega)
      have c0 := hc (k * 2) (by omega)
      have c1 := hc (k * 2 + 1) (by omega)
      rw [← Nat.add_assoc] at c1
      have hl : (k : Int) < (n : Int) := by omega
      clear h hc hA hB
      by_cases hm : ivAt f k = true
      · have hm' := hm
        unfold ivAt at hm'
        go_wp2_with (go_at_call 30; refine (s_IsInterval _ _ _).mono ?_; rw [hm']; rintro e wn ⟨rfl, hu⟩; obtain ⟨N, J, JF, hn1, hn2, hz, hc, hf⟩ := hu.facts; (try simp only [World.size_alloc, World.size_setCell, World.heap_drewN, World.size_drew] at hn1 hn2); (try simp only [cell_drewI] at hc); (try simp only [frz_drewI] at hf))
        go_roundw
        case rel => exact ⟨k + 1, by omega, by go_num, fun j hj => by rcases Nat.lt_or_ge j k with h1 | h1; exact hok.out j h1; rw [show j = k by omega]; exact hm, by (repeat' (first | with_reducible exact Up.refl _ | with_reducible assumption | with_reducible refine Up.alloc ?_ _ | with_reducible refine Up.drew ?_ | with_reducible refine Up.drewN ?_ _ | with_reducible refine Up.setCell ?_ (by (try simp only [World.size_alloc, World.size_setCell, World.heap_drewN, World.size_drew]); omega) _ | (with_reducible refine Up.trans ?_ (by with_reducible assumption))))⟩
        case measure => simp [intOf]; omega
      · have hm : ivAt f k = false := by simpa using hm
        have hv := hide (show hullR f n = (0, 0, 1) by unfold hullR; rw [allIv_no hlt hm]; rfl)
        have hm' := hm
        unfold ivAt at hm'
        go_wp2_with (go_at_call 30; refine (s_IsInterval _ _ _).mono ?_; rw [hm']; rintro e wn ⟨rfl, hu⟩; obtain ⟨N, J, JF, hn1, hn2, hz, hc, hf⟩ := hu.facts; (try simp only [World.size_alloc, World.size_setCell, World.heap_drewN, World.size_drew] at hn1 hn2); (try simp only [cell_drewI] at hc); (try simp only [frz_drewI] at hf))
        refine ret_agg2t Try.results43 rfl Try.underlying26 rfl (by kernel_rfl) rfl (by simp [isSome_setCell, cell_setI, cell_drewI, cell_allocI, ↓IntWalk.iteOmega, *]) (by simp [isSome_setCell, cell_setI, cell_drewI, cell_allocI, ↓IntWalk.iteOmega, *]) ⟨(by rw [hv.out] <;> rfl), ?_⟩
        have hb' := (Up.refl w).alloc (.cells #[.int .i64 0, .int .i64 0] 26) |>.trans hb
        (repeat' (first | with_reducible exact Up.refl _ | with_reducible assumption | with_reducible refine Up.alloc ?_ _ | with_reducible refine Up.drew ?_ | with_reducible refine Up.drewN ?_ _ | with_reducible refine Up.setCell ?_ (by (try simp only [World.size_alloc, World.size_setCell, World.heap_drewN, World.size_drew]); omega) _ | (with_reducible refine Up.trans ?_ (by with_reducible assumption))))
    · obtain rfl : k = n := by omega
      have hb' := (Up.refl w).alloc (.cells #[.int .i64 0, .int .i64 0] 26) |>.trans hb
      by_cases h100 : 100 < k
      · have hv := hide (show hullR f k = (0, 0, 3) by unfold hullR; rw [if_pos (allIv_yes hok.out), if_pos h100])
        have hi1 : decide (100 < (k : Int)) = true := by simp; omega
        go_wp2
        refine ret_agg2t Try.results43 rfl Try.underlying26 rfl (by kernel_rfl) rfl (by simp [isSome_setCell, cell_setI, cell_drewI, cell_allocI, ↓IntWalk.iteOmega, *]) (by simp [isSome_setCell, cell_setI, cell_drewI, cell_allocI, ↓IntWalk.iteOmega, *]) ⟨(by rw [hv.out] <;> rfl), ?_⟩
        (repeat' (first | with_reducible exact Up.refl _ | with_reducible assumption | with_reducible refine Up.alloc ?_ _ | with_reducible refine Up.drew ?_ | with_reducible refine Up.drewN ?_ _ | with_reducible refine Up.setCell ?_ (by (try simp only [World.size_alloc, World.size_setCell, World.heap_drewN, World.size_drew]); omega) _ | (with_reducible refine Up.trans ?_ (by with_reducible assumption))))
      · by_cases hz0 : k = 0
        · have hv := hide (show hullR f k = (0, 0, 4) by unfold hullR; rw [if_pos (allIv_yes hok.out), if_neg h100, if_pos hz0])
          subst hz0
          go_wp2
          refine ret_agg2t Try.results43 rfl Try.underlying26 rfl (by kernel_rfl) rfl (by simp [isSome_setCell, cell_setI, cell_drewI, cell_allocI, ↓IntWalk.iteOmega, *]) (by simp [isSome_setCell, cell_setI, cell_drewI, cell_allocI, ↓IntWalk.iteOmega, *]) ⟨(by rw [hv.out] <;> rfl), ?_⟩
          (repeat' (first | with_reducible exact Up.refl _ | with_reducible assumption | with_reducible refine Up.alloc ?_ _ | with_reducible refine Up.drew ?_ | with_reducible refine Up.drewN ?_ _ | with_reducible refine Up.setCell ?_ (by (try simp only [World.size_alloc, World.size_setCell, World.heap_drewN, World.size_drew]); omega) _ | (with_reducible refine Up.trans ?_ (by with_reducible assumption))))
        · have hv := hide (show hullR f k = (hl f k, hh f k, 0) by unfold hullR; rw [if_pos (allIv_yes hok.out), if_neg h100, if_neg hz0])
          have hi1 : decide (100 < (k : Int)) = false := by simp; omega
          have hi2 : ((k : Int) == 0) = false := by simp; omega
          obtain ⟨b, o, rfl, hbl, hc⟩ := ((h.up ((Up.refl w).alloc _)).up hb).at_ (by omega)
          have c0 := hc 0 (by omega)
          have c1 := hc 1 (by omega)
          simp only [Nat.add_zero] at c0
          have hkp : 0 < (k : Int) := by omega
          clear hc
          go_wp2
          go_loopw [6] (fun i wx => ∃ j : Nat, 1 ≤ j ∧ j ≤ k ∧ i = .int .i64 j ∧ Blk wx wr.heap.size 26 #[.int .i64 (hl f j), .int .i64 (hh f j)] ∧ Blk wx w.heap.size 26 #[.int .i64 0, .int .i64 0] ∧ Up wr wx) (fun i _ => k - (intOf i).toNat)
          case atStart => exact ⟨1, by omega, by omega, rfl, (by have e0 : hl f 1 = f 0 := (by simp [hl]); have e1 : hh f 1 = f 1 := (by simp [hh]); rw [e0, e1]; exact Blk.new _ _ _), (hB.alloc _), by (repeat' (first | with_reducible exact Up.refl _ | with_reducible assumption | with_reducible refine Up.alloc ?_ _ | with_reducible refine Up.drew ?_ | with_reducible refine Up.drewN ?_ _ | with_reducible refine Up.setCell ?_ (by (try simp only [World.size_alloc, World.size_setCell, World.heap_drewN, World.size_drew]); omega) _ | (with_reducible refine Up.trans ?_ (by with_reducible assumption))))⟩
          case round =>
            clear hB d0 d1 q0 q1
            obtain ⟨j, hj1, hj, rfl, hT, hB, hbx⟩ := hrel
            have hlT := hT.lt
            have t0 := hT.cell 0
            have t1 := hT.cell 1
            have y0 := hT.frozen 0
            have y1 := hT.frozen 1
            have d0 := hB.cell 0
            have d1 := hB.cell 1
            have q0 := hB.frozen 0
            have q1 := hB.frozen 1
            simp at t0 t1 d0 d1
            have hT := hide hT
            have hB := hide hB
            obtain ⟨⟨m1, m2⟩, ⟨m3, m4⟩, m5⟩ := hull_bd (k := j) hok.out (by omega) (by omega)
            by_cases hjk : j < k
            · have iv := isIvB_iff.1 (show isIvB (f (j * 2)) (f (j * 2 + 1)) = true from hok.out j hjk)
              obtain ⟨i1, i2, i3⟩ := iv
              have e1 : hl f (j + 1) = min (hl f j) (f (j * 2)) := rfl
              have e2 : hh f (j + 1) = max (hh f j) (f (j * 2 + 1)) := rfl
              obtain ⟨b', o', hEq, hbl', hc⟩ := (((h.up ((Up.refl w).alloc _)).up hb).up hbx).at_ (by omega)
              injection hEq with hEq; injection hEq with h1 h2; subst h1 h2
              have c0' := hc (j * 2) (by omega)
              have c1' := hc (j * 2 + 1) (by omega)
              rw [← Nat.add_assoc] at c1'
              have hl' : (j : Int) < (k : Int) := by omega
              clear hc c0 c1
              go_wp2
              go_region_with (first
                | (go_at_call 117; refine (s_l02Hull _ _ _ _ (by omega) (by omega) (by omega) (by omega) (by omega) (by omega) (by omega) (by omega) _).mono ?_; rintro e wn ⟨rfl, hu⟩; obtain ⟨N, J, JF, hn1, hn2, hz, hc, hf⟩ := hu.facts; (try simp only [World.size_alloc, World.size_setCell, World.heap_drewN, World.size_drew] at hn1 hn2); (try simp only [cell_drewI] at hc); (try simp only [frz_drewI] at hf)))
              all_goals
                go_wp2
                go_roundw
                case rel => exact ⟨j + 1, by omega, by omega, by go_num, ((hT.out.up (w' := wn) (by (repeat' (first | with_reducible exact Up.refl _ | with_reducible assumption | with_reducible refine Up.alloc ?_ _ | with_reducible refine Up.drew ?_ | with_reducible refine Up.drewN ?_ _ | with_reducible refine Up.setCell ?_ (by (try simp only [World.size_alloc, World.size_setCell, World.heap_drewN, World.size_drew]); omega) _ | (with_reducible refine Up.trans ?_ (by with_reducible assumption)))))).set_ 0 _).set_ 1 _, (((hB.out.up (w' := wn) (by (repeat' (first | with_reducible exact Up.refl _ | with_reducible assumption | with_reducible refine Up.alloc ?_ _ | with_reducible refine Up.drew ?_ | with_reducible refine Up.drewN ?_ _ | with_reducible refine Up.setCell ?_ (by (try simp only [World.size_alloc, World.size_setCell, World.heap_drewN, World.size_drew]); omega) _ | (with_reducible refine Up.trans ?_ (by with_reducible assumption)))))).far (by (try dsimp only); omega) _).far (by (try dsimp only); omega) _), by (repeat' (first | with_reducible exact Up.refl _ | with_reducible assumption | with_reducible refine Up.alloc ?_ _ | with_reducible refine Up.drew ?_ | with_reducible refine Up.drewN ?_ _ | with_reducible refine Up.setCell ?_ (by (try simp only [World.size_alloc, World.size_setCell, World.heap_drewN, World.size_drew]); omega) _ | (with_reducible refine Up.trans ?_ (by with_reducible assumption))))⟩
                case measure => simp [intOf]; omega
            · obtain rfl : j = k := by omega
              go_wp2
              refine ret_agg2t Try.results43 rfl Try.underlying26 rfl (by kernel_rfl) rfl (by simp [isSome_setCell, cell_setI, cell_drewI, cell_allocI, ↓IntWalk.iteOmega, *]) (by simp [isSome_setCell, cell_setI, cell_drewI, cell_allocI, ↓IntWalk.iteOmega, *]) ⟨(by rw [hv.out] <;> rfl), ?_⟩
              (repeat' (first | with_reducible exact Up.refl _ | with_reducible assumption | with_reducible refine Up.alloc ?_ _ | with_reducible refine Up.drew ?_ | with_reducible refine Up.drewN ?_ _ | with_reducible refine Up.setCell ?_ (by (try simp only [World.size_alloc, World.size_setCell, World.heap_drewN, World.size_drew]); omega) _ | (with_reducible refine Up.trans ?_ (by with_reducible assumption))))
end Go.Proofs.Ytanafhmjmfkpmaa
