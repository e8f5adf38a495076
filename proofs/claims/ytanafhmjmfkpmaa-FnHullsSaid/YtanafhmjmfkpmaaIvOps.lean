import Derived.Test.YtanafhmjmfkpmaaDiv
import Derived.Test.YtanafhmjmfkpmaaIv
/- The contracts of the operations on intervals. -/
namespace Go.Proofs.Ytanafhmjmfkpmaa
set_option linter.unusedSimpArgs false
set_option linter.unusedVariables false
open Go.RowKit
attribute [local go_sem] cell_allocI frz_allocI later_cell later_frz
attribute [local go_sem ↓] min_two max_two min_four max_four
theorem mul_bd {a b M N : Int} (h1 : -M ≤ a) (h2 : a ≤ M) (h3 : -N ≤ b) (h4 : b ≤ N) : -(M * N) ≤ a * b ∧ a * b ≤ M * N := by
  have e1 : 0 ≤ (M - a) * (N + b) := Int.mul_nonneg (by omega) (by omega)
  have e2 : 0 ≤ (M + a) * (N - b) := Int.mul_nonneg (by omega) (by omega)
  have e3 : 0 ≤ (M - a) * (N - b) := Int.mul_nonneg (by omega) (by omega)
  have e4 : 0 ≤ (M + a) * (N + b) := Int.mul_nonneg (by omega) (by omega)
  simp only [Int.mul_sub, Int.mul_add, Int.sub_mul, Int.add_mul] at e1 e2 e3 e4
  omega
/-- an interval, if its bounds are values: its bounds and the code -/
def toldR (a b : Int) : Int × Int × Int := if inB a (-1000000000000) 1000000000000 && inB b (-1000000000000) 1000000000000 then (a, b, 0) else (0, 0, 3)
/-- a product of two intervals in millionths -/
def mulLo (a b c d : Int) : Int := (min4 (a * c) (a * d) (b * c) (b * d)) / 1000000
def mulHi (a b c d : Int) : Int := ce (max4 (a * c) (a * d) (b * c) (b * d)) 1000000
theorem im_Interval_times (a b c d : Int) (a1 : -1000000000 ≤ a) (a2 : a ≤ 1000000000) (b1 : -1000000000 ≤ b) (b2 : b ≤ 1000000000) (c1 : -1000000000 ≤ c) (c2 : c ≤ 1000000000) (d1 : -1000000000 ≤ d) (d2 : d ≤ 1000000000) (w : World) :
    Calls Try.prog 108 #[.agg #[.int .i64 a, .int .i64 b], .agg #[.int .i64 c, .int .i64 d]] w fun e w' => e = .returned (.agg #[.int .i64 (mulLo a b c d), .int .i64 (mulHi a b c d)]) ∧ Up w w' := by
  obtain ⟨p1, p2⟩ := mul_bd a1 a2 c1 c2
  obtain ⟨q1, q2⟩ := mul_bd a1 a2 d1 d2
  obtain ⟨r1, r2⟩ := mul_bd b1 b2 c1 c2
  obtain ⟨s1, s2⟩ := mul_bd b1 b2 d1 d2
  obtain ⟨e1, e1'⟩ : -1000000000000000000 ≤ min4 (a * c) (a * d) (b * c) (b * d) ∧ min4 (a * c) (a * d) (b * c) (b * d) ≤ 1000000000000000000 := by unfold min4; omega
  obtain ⟨e2, e2'⟩ : -1000000000000000000 ≤ max4 (a * c) (a * d) (b * c) (b * d) ∧ max4 (a * c) (a * d) (b * c) (b * d) ≤ 1000000000000000000 := by unfold max4; omega
  unfold mulLo mulHi
  go_enter Try.func108, Try.ntmps108
  go_wp2
  go_quiet (fail)
  go_wp2_with (first
    | (go_at_call 99; refine (i_floorP _ _ (by omega) (by omega) (by omega) (by omega) _).mono ?_; rintro e w' ⟨rfl, rfl⟩)
    | (go_at_call 100; refine (i_ceil _ _ (by omega) (by omega) (by omega) (by omega) (by omega) _).mono ?_; rintro e w' ⟨rfl, rfl⟩))
  refine ret_agg2 Try.results108 rfl Try.underlying26 rfl (by kernel_rfl) rfl (by simp [isSome_setCell, cell_allocI, ↓IntWalk.iteOmega, *]) (by simp [isSome_setCell, cell_allocI, ↓IntWalk.iteOmega, *]) ⟨?_, ?_⟩
  · rfl
  (repeat' (first | with_reducible exact Up.refl _ | with_reducible assumption | with_reducible refine Up.alloc ?_ _ | with_reducible refine Up.drew ?_ | with_reducible refine Up.drewN ?_ _ | with_reducible refine Up.setCell ?_ (by (try simp only [World.size_alloc, World.size_setCell, World.heap_drewN, World.size_drew]); omega) _ | (with_reducible refine Up.trans ?_ (by with_reducible assumption))))
theorem s_l02Mul (a b c d : Int) (a1 : -1000000000 ≤ a) (a2 : a ≤ 1000000000) (b1 : -1000000000 ≤ b) (b2 : b ≤ 1000000000) (c1 : -1000000000 ≤ c) (c2 : c ≤ 1000000000) (d1 : -1000000000 ≤ d) (d2 : d ≤ 1000000000) (w : World) :
    Calls Try.prog 109 #[.agg #[.int .i64 a, .int .i64 b], .agg #[.int .i64 c, .int .i64 d]] w fun e w' => e = .returned (.agg #[.int .i64 (mulLo a b c d), .int .i64 (mulHi a b c d)]) ∧ Up w w' := by
  obtain ⟨p1, p2⟩ := mul_bd a1 a2 c1 c2
  obtain ⟨q1, q2⟩ := mul_bd a1 a2 d1 d2
  obtain ⟨r1, r2⟩ := mul_bd b1 b2 c1 c2
  obtain ⟨s1, s2⟩ := mul_bd b1 b2 d1 d2
  obtain ⟨e1, e1'⟩ : -1000000000000000000 ≤ min4 (a * c) (a * d) (b * c) (b * d) ∧ min4 (a * c) (a * d) (b * c) (b * d) ≤ 1000000000000000000 := by unfold min4; omega
  obtain ⟨e2, e2'⟩ : -1000000000000000000 ≤ max4 (a * c) (a * d) (b * c) (b * d) ∧ max4 (a * c) (a * d) (b * c) (b * d) ≤ 1000000000000000000 := by unfold max4; omega
  unfold mulLo mulHi
  go_enter Try.func109, Try.ntmps109
  go_wp2
  go_quiet (fail)
  go_wp2_with (first
    | (go_at_call 129; refine (s_l01FloorP _ _ (by omega) (by omega) (by omega) (by omega) _).mono ?_; rintro e w' ⟨rfl, rfl⟩)
    | (go_at_call 157; refine (s_l01Ceil _ _ (by omega) (by omega) (by omega) (by omega) (by omega) _).mono ?_; rintro e w' ⟨rfl, rfl⟩))
  refine ret_agg2 Try.results109 rfl Try.underlying26 rfl (by kernel_rfl) rfl (by simp [isSome_setCell, cell_allocI, ↓IntWalk.iteOmega, *]) (by simp [isSome_setCell, cell_allocI, ↓IntWalk.iteOmega, *]) ⟨?_, ?_⟩
  · rfl
  (repeat' (first | with_reducible exact Up.refl _ | with_reducible assumption | with_reducible refine Up.alloc ?_ _ | with_reducible refine Up.drew ?_ | with_reducible refine Up.drewN ?_ _ | with_reducible refine Up.setCell ?_ (by (try simp only [World.size_alloc, World.size_setCell, World.heap_drewN, World.size_drew]); omega) _ | (with_reducible refine Up.trans ?_ (by with_reducible assumption))))
theorem im_Interval_plus (a b c d : Int) (a1 : -1000000000000000 ≤ a) (a2 : a ≤ 1000000000000000) (b1 : -1000000000000000 ≤ b) (b2 : b ≤ 1000000000000000) (c1 : -1000000000000000 ≤ c) (c2 : c ≤ 1000000000000000) (d1 : -1000000000000000 ≤ d) (d2 : d ≤ 1000000000000000) (w : World) :
    Calls Try.prog 92 #[.agg #[.int .i64 a, .int .i64 b], .agg #[.int .i64 c, .int .i64 d]] w fun e w' => e = .returned (.agg #[.int .i64 (a + c), .int .i64 (b + d)]) ∧ Up w w' := by
  go_enter Try.func92, Try.ntmps92
  go_wp2
  first
    | (simp [bodyPost, results, go_sem, Try.results92]; (repeat' (first | with_reducible exact Up.refl _ | with_reducible assumption | with_reducible refine Up.alloc ?_ _ | with_reducible refine Up.drew ?_ | with_reducible refine Up.drewN ?_ _ | with_reducible refine Up.setCell ?_ (by (try simp only [World.size_alloc, World.size_setCell, World.heap_drewN, World.size_drew]); omega) _ | (with_reducible refine Up.trans ?_ (by with_reducible assumption)))))
    | (go_quiet (fail); go_wp2; refine ret_agg2 Try.results92 rfl Try.underlying26 rfl (by kernel_rfl) rfl (by simp [isSome_setCell, cell_allocI, ↓IntWalk.iteOmega, *]) (by simp [isSome_setCell, cell_allocI, ↓IntWalk.iteOmega, *]) ⟨rfl, ?_⟩; (repeat' (first | with_reducible exact Up.refl _ | with_reducible assumption | with_reducible refine Up.alloc ?_ _ | with_reducible refine Up.drew ?_ | with_reducible refine Up.drewN ?_ _ | with_reducible refine Up.setCell ?_ (by (try simp only [World.size_alloc, World.size_setCell, World.heap_drewN, World.size_drew]); omega) _ | (with_reducible refine Up.trans ?_ (by with_reducible assumption)))))
theorem s_l02Add (a b c d : Int) (a1 : -1000000000000000 ≤ a) (a2 : a ≤ 1000000000000000) (b1 : -1000000000000000 ≤ b) (b2 : b ≤ 1000000000000000) (c1 : -1000000000000000 ≤ c) (c2 : c ≤ 1000000000000000) (d1 : -1000000000000000 ≤ d) (d2 : d ≤ 1000000000000000) (w : World) :
    Calls Try.prog 89 #[.agg #[.int .i64 a, .int .i64 b], .agg #[.int .i64 c, .int .i64 d]] w fun e w' => e = .returned (.agg #[.int .i64 (a + c), .int .i64 (b + d)]) ∧ Up w w' := by
  go_enter Try.func89, Try.ntmps89
  go_wp2
  first
    | (simp [bodyPost, results, go_sem, Try.results89]; (repeat' (first | with_reducible exact Up.refl _ | with_reducible assumption | with_reducible refine Up.alloc ?_ _ | with_reducible refine Up.drew ?_ | with_reducible refine Up.drewN ?_ _ | with_reducible refine Up.setCell ?_ (by (try simp only [World.size_alloc, World.size_setCell, World.heap_drewN, World.size_drew]); omega) _ | (with_reducible refine Up.trans ?_ (by with_reducible assumption)))))
    | (go_quiet (fail); go_wp2; refine ret_agg2 Try.results89 rfl Try.underlying26 rfl (by kernel_rfl) rfl (by simp [isSome_setCell, cell_allocI, ↓IntWalk.iteOmega, *]) (by simp [isSome_setCell, cell_allocI, ↓IntWalk.iteOmega, *]) ⟨rfl, ?_⟩; (repeat' (first | with_reducible exact Up.refl _ | with_reducible assumption | with_reducible refine Up.alloc ?_ _ | with_reducible refine Up.drew ?_ | with_reducible refine Up.drewN ?_ _ | with_reducible refine Up.setCell ?_ (by (try simp only [World.size_alloc, World.size_setCell, World.heap_drewN, World.size_drew]); omega) _ | (with_reducible refine Up.trans ?_ (by with_reducible assumption)))))
theorem im_Interval_minus (a b c d : Int) (a1 : -1000000000000000 ≤ a) (a2 : a ≤ 1000000000000000) (b1 : -1000000000000000 ≤ b) (b2 : b ≤ 1000000000000000) (c1 : -1000000000000000 ≤ c) (c2 : c ≤ 1000000000000000) (d1 : -1000000000000000 ≤ d) (d2 : d ≤ 1000000000000000) (w : World) :
    Calls Try.prog 104 #[.agg #[.int .i64 a, .int .i64 b], .agg #[.int .i64 c, .int .i64 d]] w fun e w' => e = .returned (.agg #[.int .i64 (a - d), .int .i64 (b - c)]) ∧ Up w w' := by
  go_enter Try.func104, Try.ntmps104
  go_wp2
  first
    | (simp [bodyPost, results, go_sem, Try.results104]; (repeat' (first | with_reducible exact Up.refl _ | with_reducible assumption | with_reducible refine Up.alloc ?_ _ | with_reducible refine Up.drew ?_ | with_reducible refine Up.drewN ?_ _ | with_reducible refine Up.setCell ?_ (by (try simp only [World.size_alloc, World.size_setCell, World.heap_drewN, World.size_drew]); omega) _ | (with_reducible refine Up.trans ?_ (by with_reducible assumption)))))
    | (go_quiet (fail); go_wp2; refine ret_agg2 Try.results104 rfl Try.underlying26 rfl (by kernel_rfl) rfl (by simp [isSome_setCell, cell_allocI, ↓IntWalk.iteOmega, *]) (by simp [isSome_setCell, cell_allocI, ↓IntWalk.iteOmega, *]) ⟨rfl, ?_⟩; (repeat' (first | with_reducible exact Up.refl _ | with_reducible assumption | with_reducible refine Up.alloc ?_ _ | with_reducible refine Up.drew ?_ | with_reducible refine Up.drewN ?_ _ | with_reducible refine Up.setCell ?_ (by (try simp only [World.size_alloc, World.size_setCell, World.heap_drewN, World.size_drew]); omega) _ | (with_reducible refine Up.trans ?_ (by with_reducible assumption)))))
theorem s_l02Sub (a b c d : Int) (a1 : -1000000000000000 ≤ a) (a2 : a ≤ 1000000000000000) (b1 : -1000000000000000 ≤ b) (b2 : b ≤ 1000000000000000) (c1 : -1000000000000000 ≤ c) (c2 : c ≤ 1000000000000000) (d1 : -1000000000000000 ≤ d) (d2 : d ≤ 1000000000000000) (w : World) :
    Calls Try.prog 105 #[.agg #[.int .i64 a, .int .i64 b], .agg #[.int .i64 c, .int .i64 d]] w fun e w' => e = .returned (.agg #[.int .i64 (a - d), .int .i64 (b - c)]) ∧ Up w w' := by
  go_enter Try.func105, Try.ntmps105
  go_wp2
  first
    | (simp [bodyPost, results, go_sem, Try.results105]; (repeat' (first | with_reducible exact Up.refl _ | with_reducible assumption | with_reducible refine Up.alloc ?_ _ | with_reducible refine Up.drew ?_ | with_reducible refine Up.drewN ?_ _ | with_reducible refine Up.setCell ?_ (by (try simp only [World.size_alloc, World.size_setCell, World.heap_drewN, World.size_drew]); omega) _ | (with_reducible refine Up.trans ?_ (by with_reducible assumption)))))
    | (go_quiet (fail); go_wp2; refine ret_agg2 Try.results105 rfl Try.underlying26 rfl (by kernel_rfl) rfl (by simp [isSome_setCell, cell_allocI, ↓IntWalk.iteOmega, *]) (by simp [isSome_setCell, cell_allocI, ↓IntWalk.iteOmega, *]) ⟨rfl, ?_⟩; (repeat' (first | with_reducible exact Up.refl _ | with_reducible assumption | with_reducible refine Up.alloc ?_ _ | with_reducible refine Up.drew ?_ | with_reducible refine Up.drewN ?_ _ | with_reducible refine Up.setCell ?_ (by (try simp only [World.size_alloc, World.size_setCell, World.heap_drewN, World.size_drew]); omega) _ | (with_reducible refine Up.trans ?_ (by with_reducible assumption)))))
theorem im_Interval_hull (a b c d : Int) (a1 : -1000000000000000 ≤ a) (a2 : a ≤ 1000000000000000) (b1 : -1000000000000000 ≤ b) (b2 : b ≤ 1000000000000000) (c1 : -1000000000000000 ≤ c) (c2 : c ≤ 1000000000000000) (d1 : -1000000000000000 ≤ d) (d2 : d ≤ 1000000000000000) (w : World) :
    Calls Try.prog 101 #[.agg #[.int .i64 a, .int .i64 b], .agg #[.int .i64 c, .int .i64 d]] w fun e w' => e = .returned (.agg #[.int .i64 (min a c), .int .i64 (max b d)]) ∧ Up w w' := by
  go_enter Try.func101, Try.ntmps101
  go_wp2
  first
    | (simp [bodyPost, results, go_sem, Try.results101]; (repeat' (first | with_reducible exact Up.refl _ | with_reducible assumption | with_reducible refine Up.alloc ?_ _ | with_reducible refine Up.drew ?_ | with_reducible refine Up.drewN ?_ _ | with_reducible refine Up.setCell ?_ (by (try simp only [World.size_alloc, World.size_setCell, World.heap_drewN, World.size_drew]); omega) _ | (with_reducible refine Up.trans ?_ (by with_reducible assumption)))))
    | (go_quiet (fail); go_wp2; refine ret_agg2 Try.results101 rfl Try.underlying26 rfl (by kernel_rfl) rfl (by simp [isSome_setCell, cell_allocI, ↓IntWalk.iteOmega, *]) (by simp [isSome_setCell, cell_allocI, ↓IntWalk.iteOmega, *]) ⟨rfl, ?_⟩; (repeat' (first | with_reducible exact Up.refl _ | with_reducible assumption | with_reducible refine Up.alloc ?_ _ | with_reducible refine Up.drew ?_ | with_reducible refine Up.drewN ?_ _ | with_reducible refine Up.setCell ?_ (by (try simp only [World.size_alloc, World.size_setCell, World.heap_drewN, World.size_drew]); omega) _ | (with_reducible refine Up.trans ?_ (by with_reducible assumption)))))
theorem s_l02Hull (a b c d : Int) (a1 : -1000000000000000 ≤ a) (a2 : a ≤ 1000000000000000) (b1 : -1000000000000000 ≤ b) (b2 : b ≤ 1000000000000000) (c1 : -1000000000000000 ≤ c) (c2 : c ≤ 1000000000000000) (d1 : -1000000000000000 ≤ d) (d2 : d ≤ 1000000000000000) (w : World) :
    Calls Try.prog 117 #[.agg #[.int .i64 a, .int .i64 b], .agg #[.int .i64 c, .int .i64 d]] w fun e w' => e = .returned (.agg #[.int .i64 (min a c), .int .i64 (max b d)]) ∧ Up w w' := by
  go_enter Try.func117, Try.ntmps117
  go_wp2
  first
    | (simp [bodyPost, results, go_sem, Try.results117]; (repeat' (first | with_reducible exact Up.refl _ | with_reducible assumption | with_reducible refine Up.alloc ?_ _ | with_reducible refine Up.drew ?_ | with_reducible refine Up.drewN ?_ _ | with_reducible refine Up.setCell ?_ (by (try simp only [World.size_alloc, World.size_setCell, World.heap_drewN, World.size_drew]); omega) _ | (with_reducible refine Up.trans ?_ (by with_reducible assumption)))))
    | (go_quiet (fail); go_wp2; refine ret_agg2 Try.results117 rfl Try.underlying26 rfl (by kernel_rfl) rfl (by simp [isSome_setCell, cell_allocI, ↓IntWalk.iteOmega, *]) (by simp [isSome_setCell, cell_allocI, ↓IntWalk.iteOmega, *]) ⟨rfl, ?_⟩; (repeat' (first | with_reducible exact Up.refl _ | with_reducible assumption | with_reducible refine Up.alloc ?_ _ | with_reducible refine Up.drew ?_ | with_reducible refine Up.drewN ?_ _ | with_reducible refine Up.setCell ?_ (by (try simp only [World.size_alloc, World.size_setCell, World.heap_drewN, World.size_drew]); omega) _ | (with_reducible refine Up.trans ?_ (by with_reducible assumption)))))
theorem i_told (a b : Int) (w : World) :
    Calls Try.prog 102 #[.agg #[.int .i64 a, .int .i64 b]] w fun e w' => e = .returned (.tuple #[.agg #[.int .i64 (toldR a b).1, .int .i64 (toldR a b).2.1], .int .i64 (toldR a b).2.2]) ∧ Up w w' := by
  by_cases h1 : inB a (-1000000000000) 1000000000000 = true
  · by_cases h2 : inB b (-1000000000000) 1000000000000 = true
    all_goals
      go_enter Try.func102, Try.ntmps102
      go_wp2_with (go_at_call 106; refine (i_isValue _ _).mono ?_; rintro e w' ⟨rfl, rfl⟩)
      simp [bodyPost, results, go_sem, Try.results102]
      refine ⟨?_, ?_⟩
      · simp [toldR, h1, h2]
      (repeat' (first | with_reducible exact Up.refl _ | with_reducible assumption | with_reducible refine Up.alloc ?_ _ | with_reducible refine Up.drew ?_ | with_reducible refine Up.drewN ?_ _ | with_reducible refine Up.setCell ?_ (by (try simp only [World.size_alloc, World.size_setCell, World.heap_drewN, World.size_drew]); omega) _ | (with_reducible refine Up.trans ?_ (by with_reducible assumption))))
  · have h1 : inB a (-1000000000000) 1000000000000 = false := by simpa using h1
    go_enter Try.func102, Try.ntmps102
    go_wp2_with (go_at_call 106; refine (i_isValue _ _).mono ?_; rintro e w' ⟨rfl, rfl⟩)
    simp [bodyPost, results, go_sem, Try.results102]
    refine ⟨?_, ?_⟩
    · simp [toldR, h1]
    (repeat' (first | with_reducible exact Up.refl _ | with_reducible assumption | with_reducible refine Up.alloc ?_ _ | with_reducible refine Up.drew ?_ | with_reducible refine Up.drewN ?_ _ | with_reducible refine Up.setCell ?_ (by (try simp only [World.size_alloc, World.size_setCell, World.heap_drewN, World.size_drew]); omega) _ | (with_reducible refine Up.trans ?_ (by with_reducible assumption))))
theorem s_l02Result (a b : Int) (w : World) :
    Calls Try.prog 95 #[.agg #[.int .i64 a, .int .i64 b]] w fun e w' => e = .returned (.tuple #[.agg #[.int .i64 (toldR a b).1, .int .i64 (toldR a b).2.1], .int .i64 (toldR a b).2.2]) ∧ Up w w' := by
  by_cases h1 : inB a (-1000000000000) 1000000000000 = true
  · by_cases h2 : inB b (-1000000000000) 1000000000000 = true
    all_goals
      go_enter Try.func95, Try.ntmps95
      go_wp2_with (go_at_call 107; refine (s_l01Is _ _).mono ?_; rintro e w' ⟨rfl, rfl⟩)
      simp [bodyPost, results, go_sem, Try.results95]
      refine ⟨?_, ?_⟩
      · simp [toldR, h1, h2]
      (repeat' (first | with_reducible exact Up.refl _ | with_reducible assumption | with_reducible refine Up.alloc ?_ _ | with_reducible refine Up.drew ?_ | with_reducible refine Up.drewN ?_ _ | with_reducible refine Up.setCell ?_ (by (try simp only [World.size_alloc, World.size_setCell, World.heap_drewN, World.size_drew]); omega) _ | (with_reducible refine Up.trans ?_ (by with_reducible assumption))))
  · have h1 : inB a (-1000000000000) 1000000000000 = false := by simpa using h1
    go_enter Try.func95, Try.ntmps95
    go_wp2_with (go_at_call 107; refine (s_l01Is _ _).mono ?_; rintro e w' ⟨rfl, rfl⟩)
    simp [bodyPost, results, go_sem, Try.results95]
    refine ⟨?_, ?_⟩
    · simp [toldR, h1]
    (repeat' (first | with_reducible exact Up.refl _ | with_reducible assumption | with_reducible refine Up.alloc ?_ _ | with_reducible refine Up.drew ?_ | with_reducible refine Up.drewN ?_ _ | with_reducible refine Up.setCell ?_ (by (try simp only [World.size_alloc, World.size_setCell, World.heap_drewN, World.size_drew]); omega) _ | (with_reducible refine Up.trans ?_ (by with_reducible assumption))))
end Go.Proofs.Ytanafhmjmfkpmaa
