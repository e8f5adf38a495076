import Derived.Test.YtffkcgdgiggfoaaEq
/- The contracts of the functions on points, places, faces and labels. -/
namespace Go.Proofs.Ytffkcgdgiggfoaa
set_option linter.unusedSimpArgs false
set_option linter.unusedVariables false
open Go.RowKit
attribute [local go_sem] cell_allocI frz_allocI

def spotB (a : Int) : Bool := inB a (-1000000) 1000000
def isPlaceB (a b c d : Int) : Bool := spotB a && spotB b && (spotB c && spotB d) && decide (a ≤ b) && decide (c ≤ d)
theorem isPlaceB_iff {a b c d : Int} : isPlaceB a b c d = true ↔ (-1000000 ≤ a ∧ b ≤ 1000000 ∧ a ≤ b ∧ -1000000 ≤ c ∧ d ≤ 1000000 ∧ c ≤ d) := by
  simp [isPlaceB, spotB, inB]; omega
def isFaceB (a b c d : Int) : Bool := spotB a && spotB b && spotB c && spotB d && decide (a < c) && decide (b < d)
theorem isFaceB_iff {a b c d : Int} : isFaceB a b c d = true ↔ (-1000000 ≤ a ∧ c ≤ 1000000 ∧ a < c ∧ -1000000 ≤ b ∧ d ≤ 1000000 ∧ b < d) := by
  simp [isFaceB, spotB, inB]; omega
/-- a coordinate's test -/
def coordB (a b : Int) : Bool := inB a (-1000000) b && inB b (-1000000) 1000000
theorem coordB_iff {a b : Int} : coordB a b = true ↔ (-1000000 ≤ a ∧ a ≤ b ∧ b ≤ 1000000) := by simp [coordB, inB]; omega
theorem isPlaceB_coord (a b c d : Int) : isPlaceB a b c d = (coordB a b && coordB c d) := by
  rw [Bool.eq_iff_iff, isPlaceB_iff, Bool.and_eq_true, coordB_iff, coordB_iff]; omega
def pointB (a b : Int) : Bool := inB a (-1000000) 1000000 && inB b (-1000000) 1000000
theorem isFaceB_point (a b c d : Int) : isFaceB a b c d = (pointB a b && pointB c d && decide (a < c) && decide (b < d)) := by
  rw [Bool.eq_iff_iff, isFaceB_iff]; simp [pointB, inB]; omega
/-- a label's test, 'n' the length of its text -/
def isLabelB (n : Nat) (a b : Int) : Bool := decide (1 ≤ n) && decide (n ≤ 8) && (spotB a && spotB b)
theorem isLabelB_iff {n : Nat} {a b : Int} : isLabelB n a b = true ↔ (1 ≤ n ∧ n ≤ 8 ∧ -1000000 ≤ a ∧ a ≤ 1000000 ∧ -1000000 ≤ b ∧ b ≤ 1000000) := by
  simp [isLabelB, spotB, inB]; omega
theorem i_isPoint (a b : Int) (w : World) :
    Calls Try.prog 142 #[.agg #[.int .i64 a, .int .i64 b]] w fun e w' => e = .returned (.bool (spotB a && spotB b)) ∧ Up w w' := by
  go_enter Try.func142, Try.ntmps142
  go_wp2_with (go_at_call 86; refine (i_isSpot _ _).mono ?_; rintro e w' ⟨rfl, rfl⟩)
  all_goals (go_ret; refine ⟨ret_bool ?_, ?_⟩; · simp [*, spotB]
             (repeat' (first | with_reducible exact Up.refl _ | with_reducible assumption | with_reducible refine Up.alloc ?_ _ | with_reducible refine Up.drew ?_ | with_reducible refine Up.drewN ?_ _ | with_reducible refine Up.setCell ?_ (by (try simp only [World.size_alloc, World.size_setCell, World.heap_drewN, World.size_drew]); omega) _ | (with_reducible refine Up.trans ?_ (by with_reducible assumption)))))
theorem i_IsPlace (a b c d : Int) (w : World) :
    Calls Try.prog 79 #[.agg #[.int .i64 a, .int .i64 b, .int .i64 c, .int .i64 d]] w fun e w' => e = .returned (.bool (isPlaceB a b c d)) ∧ Up w w' := by
  go_enter Try.func79, Try.ntmps79
  go_wp2_with (go_at_call 134; refine (im_Interval_within _ _ _ (by omega) (by omega) _).mono ?_; rintro e wn ⟨rfl, hu⟩; obtain ⟨N, J, JF, hn1, hn2, hz, hc, hf⟩ := hu.facts; (try simp only [World.size_alloc, World.size_setCell, World.heap_drewN, World.size_drew] at hn1 hn2))
  all_goals (go_ret; refine ⟨ret_bool ?_, ?_⟩; · (simp [isPlaceB, spotB, *] <;> omega)
             (repeat' (first | with_reducible exact Up.refl _ | with_reducible assumption | with_reducible refine Up.alloc ?_ _ | with_reducible refine Up.drew ?_ | with_reducible refine Up.drewN ?_ _ | with_reducible refine Up.setCell ?_ (by (try simp only [World.size_alloc, World.size_setCell, World.heap_drewN, World.size_drew]); omega) _ | (with_reducible refine Up.trans ?_ (by with_reducible assumption)))))
theorem s_l14Coordinate (a b : Int) (w : World) :
    Calls Try.prog 135 #[.agg #[.int .i64 a, .int .i64 b]] w fun e w' => e = .returned (.bool (coordB a b)) ∧ Up w w' := by
  unfold coordB
  go_enter Try.func135, Try.ntmps135
  go_wp2_with (go_at_call 83; refine (s_l01In _ _ _ _).mono ?_; rintro e w' ⟨rfl, rfl⟩)
  all_goals (go_ret; refine ⟨ret_bool ?_, ?_⟩; · simp [*]
             (repeat' (first | with_reducible exact Up.refl _ | with_reducible assumption | with_reducible refine Up.alloc ?_ _ | with_reducible refine Up.drew ?_ | with_reducible refine Up.drewN ?_ _ | with_reducible refine Up.setCell ?_ (by (try simp only [World.size_alloc, World.size_setCell, World.heap_drewN, World.size_drew]); omega) _ | (with_reducible refine Up.trans ?_ (by with_reducible assumption)))))
theorem s_IsPlace (a b c d : Int) (w : World) :
    Calls Try.prog 82 #[.agg #[.int .i64 a, .int .i64 b, .int .i64 c, .int .i64 d]] w fun e w' => e = .returned (.bool (isPlaceB a b c d)) ∧ Up w w' := by
  rw [isPlaceB_coord]
  go_enter Try.func82, Try.ntmps82
  go_wp2_with (go_at_call 135; refine (s_l14Coordinate _ _ _).mono ?_; rintro e wn ⟨rfl, hu⟩; obtain ⟨N, J, JF, hn1, hn2, hz, hc, hf⟩ := hu.facts; (try simp only [World.size_alloc, World.size_setCell, World.heap_drewN, World.size_drew] at hn1 hn2))
  all_goals (go_ret; refine ⟨ret_bool ?_, ?_⟩; · simp [*]
             (repeat' (first | with_reducible exact Up.refl _ | with_reducible assumption | with_reducible refine Up.alloc ?_ _ | with_reducible refine Up.drew ?_ | with_reducible refine Up.drewN ?_ _ | with_reducible refine Up.setCell ?_ (by (try simp only [World.size_alloc, World.size_setCell, World.heap_drewN, World.size_drew]); omega) _ | (with_reducible refine Up.trans ?_ (by with_reducible assumption)))))
theorem i_IsFace (a b c d : Int) (w : World) :
    Calls Try.prog 122 #[.agg #[.int .i64 a, .int .i64 b, .int .i64 c, .int .i64 d]] w fun e w' => e = .returned (.bool (isFaceB a b c d)) ∧ Up w w' := by
  go_enter Try.func122, Try.ntmps122
  go_wp2_with (go_at_call 86; refine (i_isSpot _ _).mono ?_; rintro e w' ⟨rfl, rfl⟩)
  all_goals (go_ret; refine ⟨ret_bool ?_, ?_⟩; · (simp [isFaceB, spotB, *] <;> omega)
             (repeat' (first | with_reducible exact Up.refl _ | with_reducible assumption | with_reducible refine Up.alloc ?_ _ | with_reducible refine Up.drew ?_ | with_reducible refine Up.drewN ?_ _ | with_reducible refine Up.setCell ?_ (by (try simp only [World.size_alloc, World.size_setCell, World.heap_drewN, World.size_drew]); omega) _ | (with_reducible refine Up.trans ?_ (by with_reducible assumption)))))
theorem s_IsFace (a b c d : Int) (w : World) :
    Calls Try.prog 123 #[.agg #[.int .i64 a, .int .i64 b, .int .i64 c, .int .i64 d]] w fun e w' => e = .returned (.bool (isFaceB a b c d)) ∧ Up w w' := by
  rw [isFaceB_point]
  go_enter Try.func123, Try.ntmps123
  go_wp2_with (go_at_call 88; refine (s_l14Point _ _ _).mono ?_; rintro e w' ⟨rfl, rfl⟩)
  all_goals (go_ret; refine ⟨ret_bool ?_, ?_⟩; · (simp [pointB, *] <;> omega)
             (repeat' (first | with_reducible exact Up.refl _ | with_reducible assumption | with_reducible refine Up.alloc ?_ _ | with_reducible refine Up.drew ?_ | with_reducible refine Up.drewN ?_ _ | with_reducible refine Up.setCell ?_ (by (try simp only [World.size_alloc, World.size_setCell, World.heap_drewN, World.size_drew]); omega) _ | (with_reducible refine Up.trans ?_ (by with_reducible assumption)))))
theorem i_IsLabel (s : ByteArray) (a b : Int) (hs : s.size ≤ maxLen) (w : World) :
    Calls Try.prog 104 #[.agg #[.string s, .int .i64 a, .int .i64 b]] w fun e w' => e = .returned (.bool (isLabelB s.size a b)) ∧ Up w w' := by
  unfold maxLen at hs
  go_enter Try.func104, Try.ntmps104
  go_wp2_with (go_at_call 142; refine (i_isPoint _ _ _).mono ?_; rintro e wn ⟨rfl, hu⟩; obtain ⟨N, J, JF, hn1, hn2, hz, hc, hf⟩ := hu.facts; (try simp only [World.size_alloc, World.size_setCell, World.heap_drewN, World.size_drew] at hn1 hn2))
  all_goals (go_ret; refine ⟨ret_bool ?_, ?_⟩; · (simp [isLabelB, spotB, *] <;> omega)
             (repeat' (first | with_reducible exact Up.refl _ | with_reducible assumption | with_reducible refine Up.alloc ?_ _ | with_reducible refine Up.drew ?_ | with_reducible refine Up.drewN ?_ _ | with_reducible refine Up.setCell ?_ (by (try simp only [World.size_alloc, World.size_setCell, World.heap_drewN, World.size_drew]); omega) _ | (with_reducible refine Up.trans ?_ (by with_reducible assumption)))))
theorem s_IsLabel (s : ByteArray) (a b : Int) (hs : s.size ≤ maxLen) (w : World) :
    Calls Try.prog 102 #[.agg #[.string s, .int .i64 a, .int .i64 b]] w fun e w' => e = .returned (.bool (isLabelB s.size a b)) ∧ Up w w' := by
  unfold maxLen at hs
  rw [show isLabelB s.size a b = (inB s.size 1 8 && pointB a b) from by rw [Bool.eq_iff_iff, isLabelB_iff]; simp [pointB, inB]; omega]
  go_enter Try.func102, Try.ntmps102
  go_wp2_with (first
    | (go_at_call 88; refine (s_l14Point _ _ _).mono ?_; rintro e w' ⟨rfl, rfl⟩)
    | (go_at_call 83; refine (s_l01In _ _ _ _).mono ?_; rintro e w' ⟨rfl, rfl⟩))
  all_goals (go_ret; refine ⟨ret_bool ?_, ?_⟩; · simp [pointB, *]
             (repeat' (first | with_reducible exact Up.refl _ | with_reducible assumption | with_reducible refine Up.alloc ?_ _ | with_reducible refine Up.drew ?_ | with_reducible refine Up.drewN ?_ _ | with_reducible refine Up.setCell ?_ (by (try simp only [World.size_alloc, World.size_setCell, World.heap_drewN, World.size_drew]); omega) _ | (with_reducible refine Up.trans ?_ (by with_reducible assumption)))))
theorem l_szLabel (s : ByteArray) (a b left : Int) (hs : s.size ≤ maxLen) (h0 : 0 ≤ left) (h1 : left ≤ 1048576) (w : World) :
    Calls Try.prog 41 #[.agg #[.string s, .int .i64 a, .int .i64 b], .int .i64 left] w fun e w' => e = .returned (.int .i64 (szS left s.size)) ∧ Up w w' := by
  unfold maxLen at hs
  go_enter Try.func41, Try.ntmps41
  go_wp2
  all_goals (go_ret; refine ⟨ret_int ?_, ?_⟩; · (unfold szS; split <;> omega)
             (repeat' (first | with_reducible exact Up.refl _ | with_reducible assumption | with_reducible refine Up.alloc ?_ _ | with_reducible refine Up.drew ?_ | with_reducible refine Up.drewN ?_ _ | with_reducible refine Up.setCell ?_ (by (try simp only [World.size_alloc, World.size_setCell, World.heap_drewN, World.size_drew]); omega) _ | (with_reducible refine Up.trans ?_ (by with_reducible assumption)))))
theorem l_toPoint (a b : Int) (w : World) :
    Calls Try.prog 103 #[.agg #[.int .i64 a, .int .i64 b]] w fun e w' => e = .returned (.agg #[.int .i64 a, .int .i64 b]) ∧ Up w w' := by
  go_enter Try.func103, Try.ntmps103
  go_wp2
  simp [bodyPost, results, go_sem, Try.results103]
  (repeat' (first | with_reducible exact Up.refl _ | with_reducible assumption | with_reducible refine Up.alloc ?_ _ | with_reducible refine Up.drew ?_ | with_reducible refine Up.drewN ?_ _ | with_reducible refine Up.setCell ?_ (by (try simp only [World.size_alloc, World.size_setCell, World.heap_drewN, World.size_drew]); omega) _ | (with_reducible refine Up.trans ?_ (by with_reducible assumption))))
theorem l_toLabel (s : ByteArray) (a b : Int) (w : World) :
    Calls Try.prog 43 #[.agg #[.string s, .int .i64 a, .int .i64 b]] w fun e w' => e = .returned (.agg #[.string s, .int .i64 a, .int .i64 b]) ∧ Up w w' := by
  go_enter Try.func43, Try.ntmps43
  go_wp2_with (go_at_call 103; refine (l_toPoint _ _ _).mono ?_; rintro e wn ⟨rfl, hu⟩; obtain ⟨N, J, JF, hn1, hn2, hz, hc, hf⟩ := hu.facts; (try simp only [World.size_alloc, World.size_setCell, World.heap_drewN, World.size_drew] at hn1 hn2))
  refine ret_agg3 Try.results43 rfl Try.underlying72 rfl (by kernel_rfl) rfl (by simp [isSome_setCell, cell_allocI, ↓IntWalk.iteOmega, *]) (by simp [isSome_setCell, cell_allocI, ↓IntWalk.iteOmega, *]) (by simp [isSome_setCell, cell_allocI, ↓IntWalk.iteOmega, *]) ⟨rfl, ?_⟩
  (repeat' (first | with_reducible exact Up.refl _ | with_reducible assumption | with_reducible refine Up.alloc ?_ _ | with_reducible refine Up.drew ?_ | with_reducible refine Up.drewN ?_ _ | with_reducible refine Up.setCell ?_ (by (try simp only [World.size_alloc, World.size_setCell, World.heap_drewN, World.size_drew]); omega) _ | (with_reducible refine Up.trans ?_ (by with_reducible assumption))))
theorem l_toFace (a b c d : Int) (w : World) :
    Calls Try.prog 28 #[.agg #[.int .i64 a, .int .i64 b, .int .i64 c, .int .i64 d]] w fun e w' => e = .returned (.agg #[.int .i64 a, .int .i64 b, .int .i64 c, .int .i64 d]) ∧ Up w w' := by
  go_enter Try.func28, Try.ntmps28
  go_wp2
  simp [bodyPost, results, go_sem, Try.results28]
  (repeat' (first | with_reducible exact Up.refl _ | with_reducible assumption | with_reducible refine Up.alloc ?_ _ | with_reducible refine Up.drew ?_ | with_reducible refine Up.drewN ?_ _ | with_reducible refine Up.setCell ?_ (by (try simp only [World.size_alloc, World.size_setCell, World.heap_drewN, World.size_drew]); omega) _ | (with_reducible refine Up.trans ?_ (by with_reducible assumption))))
theorem l_eqPoint (a b : Int) (w : World) :
    Calls Try.prog 133 #[.agg #[.int .i64 a, .int .i64 b], .agg #[.int .i64 a, .int .i64 b]] w fun e w' => e = .returned (.bool true) ∧ Up w w' := by
  go_enter Try.func133, Try.ntmps133
  go_wp2
  go_ret
  refine ⟨rfl, ?_⟩
  (repeat' (first | with_reducible exact Up.refl _ | with_reducible assumption | with_reducible refine Up.alloc ?_ _ | with_reducible refine Up.drew ?_ | with_reducible refine Up.drewN ?_ _ | with_reducible refine Up.setCell ?_ (by (try simp only [World.size_alloc, World.size_setCell, World.heap_drewN, World.size_drew]); omega) _ | (with_reducible refine Up.trans ?_ (by with_reducible assumption))))
end Go.Proofs.Ytffkcgdgiggfoaa
