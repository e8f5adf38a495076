import Derived.Test.YtffkcgdgiggfoaaFace
import Derived.Test.YtffkcgdgiggfoaaDiv
import Derived.LoopN
import Derived.Deep.DeepCutAuto
import Derived.Laws.MakeOwn
/- Observations: the contracts. -/
namespace Go.Proofs.Ytffkcgdgiggfoaa
set_option linter.unusedSimpArgs false
set_option linter.unusedVariables false
open Go.RowKit
attribute [local go_sem] cell_allocI frz_allocI later_cell later_frz
attribute [local go_sem] cell_setI cell_drewI frz_drewI
/-- 'make([]T, n)', T of k cells -/
theorem run_make_rowK {P : Program} (t e : TypeId) (z : Value) (k bytes : Nat) (ht : P.underlying t = some (.slice e)) (hinfo : (P.info? e).map (fun i => (i.zero, i.size, i.bytes)) = some (some z, k, bytes))
    (kl kc : IntKind) (n : Nat) (hbytes : bytes * n ≤ 281474976710656) (h63 : n ≤ 9223372036854775807) (w : World) :
    (Instr.makeSlice t (.int kl (n : Int)) (.int kc (n : Int))).run P w = .ok (.slice (some ⟨w.heap.size, 0, none⟩) n n) (w.alloc (.cells (madeCells z.cells (n * k)) e)) := by
  obtain ⟨i, hi, hzz⟩ := Option.map_eq_some_iff.1 hinfo
  simp only [Prod.mk.injEq] at hzz
  obtain ⟨hz, hs, hb⟩ := hzz
  have hb' : (i.bytes : Int) * (n : Int) ≤ 281474976710656 := by
    have h : ((i.bytes * n : Nat) : Int) ≤ 281474976710656 := by rw [hb]; omega
    rwa [Int.natCast_mul] at h
  have hr := run_make (P := P) w t e i z ht hi hz kl kc n n (by omega) (Int.le_refl _) hb' (by omega)
  simp only [Int.toNat_natCast, hs] at hr
  exact hr
def obsB (a b c d : Int) : Bool := inB a (-36159) 36524 && (inB b 0 1439 && (inB c (-1000000) 1000000 && inB d (-1000000) 1000000))
def obAt (f : Nat → Int) (i : Nat) : Bool := obsB (f (i * 4)) (f (i * 4 + 1)) (f (i * 4 + 2)) (f (i * 4 + 3))
def allOb (f : Nat → Int) (n : Nat) : Bool := (List.range n).all (obAt f)
theorem allOb_yes {f : Nat → Int} {n : Nat} (h : ∀ i, i < n → obAt f i = true) : allOb f n = true := by
  unfold allOb; rw [List.all_eq_true]; intro i hi; exact h i (List.mem_range.1 hi)
theorem allOb_no {f : Nat → Int} {n i : Nat} (hi : i < n) (h : obAt f i = false) : allOb f n = false := by
  unfold allOb; rw [List.all_eq_false]; exact ⟨i, List.mem_range.2 hi, by rw [h]; decide⟩
theorem l_toObservation (a b c d : Int) (w : World) :
    Calls Try.prog 72 #[.agg #[.int .i64 a, .int .i64 b, .int .i64 c, .int .i64 d]] w fun e w' => e = .returned (.agg #[.int .i64 a, .int .i64 b, .int .i64 c, .int .i64 d]) ∧ Up w w' := by
  go_enter Try.func72, Try.ntmps72
  go_wp2_with (go_at_call 103; refine (l_toPoint _ _ _).mono ?_; rintro e wn ⟨rfl, hu⟩; obtain ⟨N, J, JF, hn1, hn2, hz, hc, hf⟩ := hu.facts; (try simp only [World.size_alloc, World.size_setCell, World.heap_drewN, World.size_drew] at hn1 hn2); (try simp only [cell_drewI] at hc); (try simp only [frz_drewI] at hf))
  refine ret_agg4 Try.results72 rfl Try.underlying124 rfl (by kernel_rfl) rfl (by simp [isSome_setCell, cell_setI, cell_drewI, cell_allocI, ↓IntWalk.iteOmega, *]) (by simp [isSome_setCell, cell_setI, cell_drewI, cell_allocI, ↓IntWalk.iteOmega, *]) (by simp [isSome_setCell, cell_setI, cell_drewI, cell_allocI, ↓IntWalk.iteOmega, *]) (by simp [isSome_setCell, cell_setI, cell_drewI, cell_allocI, ↓IntWalk.iteOmega, *]) ⟨rfl, ?_⟩
  (repeat' (first | with_reducible exact Up.refl _ | with_reducible assumption | with_reducible refine Up.alloc ?_ _ | with_reducible refine Up.drew ?_ | with_reducible refine Up.drewN ?_ _ | with_reducible refine Up.setCell ?_ (by (try simp only [World.size_alloc, World.size_setCell, World.heap_drewN, World.size_drew]); omega) _ | (with_reducible refine Up.trans ?_ (by with_reducible assumption))))
theorem l_eqObservation (a b c d : Int) (w : World) :
    Calls Try.prog 74 #[.agg #[.int .i64 a, .int .i64 b, .int .i64 c, .int .i64 d], .agg #[.int .i64 a, .int .i64 b, .int .i64 c, .int .i64 d]] w fun e w' => e = .returned (.bool true) ∧ Up w w' := by
  go_enter Try.func74, Try.ntmps74
  go_wp2_with (go_at_call 133; refine (l_eqPoint _ _ _).mono ?_; rintro e wn ⟨rfl, hu⟩; obtain ⟨N, J, JF, hn1, hn2, hz, hc, hf⟩ := hu.facts; (try simp only [World.size_alloc, World.size_setCell, World.heap_drewN, World.size_drew] at hn1 hn2); (try simp only [cell_drewI] at hc); (try simp only [frz_drewI] at hf))
  go_ret
  exact ⟨rfl, by (repeat' (first | with_reducible exact Up.refl _ | with_reducible assumption | with_reducible refine Up.alloc ?_ _ | with_reducible refine Up.drew ?_ | with_reducible refine Up.drewN ?_ _ | with_reducible refine Up.setCell ?_ (by (try simp only [World.size_alloc, World.size_setCell, World.heap_drewN, World.size_drew]); omega) _ | (with_reducible refine Up.trans ?_ (by with_reducible assumption))))⟩
theorem l_szObservationS (A : Option Addr) (n c : Nat) (left : Int) (hn : n ≤ maxLen) (h0 : 0 ≤ left) (h1 : left ≤ 1048576) (w : World) :
    Calls Try.prog 13 #[.slice A n c, .int .i64 left] w fun e w' => e = .returned (.int .i64 (szS left n)) ∧ w = w' := by
  unfold maxLen at hn
  go_enter Try.func13, Try.ntmps13
  go_wp2
  all_goals (go_ret; refine ⟨ret_int ?_, rfl⟩; unfold szS; split <;> omega)
theorem Try.info_Obs : (Try.prog.info? 124).map (fun i => (i.zero, i.size, i.bytes)) = some (some (.agg #[.int .i64 0, .int .i64 0, .int .i64 0, .int .i64 0]), 4, 32) := by kernel_rfl
set_option maxHeartbeats 1000000 in
theorem l_toObservationS (A : Option Addr) (n c : Nat) (f : Nat → Int) (w : World) (h : RdF w A (n * 4) (fun i => .int .i64 (f i))) (hn : n ≤ 1048576) :
    Calls Try.prog 15 #[.slice A n c] w fun e w' => e = .returned (.slice (some ⟨w.heap.size, 0, none⟩) n n) ∧ Filled w' w.heap.size 124 (n * 4) (n * 4) (fun i => .int .i64 (f i)) ∧ Up w w' := by
  have hmk := run_make_rowK (P := Try.prog) 25 124 _ 4 32 Try.underlying25 Try.info_Obs .i64 .i64 n (by omega) (by omega)
  go_enter Try.func15, Try.ntmps15
  go_wp2
  clear hmk
  go_loopw [4] (fun i wr => ∃ k : Nat, k ≤ n ∧ i = .int .i64 k ∧ Filled wr w.heap.size 124 (n * 4) (k * 4) (fun i => .int .i64 (f i)) ∧ Up w wr) (fun i _ => n - (intOf i).toNat)
  case atStart => exact ⟨0, Nat.zero_le _, rfl, by rw [Nat.zero_mul]; exact Filled.start _ _ _ _ _, (Up.refl _).alloc _⟩
  case round =>
    obtain ⟨k, hk, rfl, hf, hb⟩ := hrel
    by_cases hlt : k < n
    · obtain ⟨b, o, rfl, hbl, hc⟩ := (h.up hb).at_ (by omega)
      have c0 := hc (k * 4) (by omega)
      have c1 := hc (k * 4 + 1) (by omega)
      have c2 := hc (k * 4 + 2) (by omega)
      have c3 := hc (k * 4 + 3) (by omega)
      rw [← Nat.add_assoc] at c1 c2 c3
      have hg := hf.lt
      have hl : (k : Int) < (n : Int) := by omega
      clear hc h
      obtain ⟨u0, hu0⟩ := hf.some_ (i := k * 4) (by omega)
      obtain ⟨u1, hu1⟩ := hf.some_ (i := k * 4 + 1) (by omega)
      obtain ⟨u2, hu2⟩ := hf.some_ (i := k * 4 + 2) (by omega)
      obtain ⟨u3, hu3⟩ := hf.some_ (i := k * 4 + 3) (by omega)
      have z0 := (hf.ok (i := k * 4) (by omega)).2
      have z1 := (hf.ok (i := k * 4 + 1) (by omega)).2
      have z2 := (hf.ok (i := k * 4 + 2) (by omega)).2
      have z3 := (hf.ok (i := k * 4 + 3) (by omega)).2
      have hff := hide hf
      clear hf
      go_wp2_with (go_at_call 72; refine (l_toObservation _ _ _ _ _).mono ?_; rintro e wn ⟨rfl, hu⟩; obtain ⟨N, J, JF, hn1, hn2, hz, hc, hf⟩ := hu.facts; (try simp only [World.size_alloc, World.size_setCell, World.heap_drewN, World.size_drew] at hn1 hn2))
      have hf := hff.out
      go_roundw
      case rel => exact ⟨k + 1, by omega, by go_num, ((((hf.up hu).put (i := k * 4) (l := k * 4 + 1) rfl rfl (by omega) _ rfl).put (i := k * 4 + 1) (l := k * 4 + 2) rfl rfl (by omega) _ rfl).put (i := k * 4 + 2) (l := k * 4 + 3) rfl rfl (by omega) _ rfl).put (i := k * 4 + 3) (l := (k + 1) * 4) rfl (by omega) (by omega) _ rfl, by (repeat' (first | with_reducible exact Up.refl _ | with_reducible assumption | with_reducible refine Up.alloc ?_ _ | with_reducible refine Up.drew ?_ | with_reducible refine Up.drewN ?_ _ | with_reducible refine Up.setCell ?_ (by (try simp only [World.size_alloc, World.size_setCell, World.heap_drewN, World.size_drew]); omega) _ | (with_reducible refine Up.trans ?_ (by with_reducible assumption))))⟩
      case measure => simp [intOf]; omega
    · go_wp2
      go_ret
      obtain rfl : k = n := by omega
      exact ⟨rfl, hf, hb⟩
set_option maxRecDepth 100000 in
set_option maxHeartbeats 2000000 in
theorem i_dayNumber_lo (w : World) :
    Calls Try.prog 163 #[.agg #[.int .i64 1901, .int .i64 1, .int .i64 1]] w fun e w' => e = .returned (.int .i64 (-36159)) ∧ Up w w' := by
  go_enter Try.func163, Try.ntmps163
  go_wp2
  refine wp_loop_rounds 1 ?_
  rw [rounds_succ]
  go_wp2
  go_ret
  exact ⟨rfl, by (repeat' (first | with_reducible exact Up.refl _ | with_reducible assumption | with_reducible refine Up.alloc ?_ _ | with_reducible refine Up.drew ?_ | with_reducible refine Up.drewN ?_ _ | with_reducible refine Up.setCell ?_ (by (try simp only [World.size_alloc, World.size_setCell, World.heap_drewN, World.size_drew]); omega) _ | (with_reducible refine Up.trans ?_ (by with_reducible assumption))))⟩
def dimF (m : Int) : Int := if m = 4 ∨ m = 6 ∨ m = 9 ∨ m = 11 then 30 else if m = 2 then 28 else 31
theorem i_daysInMonth (m : Int) (w : World) :
    Calls Try.prog 166 #[.int .i64 2099, .int .i64 m] w fun e w' => e = .returned (.int .i64 (dimF m)) ∧ w = w' := by
  go_enter Try.func166, Try.ntmps166
  go_wp2
  all_goals (go_ret; refine ⟨ret_int ?_, rfl⟩; unfold dimF; simp_all)
set_option maxRecDepth 100000 in
set_option maxHeartbeats 4000000 in
theorem i_dayNumber_hi (w : World) :
    Calls Try.prog 163 #[.agg #[.int .i64 2099, .int .i64 12, .int .i64 31]] w fun e w' => e = .returned (.int .i64 36524) ∧ Up w w' := by
  have h1 : dimF 1 = 31 := by decide
  have h2 : dimF 2 = 28 := by decide
  have h3 : dimF 3 = 31 := by decide
  have h4 : dimF 4 = 30 := by decide
  have h5 : dimF 5 = 31 := by decide
  have h6 : dimF 6 = 30 := by decide
  have h7 : dimF 7 = 31 := by decide
  have h8 : dimF 8 = 31 := by decide
  have h9 : dimF 9 = 30 := by decide
  have h10 : dimF 10 = 31 := by decide
  have h11 : dimF 11 = 30 := by decide
  go_enter Try.func163, Try.ntmps163
  go_wp2
  refine wp_loop_rounds 12 ?_
  repeat any_goals (rw [rounds_succ]; go_wp2_with (first
    | (go_at_call 166; refine (i_daysInMonth _ _).mono ?_; rintro e w' ⟨rfl, rfl⟩)))
  go_ret
  exact ⟨rfl, by (repeat' (first | with_reducible exact Up.refl _ | with_reducible assumption | with_reducible refine Up.alloc ?_ _ | with_reducible refine Up.drew ?_ | with_reducible refine Up.drewN ?_ _ | with_reducible refine Up.setCell ?_ (by (try simp only [World.size_alloc, World.size_setCell, World.heap_drewN, World.size_drew]); omega) _ | (with_reducible refine Up.trans ?_ (by with_reducible assumption))))⟩
def dnF (y : Int) : Int := if y = 1901 then -36159 else 36524
theorem i_dayNumber (y m d : Int) (h : (y = 1901 ∧ m = 1 ∧ d = 1) ∨ (y = 2099 ∧ m = 12 ∧ d = 31)) (w : World) :
    Calls Try.prog 163 #[.agg #[.int .i64 y, .int .i64 m, .int .i64 d]] w fun e w' => e = .returned (.int .i64 (dnF y)) ∧ Up w w' := by
  rcases h with ⟨rfl, rfl, rfl⟩ | ⟨rfl, rfl, rfl⟩
  · exact i_dayNumber_lo w
  · exact i_dayNumber_hi w
theorem i_isDayNumber (a : Int) (w : World) :
    Calls Try.prog 159 #[.int .i64 a] w fun e w' => e = .returned (.bool (inB a (-36159) 36524)) ∧ Up w w' := by
  have e1 : dnF 1901 = -36159 := by decide
  have e2 : dnF 2099 = 36524 := by decide
  go_enter Try.func159, Try.ntmps159
  go_wp2_with (first
    | (go_at_call 163; refine (i_dayNumber _ _ _ (by simp) _).mono ?_; rintro e wn ⟨rfl, hu⟩; obtain ⟨N, J, JF, hn1, hn2, hz, hc, hf⟩ := hu.facts; (try simp only [World.size_alloc, World.size_setCell, World.heap_drewN, World.size_drew] at hn1 hn2); (try simp only [cell_drewI] at hc); (try simp only [frz_drewI] at hf))
    | (go_at_call 80; refine (i_in _ _ _ _).mono ?_; rintro e w' ⟨rfl, rfl⟩))
  go_ret
  exact ⟨by simp [e1, e2], by (repeat' (first | with_reducible exact Up.refl _ | with_reducible assumption | with_reducible refine Up.alloc ?_ _ | with_reducible refine Up.drew ?_ | with_reducible refine Up.drewN ?_ _ | with_reducible refine Up.setCell ?_ (by (try simp only [World.size_alloc, World.size_setCell, World.heap_drewN, World.size_drew]); omega) _ | (with_reducible refine Up.trans ?_ (by with_reducible assumption))))⟩
def yF (y : Int) : Int := 365 * (y - 2000) + ce (y - 2000) 4
theorem yF_bd {y : Int} (h1 : 1900 ≤ y) (h2 : y ≤ 2100) : -40000 ≤ yF y ∧ yF y ≤ 40000 := by
  unfold yF ce; rw [fl_pos (by omega)]; omega
theorem s_l07Year (y : Int) (h1 : 1900 ≤ y) (h2 : y ≤ 2100) (w : World) :
    Calls Try.prog 162 #[.int .i64 y] w fun e w' => e = .returned (.int .i64 (yF y)) ∧ w = w' := by
  have hb : -100 ≤ ce (y - 2000) 4 ∧ ce (y - 2000) 4 ≤ 100 := by unfold ce; rw [fl_pos (by omega)]; omega
  go_enter Try.func162, Try.ntmps162
  go_wp2_with (go_at_call 165; refine (s_l01Ceil _ _ (by omega) (by omega) (by omega) (by omega) (by omega) _).mono ?_; rintro e w' ⟨rfl, rfl⟩)
  go_ret
  exact ⟨rfl, rfl⟩
theorem s_l07Has (a : Int) (w : World) :
    Calls Try.prog 156 #[.int .i64 a] w fun e w' => e = .returned (.bool (inB a (-36159) 36524)) ∧ w = w' := by
  have e1 : yF 1901 = -36159 := by decide
  have e2 : yF 2100 = 36525 := by decide
  go_enter Try.func156, Try.ntmps156
  go_wp2_with (first
    | (go_at_call 162; refine (s_l07Year _ (by omega) (by omega) _).mono ?_; rintro e w' ⟨rfl, rfl⟩)
    | (go_at_call 83; refine (s_l01In _ _ _ _).mono ?_; rintro e w' ⟨rfl, rfl⟩))
  go_ret
  exact ⟨by simp [e1, e2], rfl⟩
theorem i_isObservation (a b c d : Int) (w : World) :
    Calls Try.prog 132 #[.agg #[.int .i64 a, .int .i64 b, .int .i64 c, .int .i64 d]] w fun e w' => e = .returned (.bool (obsB a b c d)) ∧ Up w w' := by
  unfold obsB
  go_enter Try.func132, Try.ntmps132
  go_wp2_with (first
    | (go_at_call 159; refine (i_isDayNumber _ _).mono ?_; rintro e wn ⟨rfl, hu⟩; obtain ⟨N, J, JF, hn1, hn2, hz, hc, hf⟩ := hu.facts; (try simp only [World.size_alloc, World.size_setCell, World.heap_drewN, World.size_drew] at hn1 hn2); (try simp only [cell_drewI] at hc); (try simp only [frz_drewI] at hf))
    | (go_at_call 160; refine (i_isMinute _ _).mono ?_; rintro e w' ⟨rfl, rfl⟩)
    | (go_at_call 142; refine (i_isPoint _ _ _).mono ?_; unfold spotB; rintro e wn ⟨rfl, hu⟩; obtain ⟨N, J, JF, hn1, hn2, hz, hc, hf⟩ := hu.facts; (try simp only [World.size_alloc, World.size_setCell, World.heap_drewN, World.size_drew] at hn1 hn2); (try simp only [cell_drewI] at hc); (try simp only [frz_drewI] at hf)))
  all_goals (go_ret; refine ⟨ret_bool ?_, ?_⟩; · simp [*]
             (repeat' (first | with_reducible exact Up.refl _ | with_reducible assumption | with_reducible refine Up.alloc ?_ _ | with_reducible refine Up.drew ?_ | with_reducible refine Up.drewN ?_ _ | with_reducible refine Up.setCell ?_ (by (try simp only [World.size_alloc, World.size_setCell, World.heap_drewN, World.size_drew]); omega) _ | (with_reducible refine Up.trans ?_ (by with_reducible assumption)))))
theorem s_l25Is (a b c d : Int) (w : World) :
    Calls Try.prog 129 #[.agg #[.int .i64 a, .int .i64 b, .int .i64 c, .int .i64 d]] w fun e w' => e = .returned (.bool (obsB a b c d)) ∧ Up w w' := by
  unfold obsB
  go_enter Try.func129, Try.ntmps129
  go_wp2_with (first
    | (go_at_call 156; refine (s_l07Has _ _).mono ?_; rintro e w' ⟨rfl, rfl⟩)
    | (go_at_call 157; refine (s_l09Minute _ _).mono ?_; rintro e w' ⟨rfl, rfl⟩)
    | (go_at_call 88; refine (s_l14Point _ _ _).mono ?_; rintro e w' ⟨rfl, rfl⟩))
  all_goals (go_ret; refine ⟨ret_bool ?_, ?_⟩; · simp [*]
             (repeat' (first | with_reducible exact Up.refl _ | with_reducible assumption | with_reducible refine Up.alloc ?_ _ | with_reducible refine Up.drew ?_ | with_reducible refine Up.drewN ?_ _ | with_reducible refine Up.setCell ?_ (by (try simp only [World.size_alloc, World.size_setCell, World.heap_drewN, World.size_drew]); omega) _ | (with_reducible refine Up.trans ?_ (by with_reducible assumption)))))
theorem l_eqObservationS (A B : Option Addr) (n c d : Nat) (f : Nat → Int) (w : World) (h : RdF w A (n * 4) (fun i => .int .i64 (f i))) (k : RdF w B (n * 4) (fun i => .int .i64 (f i))) (hn : n ≤ 1048576) :
    Calls Try.prog 17 #[.slice A n c, .slice B n d] w fun e w' => e = .returned (.bool true) ∧ Up w w' := by
  go_enter Try.func17, Try.ntmps17
  go_wp2
  go_loopw [5] (fun i wr => ∃ k : Nat, k ≤ n ∧ i = .int .i64 k ∧ Up w wr) (fun i _ => n - (intOf i).toNat)
  case atStart => exact ⟨0, Nat.zero_le _, rfl, Up.refl _⟩
  case round =>
    obtain ⟨j, hj, rfl, hb⟩ := hrel
    by_cases hlt : j < n
    · obtain ⟨b, o, rfl, hbl, hc⟩ := (h.up hb).at_ (by omega)
      obtain ⟨b2, o2, rfl, hbl2, hc2⟩ := (k.up hb).at_ (by omega)
      have c0 := hc (j * 4) (by omega)
      have c1 := hc (j * 4 + 1) (by omega)
      have c2 := hc (j * 4 + 2) (by omega)
      have c3 := hc (j * 4 + 3) (by omega)
      have d0 := hc2 (j * 4) (by omega)
      have d1 := hc2 (j * 4 + 1) (by omega)
      have d2 := hc2 (j * 4 + 2) (by omega)
      have d3 := hc2 (j * 4 + 3) (by omega)
      rw [← Nat.add_assoc] at c1 c2 c3 d1 d2 d3
      have hl : (j : Int) < (n : Int) := by omega
      clear h k hc hc2
      go_wp2
      refine wp_region_later (by kernel_rfl) (by kernel_rfl) ?_
      repeat (go_big_quiet_step ((go_at_call 74; exact later_call (l_eqObservation _ _ _ _ _))))
      refine wpQuiet_nil ?_; intro _ hw'; obtain ⟨x, hw''⟩ := hw'; subst hw''; obtain ⟨wn, hu⟩ := x; dsimp only; obtain ⟨N, J, JF, hn1, hn2, hz, hc, hf⟩ := hu.facts; (try simp only [World.size_alloc, World.size_setCell, World.heap_drewN, World.size_drew] at hn1 hn2)
      go_wp2
      go_roundw
      case rel => exact ⟨j + 1, by omega, by go_num, hb.trans hu⟩
      case measure => simp [intOf]; omega
    · go_wp2
      go_ret
      exact ⟨rfl, hb⟩
theorem i_obsNot (a b c d : Int) (w : World) :
    Calls Try.prog 131 #[.agg #[.int .i64 a, .int .i64 b, .int .i64 c, .int .i64 d]] w fun e w' => e = .returned (.bool (!obsB a b c d)) ∧ Up w w' := by
  go_enter Try.func131, Try.ntmps131
  go_wp2_with (go_at_call 132; refine (i_isObservation _ _ _ _ _).mono ?_; rintro e wn ⟨rfl, hu⟩; obtain ⟨N, J, JF, hn1, hn2, hz, hc, hf⟩ := hu.facts; (try simp only [World.size_alloc, World.size_setCell, World.heap_drewN, World.size_drew] at hn1 hn2); (try simp only [cell_drewI] at hc); (try simp only [frz_drewI] at hf))
  go_ret
  exact ⟨rfl, by (repeat' (first | with_reducible exact Up.refl _ | with_reducible assumption | with_reducible refine Up.alloc ?_ _ | with_reducible refine Up.drew ?_ | with_reducible refine Up.drewN ?_ _ | with_reducible refine Up.setCell ?_ (by (try simp only [World.size_alloc, World.size_setCell, World.heap_drewN, World.size_drew]); omega) _ | (with_reducible refine Up.trans ?_ (by with_reducible assumption))))⟩
set_option maxHeartbeats 1000000 in
theorem i_IndexObs (A : Option Addr) (n c : Nat) (f : Nat → Int) (w : World) (h : RdF w A (n * 4) (fun i => .int .i64 (f i))) (hn : n ≤ 1048576) :
    Calls Try.prog 158 #[.slice A n c, .func (.func 131) #[] #[]] w fun e w' => (∃ r : Int, e = .returned (.int .i64 r) ∧ decide (0 ≤ r) = !allOb f n) ∧ Up w w' := by
  go_enter Try.func158, Try.ntmps158
  go_wp2
  go_loopw [8] (fun i wr => ∃ k : Nat, k ≤ n ∧ i = .int .i64 k ∧ (∀ j, j < k → obAt f j = true) ∧ Up w wr) (fun i _ => n - (intOf i).toNat)
  case atStart => exact ⟨0, Nat.zero_le _, rfl, fun j hj => by omega, Up.refl _⟩
  case round =>
    obtain ⟨k, hk, rfl, hok, hb⟩ := hrel
    have hok := hide hok
    by_cases hlt : k < n
    · obtain ⟨b, o, rfl, hbl, hc⟩ := (h.up hb).at_ (by omega)
      have c0 := hc (k * 4) (by omega)
      have c1 := hc (k * 4 + 1) (by omega)
      have c2 := hc (k * 4 + 2) (by omega)
      have c3 := hc (k * 4 + 3) (by omega)
      rw [← Nat.add_assoc] at c1 c2 c3
      have hl : (k : Int) < (n : Int) := by omega
      clear h hc
      by_cases hm : obAt f k = true
      · have hm' := hm
        unfold obAt at hm'
        go_wp2_with (go_at_call 131; refine (i_obsNot _ _ _ _ _).mono ?_; rw [hm']; rintro e wn ⟨rfl, hu⟩; obtain ⟨N, J, JF, hn1, hn2, hz, hc, hf⟩ := hu.facts; (try simp only [World.size_alloc, World.size_setCell, World.heap_drewN, World.size_drew] at hn1 hn2); (try simp only [cell_drewI] at hc); (try simp only [frz_drewI] at hf))
        go_roundw
        case rel => exact ⟨k + 1, by omega, by go_num, fun j hj => by rcases Nat.lt_or_ge j k with h1 | h1; exact hok.out j h1; rw [show j = k by omega]; exact hm, by (repeat' (first | with_reducible exact Up.refl _ | with_reducible assumption | with_reducible refine Up.alloc ?_ _ | with_reducible refine Up.drew ?_ | with_reducible refine Up.drewN ?_ _ | with_reducible refine Up.setCell ?_ (by (try simp only [World.size_alloc, World.size_setCell, World.heap_drewN, World.size_drew]); omega) _ | (with_reducible refine Up.trans ?_ (by with_reducible assumption))))⟩
        case measure => simp [intOf]; omega
      · have hm : obAt f k = false := by simpa using hm
        have hno := hide (allOb_no (n := n) hlt hm)
        have hm' := hm
        unfold obAt at hm'
        go_wp2_with (go_at_call 131; refine (i_obsNot _ _ _ _ _).mono ?_; rw [hm']; rintro e wn ⟨rfl, hu⟩; obtain ⟨N, J, JF, hn1, hn2, hz, hc, hf⟩ := hu.facts; (try simp only [World.size_alloc, World.size_setCell, World.heap_drewN, World.size_drew] at hn1 hn2); (try simp only [cell_drewI] at hc); (try simp only [frz_drewI] at hf))
        go_ret
        exact ⟨⟨_, rfl, by rw [hno.out]; simp⟩, by (repeat' (first | with_reducible exact Up.refl _ | with_reducible assumption | with_reducible refine Up.alloc ?_ _ | with_reducible refine Up.drew ?_ | with_reducible refine Up.drewN ?_ _ | with_reducible refine Up.setCell ?_ (by (try simp only [World.size_alloc, World.size_setCell, World.heap_drewN, World.size_drew]); omega) _ | (with_reducible refine Up.trans ?_ (by with_reducible assumption))))⟩
    · go_wp2
      go_ret
      obtain rfl : k = n := by omega
      exact ⟨⟨_, rfl, by rw [allOb_yes hok.out]; simp⟩, hb⟩
theorem i_ContainsObs (A : Option Addr) (n c : Nat) (f : Nat → Int) (w : World) (h : RdF w A (n * 4) (fun i => .int .i64 (f i))) (hn : n ≤ 1048576) :
    Calls Try.prog 130 #[.slice A n c, .func (.func 131) #[] #[]] w fun e w' => e = .returned (.bool (!allOb f n)) ∧ Up w w' := by
  go_enter Try.func130, Try.ntmps130
  go_wp2_with (go_at_call 158; refine (i_IndexObs _ _ _ f _ h hn).mono ?_; rintro e wn ⟨⟨r, rfl, hr⟩, hu⟩; obtain ⟨N, J, JF, hn1, hn2, hz, hc, hf⟩ := hu.facts; (try simp only [World.size_alloc, World.size_setCell, World.heap_drewN, World.size_drew] at hn1 hn2))
  all_goals (go_ret; refine ⟨ret_bool (by first | (rw [← hr]; done) | (rw [← hr]; simp [*]; done) | (rw [← hr]; simp; omega)), by (repeat' (first | with_reducible exact Up.refl _ | with_reducible assumption | with_reducible refine Up.alloc ?_ _ | with_reducible refine Up.drew ?_ | with_reducible refine Up.drewN ?_ _ | with_reducible refine Up.setCell ?_ (by (try simp only [World.size_alloc, World.size_setCell, World.heap_drewN, World.size_drew]); omega) _ | (with_reducible refine Up.trans ?_ (by with_reducible assumption))))⟩)
theorem i_allObservations (A : Option Addr) (n c : Nat) (f : Nat → Int) (w : World) (h : RdF w A (n * 4) (fun i => .int .i64 (f i))) (hn : n ≤ 1048576) :
    Calls Try.prog 73 #[.slice A n c] w fun e w' => e = .returned (.bool (allOb f n)) ∧ Up w w' := by
  go_enter Try.func73, Try.ntmps73
  go_wp2_with (go_at_call 130; refine (i_ContainsObs _ _ _ f _ h hn).mono ?_; rintro e wn ⟨rfl, hu⟩; obtain ⟨N, J, JF, hn1, hn2, hz, hc, hf⟩ := hu.facts; (try simp only [World.size_alloc, World.size_setCell, World.heap_drewN, World.size_drew] at hn1 hn2); (try simp only [cell_drewI] at hc); (try simp only [frz_drewI] at hf))
  go_ret
  exact ⟨ret_bool (by simp), by (repeat' (first | with_reducible exact Up.refl _ | with_reducible assumption | with_reducible refine Up.alloc ?_ _ | with_reducible refine Up.drew ?_ | with_reducible refine Up.drewN ?_ _ | with_reducible refine Up.setCell ?_ (by (try simp only [World.size_alloc, World.size_setCell, World.heap_drewN, World.size_drew]); omega) _ | (with_reducible refine Up.trans ?_ (by with_reducible assumption))))⟩
theorem i_AreObservations (A : Option Addr) (n c : Nat) (f : Nat → Int) (w : World) (h : RdF w A (n * 4) (fun i => .int .i64 (f i))) (hn : n ≤ 1048576) :
    Calls Try.prog 16 #[.slice A n c] w fun e w' => e = .returned (.bool (decide (n ≤ 10) && allOb f n)) ∧ Up w w' := by
  by_cases hk : n ≤ 10
  · have e0 : decide ((n : Int) ≤ 10) = true := by simp; omega
    go_enter Try.func16, Try.ntmps16
    go_wp2_with (go_at_call 73; refine (i_allObservations _ _ _ f _ h hn).mono ?_; rintro e wn ⟨rfl, hu⟩; obtain ⟨N, J, JF, hn1, hn2, hz, hc, hf⟩ := hu.facts; (try simp only [World.size_alloc, World.size_setCell, World.heap_drewN, World.size_drew] at hn1 hn2); (try simp only [cell_drewI] at hc); (try simp only [frz_drewI] at hf))
    go_ret
    exact ⟨ret_bool (by simp [hk]), by (repeat' (first | with_reducible exact Up.refl _ | with_reducible assumption | with_reducible refine Up.alloc ?_ _ | with_reducible refine Up.drew ?_ | with_reducible refine Up.drewN ?_ _ | with_reducible refine Up.setCell ?_ (by (try simp only [World.size_alloc, World.size_setCell, World.heap_drewN, World.size_drew]); omega) _ | (with_reducible refine Up.trans ?_ (by with_reducible assumption))))⟩
  · have e0 : decide ((n : Int) ≤ 10) = false := by simp; omega
    go_enter Try.func16, Try.ntmps16
    go_wp2_with (go_at_call 73; refine (i_allObservations _ _ _ f _ h hn).mono ?_; rintro e wn ⟨rfl, hu⟩; obtain ⟨N, J, JF, hn1, hn2, hz, hc, hf⟩ := hu.facts; (try simp only [World.size_alloc, World.size_setCell, World.heap_drewN, World.size_drew] at hn1 hn2); (try simp only [cell_drewI] at hc); (try simp only [frz_drewI] at hf))
    go_ret
    exact ⟨ret_bool (by simp [hk]), by (repeat' (first | with_reducible exact Up.refl _ | with_reducible assumption | with_reducible refine Up.alloc ?_ _ | with_reducible refine Up.drew ?_ | with_reducible refine Up.drewN ?_ _ | with_reducible refine Up.setCell ?_ (by (try simp only [World.size_alloc, World.size_setCell, World.heap_drewN, World.size_drew]); omega) _ | (with_reducible refine Up.trans ?_ (by with_reducible assumption))))⟩
set_option maxHeartbeats 1000000 in
theorem s_l25Code (A : Option Addr) (n c : Nat) (f : Nat → Int) (w : World) (h : RdF w A (n * 4) (fun i => .int .i64 (f i))) (hn : n ≤ 1048576) :
    Calls Try.prog 71 #[.slice A n c] w fun e w' => (∃ r : Int, e = .returned (.int .i64 r) ∧ (r == 0) = (decide (n ≤ 10) && allOb f n)) ∧ Up w w' := by
  go_enter Try.func71, Try.ntmps71
  go_wp2
  go_loopw [3] (fun i wr => ∃ k : Nat, k ≤ n ∧ i = .int .i64 k ∧ (∀ j, j < k → obAt f j = true) ∧ Up w wr) (fun i _ => n - (intOf i).toNat)
  case atStart => exact ⟨0, Nat.zero_le _, rfl, fun j hj => by omega, Up.refl _⟩
  case round =>
    obtain ⟨k, hk, rfl, hok, hb⟩ := hrel
    have hok := hide hok
    by_cases hlt : k < n
    · obtain ⟨b, o, rfl, hbl, hc⟩ := (h.up hb).at_ (by omega)
      have c0 := hc (k * 4) (by omega)
      have c1 := hc (k * 4 + 1) (by omega)
      have c2 := hc (k * 4 + 2) (by omega)
      have c3 := hc (k * 4 + 3) (by omega)
      rw [← Nat.add_assoc] at c1 c2 c3
      have hl : (k : Int) < (n : Int) := by omega
      clear h hc
      by_cases hm : obAt f k = true
      · have hm' := hm
        unfold obAt at hm'
        go_wp2_with (go_at_call 129; refine (s_l25Is _ _ _ _ _).mono ?_; rw [hm']; rintro e wn ⟨rfl, hu⟩; obtain ⟨N, J, JF, hn1, hn2, hz, hc, hf⟩ := hu.facts; (try simp only [World.size_alloc, World.size_setCell, World.heap_drewN, World.size_drew] at hn1 hn2); (try simp only [cell_drewI] at hc); (try simp only [frz_drewI] at hf))
        go_roundw
        case rel => exact ⟨k + 1, by omega, by go_num, fun j hj => by rcases Nat.lt_or_ge j k with h1 | h1; exact hok.out j h1; rw [show j = k by omega]; exact hm, by (repeat' (first | with_reducible exact Up.refl _ | with_reducible assumption | with_reducible refine Up.alloc ?_ _ | with_reducible refine Up.drew ?_ | with_reducible refine Up.drewN ?_ _ | with_reducible refine Up.setCell ?_ (by (try simp only [World.size_alloc, World.size_setCell, World.heap_drewN, World.size_drew]); omega) _ | (with_reducible refine Up.trans ?_ (by with_reducible assumption))))⟩
        case measure => simp [intOf]; omega
      · have hm : obAt f k = false := by simpa using hm
        have hno := hide (allOb_no (n := n) hlt hm)
        have hm' := hm
        unfold obAt at hm'
        go_wp2_with (go_at_call 129; refine (s_l25Is _ _ _ _ _).mono ?_; rw [hm']; rintro e wn ⟨rfl, hu⟩; obtain ⟨N, J, JF, hn1, hn2, hz, hc, hf⟩ := hu.facts; (try simp only [World.size_alloc, World.size_setCell, World.heap_drewN, World.size_drew] at hn1 hn2); (try simp only [cell_drewI] at hc); (try simp only [frz_drewI] at hf))
        go_ret
        exact ⟨⟨_, rfl, by rw [hno.out]; simp⟩, by (repeat' (first | with_reducible exact Up.refl _ | with_reducible assumption | with_reducible refine Up.alloc ?_ _ | with_reducible refine Up.drew ?_ | with_reducible refine Up.drewN ?_ _ | with_reducible refine Up.setCell ?_ (by (try simp only [World.size_alloc, World.size_setCell, World.heap_drewN, World.size_drew]); omega) _ | (with_reducible refine Up.trans ?_ (by with_reducible assumption))))⟩
    · obtain rfl : k = n := by omega
      go_wp2
      all_goals (go_ret; exact ⟨⟨_, rfl, by rw [allOb_yes hok.out]; simp; try omega⟩, hb⟩)
theorem s_AreObservations (A : Option Addr) (n c : Nat) (f : Nat → Int) (w : World) (h : RdF w A (n * 4) (fun i => .int .i64 (f i))) (hn : n ≤ 1048576) :
    Calls Try.prog 14 #[.slice A n c] w fun e w' => e = .returned (.bool (decide (n ≤ 10) && allOb f n)) ∧ Up w w' := by
  go_enter Try.func14, Try.ntmps14
  go_wp2_with (go_at_call 71; refine (s_l25Code _ _ _ f _ h hn).mono ?_; rintro e wn ⟨⟨r, rfl, hr⟩, hu⟩; obtain ⟨N, J, JF, hn1, hn2, hz, hc, hf⟩ := hu.facts; (try simp only [World.size_alloc, World.size_setCell, World.heap_drewN, World.size_drew] at hn1 hn2))
  all_goals (go_ret; refine ⟨ret_bool (by first | (rw [← hr]; done) | (rw [← hr]; simp [*]; done)), by (repeat' (first | with_reducible exact Up.refl _ | with_reducible assumption | with_reducible refine Up.alloc ?_ _ | with_reducible refine Up.drew ?_ | with_reducible refine Up.drewN ?_ _ | with_reducible refine Up.setCell ?_ (by (try simp only [World.size_alloc, World.size_setCell, World.heap_drewN, World.size_drew]); omega) _ | (with_reducible refine Up.trans ?_ (by with_reducible assumption))))⟩)
end Go.Proofs.Ytffkcgdgiggfoaa
