import Derived.Test.YtffkcgdgiggfoaaLabelS
/- Labels beside one another: codes, overlaps, boxes inside of a face. -/
namespace Go.Proofs.Ytffkcgdgiggfoaa
set_option linter.unusedSimpArgs false
set_option linter.unusedVariables false
open Go.RowKit
attribute [local go_sem] cell_allocI frz_allocI later_cell later_frz
attribute [local go_sem ↓] min_two max_two min_four max_four
attribute [local go_sem] cell_setI cell_drewI frz_drewI
def labAt (S : Nat → ByteArray) (X Y : Nat → Int) (i : Nat) : Bool := isLabelB (S i).size (X i) (Y i)
def allLab (S : Nat → ByteArray) (X Y : Nat → Int) (n : Nat) : Bool := (List.range n).all (labAt S X Y)
section
variable {S : Nat → ByteArray} {X Y : Nat → Int} {n : Nat}
theorem allLab_yes (h : ∀ i, i < n → labAt S X Y i = true) : allLab S X Y n = true := by
  unfold allLab; rw [List.all_eq_true]; intro i hi; exact h i (List.mem_range.1 hi)
theorem allLab_no {i : Nat} (hi : i < n) (h : labAt S X Y i = false) : allLab S X Y n = false := by
  unfold allLab; rw [List.all_eq_false]; exact ⟨i, List.mem_range.2 hi, by rw [h]; decide⟩
theorem allLab_at {i : Nat} (h : allLab S X Y n = true) (hi : i < n) : labAt S X Y i = true := by
  unfold allLab at h; rw [List.all_eq_true] at h; exact h i (List.mem_range.2 hi)
end
/-- the code of a face and labels -/
def labCode (a b c d : Int) (S : Nat → ByteArray) (X Y : Nat → Int) (n : Nat) : Int := if isFaceB a b c d && allLab S X Y n then (if 6 < n then 3 else 0) else 1
theorem s_l19Inside (a b c d p q r s : Int) (w : World) :
    Calls Try.prog 138 #[.agg #[.int .i64 a, .int .i64 b, .int .i64 c, .int .i64 d], .agg #[.int .i64 p, .int .i64 q, .int .i64 r, .int .i64 s]] w fun e w' => e = .returned (.bool (decide (a ≤ p) && decide (r ≤ c) && (decide (b ≤ q) && decide (s ≤ d)))) ∧ Up w w' := by
  go_enter Try.func138, Try.ntmps138
  go_wp2
  all_goals (go_ret; refine ⟨ret_bool ?_, ?_⟩; · (simp [*] <;> omega)
             (repeat' (first | with_reducible exact Up.refl _ | with_reducible assumption | with_reducible refine Up.alloc ?_ _ | with_reducible refine Up.drew ?_ | with_reducible refine Up.drewN ?_ _ | with_reducible refine Up.setCell ?_ (by (try simp only [World.size_alloc, World.size_setCell, World.heap_drewN, World.size_drew]); omega) _ | (with_reducible refine Up.trans ?_ (by with_reducible assumption)))))
theorem im_Face_inside (p q r s a b c d : Int) (w : World) :
    Calls Try.prog 141 #[.agg #[.int .i64 p, .int .i64 q, .int .i64 r, .int .i64 s], .agg #[.int .i64 a, .int .i64 b, .int .i64 c, .int .i64 d]] w fun e w' => e = .returned (.bool (decide (a ≤ p) && decide (r ≤ c) && (decide (b ≤ q) && decide (s ≤ d)))) ∧ Up w w' := by
  go_enter Try.func141, Try.ntmps141
  go_wp2
  all_goals (go_ret; refine ⟨ret_bool ?_, ?_⟩; · (simp [*] <;> omega)
             (repeat' (first | with_reducible exact Up.refl _ | with_reducible assumption | with_reducible refine Up.alloc ?_ _ | with_reducible refine Up.drew ?_ | with_reducible refine Up.drewN ?_ _ | with_reducible refine Up.setCell ?_ (by (try simp only [World.size_alloc, World.size_setCell, World.heap_drewN, World.size_drew]); omega) _ | (with_reducible refine Up.trans ?_ (by with_reducible assumption)))))
/-- two boxes with points overlap -/
def ovB (a b c d p q r s : Int) : Bool := decide (a < r) && decide (p < c) && (decide (b < s) && decide (q < d))
theorem im_Face_overlaps (a b c d p q r s : Int) (w : World) :
    Calls Try.prog 140 #[.agg #[.int .i64 a, .int .i64 b, .int .i64 c, .int .i64 d], .agg #[.int .i64 p, .int .i64 q, .int .i64 r, .int .i64 s]] w fun e w' => e = .returned (.bool (ovB a b c d p q r s)) ∧ Up w w' := by
  unfold ovB
  go_enter Try.func140, Try.ntmps140
  go_wp2
  all_goals (go_ret; refine ⟨ret_bool ?_, ?_⟩; · (simp [*] <;> omega)
             (repeat' (first | with_reducible exact Up.refl _ | with_reducible assumption | with_reducible refine Up.alloc ?_ _ | with_reducible refine Up.drew ?_ | with_reducible refine Up.drewN ?_ _ | with_reducible refine Up.setCell ?_ (by (try simp only [World.size_alloc, World.size_setCell, World.heap_drewN, World.size_drew]); omega) _ | (with_reducible refine Up.trans ?_ (by with_reducible assumption)))))
theorem s_l19Overlap (a b c d p q r s : Int) (h1 : a < c) (h2 : b < d) (h3 : p < r) (h4 : q < s) (w : World) :
    Calls Try.prog 139 #[.agg #[.int .i64 a, .int .i64 b, .int .i64 c, .int .i64 d], .agg #[.int .i64 p, .int .i64 q, .int .i64 r, .int .i64 s]] w fun e w' => e = .returned (.bool (ovB a b c d p q r s)) ∧ Up w w' := by
  have e1 : decide (max a p < min c r) = (decide (a < r) && decide (p < c)) := by rw [Bool.eq_iff_iff]; simp; omega
  have e2 : decide (max b q < min d s) = (decide (b < s) && decide (q < d)) := by rw [Bool.eq_iff_iff]; simp; omega
  have hv := hide (show ovB a b c d p q r s = (decide (max a p < min c r) && decide (max b q < min d s)) by unfold ovB; rw [e1, e2])
  clear e1 e2
  go_enter Try.func139, Try.ntmps139
  go_wp2
  all_goals (go_ret; refine ⟨ret_bool ?_, ?_⟩; · (rw [hv.out]; (simp [*] <;> omega))
             (repeat' (first | with_reducible exact Up.refl _ | with_reducible assumption | with_reducible refine Up.alloc ?_ _ | with_reducible refine Up.drew ?_ | with_reducible refine Up.drewN ?_ _ | with_reducible refine Up.setCell ?_ (by (try simp only [World.size_alloc, World.size_setCell, World.heap_drewN, World.size_drew]); omega) _ | (with_reducible refine Up.trans ?_ (by with_reducible assumption)))))
set_option maxHeartbeats 1000000 in
theorem i_labelled (a b c d : Int) (A : Option Addr) (n k : Nat) (S : Nat → ByteArray) (X Y : Nat → Int) (w : World) (h : RdF w A (n * 3) (labF S X Y)) (hS : ∀ i, i < n → (S i).size ≤ maxLen) (hn : n ≤ 1048576) :
    Calls Try.prog 92 #[.agg #[.int .i64 a, .int .i64 b, .int .i64 c, .int .i64 d], .slice A n k] w fun e w' => e = .returned (.int .i64 (labCode a b c d S X Y n)) ∧ Up w w' := by
  have hS := hide hS
  by_cases hF : isFaceB a b c d = true
  · go_enter Try.func92, Try.ntmps92
    go_wp2_with (go_at_call 122; refine (i_IsFace _ _ _ _ _).mono ?_; rintro e w1 ⟨rfl, hu1⟩; obtain ⟨N1, J1, JF1, ha1, hb1, hz1, hc1, hf1⟩ := hu1.facts; (try simp only [World.size_alloc, World.size_setCell, World.heap_drewN, World.size_drew] at ha1 hb1); (try simp only [cell_drewI] at hc1); (try simp only [frz_drewI] at hf1))
    have hw1 : Up w w1 := by (repeat' (first | with_reducible exact Up.refl _ | with_reducible assumption | with_reducible refine Up.alloc ?_ _ | with_reducible refine Up.drew ?_ | with_reducible refine Up.drewN ?_ _ | with_reducible refine Up.setCell ?_ (by (try simp only [World.size_alloc, World.size_setCell, World.heap_drewN, World.size_drew]); omega) _ | (with_reducible refine Up.trans ?_ (by with_reducible assumption))))
    clear hu1 ha1 hb1 hc1 hf1
    go_loopw [12] (fun i wr => ∃ k : Nat, k ≤ n ∧ i = .int .i64 k ∧ (∀ j, j < k → labAt S X Y j = true) ∧ Up w1 wr) (fun i _ => n - (intOf i).toNat)
    case atStart => exact ⟨0, Nat.zero_le _, rfl, fun j hj => by omega, Up.refl _⟩
    case round =>
      obtain ⟨k, hk, rfl, hok, hb⟩ := hrel
      have hok := hide hok
      have hU := hw1.trans hb
      by_cases hlt : k < n
      · obtain ⟨b, o, rfl, hbl, hc⟩ := (h.up hU).at_ (by omega)
        have c0 := hc (k * 3) (by omega)
        have c1 := hc (k * 3 + 1) (by omega)
        have c2 := hc (k * 3 + 2) (by omega)
        rw [labF0] at c0
        rw [labF1, ← Nat.add_assoc] at c1
        rw [labF2, ← Nat.add_assoc] at c2
        have hl : (k : Int) < (n : Int) := by omega
        have hs := hS.out k hlt
        clear hc h
        by_cases hm : labAt S X Y k = true
        · have hm' := hm
          unfold labAt at hm'
          go_wp2_with (go_at_call 104; refine (i_IsLabel _ _ _ hs _).mono ?_; rw [hm']; rintro e wn ⟨rfl, hu⟩; obtain ⟨N, J, JF, hn1, hn2, hz, hc, hf⟩ := hu.facts; (try simp only [World.size_alloc, World.size_setCell, World.heap_drewN, World.size_drew] at hn1 hn2); (try simp only [cell_drewI] at hc); (try simp only [frz_drewI] at hf))
          go_roundw
          case rel => exact ⟨k + 1, by omega, by go_num, fun j hj => by rcases Nat.lt_or_ge j k with h1 | h1; exact hok.out j h1; rw [show j = k by omega]; exact hm, by (repeat' (first | with_reducible exact Up.refl _ | with_reducible assumption | with_reducible refine Up.alloc ?_ _ | with_reducible refine Up.drew ?_ | with_reducible refine Up.drewN ?_ _ | with_reducible refine Up.setCell ?_ (by (try simp only [World.size_alloc, World.size_setCell, World.heap_drewN, World.size_drew]); omega) _ | (with_reducible refine Up.trans ?_ (by with_reducible assumption))))⟩
          case measure => simp [intOf]; omega
        · have hm : labAt S X Y k = false := by simpa using hm
          have hno := hide (allLab_no (n := n) hlt hm)
          have hm' := hm
          unfold labAt at hm'
          go_wp2_with (go_at_call 104; refine (i_IsLabel _ _ _ hs _).mono ?_; rw [hm']; rintro e wn ⟨rfl, hu⟩; obtain ⟨N, J, JF, hn1, hn2, hz, hc, hf⟩ := hu.facts; (try simp only [World.size_alloc, World.size_setCell, World.heap_drewN, World.size_drew] at hn1 hn2); (try simp only [cell_drewI] at hc); (try simp only [frz_drewI] at hf))
          go_ret
          exact ⟨ret_int (by unfold labCode; rw [hno.out]; simp), by (repeat' (first | with_reducible exact Up.refl _ | with_reducible assumption | with_reducible refine Up.alloc ?_ _ | with_reducible refine Up.drew ?_ | with_reducible refine Up.drewN ?_ _ | with_reducible refine Up.setCell ?_ (by (try simp only [World.size_alloc, World.size_setCell, World.heap_drewN, World.size_drew]); omega) _ | (with_reducible refine Up.trans ?_ (by with_reducible assumption))))⟩
      · obtain rfl : k = n := by omega
        have hy := hide (allLab_yes hok.out)
        by_cases h6 : 6 < k
        · have e0 : decide (6 < (k : Int)) = true := by simp; omega
          go_wp2
          go_ret
          exact ⟨ret_int (by unfold labCode; rw [hy.out, hF]; simp [h6]), by (repeat' (first | with_reducible exact Up.refl _ | with_reducible assumption | with_reducible refine Up.alloc ?_ _ | with_reducible refine Up.drew ?_ | with_reducible refine Up.drewN ?_ _ | with_reducible refine Up.setCell ?_ (by (try simp only [World.size_alloc, World.size_setCell, World.heap_drewN, World.size_drew]); omega) _ | (with_reducible refine Up.trans ?_ (by with_reducible assumption))))⟩
        · have e0 : decide (6 < (k : Int)) = false := by simp; omega
          go_wp2
          go_ret
          exact ⟨ret_int (by unfold labCode; rw [hy.out, hF]; simp [h6]), by (repeat' (first | with_reducible exact Up.refl _ | with_reducible assumption | with_reducible refine Up.alloc ?_ _ | with_reducible refine Up.drew ?_ | with_reducible refine Up.drewN ?_ _ | with_reducible refine Up.setCell ?_ (by (try simp only [World.size_alloc, World.size_setCell, World.heap_drewN, World.size_drew]); omega) _ | (with_reducible refine Up.trans ?_ (by with_reducible assumption))))⟩
  · have hF : isFaceB a b c d = false := by simpa using hF
    go_enter Try.func92, Try.ntmps92
    go_wp2_with (go_at_call 122; refine (i_IsFace _ _ _ _ _).mono ?_; rintro e wn ⟨rfl, hu⟩; obtain ⟨N, J, JF, hn1, hn2, hz, hc, hf⟩ := hu.facts; (try simp only [World.size_alloc, World.size_setCell, World.heap_drewN, World.size_drew] at hn1 hn2); (try simp only [cell_drewI] at hc); (try simp only [frz_drewI] at hf))
    go_ret
    exact ⟨ret_int (by unfold labCode; rw [hF]; simp), by (repeat' (first | with_reducible exact Up.refl _ | with_reducible assumption | with_reducible refine Up.alloc ?_ _ | with_reducible refine Up.drew ?_ | with_reducible refine Up.drewN ?_ _ | with_reducible refine Up.setCell ?_ (by (try simp only [World.size_alloc, World.size_setCell, World.heap_drewN, World.size_drew]); omega) _ | (with_reducible refine Up.trans ?_ (by with_reducible assumption))))⟩
set_option maxHeartbeats 1000000 in
theorem s_l19Code (a b c d : Int) (A : Option Addr) (n k : Nat) (S : Nat → ByteArray) (X Y : Nat → Int) (w : World) (h : RdF w A (n * 3) (labF S X Y)) (hS : ∀ i, i < n → (S i).size ≤ maxLen) (hn : n ≤ 1048576) :
    Calls Try.prog 90 #[.agg #[.int .i64 a, .int .i64 b, .int .i64 c, .int .i64 d], .slice A n k] w fun e w' => e = .returned (.int .i64 (labCode a b c d S X Y n)) ∧ Up w w' := by
  have hS := hide hS
  go_enter Try.func90, Try.ntmps90
  go_wp2
  have hA := Blk.new w 49 #[.int .i64 a, .int .i64 b, .int .i64 c, .int .i64 d]
  go_loopw [5] (fun i wr => ∃ k : Nat, k ≤ n ∧ i = .int .i64 k ∧ (∀ j, j < k → labAt S X Y j = true) ∧ Up (w.alloc (.cells #[.int .i64 a, .int .i64 b, .int .i64 c, .int .i64 d] 49)) wr) (fun i _ => n - (intOf i).toNat)
  case atStart => exact ⟨0, Nat.zero_le _, rfl, fun j hj => by omega, Up.refl _⟩
  case round =>
    obtain ⟨k, hk, rfl, hok, hb⟩ := hrel
    have hok := hide hok
    have hU : Up w _ := ((Up.refl w).alloc _).trans hb
    have hB := hA.up hb
    have hBl := hB.lt
    have d0 := hB.cell 0
    have d1 := hB.cell 1
    have d2 := hB.cell 2
    have d3 := hB.cell 3
    simp at d0 d1 d2 d3
    by_cases hlt : k < n
    · obtain ⟨b, o, rfl, hbl, hc⟩ := (h.up hU).at_ (by omega)
      have c0 := hc (k * 3) (by omega)
      have c1 := hc (k * 3 + 1) (by omega)
      have c2 := hc (k * 3 + 2) (by omega)
      rw [labF0] at c0
      rw [labF1, ← Nat.add_assoc] at c1
      rw [labF2, ← Nat.add_assoc] at c2
      have hl : (k : Int) < (n : Int) := by omega
      have hs := hS.out k hlt
      clear hc h hA hB
      by_cases hm : labAt S X Y k = true
      · have hm' := hm
        unfold labAt at hm'
        go_wp2_with (go_at_call 102; refine (s_IsLabel _ _ _ hs _).mono ?_; rw [hm']; rintro e wn ⟨rfl, hu⟩; obtain ⟨N, J, JF, hn1, hn2, hz, hc, hf⟩ := hu.facts; (try simp only [World.size_alloc, World.size_setCell, World.heap_drewN, World.size_drew] at hn1 hn2); (try simp only [cell_drewI] at hc); (try simp only [frz_drewI] at hf))
        go_roundw
        case rel => exact ⟨k + 1, by omega, by go_num, fun j hj => by rcases Nat.lt_or_ge j k with h1 | h1; exact hok.out j h1; rw [show j = k by omega]; exact hm, by (repeat' (first | with_reducible exact Up.refl _ | with_reducible assumption | with_reducible refine Up.alloc ?_ _ | with_reducible refine Up.drew ?_ | with_reducible refine Up.drewN ?_ _ | with_reducible refine Up.setCell ?_ (by (try simp only [World.size_alloc, World.size_setCell, World.heap_drewN, World.size_drew]); omega) _ | (with_reducible refine Up.trans ?_ (by with_reducible assumption))))⟩
        case measure => simp [intOf]; omega
      · have hm : labAt S X Y k = false := by simpa using hm
        have hno := hide (allLab_no (n := n) hlt hm)
        have hm' := hm
        unfold labAt at hm'
        go_wp2_with (go_at_call 102; refine (s_IsLabel _ _ _ hs _).mono ?_; rw [hm']; rintro e wn ⟨rfl, hu⟩; obtain ⟨N, J, JF, hn1, hn2, hz, hc, hf⟩ := hu.facts; (try simp only [World.size_alloc, World.size_setCell, World.heap_drewN, World.size_drew] at hn1 hn2); (try simp only [cell_drewI] at hc); (try simp only [frz_drewI] at hf))
        go_ret
        exact ⟨ret_int (by unfold labCode; rw [hno.out]; simp), by (repeat' (first | with_reducible exact Up.refl _ | with_reducible assumption | with_reducible refine Up.alloc ?_ _ | with_reducible refine Up.drew ?_ | with_reducible refine Up.drewN ?_ _ | with_reducible refine Up.setCell ?_ (by (try simp only [World.size_alloc, World.size_setCell, World.heap_drewN, World.size_drew]); omega) _ | (with_reducible refine Up.trans ?_ (by with_reducible assumption))))⟩
    · obtain rfl : k = n := by omega
      have hy := hide (allLab_yes hok.out)
      by_cases hF : isFaceB a b c d = true
      · by_cases h6 : 6 < k
        · have e0 : decide (6 < (k : Int)) = true := by simp; omega
          go_wp2_with (go_at_call 123; refine (s_IsFace _ _ _ _ _).mono ?_; rintro e wn ⟨rfl, hu⟩; obtain ⟨N, J, JF, hn1, hn2, hz, hc, hf⟩ := hu.facts; (try simp only [World.size_alloc, World.size_setCell, World.heap_drewN, World.size_drew] at hn1 hn2); (try simp only [cell_drewI] at hc); (try simp only [frz_drewI] at hf))
          go_ret
          exact ⟨ret_int (by unfold labCode; rw [hy.out, hF]; simp [h6]), by (repeat' (first | with_reducible exact Up.refl _ | with_reducible assumption | with_reducible refine Up.alloc ?_ _ | with_reducible refine Up.drew ?_ | with_reducible refine Up.drewN ?_ _ | with_reducible refine Up.setCell ?_ (by (try simp only [World.size_alloc, World.size_setCell, World.heap_drewN, World.size_drew]); omega) _ | (with_reducible refine Up.trans ?_ (by with_reducible assumption))))⟩
        · have e0 : decide (6 < (k : Int)) = false := by simp; omega
          go_wp2_with (go_at_call 123; refine (s_IsFace _ _ _ _ _).mono ?_; rintro e wn ⟨rfl, hu⟩; obtain ⟨N, J, JF, hn1, hn2, hz, hc, hf⟩ := hu.facts; (try simp only [World.size_alloc, World.size_setCell, World.heap_drewN, World.size_drew] at hn1 hn2); (try simp only [cell_drewI] at hc); (try simp only [frz_drewI] at hf))
          go_ret
          exact ⟨ret_int (by unfold labCode; rw [hy.out, hF]; simp [h6]), by (repeat' (first | with_reducible exact Up.refl _ | with_reducible assumption | with_reducible refine Up.alloc ?_ _ | with_reducible refine Up.drew ?_ | with_reducible refine Up.drewN ?_ _ | with_reducible refine Up.setCell ?_ (by (try simp only [World.size_alloc, World.size_setCell, World.heap_drewN, World.size_drew]); omega) _ | (with_reducible refine Up.trans ?_ (by with_reducible assumption))))⟩
      · have hF : isFaceB a b c d = false := by simpa using hF
        go_wp2_with (go_at_call 123; refine (s_IsFace _ _ _ _ _).mono ?_; rintro e wn ⟨rfl, hu⟩; obtain ⟨N, J, JF, hn1, hn2, hz, hc, hf⟩ := hu.facts; (try simp only [World.size_alloc, World.size_setCell, World.heap_drewN, World.size_drew] at hn1 hn2); (try simp only [cell_drewI] at hc); (try simp only [frz_drewI] at hf))
        go_ret
        exact ⟨ret_int (by unfold labCode; rw [hF]; simp), by (repeat' (first | with_reducible exact Up.refl _ | with_reducible assumption | with_reducible refine Up.alloc ?_ _ | with_reducible refine Up.drew ?_ | with_reducible refine Up.drewN ?_ _ | with_reducible refine Up.setCell ?_ (by (try simp only [World.size_alloc, World.size_setCell, World.heap_drewN, World.size_drew]); omega) _ | (with_reducible refine Up.trans ?_ (by with_reducible assumption))))⟩
end Go.Proofs.Ytffkcgdgiggfoaa
