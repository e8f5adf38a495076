import Derived.Test.YtffkcgdgiggfoaaBoxes
import Derived.Test.YtffkcgdgiggfoaaSlices
import Derived.Test.YtffkcgdgiggfoaaOpenLab
/- The walk of the law FnExactIsPlacement. -/
namespace Go.Proofs.Ytffkcgdgiggfoaa
set_option linter.unusedSimpArgs false
set_option linter.unusedVariables false
open Go.RowKit
attribute [local go_sem] cell_allocI frz_allocI later_cell later_frz
attribute [local go_sem] cell_setI cell_drewI frz_drewI
def plB (a b c d : Int) (S : Nat → ByteArray) (X Y P : Nat → Int) (m n : Nat) : Bool := decide (labCode a b c d S X Y n = 0) && isPl a b c d S X Y P m n
theorem labCode_ok {a b c d : Int} {S : Nat → ByteArray} {X Y : Nat → Int} {n : Nat} (h : labCode a b c d S X Y n = 0) : ∀ i, i < n → labAt S X Y i = true := by
  unfold labCode at h
  split at h
  · rename_i k; rw [Bool.and_eq_true] at k; exact fun i hi => allLab_at k.2 hi
  · simp at h
theorem s_IsPlacement (a b c d : Int) (A : Option Addr) (n ca : Nat) (S : Nat → ByteArray) (X Y : Nat → Int) (B : Option Addr) (m cb : Nat) (P : Nat → Int) (w : World)
    (hA : RdF w A (n * 3) (labF S X Y)) (hS : ∀ i, i < n → (S i).size ≤ maxLen) (hB : RdF w B m (fun i => .int .i64 (P i))) (hcb : m ≤ cb) (hn : n ≤ 1048576) (hm : m ≤ 1048576) :
    Calls Try.prog 27 #[.agg #[.int .i64 a, .int .i64 b, .int .i64 c, .int .i64 d], .slice A n ca, .slice B m cb] w fun e w' => e = .returned (.tuple #[.bool (plB a b c d S X Y P m n), .int .i64 (labCode a b c d S X Y n)]) ∧ Up w w' := by
  have hC := fun w h => s_l19Code a b c d A n ca S X Y w h hS hn
  by_cases h0 : labCode a b c d S X Y n = 0
  · have hL := hide (labCode_ok h0)
    have hp := hide (show plB a b c d S X Y P m n = isPl a b c d S X Y P m n by unfold plB; rw [h0]; rfl)
    rw [h0] at hC
    go_enter Try.func27, Try.ntmps27
    go_wp2_with (first
      | (go_at_call 90; refine (hC _ (hA.up (by (repeat' (first | with_reducible exact Up.refl _ | with_reducible assumption | with_reducible refine Up.alloc ?_ _ | with_reducible refine Up.drew ?_ | with_reducible refine Up.drewN ?_ _ | with_reducible refine Up.setCell ?_ (by (try simp only [World.size_alloc, World.size_setCell, World.heap_drewN, World.size_drew]); omega) _ | (with_reducible refine Up.trans ?_ (by with_reducible assumption))))))).mono ?_; clear hC; rintro e w1 ⟨rfl, hu1⟩; obtain ⟨N1, J1, JF1, ha1, hb1, hz1, hc1, hf1⟩ := hu1.facts; (try simp only [World.size_alloc, World.size_setCell, World.heap_drewN, World.size_drew] at ha1 hb1); (try simp only [cell_drewI] at hc1); (try simp only [frz_drewI] at hf1))
      | (go_at_call 91; refine (s_l19Is _ _ _ _ _ _ _ S X Y _ _ _ P _ (hA.up (by (repeat' (first | with_reducible exact Up.refl _ | with_reducible assumption | with_reducible refine Up.alloc ?_ _ | with_reducible refine Up.drew ?_ | with_reducible refine Up.drewN ?_ _ | with_reducible refine Up.setCell ?_ (by (try simp only [World.size_alloc, World.size_setCell, World.heap_drewN, World.size_drew]); omega) _ | (with_reducible refine Up.trans ?_ (by with_reducible assumption)))))) (hB.up (by (repeat' (first | with_reducible exact Up.refl _ | with_reducible assumption | with_reducible refine Up.alloc ?_ _ | with_reducible refine Up.drew ?_ | with_reducible refine Up.drewN ?_ _ | with_reducible refine Up.setCell ?_ (by (try simp only [World.size_alloc, World.size_setCell, World.heap_drewN, World.size_drew]); omega) _ | (with_reducible refine Up.trans ?_ (by with_reducible assumption)))))) hcb hn hm hL.out).mono ?_; rintro e w2 ⟨rfl, hu2⟩; obtain ⟨N2, J2, JF2, ha2, hb2, hz2, hc2, hf2⟩ := hu2.facts; (try simp only [World.size_alloc, World.size_setCell, World.heap_drewN, World.size_drew] at ha2 hb2); (try simp only [cell_drewI] at hc2); (try simp only [frz_drewI] at hf2)))
    go_ret2
    exact ⟨by rw [hp.out, h0]; rfl, by (repeat' (first | with_reducible exact Up.refl _ | with_reducible assumption | with_reducible refine Up.alloc ?_ _ | with_reducible refine Up.drew ?_ | with_reducible refine Up.drewN ?_ _ | with_reducible refine Up.setCell ?_ (by (try simp only [World.size_alloc, World.size_setCell, World.heap_drewN, World.size_drew]); omega) _ | (with_reducible refine Up.trans ?_ (by with_reducible assumption))))⟩
  · have hp := hide (show plB a b c d S X Y P m n = false by unfold plB; simp [h0])
    have h1 : (labCode a b c d S X Y n != 0) = true := by simpa using h0
    go_enter Try.func27, Try.ntmps27
    go_wp2_with (first
      | (go_at_call 90; refine (hC _ (hA.up (by (repeat' (first | with_reducible exact Up.refl _ | with_reducible assumption | with_reducible refine Up.alloc ?_ _ | with_reducible refine Up.drew ?_ | with_reducible refine Up.drewN ?_ _ | with_reducible refine Up.setCell ?_ (by (try simp only [World.size_alloc, World.size_setCell, World.heap_drewN, World.size_drew]); omega) _ | (with_reducible refine Up.trans ?_ (by with_reducible assumption))))))).mono ?_; clear hC; rintro e w1 ⟨rfl, hu1⟩; obtain ⟨N1, J1, JF1, ha1, hb1, hz1, hc1, hf1⟩ := hu1.facts; (try simp only [World.size_alloc, World.size_setCell, World.heap_drewN, World.size_drew] at ha1 hb1); (try simp only [cell_drewI] at hc1); (try simp only [frz_drewI] at hf1)))
    go_ret2
    exact ⟨by rw [hp.out]; rfl, by (repeat' (first | with_reducible exact Up.refl _ | with_reducible assumption | with_reducible refine Up.alloc ?_ _ | with_reducible refine Up.drew ?_ | with_reducible refine Up.drewN ?_ _ | with_reducible refine Up.setCell ?_ (by (try simp only [World.size_alloc, World.size_setCell, World.heap_drewN, World.size_drew]); omega) _ | (with_reducible refine Up.trans ?_ (by with_reducible assumption))))⟩
theorem i_IsPlacement (a b c d : Int) (A : Option Addr) (n ca : Nat) (S : Nat → ByteArray) (X Y : Nat → Int) (B : Option Addr) (m cb : Nat) (P : Nat → Int) (w : World)
    (hA : RdF w A (n * 3) (labF S X Y)) (hS : ∀ i, i < n → (S i).size ≤ maxLen) (hB : RdF w B m (fun i => .int .i64 (P i))) (hn : n ≤ 1048576) (hm : m ≤ 1048576) :
    Calls Try.prog 31 #[.agg #[.int .i64 a, .int .i64 b, .int .i64 c, .int .i64 d], .slice A n ca, .slice B m cb] w fun e w' => e = .returned (.tuple #[.bool (plB a b c d S X Y P m n), .int .i64 (labCode a b c d S X Y n)]) ∧ Up w w' := by
  have hC := fun w h => i_labelled a b c d A n ca S X Y w h hS hn
  by_cases h0 : labCode a b c d S X Y n = 0
  · have hL := hide (labCode_ok h0)
    have hp := hide (show plB a b c d S X Y P m n = isPl a b c d S X Y P m n by unfold plB; rw [h0]; rfl)
    rw [h0] at hC
    go_enter Try.func31, Try.ntmps31
    go_wp2_with (first
      | (go_at_call 92; refine (hC _ (hA.up (by (repeat' (first | with_reducible exact Up.refl _ | with_reducible assumption | with_reducible refine Up.alloc ?_ _ | with_reducible refine Up.drew ?_ | with_reducible refine Up.drewN ?_ _ | with_reducible refine Up.setCell ?_ (by (try simp only [World.size_alloc, World.size_setCell, World.heap_drewN, World.size_drew]); omega) _ | (with_reducible refine Up.trans ?_ (by with_reducible assumption))))))).mono ?_; clear hC; rintro e w1 ⟨rfl, hu1⟩; obtain ⟨N1, J1, JF1, ha1, hb1, hz1, hc1, hf1⟩ := hu1.facts; (try simp only [World.size_alloc, World.size_setCell, World.heap_drewN, World.size_drew] at ha1 hb1); (try simp only [cell_drewI] at hc1); (try simp only [frz_drewI] at hf1))
      | (go_at_call 93; refine (i_boxes _ _ _ _ _ _ _ S X Y _ _ _ P _ (hA.up (by (repeat' (first | with_reducible exact Up.refl _ | with_reducible assumption | with_reducible refine Up.alloc ?_ _ | with_reducible refine Up.drew ?_ | with_reducible refine Up.drewN ?_ _ | with_reducible refine Up.setCell ?_ (by (try simp only [World.size_alloc, World.size_setCell, World.heap_drewN, World.size_drew]); omega) _ | (with_reducible refine Up.trans ?_ (by with_reducible assumption)))))) (hB.up (by (repeat' (first | with_reducible exact Up.refl _ | with_reducible assumption | with_reducible refine Up.alloc ?_ _ | with_reducible refine Up.drew ?_ | with_reducible refine Up.drewN ?_ _ | with_reducible refine Up.setCell ?_ (by (try simp only [World.size_alloc, World.size_setCell, World.heap_drewN, World.size_drew]); omega) _ | (with_reducible refine Up.trans ?_ (by with_reducible assumption)))))) hn hm hL.out).mono ?_; rintro e w2 ⟨⟨v, rfl, hv⟩, hu2⟩; clear hv; obtain ⟨N2, J2, JF2, ha2, hb2, hz2, hc2, hf2⟩ := hu2.facts; (try simp only [World.size_alloc, World.size_setCell, World.heap_drewN, World.size_drew] at ha2 hb2); (try simp only [cell_drewI] at hc2); (try simp only [frz_drewI] at hf2)))
    go_ret2
    exact ⟨by rw [hp.out, h0]; rfl, by (repeat' (first | with_reducible exact Up.refl _ | with_reducible assumption | with_reducible refine Up.alloc ?_ _ | with_reducible refine Up.drew ?_ | with_reducible refine Up.drewN ?_ _ | with_reducible refine Up.setCell ?_ (by (try simp only [World.size_alloc, World.size_setCell, World.heap_drewN, World.size_drew]); omega) _ | (with_reducible refine Up.trans ?_ (by with_reducible assumption))))⟩
  · have hp := hide (show plB a b c d S X Y P m n = false by unfold plB; simp [h0])
    have h1 : (labCode a b c d S X Y n != 0) = true := by simpa using h0
    go_enter Try.func31, Try.ntmps31
    go_wp2_with (first
      | (go_at_call 92; refine (hC _ (hA.up (by (repeat' (first | with_reducible exact Up.refl _ | with_reducible assumption | with_reducible refine Up.alloc ?_ _ | with_reducible refine Up.drew ?_ | with_reducible refine Up.drewN ?_ _ | with_reducible refine Up.setCell ?_ (by (try simp only [World.size_alloc, World.size_setCell, World.heap_drewN, World.size_drew]); omega) _ | (with_reducible refine Up.trans ?_ (by with_reducible assumption))))))).mono ?_; clear hC; rintro e w1 ⟨rfl, hu1⟩; obtain ⟨N1, J1, JF1, ha1, hb1, hz1, hc1, hf1⟩ := hu1.facts; (try simp only [World.size_alloc, World.size_setCell, World.heap_drewN, World.size_drew] at ha1 hb1); (try simp only [cell_drewI] at hc1); (try simp only [frz_drewI] at hf1)))
    go_ret2
    exact ⟨by rw [hp.out]; rfl, by (repeat' (first | with_reducible exact Up.refl _ | with_reducible assumption | with_reducible refine Up.alloc ?_ _ | with_reducible refine Up.drew ?_ | with_reducible refine Up.drewN ?_ _ | with_reducible refine Up.setCell ?_ (by (try simp only [World.size_alloc, World.size_setCell, World.heap_drewN, World.size_drew]); omega) _ | (with_reducible refine Up.trans ?_ (by with_reducible assumption))))⟩
set_option maxHeartbeats 2000000 in
theorem walk_FnExactIsPlacement (w : World) (a b c d : Int) (_ua : I64 a) (_ub : I64 b) (_uc : I64 c) (_ud : I64 d) (A : Option Addr) (n ca : Nat) (S : Nat → ByteArray) (X Y : Nat → Int) (h : RdF w A (n * 3) (labF S X Y)) (hS : ∀ i, i < n → (S i).size ≤ maxLen) (hn0 : n ≤ maxLen)
    (B : Option Addr) (m cb : Nat) (zs : List Int) (hB : RdI w B m zs) (_hz : ∀ k, k < m → I64 (zs[k]?.getD 0)) (hm0 : m ≤ maxLen) :
    Calls Try.prog 5 #[.agg #[.int .i64 a, .int .i64 b, .int .i64 c, .int .i64 d], .slice A n ca, .slice B m cb] w fun e w' => e = .returned (.bool true) ∧ Up w w' := by
  clear _ua _ub _uc _ud _hz
  unfold maxLen at hm0
  by_cases hm : m ≤ 1048576
  · have g0 : decide (1048576 < (m : Int)) = false := by simp; omega
    go_enter Try.func5, Try.ntmps5
    go_wp2_with fail
    refine (l_szLabelS _ _ _ S X Y _ _ (h.up (by (repeat' (first | with_reducible exact Up.refl _ | with_reducible assumption | with_reducible refine Up.alloc ?_ _ | with_reducible refine Up.drew ?_ | with_reducible refine Up.drewN ?_ _ | with_reducible refine Up.setCell ?_ (by (try simp only [World.size_alloc, World.size_setCell, World.heap_drewN, World.size_drew]); omega) _ | (with_reducible refine Up.trans ?_ (by with_reducible assumption)))))) hS hn0 (by omega) (by omega)).mono ?_
    rintro e w1 ⟨⟨r, rfl, hr, r1⟩, hu1⟩; obtain ⟨N1, J1, JF1, ha1, hb1, hz1, hc1, hf1⟩ := hu1.facts; (try simp only [World.size_alloc, World.size_setCell, World.heap_drewN, World.size_drew] at ha1 hb1); (try simp only [cell_drewI] at hc1); (try simp only [frz_drewI] at hf1)
    by_cases hneg : r < 0
    · have g1 : decide (r < 0) = true := by simpa using hneg
      go_wp2
      go_ret
      exact ⟨rfl, by (repeat' (first | with_reducible exact Up.refl _ | with_reducible assumption | with_reducible refine Up.alloc ?_ _ | with_reducible refine Up.drew ?_ | with_reducible refine Up.drewN ?_ _ | with_reducible refine Up.setCell ?_ (by (try simp only [World.size_alloc, World.size_setCell, World.heap_drewN, World.size_drew]); omega) _ | (with_reducible refine Up.trans ?_ (by with_reducible assumption))))⟩
    · have g1 : decide (r < 0) = false := by simpa using hneg
      have hn := hr (by omega)
      clear hr r1 hneg
      go_wp2_with (go_at_call 28; refine (l_toFace _ _ _ _ _).mono ?_; rintro e w2 ⟨rfl, hu2⟩; obtain ⟨N2, J2, JF2, ha2, hb2, hz2, hc2, hf2⟩ := hu2.facts; (try simp only [World.size_alloc, World.size_setCell, World.heap_drewN, World.size_drew] at ha2 hb2); (try simp only [cell_drewI] at hc2); (try simp only [frz_drewI] at hf2))
      refine (l_toLabelS _ _ _ S X Y _ (h.up (by (repeat' (first | with_reducible exact Up.refl _ | with_reducible assumption | with_reducible refine Up.alloc ?_ _ | with_reducible refine Up.drew ?_ | with_reducible refine Up.drewN ?_ _ | with_reducible refine Up.setCell ?_ (by (try simp only [World.size_alloc, World.size_setCell, World.heap_drewN, World.size_drew]); omega) _ | (with_reducible refine Up.trans ?_ (by with_reducible assumption)))))) hn).mono ?_
      rintro e w3 ⟨rfl, F3, hu3⟩; obtain ⟨N3, J3, JF3, ha3, hb3, hz3, hc3, hf3⟩ := hu3.facts; (try simp only [World.size_alloc, World.size_setCell, World.heap_drewN, World.size_drew] at ha3 hb3); (try simp only [cell_drewI] at hc3); (try simp only [frz_drewI] at hf3)
      go_wp2_with fail
      refine (l_toInt64S _ _ _ zs _ (hB.up (by (repeat' (first | with_reducible exact Up.refl _ | with_reducible assumption | with_reducible refine Up.alloc ?_ _ | with_reducible refine Up.drew ?_ | with_reducible refine Up.drewN ?_ _ | with_reducible refine Up.setCell ?_ (by (try simp only [World.size_alloc, World.size_setCell, World.heap_drewN, World.size_drew]); omega) _ | (with_reducible refine Up.trans ?_ (by with_reducible assumption)))))) hm).mono ?_
      rintro e w4 ⟨rfl, F4, hu4⟩; obtain ⟨N4, J4, JF4, ha4, hb4, hz4, hc4, hf4⟩ := hu4.facts; (try simp only [World.size_alloc, World.size_setCell, World.heap_drewN, World.size_drew] at ha4 hb4); (try simp only [cell_drewI] at hc4); (try simp only [frz_drewI] at hf4)
      go_wp2_with fail
      refine (s_IsPlacement _ _ _ _ _ _ _ S X Y _ _ _ (fun k => zs[k]?.getD 0) _ (F3.up hu4).rdF hS F4.rdF (Nat.le_refl _) hn hm).mono ?_
      rintro e w5 ⟨rfl, hu5⟩; obtain ⟨N5, J5, JF5, ha5, hb5, hz5, hc5, hf5⟩ := hu5.facts; (try simp only [World.size_alloc, World.size_setCell, World.heap_drewN, World.size_drew] at ha5 hb5); (try simp only [cell_drewI] at hc5); (try simp only [frz_drewI] at hf5)
      clear F3 F4
      go_wp2_with fail
      refine (l_toLabelS _ _ _ S X Y _ (h.up (by (repeat' (first | with_reducible exact Up.refl _ | with_reducible assumption | with_reducible refine Up.alloc ?_ _ | with_reducible refine Up.drew ?_ | with_reducible refine Up.drewN ?_ _ | with_reducible refine Up.setCell ?_ (by (try simp only [World.size_alloc, World.size_setCell, World.heap_drewN, World.size_drew]); omega) _ | (with_reducible refine Up.trans ?_ (by with_reducible assumption)))))) hn).mono ?_
      rintro e w6 ⟨rfl, F6, hu6⟩; obtain ⟨N6, J6, JF6, ha6, hb6, hz6, hc6, hf6⟩ := hu6.facts; (try simp only [World.size_alloc, World.size_setCell, World.heap_drewN, World.size_drew] at ha6 hb6); (try simp only [cell_drewI] at hc6); (try simp only [frz_drewI] at hf6)
      go_wp2_with fail
      refine (l_toInt64S _ _ _ zs _ (hB.up (by (repeat' (first | with_reducible exact Up.refl _ | with_reducible assumption | with_reducible refine Up.alloc ?_ _ | with_reducible refine Up.drew ?_ | with_reducible refine Up.drewN ?_ _ | with_reducible refine Up.setCell ?_ (by (try simp only [World.size_alloc, World.size_setCell, World.heap_drewN, World.size_drew]); omega) _ | (with_reducible refine Up.trans ?_ (by with_reducible assumption)))))) hm).mono ?_
      rintro e w7 ⟨rfl, F7, hu7⟩; obtain ⟨N7, J7, JF7, ha7, hb7, hz7, hc7, hf7⟩ := hu7.facts; (try simp only [World.size_alloc, World.size_setCell, World.heap_drewN, World.size_drew] at ha7 hb7); (try simp only [cell_drewI] at hc7); (try simp only [frz_drewI] at hf7)
      go_wp2_with (go_at_call 28; refine (l_toFace _ _ _ _ _).mono ?_; rintro e w8 ⟨rfl, hu8⟩; obtain ⟨N8, J8, JF8, ha8, hb8, hz8, hc8, hf8⟩ := hu8.facts; (try simp only [World.size_alloc, World.size_setCell, World.heap_drewN, World.size_drew] at ha8 hb8); (try simp only [cell_drewI] at hc8); (try simp only [frz_drewI] at hf8))
      refine (i_IsPlacement _ _ _ _ _ _ _ S X Y _ _ _ (fun k => zs[k]?.getD 0) _ (F6.rdF.up (by (repeat' (first | with_reducible exact Up.refl _ | with_reducible assumption | with_reducible refine Up.alloc ?_ _ | with_reducible refine Up.drew ?_ | with_reducible refine Up.drewN ?_ _ | with_reducible refine Up.setCell ?_ (by (try simp only [World.size_alloc, World.size_setCell, World.heap_drewN, World.size_drew]); omega) _ | (with_reducible refine Up.trans ?_ (by with_reducible assumption)))))) hS (F7.rdF.up (by (repeat' (first | with_reducible exact Up.refl _ | with_reducible assumption | with_reducible refine Up.alloc ?_ _ | with_reducible refine Up.drew ?_ | with_reducible refine Up.drewN ?_ _ | with_reducible refine Up.setCell ?_ (by (try simp only [World.size_alloc, World.size_setCell, World.heap_drewN, World.size_drew]); omega) _ | (with_reducible refine Up.trans ?_ (by with_reducible assumption)))))) hn hm).mono ?_
      rintro e w9 ⟨rfl, hu9⟩; obtain ⟨N9, J9, JF9, ha9, hb9, hz9, hc9, hf9⟩ := hu9.facts; (try simp only [World.size_alloc, World.size_setCell, World.heap_drewN, World.size_drew] at ha9 hb9); (try simp only [cell_drewI] at hc9); (try simp only [frz_drewI] at hf9)
      go_wp2_with fail
      refine (l_toLabelS _ _ _ S X Y _ (h.up (by (repeat' (first | with_reducible exact Up.refl _ | with_reducible assumption | with_reducible refine Up.alloc ?_ _ | with_reducible refine Up.drew ?_ | with_reducible refine Up.drewN ?_ _ | with_reducible refine Up.setCell ?_ (by (try simp only [World.size_alloc, World.size_setCell, World.heap_drewN, World.size_drew]); omega) _ | (with_reducible refine Up.trans ?_ (by with_reducible assumption)))))) hn).mono ?_
      rintro e w10 ⟨rfl, F10, hu10⟩; obtain ⟨N10, J10, JF10, ha10, hb10, hz10, hc10, hf10⟩ := hu10.facts; (try simp only [World.size_alloc, World.size_setCell, World.heap_drewN, World.size_drew] at ha10 hb10); (try simp only [cell_drewI] at hc10); (try simp only [frz_drewI] at hf10)
      go_wp2_with fail
      refine (l_eqLabelS _ _ _ _ _ S X Y _ (F6.rdF.up (by (repeat' (first | with_reducible exact Up.refl _ | with_reducible assumption | with_reducible refine Up.alloc ?_ _ | with_reducible refine Up.drew ?_ | with_reducible refine Up.drewN ?_ _ | with_reducible refine Up.setCell ?_ (by (try simp only [World.size_alloc, World.size_setCell, World.heap_drewN, World.size_drew]); omega) _ | (with_reducible refine Up.trans ?_ (by with_reducible assumption)))))) F10.rdF hn).mono ?_
      rintro e w11 ⟨rfl, hu11⟩; obtain ⟨N11, J11, JF11, ha11, hb11, hz11, hc11, hf11⟩ := hu11.facts; (try simp only [World.size_alloc, World.size_setCell, World.heap_drewN, World.size_drew] at ha11 hb11); (try simp only [cell_drewI] at hc11); (try simp only [frz_drewI] at hf11)
      clear F10
      go_wp2_with fail
      refine (l_toInt64S _ _ _ zs _ (hB.up (by (repeat' (first | with_reducible exact Up.refl _ | with_reducible assumption | with_reducible refine Up.alloc ?_ _ | with_reducible refine Up.drew ?_ | with_reducible refine Up.drewN ?_ _ | with_reducible refine Up.setCell ?_ (by (try simp only [World.size_alloc, World.size_setCell, World.heap_drewN, World.size_drew]); omega) _ | (with_reducible refine Up.trans ?_ (by with_reducible assumption)))))) hm).mono ?_
      rintro e w12 ⟨rfl, F12, hu12⟩; obtain ⟨N12, J12, JF12, ha12, hb12, hz12, hc12, hf12⟩ := hu12.facts; (try simp only [World.size_alloc, World.size_setCell, World.heap_drewN, World.size_drew] at ha12 hb12); (try simp only [cell_drewI] at hc12); (try simp only [frz_drewI] at hf12)
      go_wp2_with fail
      refine (l_eqInt64S _ _ _ _ _ zs _ ((F7.rdI hB.1).up (by (repeat' (first | with_reducible exact Up.refl _ | with_reducible assumption | with_reducible refine Up.alloc ?_ _ | with_reducible refine Up.drew ?_ | with_reducible refine Up.drewN ?_ _ | with_reducible refine Up.setCell ?_ (by (try simp only [World.size_alloc, World.size_setCell, World.heap_drewN, World.size_drew]); omega) _ | (with_reducible refine Up.trans ?_ (by with_reducible assumption)))))) (F12.rdI hB.1) hm).mono ?_
      rintro e wz ⟨rfl, hu⟩; obtain ⟨N, J, JF, hn1, hn2, hz, hc, hf⟩ := hu.facts; (try simp only [World.size_alloc, World.size_setCell, World.heap_drewN, World.size_drew] at hn1 hn2)
      go_wp2
      go_ret
      exact ⟨rfl, by (repeat' (first | with_reducible exact Up.refl _ | with_reducible assumption | with_reducible refine Up.alloc ?_ _ | with_reducible refine Up.drew ?_ | with_reducible refine Up.drewN ?_ _ | with_reducible refine Up.setCell ?_ (by (try simp only [World.size_alloc, World.size_setCell, World.heap_drewN, World.size_drew]); omega) _ | (with_reducible refine Up.trans ?_ (by with_reducible assumption))))⟩
  · have g0 : decide (1048576 < (m : Int)) = true := by simp; omega
    go_enter Try.func5, Try.ntmps5
    go_wp2
    go_ret
    exact ⟨rfl, by (repeat' (first | with_reducible exact Up.refl _ | with_reducible assumption | with_reducible refine Up.alloc ?_ _ | with_reducible refine Up.drew ?_ | with_reducible refine Up.drewN ?_ _ | with_reducible refine Up.setCell ?_ (by (try simp only [World.size_alloc, World.size_setCell, World.heap_drewN, World.size_drew]); omega) _ | (with_reducible refine Up.trans ?_ (by with_reducible assumption))))⟩
end Go.Proofs.Ytffkcgdgiggfoaa
