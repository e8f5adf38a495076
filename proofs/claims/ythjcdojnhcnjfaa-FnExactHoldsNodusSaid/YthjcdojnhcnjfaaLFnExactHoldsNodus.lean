import Derived.Test.YthjcdojnhcnjfaaHolds
import Derived.Test.YthjcdojnhcnjfaaOpen
/- The walk of the law FnExactHoldsNodus. -/
namespace Go.Proofs.Ythjcdojnhcnjfaa
set_option linter.unusedSimpArgs false
set_option linter.unusedVariables false
open Go.RowKit
attribute [local go_sem] cell_allocI frz_allocI later_cell later_frz
set_option maxHeartbeats 1000000 in
theorem walk_FnExactHoldsNodus (w : World) (A : Option Addr) (n c : Nat) (zs : List Int) (B : Option Addr) (m d : Nat) (ys : List Int) (h : RdI w A n zs) (_hi : ∀ k, k < n → I64 (zs[k]?.getD 0)) (hn0 : n ≤ maxLen) (k : RdI w B m ys) (_hj : ∀ k, k < m → I64 (ys[k]?.getD 0)) (hm0 : m ≤ maxLen) :
    Calls Try.prog 3 #[.agg #[.slice A n c, .slice B m d]] w fun e w' => e = .returned (.bool true) ∧ Up w w' := by
  clear _hi _hj
  by_cases hb : szB 1048576 n m < 0
  · go_enter Try.func3, Try.ntmps3
    go_wp2_with fail
    refine (l_szBody _ _ _ _ _ _ _ hn0 hm0 (by omega) (by omega) _).mono ?_
    rintro e w1 ⟨rfl, hu⟩; obtain ⟨N, J, JF, hn1, hn2, hz, hc, hf⟩ := hu.facts; (try simp only [World.size_alloc, World.size_setCell, World.heap_drewN, World.size_drew] at hn1 hn2)
    go_wp2
    go_ret
    refine ⟨rfl, ?_⟩
    (repeat' (first | with_reducible exact Up.refl _ | with_reducible assumption | with_reducible refine Up.alloc ?_ _ | with_reducible refine Up.drew ?_ | with_reducible refine Up.drewN ?_ _ | with_reducible refine Up.setCell ?_ (by (try simp only [World.size_alloc, World.size_setCell, World.heap_drewN, World.size_drew]); omega) _ | (with_reducible refine Up.trans ?_ (by with_reducible assumption))))
  · have hn : n ≤ 1048576 := by unfold szB at hb; split at hb <;> omega
    have hm : m ≤ 1048576 := by unfold szB at hb; split at hb <;> (try split at hb) <;> omega
    have hS := fun A c B d w h k => s_HoldsNodus A n c zs B m d ys w h k hn hm
    have hI := fun A c B d w h k => i_HoldsNodus A n c zs B m d ys w h k hn hm
    obtain ⟨x1, x2, hb⟩ : ∃ (p : Bool) (q : Int), holdsV zs ys = .tuple #[.bool p, .int .i64 q] := ⟨_, _, rfl⟩
    rw [hb] at hS hI
    clear hb
    go_enter Try.func3, Try.ntmps3
    go_wp2_with fail
    refine (l_szBody _ _ _ _ _ _ _ hn0 hm0 (by omega) (by omega) _).mono ?_
    rintro e w1 ⟨rfl, hu⟩; obtain ⟨N, J, JF, hn1, hn2, hz, hc, hf⟩ := hu.facts; (try simp only [World.size_alloc, World.size_setCell, World.heap_drewN, World.size_drew] at hn1 hn2)
    go_wp2_with fail
    refine (l_toBody _ _ _ _ _ _ _ _ _ (h.up (by (repeat' (first | with_reducible exact Up.refl _ | with_reducible assumption | with_reducible refine Up.alloc ?_ _ | with_reducible refine Up.drew ?_ | with_reducible refine Up.drewN ?_ _ | with_reducible refine Up.setCell ?_ (by (try simp only [World.size_alloc, World.size_setCell, World.heap_drewN, World.size_drew]); omega) _ | (with_reducible refine Up.trans ?_ (by with_reducible assumption)))))) (k.up (by (repeat' (first | with_reducible exact Up.refl _ | with_reducible assumption | with_reducible refine Up.alloc ?_ _ | with_reducible refine Up.drew ?_ | with_reducible refine Up.drewN ?_ _ | with_reducible refine Up.setCell ?_ (by (try simp only [World.size_alloc, World.size_setCell, World.heap_drewN, World.size_drew]); omega) _ | (with_reducible refine Up.trans ?_ (by with_reducible assumption)))))) hn hm).mono ?_
    rintro e w2 ⟨g1, g2, rfl, l1, l2, F1, F2, hu⟩; obtain ⟨N, J, JF, hn1, hn2, hz, hc, hf⟩ := hu.facts; (try simp only [World.size_alloc, World.size_setCell, World.heap_drewN, World.size_drew] at hn1 hn2)
    go_wp2_with fail
    refine (hS _ _ _ _ _ (F1.rdI h.1) (F2.rdI k.1)).mono ?_
    clear F1 F2 l1 l2
    rintro e w3 ⟨rfl, hu⟩; obtain ⟨N, J, JF, hn1, hn2, hz, hc, hf⟩ := hu.facts; (try simp only [World.size_alloc, World.size_setCell, World.heap_drewN, World.size_drew] at hn1 hn2)
    go_wp2_with fail
    refine (l_toBody _ _ _ _ _ _ _ _ _ (h.up (by (repeat' (first | with_reducible exact Up.refl _ | with_reducible assumption | with_reducible refine Up.alloc ?_ _ | with_reducible refine Up.drew ?_ | with_reducible refine Up.drewN ?_ _ | with_reducible refine Up.setCell ?_ (by (try simp only [World.size_alloc, World.size_setCell, World.heap_drewN, World.size_drew]); omega) _ | (with_reducible refine Up.trans ?_ (by with_reducible assumption)))))) (k.up (by (repeat' (first | with_reducible exact Up.refl _ | with_reducible assumption | with_reducible refine Up.alloc ?_ _ | with_reducible refine Up.drew ?_ | with_reducible refine Up.drewN ?_ _ | with_reducible refine Up.setCell ?_ (by (try simp only [World.size_alloc, World.size_setCell, World.heap_drewN, World.size_drew]); omega) _ | (with_reducible refine Up.trans ?_ (by with_reducible assumption)))))) hn hm).mono ?_
    rintro e w4 ⟨g1, g2, rfl, l1, l2, F1, F2, hu⟩; obtain ⟨N, J, JF, hn1, hn2, hz, hc, hf⟩ := hu.facts; (try simp only [World.size_alloc, World.size_setCell, World.heap_drewN, World.size_drew] at hn1 hn2)
    go_wp2_with fail
    refine (hI _ _ _ _ _ ((F1.up (by (repeat' (first | with_reducible exact Up.refl _ | with_reducible assumption | with_reducible refine Up.alloc ?_ _ | with_reducible refine Up.drew ?_ | with_reducible refine Up.drewN ?_ _ | with_reducible refine Up.setCell ?_ (by (try simp only [World.size_alloc, World.size_setCell, World.heap_drewN, World.size_drew]); omega) _ | (with_reducible refine Up.trans ?_ (by with_reducible assumption)))))).rdI h.1) ((F2.up (by (repeat' (first | with_reducible exact Up.refl _ | with_reducible assumption | with_reducible refine Up.alloc ?_ _ | with_reducible refine Up.drew ?_ | with_reducible refine Up.drewN ?_ _ | with_reducible refine Up.setCell ?_ (by (try simp only [World.size_alloc, World.size_setCell, World.heap_drewN, World.size_drew]); omega) _ | (with_reducible refine Up.trans ?_ (by with_reducible assumption)))))).rdI k.1)).mono ?_
    rintro e w5 ⟨rfl, hu⟩; obtain ⟨N, J, JF, hn1, hn2, hz, hc, hf⟩ := hu.facts; (try simp only [World.size_alloc, World.size_setCell, World.heap_drewN, World.size_drew] at hn1 hn2)
    go_wp2_with fail
    have s1 : w5.cell? ⟨w.heap.size, 0, none⟩ = some (.slice A n c) := by simp [cell_allocI, ↓IntWalk.iteOmega, *]
    have s2 : w5.cell? ⟨w.heap.size, 1, none⟩ = some (.slice B m d) := by simp [cell_allocI, ↓IntWalk.iteOmega, *]
    have s3 : w5.cell? ⟨w4.heap.size, 0, none⟩ = some (.slice (some ⟨g1, 0, none⟩) n n) := by simp [cell_allocI, ↓IntWalk.iteOmega, *]
    have s4 : w5.cell? ⟨w4.heap.size, 1, none⟩ = some (.slice (some ⟨g2, 0, none⟩) m m) := by simp [cell_allocI, ↓IntWalk.iteOmega, *]
    have b1 := cell_lt s1
    have b3 := cell_lt s3
    have F5 := F1.up (w' := w5) (by (repeat' (first | with_reducible exact Up.refl _ | with_reducible assumption | with_reducible refine Up.alloc ?_ _ | with_reducible refine Up.drew ?_ | with_reducible refine Up.drewN ?_ _ | with_reducible refine Up.setCell ?_ (by (try simp only [World.size_alloc, World.size_setCell, World.heap_drewN, World.size_drew]); omega) _ | (with_reducible refine Up.trans ?_ (by with_reducible assumption)))))
    have F6 := F2.up (w' := w5) (by (repeat' (first | with_reducible exact Up.refl _ | with_reducible assumption | with_reducible refine Up.alloc ?_ _ | with_reducible refine Up.drew ?_ | with_reducible refine Up.drewN ?_ _ | with_reducible refine Up.setCell ?_ (by (try simp only [World.size_alloc, World.size_setCell, World.heap_drewN, World.size_drew]); omega) _ | (with_reducible refine Up.trans ?_ (by with_reducible assumption)))))
    have hU : Up w w5 := by (repeat' (first | with_reducible exact Up.refl _ | with_reducible assumption | with_reducible refine Up.alloc ?_ _ | with_reducible refine Up.drew ?_ | with_reducible refine Up.drewN ?_ _ | with_reducible refine Up.setCell ?_ (by (try simp only [World.size_alloc, World.size_setCell, World.heap_drewN, World.size_drew]); omega) _ | (with_reducible refine Up.trans ?_ (by with_reducible assumption))))
    have h5 := h.up hU
    have k5 := k.up hU
    clear hc hf hu h k F1 F2
    go_region_held3 (fun w' => w'.cell? ⟨w.heap.size, 0, none⟩ = some (.slice A n c) ∧ w'.cell? ⟨w.heap.size, 1, none⟩ = some (.slice B m d) ∧ w'.cell? ⟨w4.heap.size, 0, none⟩ = some (.slice (some ⟨g1, 0, none⟩) n n) ∧ w'.cell? ⟨w4.heap.size, 1, none⟩ = some (.slice (some ⟨g2, 0, none⟩) m m))
      (first | exact ⟨s1, s2, s3, s4⟩ | exact ⟨((Up.drew hu).cells _ _ b1).trans s1, ((Up.drew hu).cells _ _ b1).trans s2, ((Up.drew hu).cells _ _ b3).trans s3, ((Up.drew hu).cells _ _ b3).trans s4⟩ | exact ⟨(hu.cells _ _ b1).trans s1, (hu.cells _ _ b1).trans s2, (hu.cells _ _ b3).trans s3, (hu.cells _ _ b3).trans s4⟩)
      (first
        | (go_at_call 13; refine (l_toBody _ _ _ _ _ _ _ _ _ (h5.up ((Up.refl w5).drew)) (k5.up ((Up.refl w5).drew)) hn hm).mono ?_; rintro e w6 ⟨h1, h2, rfl, m1, m2, G1, G2, hu⟩)
        | (go_at_call 15; refine (l_eqBody _ _ _ _ _ _ _ _ _ _ _ _ _ ((F5.up ((Up.refl w5).drew.trans hu)).rdI h5.1) ((F6.up ((Up.refl w5).drew.trans hu)).rdI k5.1) (G1.rdI h5.1) (G2.rdI k5.1) hn hm).mono ?_; rintro e w7 ⟨rfl, hu2⟩; replace hu := hu.trans hu2))
    go_wp2
    go_ret
    refine ⟨rfl, ?_⟩
    exact hU.trans ((Up.refl w5).drew.trans hu)
end Go.Proofs.Ythjcdojnhcnjfaa
