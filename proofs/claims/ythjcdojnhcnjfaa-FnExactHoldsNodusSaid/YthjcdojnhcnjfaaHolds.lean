import Derived.Test.YthjcdojnhcnjfaaBodyFns
import Derived.LoopN
/- HoldsNodus: the contracts. -/
namespace Go.Proofs.Ythjcdojnhcnjfaa
set_option linter.unusedSimpArgs false
set_option linter.unusedVariables false
open Go.RowKit
attribute [local go_sem] cell_allocI frz_allocI later_cell later_frz
attribute [local go_sem] cell_setI cell_drewI frz_drewI
/-- what HoldsNodus returns -/
def holdsV (zs ys : List Int) : Value := .tuple #[.bool (isBodyB zs ys && (inB 0 (nth zs 0) (nth ys 0) && (inB 0 (nth zs 1) (nth ys 1) && inB 0 (nth zs 2) (nth ys 2)))), .int .i64 (if isBodyB zs ys then 0 else 1)]
set_option maxHeartbeats 1000000 in
theorem s_HoldsNodus (A : Option Addr) (n c : Nat) (zs : List Int) (B : Option Addr) (m d : Nat) (ys : List Int) (w : World) (h : RdI w A n zs) (k : RdI w B m ys) (hn : n ≤ 1048576) (hm : m ≤ 1048576) :
    Calls Try.prog 12 #[.agg #[.slice A n c, .slice B m d]] w fun e w' => e = .returned (holdsV zs ys) ∧ Up w w' := by
  have h1 := hide (h.up ((Up.refl w).alloc (.cells #[.slice A n c, .slice B m d] 28)))
  have k1 := hide (k.up ((Up.refl w).alloc (.cells #[.slice A n c, .slice B m d] 28)))
  have hB := fun w h k => s_IsBody A n c zs B m d ys w h k hn hm
  by_cases e0 : isBodyB zs ys = true
  · rw [e0] at hB
    obtain ⟨e1, e2, _⟩ := isBodyB_iff.1 e0
    obtain ⟨l1, _⟩ := edgesB_iff.1 e1
    obtain ⟨l2, _⟩ := edgesB_iff.1 e2
    obtain rfl : n = 3 := by rw [← h.1, l1]
    obtain rfl : m = 3 := by rw [← k.1, l2]
    have hv : ∀ p q r : Bool, inB 0 (nth zs 0) (nth ys 0) = p → inB 0 (nth zs 1) (nth ys 1) = q → inB 0 (nth zs 2) (nth ys 2) = r → holdsV zs ys = .tuple #[.bool (p && (q && r)), .int .i64 0] := by
      rintro p q r rfl rfl rfl; unfold holdsV; rw [e0]; simp
    clear l1 l2 e1 e2 e0
    by_cases g0 : inB 0 (nth zs 0) (nth ys 0) = true
    · by_cases g1 : inB 0 (nth zs 1) (nth ys 1) = true
      · by_cases g2 : inB 0 (nth zs 2) (nth ys 2) = true
        · go_enter Try.func12, Try.ntmps12
          go_wp2_with fail
          refine (hB _ h1.out k1.out).mono ?_
          rintro e wn ⟨rfl, hu⟩; obtain ⟨N, J, JF, hn1, hn2, hz, hc, hf⟩ := hu.facts; (try simp only [World.size_alloc, World.size_setCell, World.heap_drewN, World.size_drew] at hn1 hn2)
          have hv := hide hv
          obtain ⟨b, o, rfl, hbl, hc0⟩ := (h.up (show Up w wn by (repeat' (first | with_reducible exact Up.refl _ | with_reducible assumption | with_reducible refine Up.alloc ?_ _ | with_reducible refine Up.drew ?_ | with_reducible refine Up.drewN ?_ _ | with_reducible refine Up.setCell ?_ (by (try simp only [World.size_alloc, World.size_setCell, World.heap_drewN, World.size_drew]); omega) _ | (with_reducible refine Up.trans ?_ (by with_reducible assumption)))))).2.at_ (by omega)
          obtain ⟨b2, o2, rfl, hbl2, hc2⟩ := (k.up (show Up w wn by (repeat' (first | with_reducible exact Up.refl _ | with_reducible assumption | with_reducible refine Up.alloc ?_ _ | with_reducible refine Up.drew ?_ | with_reducible refine Up.drewN ?_ _ | with_reducible refine Up.setCell ?_ (by (try simp only [World.size_alloc, World.size_setCell, World.heap_drewN, World.size_drew]); omega) _ | (with_reducible refine Up.trans ?_ (by with_reducible assumption)))))).2.at_ (by omega)
          have c0 := hc0 0 (by omega)
          have d0 := hc2 0 (by omega)
          change _ = some (Value.int .i64 (nth zs 0)) at c0
          change _ = some (Value.int .i64 (nth ys 0)) at d0
          have c1 := hc0 1 (by omega)
          have d1 := hc2 1 (by omega)
          change _ = some (Value.int .i64 (nth zs 1)) at c1
          change _ = some (Value.int .i64 (nth ys 1)) at d1
          have c2 := hc0 2 (by omega)
          have d2 := hc2 2 (by omega)
          change _ = some (Value.int .i64 (nth zs 2)) at c2
          change _ = some (Value.int .i64 (nth ys 2)) at d2
          rw [Nat.add_zero] at c0 d0
          have s1 : wn.cell? ⟨w.heap.size, 0, none⟩ = some (.slice (some ⟨b, o, none⟩) 3 c) := (by simp [isSome_setCell, cell_setI, cell_drewI, cell_allocI, ↓IntWalk.iteOmega, *])
          have s2 : wn.cell? ⟨w.heap.size, 1, none⟩ = some (.slice (some ⟨b2, o2, none⟩) 3 d) := (by simp [isSome_setCell, cell_setI, cell_drewI, cell_allocI, ↓IntWalk.iteOmega, *])
          clear hc0 hc2 h k hB h1 k1 hc hf
          go_wp2_with fail
          refine wp_loop_rounds 4 ?_
          rw [rounds_succ]
          go_wp2_with fail
          refine wp_region_later (by kernel_rfl) (by kernel_rfl) ?_
          repeat (go_big_quiet_step ((go_at_call 50; exact later_same (s_l01In _ _ _ _))))
          refine wpQuiet_nil ?_; intro _ hw'; obtain ⟨x, hw''⟩ := hw'; subst hw''; obtain ⟨wn, hu⟩ := x; dsimp only; obtain ⟨N, J, JF, hn1, hn2, hz, hc, hf⟩ := hu.facts; (try simp only [World.size_alloc, World.size_setCell, World.heap_drewN, World.size_drew] at hn1 hn2)
          go_wp2_with fail
          rw [rounds_succ]
          go_wp2_with fail
          refine wp_region_later (by kernel_rfl) (by kernel_rfl) ?_
          repeat (go_big_quiet_step ((go_at_call 50; exact later_same (s_l01In _ _ _ _))))
          refine wpQuiet_nil ?_; intro _ hw'; obtain ⟨x, hw''⟩ := hw'; subst hw''; obtain ⟨wn, hu⟩ := x; dsimp only; obtain ⟨N, J, JF, hn1, hn2, hz, hc, hf⟩ := hu.facts; (try simp only [World.size_alloc, World.size_setCell, World.heap_drewN, World.size_drew] at hn1 hn2)
          go_wp2_with fail
          rw [rounds_succ]
          go_wp2_with fail
          refine wp_region_later (by kernel_rfl) (by kernel_rfl) ?_
          repeat (go_big_quiet_step ((go_at_call 50; exact later_same (s_l01In _ _ _ _))))
          refine wpQuiet_nil ?_; intro _ hw'; obtain ⟨x, hw''⟩ := hw'; subst hw''; obtain ⟨wn, hu⟩ := x; dsimp only; obtain ⟨N, J, JF, hn1, hn2, hz, hc, hf⟩ := hu.facts; (try simp only [World.size_alloc, World.size_setCell, World.heap_drewN, World.size_drew] at hn1 hn2)
          go_wp2_with fail
          rw [rounds_succ]
          go_wp2_with fail
          go_ret2
          refine ⟨?_, ?_⟩
          · rw [hv.out _ _ _ g0 g1 g2]; rfl
          (repeat' (first | with_reducible exact Up.refl _ | with_reducible assumption | with_reducible refine Up.alloc ?_ _ | with_reducible refine Up.drew ?_ | with_reducible refine Up.drewN ?_ _ | with_reducible refine Up.setCell ?_ (by (try simp only [World.size_alloc, World.size_setCell, World.heap_drewN, World.size_drew]); omega) _ | (with_reducible refine Up.trans ?_ (by with_reducible assumption))))
        · have g2 : inB 0 (nth zs 2) (nth ys 2) = false := by simpa using g2
          go_enter Try.func12, Try.ntmps12
          go_wp2_with fail
          refine (hB _ h1.out k1.out).mono ?_
          rintro e wn ⟨rfl, hu⟩; obtain ⟨N, J, JF, hn1, hn2, hz, hc, hf⟩ := hu.facts; (try simp only [World.size_alloc, World.size_setCell, World.heap_drewN, World.size_drew] at hn1 hn2)
          have hv := hide hv
          obtain ⟨b, o, rfl, hbl, hc0⟩ := (h.up (show Up w wn by (repeat' (first | with_reducible exact Up.refl _ | with_reducible assumption | with_reducible refine Up.alloc ?_ _ | with_reducible refine Up.drew ?_ | with_reducible refine Up.drewN ?_ _ | with_reducible refine Up.setCell ?_ (by (try simp only [World.size_alloc, World.size_setCell, World.heap_drewN, World.size_drew]); omega) _ | (with_reducible refine Up.trans ?_ (by with_reducible assumption)))))).2.at_ (by omega)
          obtain ⟨b2, o2, rfl, hbl2, hc2⟩ := (k.up (show Up w wn by (repeat' (first | with_reducible exact Up.refl _ | with_reducible assumption | with_reducible refine Up.alloc ?_ _ | with_reducible refine Up.drew ?_ | with_reducible refine Up.drewN ?_ _ | with_reducible refine Up.setCell ?_ (by (try simp only [World.size_alloc, World.size_setCell, World.heap_drewN, World.size_drew]); omega) _ | (with_reducible refine Up.trans ?_ (by with_reducible assumption)))))).2.at_ (by omega)
          have c0 := hc0 0 (by omega)
          have d0 := hc2 0 (by omega)
          change _ = some (Value.int .i64 (nth zs 0)) at c0
          change _ = some (Value.int .i64 (nth ys 0)) at d0
          have c1 := hc0 1 (by omega)
          have d1 := hc2 1 (by omega)
          change _ = some (Value.int .i64 (nth zs 1)) at c1
          change _ = some (Value.int .i64 (nth ys 1)) at d1
          have c2 := hc0 2 (by omega)
          have d2 := hc2 2 (by omega)
          change _ = some (Value.int .i64 (nth zs 2)) at c2
          change _ = some (Value.int .i64 (nth ys 2)) at d2
          rw [Nat.add_zero] at c0 d0
          have s1 : wn.cell? ⟨w.heap.size, 0, none⟩ = some (.slice (some ⟨b, o, none⟩) 3 c) := (by simp [isSome_setCell, cell_setI, cell_drewI, cell_allocI, ↓IntWalk.iteOmega, *])
          have s2 : wn.cell? ⟨w.heap.size, 1, none⟩ = some (.slice (some ⟨b2, o2, none⟩) 3 d) := (by simp [isSome_setCell, cell_setI, cell_drewI, cell_allocI, ↓IntWalk.iteOmega, *])
          clear hc0 hc2 h k hB h1 k1 hc hf
          go_wp2_with fail
          refine wp_loop_rounds 4 ?_
          rw [rounds_succ]
          go_wp2_with fail
          refine wp_region_later (by kernel_rfl) (by kernel_rfl) ?_
          repeat (go_big_quiet_step ((go_at_call 50; exact later_same (s_l01In _ _ _ _))))
          refine wpQuiet_nil ?_; intro _ hw'; obtain ⟨x, hw''⟩ := hw'; subst hw''; obtain ⟨wn, hu⟩ := x; dsimp only; obtain ⟨N, J, JF, hn1, hn2, hz, hc, hf⟩ := hu.facts; (try simp only [World.size_alloc, World.size_setCell, World.heap_drewN, World.size_drew] at hn1 hn2)
          go_wp2_with fail
          rw [rounds_succ]
          go_wp2_with fail
          refine wp_region_later (by kernel_rfl) (by kernel_rfl) ?_
          repeat (go_big_quiet_step ((go_at_call 50; exact later_same (s_l01In _ _ _ _))))
          refine wpQuiet_nil ?_; intro _ hw'; obtain ⟨x, hw''⟩ := hw'; subst hw''; obtain ⟨wn, hu⟩ := x; dsimp only; obtain ⟨N, J, JF, hn1, hn2, hz, hc, hf⟩ := hu.facts; (try simp only [World.size_alloc, World.size_setCell, World.heap_drewN, World.size_drew] at hn1 hn2)
          go_wp2_with fail
          rw [rounds_succ]
          go_wp2_with fail
          refine wp_region_later (by kernel_rfl) (by kernel_rfl) ?_
          repeat (go_big_quiet_step ((go_at_call 50; exact later_same (s_l01In _ _ _ _))))
          refine wpQuiet_nil ?_; intro _ hw'; obtain ⟨x, hw''⟩ := hw'; subst hw''; obtain ⟨wn, hu⟩ := x; dsimp only; obtain ⟨N, J, JF, hn1, hn2, hz, hc, hf⟩ := hu.facts; (try simp only [World.size_alloc, World.size_setCell, World.heap_drewN, World.size_drew] at hn1 hn2)
          go_wp2_with fail
          go_ret2
          refine ⟨?_, ?_⟩
          · rw [hv.out _ _ _ g0 g1 g2]; rfl
          (repeat' (first | with_reducible exact Up.refl _ | with_reducible assumption | with_reducible refine Up.alloc ?_ _ | with_reducible refine Up.drew ?_ | with_reducible refine Up.drewN ?_ _ | with_reducible refine Up.setCell ?_ (by (try simp only [World.size_alloc, World.size_setCell, World.heap_drewN, World.size_drew]); omega) _ | (with_reducible refine Up.trans ?_ (by with_reducible assumption))))
      · have g1 : inB 0 (nth zs 1) (nth ys 1) = false := by simpa using g1
        go_enter Try.func12, Try.ntmps12
        go_wp2_with fail
        refine (hB _ h1.out k1.out).mono ?_
        rintro e wn ⟨rfl, hu⟩; obtain ⟨N, J, JF, hn1, hn2, hz, hc, hf⟩ := hu.facts; (try simp only [World.size_alloc, World.size_setCell, World.heap_drewN, World.size_drew] at hn1 hn2)
        have hv := hide hv
        obtain ⟨b, o, rfl, hbl, hc0⟩ := (h.up (show Up w wn by (repeat' (first | with_reducible exact Up.refl _ | with_reducible assumption | with_reducible refine Up.alloc ?_ _ | with_reducible refine Up.drew ?_ | with_reducible refine Up.drewN ?_ _ | with_reducible refine Up.setCell ?_ (by (try simp only [World.size_alloc, World.size_setCell, World.heap_drewN, World.size_drew]); omega) _ | (with_reducible refine Up.trans ?_ (by with_reducible assumption)))))).2.at_ (by omega)
        obtain ⟨b2, o2, rfl, hbl2, hc2⟩ := (k.up (show Up w wn by (repeat' (first | with_reducible exact Up.refl _ | with_reducible assumption | with_reducible refine Up.alloc ?_ _ | with_reducible refine Up.drew ?_ | with_reducible refine Up.drewN ?_ _ | with_reducible refine Up.setCell ?_ (by (try simp only [World.size_alloc, World.size_setCell, World.heap_drewN, World.size_drew]); omega) _ | (with_reducible refine Up.trans ?_ (by with_reducible assumption)))))).2.at_ (by omega)
        have c0 := hc0 0 (by omega)
        have d0 := hc2 0 (by omega)
        change _ = some (Value.int .i64 (nth zs 0)) at c0
        change _ = some (Value.int .i64 (nth ys 0)) at d0
        have c1 := hc0 1 (by omega)
        have d1 := hc2 1 (by omega)
        change _ = some (Value.int .i64 (nth zs 1)) at c1
        change _ = some (Value.int .i64 (nth ys 1)) at d1
        have c2 := hc0 2 (by omega)
        have d2 := hc2 2 (by omega)
        change _ = some (Value.int .i64 (nth zs 2)) at c2
        change _ = some (Value.int .i64 (nth ys 2)) at d2
        rw [Nat.add_zero] at c0 d0
        have s1 : wn.cell? ⟨w.heap.size, 0, none⟩ = some (.slice (some ⟨b, o, none⟩) 3 c) := (by simp [isSome_setCell, cell_setI, cell_drewI, cell_allocI, ↓IntWalk.iteOmega, *])
        have s2 : wn.cell? ⟨w.heap.size, 1, none⟩ = some (.slice (some ⟨b2, o2, none⟩) 3 d) := (by simp [isSome_setCell, cell_setI, cell_drewI, cell_allocI, ↓IntWalk.iteOmega, *])
        clear hc0 hc2 h k hB h1 k1 hc hf
        go_wp2_with fail
        refine wp_loop_rounds 4 ?_
        rw [rounds_succ]
        go_wp2_with fail
        refine wp_region_later (by kernel_rfl) (by kernel_rfl) ?_
        repeat (go_big_quiet_step ((go_at_call 50; exact later_same (s_l01In _ _ _ _))))
        refine wpQuiet_nil ?_; intro _ hw'; obtain ⟨x, hw''⟩ := hw'; subst hw''; obtain ⟨wn, hu⟩ := x; dsimp only; obtain ⟨N, J, JF, hn1, hn2, hz, hc, hf⟩ := hu.facts; (try simp only [World.size_alloc, World.size_setCell, World.heap_drewN, World.size_drew] at hn1 hn2)
        go_wp2_with fail
        rw [rounds_succ]
        go_wp2_with fail
        refine wp_region_later (by kernel_rfl) (by kernel_rfl) ?_
        repeat (go_big_quiet_step ((go_at_call 50; exact later_same (s_l01In _ _ _ _))))
        refine wpQuiet_nil ?_; intro _ hw'; obtain ⟨x, hw''⟩ := hw'; subst hw''; obtain ⟨wn, hu⟩ := x; dsimp only; obtain ⟨N, J, JF, hn1, hn2, hz, hc, hf⟩ := hu.facts; (try simp only [World.size_alloc, World.size_setCell, World.heap_drewN, World.size_drew] at hn1 hn2)
        go_wp2_with fail
        go_ret2
        refine ⟨?_, ?_⟩
        · rw [hv.out _ _ _ g0 g1 rfl]; rfl
        (repeat' (first | with_reducible exact Up.refl _ | with_reducible assumption | with_reducible refine Up.alloc ?_ _ | with_reducible refine Up.drew ?_ | with_reducible refine Up.drewN ?_ _ | with_reducible refine Up.setCell ?_ (by (try simp only [World.size_alloc, World.size_setCell, World.heap_drewN, World.size_drew]); omega) _ | (with_reducible refine Up.trans ?_ (by with_reducible assumption))))
    · have g0 : inB 0 (nth zs 0) (nth ys 0) = false := by simpa using g0
      go_enter Try.func12, Try.ntmps12
      go_wp2_with fail
      refine (hB _ h1.out k1.out).mono ?_
      rintro e wn ⟨rfl, hu⟩; obtain ⟨N, J, JF, hn1, hn2, hz, hc, hf⟩ := hu.facts; (try simp only [World.size_alloc, World.size_setCell, World.heap_drewN, World.size_drew] at hn1 hn2)
      have hv := hide hv
      obtain ⟨b, o, rfl, hbl, hc0⟩ := (h.up (show Up w wn by (repeat' (first | with_reducible exact Up.refl _ | with_reducible assumption | with_reducible refine Up.alloc ?_ _ | with_reducible refine Up.drew ?_ | with_reducible refine Up.drewN ?_ _ | with_reducible refine Up.setCell ?_ (by (try simp only [World.size_alloc, World.size_setCell, World.heap_drewN, World.size_drew]); omega) _ | (with_reducible refine Up.trans ?_ (by with_reducible assumption)))))).2.at_ (by omega)
      obtain ⟨b2, o2, rfl, hbl2, hc2⟩ := (k.up (show Up w wn by (repeat' (first | with_reducible exact Up.refl _ | with_reducible assumption | with_reducible refine Up.alloc ?_ _ | with_reducible refine Up.drew ?_ | with_reducible refine Up.drewN ?_ _ | with_reducible refine Up.setCell ?_ (by (try simp only [World.size_alloc, World.size_setCell, World.heap_drewN, World.size_drew]); omega) _ | (with_reducible refine Up.trans ?_ (by with_reducible assumption)))))).2.at_ (by omega)
      have c0 := hc0 0 (by omega)
      have d0 := hc2 0 (by omega)
      change _ = some (Value.int .i64 (nth zs 0)) at c0
      change _ = some (Value.int .i64 (nth ys 0)) at d0
      have c1 := hc0 1 (by omega)
      have d1 := hc2 1 (by omega)
      change _ = some (Value.int .i64 (nth zs 1)) at c1
      change _ = some (Value.int .i64 (nth ys 1)) at d1
      have c2 := hc0 2 (by omega)
      have d2 := hc2 2 (by omega)
      change _ = some (Value.int .i64 (nth zs 2)) at c2
      change _ = some (Value.int .i64 (nth ys 2)) at d2
      rw [Nat.add_zero] at c0 d0
      have s1 : wn.cell? ⟨w.heap.size, 0, none⟩ = some (.slice (some ⟨b, o, none⟩) 3 c) := (by simp [isSome_setCell, cell_setI, cell_drewI, cell_allocI, ↓IntWalk.iteOmega, *])
      have s2 : wn.cell? ⟨w.heap.size, 1, none⟩ = some (.slice (some ⟨b2, o2, none⟩) 3 d) := (by simp [isSome_setCell, cell_setI, cell_drewI, cell_allocI, ↓IntWalk.iteOmega, *])
      clear hc0 hc2 h k hB h1 k1 hc hf
      go_wp2_with fail
      refine wp_loop_rounds 4 ?_
      rw [rounds_succ]
      go_wp2_with fail
      refine wp_region_later (by kernel_rfl) (by kernel_rfl) ?_
      repeat (go_big_quiet_step ((go_at_call 50; exact later_same (s_l01In _ _ _ _))))
      refine wpQuiet_nil ?_; intro _ hw'; obtain ⟨x, hw''⟩ := hw'; subst hw''; obtain ⟨wn, hu⟩ := x; dsimp only; obtain ⟨N, J, JF, hn1, hn2, hz, hc, hf⟩ := hu.facts; (try simp only [World.size_alloc, World.size_setCell, World.heap_drewN, World.size_drew] at hn1 hn2)
      go_wp2_with fail
      go_ret2
      refine ⟨?_, ?_⟩
      · rw [hv.out _ _ _ g0 rfl rfl]; rfl
      (repeat' (first | with_reducible exact Up.refl _ | with_reducible assumption | with_reducible refine Up.alloc ?_ _ | with_reducible refine Up.drew ?_ | with_reducible refine Up.drewN ?_ _ | with_reducible refine Up.setCell ?_ (by (try simp only [World.size_alloc, World.size_setCell, World.heap_drewN, World.size_drew]); omega) _ | (with_reducible refine Up.trans ?_ (by with_reducible assumption))))
  · have e0 : isBodyB zs ys = false := by simpa using e0
    rw [e0] at hB
    have hv : holdsV zs ys = .tuple #[.bool false, .int .i64 1] := by unfold holdsV; rw [e0]; rfl
    rw [hv]
    clear hv e0
    go_enter Try.func12, Try.ntmps12
    go_wp2_with fail
    refine (hB _ h1.out k1.out).mono ?_
    rintro e wn ⟨rfl, hu⟩; obtain ⟨N, J, JF, hn1, hn2, hz, hc, hf⟩ := hu.facts; (try simp only [World.size_alloc, World.size_setCell, World.heap_drewN, World.size_drew] at hn1 hn2)
    clear hB h1 k1 h k
    go_wp2_with fail
    go_ret2
    refine ⟨rfl, ?_⟩
    (repeat' (first | with_reducible exact Up.refl _ | with_reducible assumption | with_reducible refine Up.alloc ?_ _ | with_reducible refine Up.drew ?_ | with_reducible refine Up.drewN ?_ _ | with_reducible refine Up.setCell ?_ (by (try simp only [World.size_alloc, World.size_setCell, World.heap_drewN, World.size_drew]); omega) _ | (with_reducible refine Up.trans ?_ (by with_reducible assumption))))
set_option maxHeartbeats 1000000 in
theorem i_HoldsNodus (A : Option Addr) (n c : Nat) (zs : List Int) (B : Option Addr) (m d : Nat) (ys : List Int) (w : World) (h : RdI w A n zs) (k : RdI w B m ys) (hn : n ≤ 1048576) (hm : m ≤ 1048576) :
    Calls Try.prog 14 #[.agg #[.slice A n c, .slice B m d]] w fun e w' => e = .returned (holdsV zs ys) ∧ Up w w' := by
  have h1 := hide (h.up ((Up.refl w).alloc (.cells #[.slice A n c, .slice B m d] 28)))
  have k1 := hide (k.up ((Up.refl w).alloc (.cells #[.slice A n c, .slice B m d] 28)))
  have hB := fun w h k => i_IsBody A n c zs B m d ys w h k
  by_cases e0 : isBodyB zs ys = true
  · rw [e0] at hB
    obtain ⟨e1, e2, _⟩ := isBodyB_iff.1 e0
    obtain ⟨l1, _⟩ := edgesB_iff.1 e1
    obtain ⟨l2, _⟩ := edgesB_iff.1 e2
    obtain rfl : n = 3 := by rw [← h.1, l1]
    obtain rfl : m = 3 := by rw [← k.1, l2]
    have hv : ∀ p q r : Bool, inB 0 (nth zs 0) (nth ys 0) = p → inB 0 (nth zs 1) (nth ys 1) = q → inB 0 (nth zs 2) (nth ys 2) = r → holdsV zs ys = .tuple #[.bool (p && (q && r)), .int .i64 0] := by
      rintro p q r rfl rfl rfl; unfold holdsV; rw [e0]; simp
    clear l1 l2 e1 e2 e0
    by_cases g0 : inB 0 (nth zs 0) (nth ys 0) = true
    · by_cases g1 : inB 0 (nth zs 1) (nth ys 1) = true
      · by_cases g2 : inB 0 (nth zs 2) (nth ys 2) = true
        · go_enter Try.func14, Try.ntmps14
          go_wp2_with fail
          refine (hB _ h1.out k1.out).mono ?_
          rintro e wn ⟨rfl, hu⟩; obtain ⟨N, J, JF, hn1, hn2, hz, hc, hf⟩ := hu.facts; (try simp only [World.size_alloc, World.size_setCell, World.heap_drewN, World.size_drew] at hn1 hn2)
          have hv := hide hv
          obtain ⟨b, o, rfl, hbl, hc0⟩ := (h.up (show Up w wn by (repeat' (first | with_reducible exact Up.refl _ | with_reducible assumption | with_reducible refine Up.alloc ?_ _ | with_reducible refine Up.drew ?_ | with_reducible refine Up.drewN ?_ _ | with_reducible refine Up.setCell ?_ (by (try simp only [World.size_alloc, World.size_setCell, World.heap_drewN, World.size_drew]); omega) _ | (with_reducible refine Up.trans ?_ (by with_reducible assumption)))))).2.at_ (by omega)
          obtain ⟨b2, o2, rfl, hbl2, hc2⟩ := (k.up (show Up w wn by (repeat' (first | with_reducible exact Up.refl _ | with_reducible assumption | with_reducible refine Up.alloc ?_ _ | with_reducible refine Up.drew ?_ | with_reducible refine Up.drewN ?_ _ | with_reducible refine Up.setCell ?_ (by (try simp only [World.size_alloc, World.size_setCell, World.heap_drewN, World.size_drew]); omega) _ | (with_reducible refine Up.trans ?_ (by with_reducible assumption)))))).2.at_ (by omega)
          have c0 := hc0 0 (by omega)
          have d0 := hc2 0 (by omega)
          change _ = some (Value.int .i64 (nth zs 0)) at c0
          change _ = some (Value.int .i64 (nth ys 0)) at d0
          have c1 := hc0 1 (by omega)
          have d1 := hc2 1 (by omega)
          change _ = some (Value.int .i64 (nth zs 1)) at c1
          change _ = some (Value.int .i64 (nth ys 1)) at d1
          have c2 := hc0 2 (by omega)
          have d2 := hc2 2 (by omega)
          change _ = some (Value.int .i64 (nth zs 2)) at c2
          change _ = some (Value.int .i64 (nth ys 2)) at d2
          rw [Nat.add_zero] at c0 d0
          have s1 : wn.cell? ⟨w.heap.size, 0, none⟩ = some (.slice (some ⟨b, o, none⟩) 3 c) := (by simp [isSome_setCell, cell_setI, cell_drewI, cell_allocI, ↓IntWalk.iteOmega, *])
          have s2 : wn.cell? ⟨w.heap.size, 1, none⟩ = some (.slice (some ⟨b2, o2, none⟩) 3 d) := (by simp [isSome_setCell, cell_setI, cell_drewI, cell_allocI, ↓IntWalk.iteOmega, *])
          clear hc0 hc2 h k hB h1 k1 hc hf
          go_wp2_with fail
          refine wp_loop_rounds 4 ?_
          rw [rounds_succ]
          go_wp2_with fail
          refine wp_region_later (by kernel_rfl) (by kernel_rfl) ?_
          repeat (go_big_quiet_step ((go_at_call 51; exact later_same (i_in _ _ _ _))))
          refine wpQuiet_nil ?_; intro _ hw'; obtain ⟨x, hw''⟩ := hw'; subst hw''; obtain ⟨wn, hu⟩ := x; dsimp only; obtain ⟨N, J, JF, hn1, hn2, hz, hc, hf⟩ := hu.facts; (try simp only [World.size_alloc, World.size_setCell, World.heap_drewN, World.size_drew] at hn1 hn2)
          go_wp2_with fail
          rw [rounds_succ]
          go_wp2_with fail
          refine wp_region_later (by kernel_rfl) (by kernel_rfl) ?_
          repeat (go_big_quiet_step ((go_at_call 51; exact later_same (i_in _ _ _ _))))
          refine wpQuiet_nil ?_; intro _ hw'; obtain ⟨x, hw''⟩ := hw'; subst hw''; obtain ⟨wn, hu⟩ := x; dsimp only; obtain ⟨N, J, JF, hn1, hn2, hz, hc, hf⟩ := hu.facts; (try simp only [World.size_alloc, World.size_setCell, World.heap_drewN, World.size_drew] at hn1 hn2)
          go_wp2_with fail
          rw [rounds_succ]
          go_wp2_with fail
          refine wp_region_later (by kernel_rfl) (by kernel_rfl) ?_
          repeat (go_big_quiet_step ((go_at_call 51; exact later_same (i_in _ _ _ _))))
          refine wpQuiet_nil ?_; intro _ hw'; obtain ⟨x, hw''⟩ := hw'; subst hw''; obtain ⟨wn, hu⟩ := x; dsimp only; obtain ⟨N, J, JF, hn1, hn2, hz, hc, hf⟩ := hu.facts; (try simp only [World.size_alloc, World.size_setCell, World.heap_drewN, World.size_drew] at hn1 hn2)
          go_wp2_with fail
          rw [rounds_succ]
          go_wp2_with fail
          go_ret2
          refine ⟨?_, ?_⟩
          · rw [hv.out _ _ _ g0 g1 g2]; rfl
          (repeat' (first | with_reducible exact Up.refl _ | with_reducible assumption | with_reducible refine Up.alloc ?_ _ | with_reducible refine Up.drew ?_ | with_reducible refine Up.drewN ?_ _ | with_reducible refine Up.setCell ?_ (by (try simp only [World.size_alloc, World.size_setCell, World.heap_drewN, World.size_drew]); omega) _ | (with_reducible refine Up.trans ?_ (by with_reducible assumption))))
        · have g2 : inB 0 (nth zs 2) (nth ys 2) = false := by simpa using g2
          go_enter Try.func14, Try.ntmps14
          go_wp2_with fail
          refine (hB _ h1.out k1.out).mono ?_
          rintro e wn ⟨rfl, hu⟩; obtain ⟨N, J, JF, hn1, hn2, hz, hc, hf⟩ := hu.facts; (try simp only [World.size_alloc, World.size_setCell, World.heap_drewN, World.size_drew] at hn1 hn2)
          have hv := hide hv
          obtain ⟨b, o, rfl, hbl, hc0⟩ := (h.up (show Up w wn by (repeat' (first | with_reducible exact Up.refl _ | with_reducible assumption | with_reducible refine Up.alloc ?_ _ | with_reducible refine Up.drew ?_ | with_reducible refine Up.drewN ?_ _ | with_reducible refine Up.setCell ?_ (by (try simp only [World.size_alloc, World.size_setCell, World.heap_drewN, World.size_drew]); omega) _ | (with_reducible refine Up.trans ?_ (by with_reducible assumption)))))).2.at_ (by omega)
          obtain ⟨b2, o2, rfl, hbl2, hc2⟩ := (k.up (show Up w wn by (repeat' (first | with_reducible exact Up.refl _ | with_reducible assumption | with_reducible refine Up.alloc ?_ _ | with_reducible refine Up.drew ?_ | with_reducible refine Up.drewN ?_ _ | with_reducible refine Up.setCell ?_ (by (try simp only [World.size_alloc, World.size_setCell, World.heap_drewN, World.size_drew]); omega) _ | (with_reducible refine Up.trans ?_ (by with_reducible assumption)))))).2.at_ (by omega)
          have c0 := hc0 0 (by omega)
          have d0 := hc2 0 (by omega)
          change _ = some (Value.int .i64 (nth zs 0)) at c0
          change _ = some (Value.int .i64 (nth ys 0)) at d0
          have c1 := hc0 1 (by omega)
          have d1 := hc2 1 (by omega)
          change _ = some (Value.int .i64 (nth zs 1)) at c1
          change _ = some (Value.int .i64 (nth ys 1)) at d1
          have c2 := hc0 2 (by omega)
          have d2 := hc2 2 (by omega)
          change _ = some (Value.int .i64 (nth zs 2)) at c2
          change _ = some (Value.int .i64 (nth ys 2)) at d2
          rw [Nat.add_zero] at c0 d0
          have s1 : wn.cell? ⟨w.heap.size, 0, none⟩ = some (.slice (some ⟨b, o, none⟩) 3 c) := (by simp [isSome_setCell, cell_setI, cell_drewI, cell_allocI, ↓IntWalk.iteOmega, *])
          have s2 : wn.cell? ⟨w.heap.size, 1, none⟩ = some (.slice (some ⟨b2, o2, none⟩) 3 d) := (by simp [isSome_setCell, cell_setI, cell_drewI, cell_allocI, ↓IntWalk.iteOmega, *])
          clear hc0 hc2 h k hB h1 k1 hc hf
          go_wp2_with fail
          refine wp_loop_rounds 4 ?_
          rw [rounds_succ]
          go_wp2_with fail
          refine wp_region_later (by kernel_rfl) (by kernel_rfl) ?_
          repeat (go_big_quiet_step ((go_at_call 51; exact later_same (i_in _ _ _ _))))
          refine wpQuiet_nil ?_; intro _ hw'; obtain ⟨x, hw''⟩ := hw'; subst hw''; obtain ⟨wn, hu⟩ := x; dsimp only; obtain ⟨N, J, JF, hn1, hn2, hz, hc, hf⟩ := hu.facts; (try simp only [World.size_alloc, World.size_setCell, World.heap_drewN, World.size_drew] at hn1 hn2)
          go_wp2_with fail
          rw [rounds_succ]
          go_wp2_with fail
          refine wp_region_later (by kernel_rfl) (by kernel_rfl) ?_
          repeat (go_big_quiet_step ((go_at_call 51; exact later_same (i_in _ _ _ _))))
          refine wpQuiet_nil ?_; intro _ hw'; obtain ⟨x, hw''⟩ := hw'; subst hw''; obtain ⟨wn, hu⟩ := x; dsimp only; obtain ⟨N, J, JF, hn1, hn2, hz, hc, hf⟩ := hu.facts; (try simp only [World.size_alloc, World.size_setCell, World.heap_drewN, World.size_drew] at hn1 hn2)
          go_wp2_with fail
          rw [rounds_succ]
          go_wp2_with fail
          refine wp_region_later (by kernel_rfl) (by kernel_rfl) ?_
          repeat (go_big_quiet_step ((go_at_call 51; exact later_same (i_in _ _ _ _))))
          refine wpQuiet_nil ?_; intro _ hw'; obtain ⟨x, hw''⟩ := hw'; subst hw''; obtain ⟨wn, hu⟩ := x; dsimp only; obtain ⟨N, J, JF, hn1, hn2, hz, hc, hf⟩ := hu.facts; (try simp only [World.size_alloc, World.size_setCell, World.heap_drewN, World.size_drew] at hn1 hn2)
          go_wp2_with fail
          go_ret2
          refine ⟨?_, ?_⟩
          · rw [hv.out _ _ _ g0 g1 g2]; rfl
          (repeat' (first | with_reducible exact Up.refl _ | with_reducible assumption | with_reducible refine Up.alloc ?_ _ | with_reducible refine Up.drew ?_ | with_reducible refine Up.drewN ?_ _ | with_reducible refine Up.setCell ?_ (by (try simp only [World.size_alloc, World.size_setCell, World.heap_drewN, World.size_drew]); omega) _ | (with_reducible refine Up.trans ?_ (by with_reducible assumption))))
      · have g1 : inB 0 (nth zs 1) (nth ys 1) = false := by simpa using g1
        go_enter Try.func14, Try.ntmps14
        go_wp2_with fail
        refine (hB _ h1.out k1.out).mono ?_
        rintro e wn ⟨rfl, hu⟩; obtain ⟨N, J, JF, hn1, hn2, hz, hc, hf⟩ := hu.facts; (try simp only [World.size_alloc, World.size_setCell, World.heap_drewN, World.size_drew] at hn1 hn2)
        have hv := hide hv
        obtain ⟨b, o, rfl, hbl, hc0⟩ := (h.up (show Up w wn by (repeat' (first | with_reducible exact Up.refl _ | with_reducible assumption | with_reducible refine Up.alloc ?_ _ | with_reducible refine Up.drew ?_ | with_reducible refine Up.drewN ?_ _ | with_reducible refine Up.setCell ?_ (by (try simp only [World.size_alloc, World.size_setCell, World.heap_drewN, World.size_drew]); omega) _ | (with_reducible refine Up.trans ?_ (by with_reducible assumption)))))).2.at_ (by omega)
        obtain ⟨b2, o2, rfl, hbl2, hc2⟩ := (k.up (show Up w wn by (repeat' (first | with_reducible exact Up.refl _ | with_reducible assumption | with_reducible refine Up.alloc ?_ _ | with_reducible refine Up.drew ?_ | with_reducible refine Up.drewN ?_ _ | with_reducible refine Up.setCell ?_ (by (try simp only [World.size_alloc, World.size_setCell, World.heap_drewN, World.size_drew]); omega) _ | (with_reducible refine Up.trans ?_ (by with_reducible assumption)))))).2.at_ (by omega)
        have c0 := hc0 0 (by omega)
        have d0 := hc2 0 (by omega)
        change _ = some (Value.int .i64 (nth zs 0)) at c0
        change _ = some (Value.int .i64 (nth ys 0)) at d0
        have c1 := hc0 1 (by omega)
        have d1 := hc2 1 (by omega)
        change _ = some (Value.int .i64 (nth zs 1)) at c1
        change _ = some (Value.int .i64 (nth ys 1)) at d1
        have c2 := hc0 2 (by omega)
        have d2 := hc2 2 (by omega)
        change _ = some (Value.int .i64 (nth zs 2)) at c2
        change _ = some (Value.int .i64 (nth ys 2)) at d2
        rw [Nat.add_zero] at c0 d0
        have s1 : wn.cell? ⟨w.heap.size, 0, none⟩ = some (.slice (some ⟨b, o, none⟩) 3 c) := (by simp [isSome_setCell, cell_setI, cell_drewI, cell_allocI, ↓IntWalk.iteOmega, *])
        have s2 : wn.cell? ⟨w.heap.size, 1, none⟩ = some (.slice (some ⟨b2, o2, none⟩) 3 d) := (by simp [isSome_setCell, cell_setI, cell_drewI, cell_allocI, ↓IntWalk.iteOmega, *])
        clear hc0 hc2 h k hB h1 k1 hc hf
        go_wp2_with fail
        refine wp_loop_rounds 4 ?_
        rw [rounds_succ]
        go_wp2_with fail
        refine wp_region_later (by kernel_rfl) (by kernel_rfl) ?_
        repeat (go_big_quiet_step ((go_at_call 51; exact later_same (i_in _ _ _ _))))
        refine wpQuiet_nil ?_; intro _ hw'; obtain ⟨x, hw''⟩ := hw'; subst hw''; obtain ⟨wn, hu⟩ := x; dsimp only; obtain ⟨N, J, JF, hn1, hn2, hz, hc, hf⟩ := hu.facts; (try simp only [World.size_alloc, World.size_setCell, World.heap_drewN, World.size_drew] at hn1 hn2)
        go_wp2_with fail
        rw [rounds_succ]
        go_wp2_with fail
        refine wp_region_later (by kernel_rfl) (by kernel_rfl) ?_
        repeat (go_big_quiet_step ((go_at_call 51; exact later_same (i_in _ _ _ _))))
        refine wpQuiet_nil ?_; intro _ hw'; obtain ⟨x, hw''⟩ := hw'; subst hw''; obtain ⟨wn, hu⟩ := x; dsimp only; obtain ⟨N, J, JF, hn1, hn2, hz, hc, hf⟩ := hu.facts; (try simp only [World.size_alloc, World.size_setCell, World.heap_drewN, World.size_drew] at hn1 hn2)
        go_wp2_with fail
        go_ret2
        refine ⟨?_, ?_⟩
        · rw [hv.out _ _ _ g0 g1 rfl]; rfl
        (repeat' (first | with_reducible exact Up.refl _ | with_reducible assumption | with_reducible refine Up.alloc ?_ _ | with_reducible refine Up.drew ?_ | with_reducible refine Up.drewN ?_ _ | with_reducible refine Up.setCell ?_ (by (try simp only [World.size_alloc, World.size_setCell, World.heap_drewN, World.size_drew]); omega) _ | (with_reducible refine Up.trans ?_ (by with_reducible assumption))))
    · have g0 : inB 0 (nth zs 0) (nth ys 0) = false := by simpa using g0
      go_enter Try.func14, Try.ntmps14
      go_wp2_with fail
      refine (hB _ h1.out k1.out).mono ?_
      rintro e wn ⟨rfl, hu⟩; obtain ⟨N, J, JF, hn1, hn2, hz, hc, hf⟩ := hu.facts; (try simp only [World.size_alloc, World.size_setCell, World.heap_drewN, World.size_drew] at hn1 hn2)
      have hv := hide hv
      obtain ⟨b, o, rfl, hbl, hc0⟩ := (h.up (show Up w wn by (repeat' (first | with_reducible exact Up.refl _ | with_reducible assumption | with_reducible refine Up.alloc ?_ _ | with_reducible refine Up.drew ?_ | with_reducible refine Up.drewN ?_ _ | with_reducible refine Up.setCell ?_ (by (try simp only [World.size_alloc, World.size_setCell, World.heap_drewN, World.size_drew]); omega) _ | (with_reducible refine Up.trans ?_ (by with_reducible assumption)))))).2.at_ (by omega)
      obtain ⟨b2, o2, rfl, hbl2, hc2⟩ := (k.up (show Up w wn by (repeat' (first | with_reducible exact Up.refl _ | with_reducible assumption | with_reducible refine Up.alloc ?_ _ | with_reducible refine Up.drew ?_ | with_reducible refine Up.drewN ?_ _ | with_reducible refine Up.setCell ?_ (by (try simp only [World.size_alloc, World.size_setCell, World.heap_drewN, World.size_drew]); omega) _ | (with_reducible refine Up.trans ?_ (by with_reducible assumption)))))).2.at_ (by omega)
      have c0 := hc0 0 (by omega)
      have d0 := hc2 0 (by omega)
      change _ = some (Value.int .i64 (nth zs 0)) at c0
      change _ = some (Value.int .i64 (nth ys 0)) at d0
      have c1 := hc0 1 (by omega)
      have d1 := hc2 1 (by omega)
      change _ = some (Value.int .i64 (nth zs 1)) at c1
      change _ = some (Value.int .i64 (nth ys 1)) at d1
      have c2 := hc0 2 (by omega)
      have d2 := hc2 2 (by omega)
      change _ = some (Value.int .i64 (nth zs 2)) at c2
      change _ = some (Value.int .i64 (nth ys 2)) at d2
      rw [Nat.add_zero] at c0 d0
      have s1 : wn.cell? ⟨w.heap.size, 0, none⟩ = some (.slice (some ⟨b, o, none⟩) 3 c) := (by simp [isSome_setCell, cell_setI, cell_drewI, cell_allocI, ↓IntWalk.iteOmega, *])
      have s2 : wn.cell? ⟨w.heap.size, 1, none⟩ = some (.slice (some ⟨b2, o2, none⟩) 3 d) := (by simp [isSome_setCell, cell_setI, cell_drewI, cell_allocI, ↓IntWalk.iteOmega, *])
      clear hc0 hc2 h k hB h1 k1 hc hf
      go_wp2_with fail
      refine wp_loop_rounds 4 ?_
      rw [rounds_succ]
      go_wp2_with fail
      refine wp_region_later (by kernel_rfl) (by kernel_rfl) ?_
      repeat (go_big_quiet_step ((go_at_call 51; exact later_same (i_in _ _ _ _))))
      refine wpQuiet_nil ?_; intro _ hw'; obtain ⟨x, hw''⟩ := hw'; subst hw''; obtain ⟨wn, hu⟩ := x; dsimp only; obtain ⟨N, J, JF, hn1, hn2, hz, hc, hf⟩ := hu.facts; (try simp only [World.size_alloc, World.size_setCell, World.heap_drewN, World.size_drew] at hn1 hn2)
      go_wp2_with fail
      go_ret2
      refine ⟨?_, ?_⟩
      · rw [hv.out _ _ _ g0 rfl rfl]; rfl
      (repeat' (first | with_reducible exact Up.refl _ | with_reducible assumption | with_reducible refine Up.alloc ?_ _ | with_reducible refine Up.drew ?_ | with_reducible refine Up.drewN ?_ _ | with_reducible refine Up.setCell ?_ (by (try simp only [World.size_alloc, World.size_setCell, World.heap_drewN, World.size_drew]); omega) _ | (with_reducible refine Up.trans ?_ (by with_reducible assumption))))
  · have e0 : isBodyB zs ys = false := by simpa using e0
    rw [e0] at hB
    have hv : holdsV zs ys = .tuple #[.bool false, .int .i64 1] := by unfold holdsV; rw [e0]; rfl
    rw [hv]
    clear hv e0
    go_enter Try.func14, Try.ntmps14
    go_wp2_with fail
    refine (hB _ h1.out k1.out).mono ?_
    rintro e wn ⟨rfl, hu⟩; obtain ⟨N, J, JF, hn1, hn2, hz, hc, hf⟩ := hu.facts; (try simp only [World.size_alloc, World.size_setCell, World.heap_drewN, World.size_drew] at hn1 hn2)
    clear hB h1 k1 h k
    go_wp2_with fail
    go_ret2
    refine ⟨rfl, ?_⟩
    (repeat' (first | with_reducible exact Up.refl _ | with_reducible assumption | with_reducible refine Up.alloc ?_ _ | with_reducible refine Up.drew ?_ | with_reducible refine Up.drewN ?_ _ | with_reducible refine Up.setCell ?_ (by (try simp only [World.size_alloc, World.size_setCell, World.heap_drewN, World.size_drew]); omega) _ | (with_reducible refine Up.trans ?_ (by with_reducible assumption))))
end Go.Proofs.Ythjcdojnhcnjfaa
