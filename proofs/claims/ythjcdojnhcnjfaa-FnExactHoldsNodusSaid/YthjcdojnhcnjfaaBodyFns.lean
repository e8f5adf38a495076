import Derived.Test.YthjcdojnhcnjfaaSlices
import Derived.Test.YthjcdojnhcnjfaaSetModel
/- IsBody: the contracts. -/
namespace Go.Proofs.Ythjcdojnhcnjfaa
set_option linter.unusedSimpArgs false
set_option linter.unusedVariables false
open Go.RowKit
attribute [local go_sem] cell_allocI frz_allocI later_cell later_frz

def edgesB (zs : List Int) : Bool := decide (zs.length = 3) && (inB (nth zs 0) (-10000) 10000 && inB (nth zs 1) (-10000) 10000 && inB (nth zs 2) (-10000) 10000)
theorem edgesB_iff {zs : List Int} : edgesB zs = true ↔ (zs.length = 3 ∧ ∀ i, i < 3 → -10000 ≤ nth zs i ∧ nth zs i ≤ 10000) := by
  simp only [edgesB, inB, Bool.and_eq_true, decide_eq_true_eq]
  constructor
  · rintro ⟨h, ⟨h0, h1⟩, h2⟩
    refine ⟨h, fun i hi => ?_⟩
    match i, hi with
    | 0, _ => exact h0
    | 1, _ => exact h1
    | 2, _ => exact h2
  · rintro ⟨h, k⟩
    exact ⟨h, ⟨k 0 (by omega), k 1 (by omega)⟩, k 2 (by omega)⟩
def isBodyB (zs ys : List Int) : Bool := edgesB zs && edgesB ys && (decide (nth zs 0 < nth ys 0) && decide (nth zs 1 < nth ys 1) && decide (nth zs 2 < nth ys 2))
theorem isBodyB_iff {zs ys : List Int} : isBodyB zs ys = true ↔ (edgesB zs = true ∧ edgesB ys = true ∧ nth zs 0 < nth ys 0 ∧ nth zs 1 < nth ys 1 ∧ nth zs 2 < nth ys 2) := by
  simp only [isBodyB, Bool.and_eq_true, decide_eq_true_eq]
  exact ⟨fun ⟨⟨a, b⟩, ⟨c, d⟩, e⟩ => ⟨a, b, c, d, e⟩, fun ⟨a, b, c, d, e⟩ => ⟨⟨a, b⟩, ⟨c, d⟩, e⟩⟩
theorem i_areEdges (A : Option Addr) (n c : Nat) (zs : List Int) (w : World) (h : RdI w A n zs) :
    Calls Try.prog 53 #[.slice A n c] w fun e w' => e = .returned (.bool (edgesB zs)) ∧ w = w' := by
  by_cases hn : n = 3
  · subst hn
    obtain ⟨b, o, rfl, hbl, hc⟩ := h.2.at_ (by omega)
    have c0 := hc 0 (by omega)
    have c1 := hc 1 (by omega)
    have c2 := hc 2 (by omega)
    change _ = some (Value.int .i64 (nth zs 0)) at c0
    change _ = some (Value.int .i64 (nth zs 1)) at c1
    change _ = some (Value.int .i64 (nth zs 2)) at c2
    have hv : edgesB zs = (inB (nth zs 0) (-10000) 10000 && inB (nth zs 1) (-10000) 10000 && inB (nth zs 2) (-10000) 10000) := by unfold edgesB; rw [h.1]; simp
    rw [hv]
    clear hc h hv
    rw [Nat.add_zero] at c0
    go_enter Try.func53, Try.ntmps53
    go_wp2_with (go_at_call 51; refine (i_in _ _ _ _).mono ?_; rintro e w' ⟨rfl, rfl⟩)
    all_goals (go_ret; refine ⟨ret_bool ?_, rfl⟩; simp [*])
  · have hv : edgesB zs = false := by unfold edgesB; rw [h.1]; simp [hn]
    rw [hv]
    have hb : ((n : Int) == 3) = false := by simp; omega
    go_enter Try.func53, Try.ntmps53
    go_wp2
    go_ret
    exact ⟨rfl, rfl⟩
theorem s_l21Part (A : Option Addr) (n c : Nat) (zs : List Int) (w : World) (h : RdI w A n zs) (hn : n ≤ 1048576) :
    Calls Try.prog 52 #[.slice A n c] w fun e w' => e = .returned (.bool (edgesB zs)) ∧ Up w w' := by
  go_enter Try.func52, Try.ntmps52
  go_wp2
  have h := hide h
  go_loopw [3] (fun i wr => ∃ k : Nat, k ≤ n ∧ i = .int .i64 k ∧ (∀ j, j < k → inB (nth zs j) (-10000) 10000 = true) ∧ Up w wr) (fun i _ => n - (intOf i).toNat)
  case atStart => exact ⟨0, Nat.zero_le _, rfl, fun j hj => by omega, Up.refl _⟩
  case round =>
    obtain ⟨k, hk, rfl, hok, hU⟩ := hrel
    have hok := hide hok
    by_cases hlt : k < n
    · obtain ⟨b, o, rfl, hbl, hc⟩ := (h.out.2.up hU).at_ (by omega)
      have c0 := hc k hlt
      change _ = some (Value.int .i64 (nth zs k)) at c0
      have hl0 : (k : Int) < (n : Int) := by omega
      clear hc
      by_cases hm : inB (nth zs k) (-10000) 10000 = true
      · have hs : ∀ j, j < k + 1 → inB (nth zs j) (-10000) 10000 = true := fun j hj => by
          rcases Nat.lt_succ_iff_lt_or_eq.1 hj with h' | h'
          · exact hok.out j h'
          · rw [h']; exact hm
        have Hs := hide hs
        clear hs
        go_wp2_with (go_at_call 50; refine (s_l01In _ _ _ _).mono ?_; rintro e w' ⟨rfl, rfl⟩)
        go_roundw
        case rel => exact ⟨k + 1, by omega, by go_num, Hs.out, hU⟩
        case measure => simp [intOf]; omega
      · have hm : inB (nth zs k) (-10000) 10000 = false := by simpa using hm
        have hff : edgesB zs = false := by
          cases e : edgesB zs with
          | false => rfl
          | true =>
            obtain ⟨e1, e2⟩ := edgesB_iff.1 e
            have := h.out.1
            rw [inB_iff.2 (e2 k (by omega))] at hm
            cases hm
        have Hff := hide hff
        clear hff
        go_wp2_with (go_at_call 50; refine (s_l01In _ _ _ _).mono ?_; rintro e w' ⟨rfl, rfl⟩)
        go_ret
        exact ⟨by rw [Hff.out]; rfl, hU⟩
    · have hff : edgesB zs = decide ((n : Int) = 3) := by
        rw [Bool.eq_iff_iff, edgesB_iff, decide_eq_true_eq]
        have := h.out.1
        constructor
        · rintro ⟨e, _⟩; omega
        · intro e; exact ⟨by omega, fun i hi => inB_iff.1 (hok.out i (by omega))⟩
      have Hff := hide hff
      clear hff
      go_wp2
      all_goals (go_ret; refine ⟨ret_bool ?_, hU⟩; rw [Hff.out, Bool.eq_iff_iff]; simp)
set_option maxHeartbeats 1000000 in
theorem i_IsBody (A : Option Addr) (n c : Nat) (zs : List Int) (B : Option Addr) (m d : Nat) (ys : List Int) (w : World) (h : RdI w A n zs) (k : RdI w B m ys) :
    Calls Try.prog 39 #[.agg #[.slice A n c, .slice B m d]] w fun e w' => e = .returned (.bool (isBodyB zs ys)) ∧ Up w w' := by
  have h1 := hide (h.up ((Up.refl w).alloc (.cells #[.slice A n c, .slice B m d] 28)))
  have k1 := hide (k.up ((Up.refl w).alloc (.cells #[.slice A n c, .slice B m d] 28)))
  by_cases e1 : edgesB zs = true
  · by_cases e2 : edgesB ys = true
    · obtain ⟨l1, _⟩ := edgesB_iff.1 e1
      obtain ⟨l2, _⟩ := edgesB_iff.1 e2
      obtain rfl : n = 3 := by rw [← h.1, l1]
      obtain rfl : m = 3 := by rw [← k.1, l2]
      have hv : isBodyB zs ys = (decide (nth zs 0 < nth ys 0) && decide (nth zs 1 < nth ys 1) && decide (nth zs 2 < nth ys 2)) := by unfold isBodyB; rw [e1, e2]; rfl
      rw [hv]
      clear hv l1 l2
      obtain ⟨b, o, rfl, hbl, hc⟩ := h.2.at_ (by omega)
      obtain ⟨b2, o2, rfl, hbl2, hc2⟩ := k.2.at_ (by omega)
      have c0 := hc 0 (by omega)
      have c1 := hc 1 (by omega)
      have c2 := hc 2 (by omega)
      have d0 := hc2 0 (by omega)
      have d1 := hc2 1 (by omega)
      have d2 := hc2 2 (by omega)
      change _ = some (Value.int .i64 (nth zs 0)) at c0
      change _ = some (Value.int .i64 (nth zs 1)) at c1
      change _ = some (Value.int .i64 (nth zs 2)) at c2
      change _ = some (Value.int .i64 (nth ys 0)) at d0
      change _ = some (Value.int .i64 (nth ys 1)) at d1
      change _ = some (Value.int .i64 (nth ys 2)) at d2
      rw [Nat.add_zero] at c0 d0
      clear hc hc2 h k
      by_cases g0 : nth zs 0 < nth ys 0
      · by_cases g1 : nth zs 1 < nth ys 1
        · go_enter Try.func39, Try.ntmps39
          go_wp2_with fail
          refine (i_areEdges _ _ _ _ _ h1.out).mono ?_
          rintro e w' ⟨rfl, rfl⟩
          go_wp2_with fail
          refine (i_areEdges _ _ _ _ _ k1.out).mono ?_
          rintro e w' ⟨rfl, rfl⟩
          go_wp2
          refine wp_region_later (by kernel_rfl) (by kernel_rfl) ?_
          repeat (go_big_quiet_step (fail))
          refine wpQuiet_nil ?_; intro _ hw'; obtain ⟨x, hw''⟩ := hw'; subst hw''; obtain ⟨wn, hu⟩ := x; dsimp only; obtain ⟨N, J, JF, hn1, hn2, hz, hc, hf⟩ := hu.facts; (try simp only [World.size_alloc, World.size_setCell, World.heap_drewN, World.size_drew] at hn1 hn2)
          go_wp2
          go_ret
          refine ⟨ret_bool (by simp [g0, g1]), ?_⟩
          (repeat' (first | with_reducible exact Up.refl _ | with_reducible assumption | with_reducible refine Up.alloc ?_ _ | with_reducible refine Up.drew ?_ | with_reducible refine Up.drewN ?_ _ | with_reducible refine Up.setCell ?_ (by (try simp only [World.size_alloc, World.size_setCell, World.heap_drewN, World.size_drew]); omega) _ | (with_reducible refine Up.trans ?_ (by with_reducible assumption))))
        · have f1 : decide (nth zs 1 < nth ys 1) = false := by simp; omega
          go_enter Try.func39, Try.ntmps39
          go_wp2_with fail
          refine (i_areEdges _ _ _ _ _ h1.out).mono ?_
          rintro e w' ⟨rfl, rfl⟩
          go_wp2_with fail
          refine (i_areEdges _ _ _ _ _ k1.out).mono ?_
          rintro e w' ⟨rfl, rfl⟩
          go_wp2
          refine wp_region_later (by kernel_rfl) (by kernel_rfl) ?_
          repeat (go_big_quiet_step (fail))
          refine wpQuiet_nil ?_; intro _ hw'; obtain ⟨x, hw''⟩ := hw'; subst hw''; obtain ⟨wn, hu⟩ := x; dsimp only; obtain ⟨N, J, JF, hn1, hn2, hz, hc, hf⟩ := hu.facts; (try simp only [World.size_alloc, World.size_setCell, World.heap_drewN, World.size_drew] at hn1 hn2)
          go_wp2
          go_ret
          refine ⟨ret_bool (by simp [g0, f1]), ?_⟩
          (repeat' (first | with_reducible exact Up.refl _ | with_reducible assumption | with_reducible refine Up.alloc ?_ _ | with_reducible refine Up.drew ?_ | with_reducible refine Up.drewN ?_ _ | with_reducible refine Up.setCell ?_ (by (try simp only [World.size_alloc, World.size_setCell, World.heap_drewN, World.size_drew]); omega) _ | (with_reducible refine Up.trans ?_ (by with_reducible assumption))))
      · have f0 : decide (nth zs 0 < nth ys 0) = false := by simp; omega
        go_enter Try.func39, Try.ntmps39
        go_wp2_with fail
        refine (i_areEdges _ _ _ _ _ h1.out).mono ?_
        rintro e w' ⟨rfl, rfl⟩
        go_wp2_with fail
        refine (i_areEdges _ _ _ _ _ k1.out).mono ?_
        rintro e w' ⟨rfl, rfl⟩
        go_wp2
        refine wp_region_later (by kernel_rfl) (by kernel_rfl) ?_
        repeat (go_big_quiet_step (fail))
        refine wpQuiet_nil ?_; intro _ hw'; obtain ⟨x, hw''⟩ := hw'; subst hw''; obtain ⟨wn, hu⟩ := x; dsimp only; obtain ⟨N, J, JF, hn1, hn2, hz, hc, hf⟩ := hu.facts; (try simp only [World.size_alloc, World.size_setCell, World.heap_drewN, World.size_drew] at hn1 hn2)
        go_wp2
        go_ret
        refine ⟨ret_bool (by simp [f0]), ?_⟩
        (repeat' (first | with_reducible exact Up.refl _ | with_reducible assumption | with_reducible refine Up.alloc ?_ _ | with_reducible refine Up.drew ?_ | with_reducible refine Up.drewN ?_ _ | with_reducible refine Up.setCell ?_ (by (try simp only [World.size_alloc, World.size_setCell, World.heap_drewN, World.size_drew]); omega) _ | (with_reducible refine Up.trans ?_ (by with_reducible assumption))))
    · have e2 : edgesB ys = false := by simpa using e2
      have hv : isBodyB zs ys = false := by unfold isBodyB; rw [e2]; simp
      rw [hv]
      go_enter Try.func39, Try.ntmps39
      go_wp2_with fail
      refine (i_areEdges _ _ _ _ _ h1.out).mono ?_
      rintro e w' ⟨rfl, rfl⟩
      go_wp2_with fail
      refine (i_areEdges _ _ _ _ _ k1.out).mono ?_
      rintro e w' ⟨rfl, rfl⟩
      go_wp2
      go_ret
      refine ⟨rfl, ?_⟩
      (repeat' (first | with_reducible exact Up.refl _ | with_reducible assumption | with_reducible refine Up.alloc ?_ _ | with_reducible refine Up.drew ?_ | with_reducible refine Up.drewN ?_ _ | with_reducible refine Up.setCell ?_ (by (try simp only [World.size_alloc, World.size_setCell, World.heap_drewN, World.size_drew]); omega) _ | (with_reducible refine Up.trans ?_ (by with_reducible assumption))))
  · have e1 : edgesB zs = false := by simpa using e1
    have hv : isBodyB zs ys = false := by unfold isBodyB; rw [e1]; simp
    rw [hv]
    go_enter Try.func39, Try.ntmps39
    go_wp2_with fail
    refine (i_areEdges _ _ _ _ _ h1.out).mono ?_
    rintro e w' ⟨rfl, rfl⟩
    go_wp2
    go_ret
    refine ⟨rfl, ?_⟩
    (repeat' (first | with_reducible exact Up.refl _ | with_reducible assumption | with_reducible refine Up.alloc ?_ _ | with_reducible refine Up.drew ?_ | with_reducible refine Up.drewN ?_ _ | with_reducible refine Up.setCell ?_ (by (try simp only [World.size_alloc, World.size_setCell, World.heap_drewN, World.size_drew]); omega) _ | (with_reducible refine Up.trans ?_ (by with_reducible assumption))))
set_option maxHeartbeats 1000000 in
theorem s_IsBody (A : Option Addr) (n c : Nat) (zs : List Int) (B : Option Addr) (m d : Nat) (ys : List Int) (w : World) (h : RdI w A n zs) (k : RdI w B m ys) (hn : n ≤ 1048576) (hm : m ≤ 1048576) :
    Calls Try.prog 49 #[.agg #[.slice A n c, .slice B m d]] w fun e w' => e = .returned (.bool (isBodyB zs ys)) ∧ Up w w' := by
  have h1 := hide (h.up ((Up.refl w).alloc (.cells #[.slice A n c, .slice B m d] 28)))
  have k1 := hide (k.up ((Up.refl w).alloc (.cells #[.slice A n c, .slice B m d] 28)))
  by_cases e1 : edgesB zs = true
  · by_cases e2 : edgesB ys = true
    · obtain ⟨l1, _⟩ := edgesB_iff.1 e1
      obtain ⟨l2, _⟩ := edgesB_iff.1 e2
      obtain rfl : n = 3 := by rw [← h.1, l1]
      obtain rfl : m = 3 := by rw [← k.1, l2]
      have hv : isBodyB zs ys = (decide (nth zs 0 < nth ys 0) && decide (nth zs 1 < nth ys 1) && decide (nth zs 2 < nth ys 2)) := by unfold isBodyB; rw [e1, e2]; rfl
      rw [hv]
      clear hv l1 l2
      obtain ⟨b, o, rfl, hbl, hc⟩ := h.2.at_ (by omega)
      obtain ⟨b2, o2, rfl, hbl2, hc2⟩ := k.2.at_ (by omega)
      have c0 := hc 0 (by omega)
      have c1 := hc 1 (by omega)
      have c2 := hc 2 (by omega)
      have d0 := hc2 0 (by omega)
      have d1 := hc2 1 (by omega)
      have d2 := hc2 2 (by omega)
      change _ = some (Value.int .i64 (nth zs 0)) at c0
      change _ = some (Value.int .i64 (nth zs 1)) at c1
      change _ = some (Value.int .i64 (nth zs 2)) at c2
      change _ = some (Value.int .i64 (nth ys 0)) at d0
      change _ = some (Value.int .i64 (nth ys 1)) at d1
      change _ = some (Value.int .i64 (nth ys 2)) at d2
      rw [Nat.add_zero] at c0 d0
      clear hc hc2 h k
      by_cases g0 : nth zs 0 < nth ys 0
      · by_cases g1 : nth zs 1 < nth ys 1
        · go_enter Try.func49, Try.ntmps49
          go_wp2_with fail
          refine (s_l21Part _ _ _ _ _ (h1.out) (by omega)).mono ?_
          rintro e wn ⟨rfl, hu⟩; obtain ⟨N, J, JF, hn1, hn2, hz, hc, hf⟩ := hu.facts; (try simp only [World.size_alloc, World.size_setCell, World.heap_drewN, World.size_drew] at hn1 hn2)
          go_wp2_with fail
          refine (s_l21Part _ _ _ _ _ (k1.out.up hu) (by omega)).mono ?_
          have hu1 := hide hu
          rintro e wn2 ⟨rfl, hu⟩; obtain ⟨N, J, JF, hn1, hn2, hz, hc, hf⟩ := hu.facts; (try simp only [World.size_alloc, World.size_setCell, World.heap_drewN, World.size_drew] at hn1 hn2)
          go_wp2
          refine wp_region_later (by kernel_rfl) (by kernel_rfl) ?_
          repeat (go_big_quiet_step (fail))
          refine wpQuiet_nil ?_; intro _ hw'; obtain ⟨x, hw''⟩ := hw'; subst hw''; obtain ⟨wn, hu⟩ := x; dsimp only; obtain ⟨N, J, JF, hn1, hn2, hz, hc, hf⟩ := hu.facts; (try simp only [World.size_alloc, World.size_setCell, World.heap_drewN, World.size_drew] at hn1 hn2)
          go_wp2
          go_ret
          refine ⟨ret_bool (by simp [g0, g1]), ?_⟩
          (repeat' (first | with_reducible exact Up.refl _ | with_reducible assumption | with_reducible refine Up.alloc ?_ _ | with_reducible refine Up.drew ?_ | with_reducible refine Up.drewN ?_ _ | with_reducible refine Up.setCell ?_ (by (try simp only [World.size_alloc, World.size_setCell, World.heap_drewN, World.size_drew]); omega) _ | (with_reducible refine Up.trans ?_ (by with_reducible assumption))))
        · have f1 : decide (nth zs 1 < nth ys 1) = false := by simp; omega
          go_enter Try.func49, Try.ntmps49
          go_wp2_with fail
          refine (s_l21Part _ _ _ _ _ (h1.out) (by omega)).mono ?_
          rintro e wn ⟨rfl, hu⟩; obtain ⟨N, J, JF, hn1, hn2, hz, hc, hf⟩ := hu.facts; (try simp only [World.size_alloc, World.size_setCell, World.heap_drewN, World.size_drew] at hn1 hn2)
          go_wp2_with fail
          refine (s_l21Part _ _ _ _ _ (k1.out.up hu) (by omega)).mono ?_
          have hu1 := hide hu
          rintro e wn2 ⟨rfl, hu⟩; obtain ⟨N, J, JF, hn1, hn2, hz, hc, hf⟩ := hu.facts; (try simp only [World.size_alloc, World.size_setCell, World.heap_drewN, World.size_drew] at hn1 hn2)
          go_wp2
          refine wp_region_later (by kernel_rfl) (by kernel_rfl) ?_
          repeat (go_big_quiet_step (fail))
          refine wpQuiet_nil ?_; intro _ hw'; obtain ⟨x, hw''⟩ := hw'; subst hw''; obtain ⟨wn, hu⟩ := x; dsimp only; obtain ⟨N, J, JF, hn1, hn2, hz, hc, hf⟩ := hu.facts; (try simp only [World.size_alloc, World.size_setCell, World.heap_drewN, World.size_drew] at hn1 hn2)
          go_wp2
          go_ret
          refine ⟨ret_bool (by simp [g0, f1]), ?_⟩
          (repeat' (first | with_reducible exact Up.refl _ | with_reducible assumption | with_reducible refine Up.alloc ?_ _ | with_reducible refine Up.drew ?_ | with_reducible refine Up.drewN ?_ _ | with_reducible refine Up.setCell ?_ (by (try simp only [World.size_alloc, World.size_setCell, World.heap_drewN, World.size_drew]); omega) _ | (with_reducible refine Up.trans ?_ (by with_reducible assumption))))
      · have f0 : decide (nth zs 0 < nth ys 0) = false := by simp; omega
        go_enter Try.func49, Try.ntmps49
        go_wp2_with fail
        refine (s_l21Part _ _ _ _ _ (h1.out) (by omega)).mono ?_
        rintro e wn ⟨rfl, hu⟩; obtain ⟨N, J, JF, hn1, hn2, hz, hc, hf⟩ := hu.facts; (try simp only [World.size_alloc, World.size_setCell, World.heap_drewN, World.size_drew] at hn1 hn2)
        go_wp2_with fail
        refine (s_l21Part _ _ _ _ _ (k1.out.up hu) (by omega)).mono ?_
        have hu1 := hide hu
        rintro e wn2 ⟨rfl, hu⟩; obtain ⟨N, J, JF, hn1, hn2, hz, hc, hf⟩ := hu.facts; (try simp only [World.size_alloc, World.size_setCell, World.heap_drewN, World.size_drew] at hn1 hn2)
        go_wp2
        refine wp_region_later (by kernel_rfl) (by kernel_rfl) ?_
        repeat (go_big_quiet_step (fail))
        refine wpQuiet_nil ?_; intro _ hw'; obtain ⟨x, hw''⟩ := hw'; subst hw''; obtain ⟨wn, hu⟩ := x; dsimp only; obtain ⟨N, J, JF, hn1, hn2, hz, hc, hf⟩ := hu.facts; (try simp only [World.size_alloc, World.size_setCell, World.heap_drewN, World.size_drew] at hn1 hn2)
        go_wp2
        go_ret
        refine ⟨ret_bool (by simp [f0]), ?_⟩
        (repeat' (first | with_reducible exact Up.refl _ | with_reducible assumption | with_reducible refine Up.alloc ?_ _ | with_reducible refine Up.drew ?_ | with_reducible refine Up.drewN ?_ _ | with_reducible refine Up.setCell ?_ (by (try simp only [World.size_alloc, World.size_setCell, World.heap_drewN, World.size_drew]); omega) _ | (with_reducible refine Up.trans ?_ (by with_reducible assumption))))
    · have e2 : edgesB ys = false := by simpa using e2
      have hv : isBodyB zs ys = false := by unfold isBodyB; rw [e2]; simp
      rw [hv]
      go_enter Try.func49, Try.ntmps49
      go_wp2_with fail
      refine (s_l21Part _ _ _ _ _ (h1.out) (by omega)).mono ?_
      rintro e wn ⟨rfl, hu⟩; obtain ⟨N, J, JF, hn1, hn2, hz, hc, hf⟩ := hu.facts; (try simp only [World.size_alloc, World.size_setCell, World.heap_drewN, World.size_drew] at hn1 hn2)
      go_wp2_with fail
      refine (s_l21Part _ _ _ _ _ (k1.out.up hu) (by omega)).mono ?_
      have hu1 := hide hu
      rintro e wn2 ⟨rfl, hu⟩; obtain ⟨N, J, JF, hn1, hn2, hz, hc, hf⟩ := hu.facts; (try simp only [World.size_alloc, World.size_setCell, World.heap_drewN, World.size_drew] at hn1 hn2)
      go_wp2
      go_ret
      refine ⟨rfl, ?_⟩
      (repeat' (first | with_reducible exact Up.refl _ | with_reducible assumption | with_reducible refine Up.alloc ?_ _ | with_reducible refine Up.drew ?_ | with_reducible refine Up.drewN ?_ _ | with_reducible refine Up.setCell ?_ (by (try simp only [World.size_alloc, World.size_setCell, World.heap_drewN, World.size_drew]); omega) _ | (with_reducible refine Up.trans ?_ (by with_reducible assumption))))
  · have e1 : edgesB zs = false := by simpa using e1
    have hv : isBodyB zs ys = false := by unfold isBodyB; rw [e1]; simp
    rw [hv]
    go_enter Try.func49, Try.ntmps49
    go_wp2_with fail
    refine (s_l21Part _ _ _ _ _ (h1.out) (by omega)).mono ?_
    rintro e wn ⟨rfl, hu⟩; obtain ⟨N, J, JF, hn1, hn2, hz, hc, hf⟩ := hu.facts; (try simp only [World.size_alloc, World.size_setCell, World.heap_drewN, World.size_drew] at hn1 hn2)
    go_wp2
    go_ret
    refine ⟨rfl, ?_⟩
    (repeat' (first | with_reducible exact Up.refl _ | with_reducible assumption | with_reducible refine Up.alloc ?_ _ | with_reducible refine Up.drew ?_ | with_reducible refine Up.drewN ?_ _ | with_reducible refine Up.setCell ?_ (by (try simp only [World.size_alloc, World.size_setCell, World.heap_drewN, World.size_drew]); omega) _ | (with_reducible refine Up.trans ?_ (by with_reducible assumption))))
end Go.Proofs.Ythjcdojnhcnjfaa
