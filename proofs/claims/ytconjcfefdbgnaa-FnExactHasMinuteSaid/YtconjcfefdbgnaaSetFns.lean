import Derived.Test.YtconjcfefdbgnaaSetModel
/- The contracts of the functions on sets of minutes. -/
namespace Go.Proofs.Ytconjcfefdbgnaa
open Go.RowKit
attribute [local go_sem] cell_allocI frz_allocI later_cell later_frz
set_option maxHeartbeats 1000000 in
theorem i_IsSet (A : Option Addr) (n c : Nat) (zs : List Int) (w : World) (h : RdI w A n zs) (hn : n ≤ 1048576) :
    Calls Try.prog 17 #[.slice A n c] w fun e w' => e = .returned (.bool (isSetB zs)) ∧ Up w w' := by
  obtain ⟨hlen, hr⟩ := h
  by_cases h0 : n % 2 = 0
  · by_cases h1 : n ≤ 80
    · go_enter Try.func17, Try.ntmps17
      go_wp2
      go_loop [16] (fun i => ∃ k : Nat, k ≤ n ∧ i = .int .i64 k ∧ ∀ j, j < k → okAt zs j = true) (fun i => n - (intOf i).toNat)
      case atStart => exact ⟨0, Nat.zero_le _, rfl, fun j hj => by omega⟩
      case round =>
        obtain ⟨k, hk, rfl, hok⟩ := hrel
        have hok := hide hok
        by_cases hlt : k < n
        · obtain ⟨b, o, rfl, hbl, hc⟩ := hr.at_ (by omega)
          have c0 := hc k hlt
          have c1 := hc (k - 1) (by omega)
          change _ = some (Value.int .i64 (nth zs k)) at c0
          change _ = some (Value.int .i64 (nth zs (k - 1))) at c1
          clear hc hr
          by_cases hm : inB (nth zs k) 0 1439 = true
          · obtain ⟨m1, m2⟩ := inB_iff.1 hm
            by_cases hp : k % 2 = 1
            · by_cases hl : nth zs k < nth zs (k - 1)
              · have hf : isSetB zs = false := isSetB_no (i := k) (by omega) (okAt_no (by omega))
                have hf := hide hf
                go_wp2_with (go_at_call 47; refine (i_isMinute _ _).mono ?_; rintro e w' ⟨rfl, rfl⟩)
                go_ret
                exact ⟨by rw [hf.out]; rfl, Up.refl _⟩
              · have hs := hide (ok_snoc hok.out (okAt_iff.2 (by omega)))
                go_wp2_with (go_at_call 47; refine (i_isMinute _ _).mono ?_; rintro e w' ⟨rfl, rfl⟩)
                go_round
                case rel => exact ⟨k + 1, by omega, by go_num, hs.out⟩
                case measure => simp [intOf]; omega
            · by_cases hz : k ≤ 0
              · have hs := hide (ok_snoc hok.out (okAt_iff.2 (by omega)))
                go_wp2_with (go_at_call 47; refine (i_isMinute _ _).mono ?_; rintro e w' ⟨rfl, rfl⟩)
                go_round
                case rel => exact ⟨k + 1, by omega, by go_num, hs.out⟩
                case measure => simp [intOf]; omega
              · obtain ⟨b1, b2, _, _⟩ := okAt_iff.1 (hok.out (k - 1) (by omega))
                by_cases hl : nth zs k ≤ nth zs (k - 1) + 1
                · have hf : isSetB zs = false := isSetB_no (i := k) (by omega) (okAt_no (by omega))
                  have hf := hide hf
                  go_wp2_with (go_at_call 47; refine (i_isMinute _ _).mono ?_; rintro e w' ⟨rfl, rfl⟩)
                  go_ret
                  exact ⟨by rw [hf.out]; rfl, Up.refl _⟩
                · have hs := hide (ok_snoc hok.out (okAt_iff.2 (by omega)))
                  go_wp2_with (go_at_call 47; refine (i_isMinute _ _).mono ?_; rintro e w' ⟨rfl, rfl⟩)
                  go_round
                  case rel => exact ⟨k + 1, by omega, by go_num, hs.out⟩
                  case measure => simp [intOf]; omega
          · have hm : inB (nth zs k) 0 1439 = false := by simpa using hm
            have hm' : ¬ (0 ≤ nth zs k ∧ nth zs k ≤ 1439) := fun h => by rw [inB_iff.2 h] at hm; cases hm
            have hf : isSetB zs = false := isSetB_no (i := k) (by omega) (okAt_no (by omega))
            have hf := hide hf
            go_wp2_with (go_at_call 47; refine (i_isMinute _ _).mono ?_; rintro e w' ⟨rfl, rfl⟩)
            go_ret
            exact ⟨by rw [hf.out]; rfl, Up.refl _⟩
        · go_wp2
          go_ret
          obtain rfl : k = n := by omega
          have hf : isSetB zs = true := isSetB_yes (by omega) (by omega) (fun i hi => hok.out i (by omega))
          exact ⟨by rw [hf]; rfl, Up.refl _⟩
    · have hf : isSetB zs = false := by unfold isSetB; simp; omega
      go_enter Try.func17, Try.ntmps17
      go_wp2
      go_ret
      exact ⟨by rw [hf]; rfl, Up.refl _⟩
  · have hf : isSetB zs = false := by unfold isSetB; simp; omega
    go_enter Try.func17, Try.ntmps17
    go_wp2
    go_ret
    exact ⟨by rw [hf]; rfl, Up.refl _⟩
set_option maxHeartbeats 1000000 in
theorem s_IsSet (A : Option Addr) (n c : Nat) (zs : List Int) (w : World) (h : RdI w A n zs) (hn : n ≤ 1048576) :
    Calls Try.prog 15 #[.slice A n c] w fun e w' => e = .returned (.bool (isSetB zs)) ∧ Up w w' := by
  obtain ⟨hlen, hr⟩ := h
  go_enter Try.func15, Try.ntmps15
  go_wp2
  go_loopw [3] (fun i wr => ∃ k : Nat, k ≤ n ∧ i = .int .i64 k ∧ (∀ j, j < k → okAt zs j = true) ∧ Up w wr) (fun i _ => n - (intOf i).toNat)
  case atStart => exact ⟨0, Nat.zero_le _, rfl, fun j hj => by omega, Up.refl _⟩
  case round =>
    obtain ⟨k, hk, rfl, hok, hU⟩ := hrel
    have hok := hide hok
    by_cases hlt : k < n
    · obtain ⟨b, o, rfl, hbl, hc⟩ := (hr.up hU).at_ (by omega)
      have c0 := hc k hlt
      have c1 := hc (k - 1) (by omega)
      change _ = some (Value.int .i64 (nth zs k)) at c0
      change _ = some (Value.int .i64 (nth zs (k - 1))) at c1
      have hl0 : (k : Int) < (n : Int) := by omega
      have hl1 : (0 : Int) ≤ (k : Int) := by omega
      clear hc hr
      by_cases hm : inB (nth zs k) 0 1439 = true
      · obtain ⟨m1, m2⟩ := inB_iff.1 hm
        by_cases hp : k % 2 = 1
        · have e1 : ((k : Int) % 2 == 1) = true := by simp; omega
          have e2 : ((k : Int) % 2 == 0) = false := by simp; omega
          have e3 : decide (0 < k) = true := by simp; omega
          by_cases hl : nth zs k < nth zs (k - 1)
          · have hff : isSetB zs = false := isSetB_no (i := k) (by omega) (okAt_no (by omega))
            have hff := hide hff
            go_wp2
            refine wp_region_later (by kernel_rfl) (by kernel_rfl) ?_
            repeat (go_big_quiet_step ((go_at_call 46; exact later_same (s_l09Minute _ _))))
            refine wpQuiet_nil ?_; intro _ hw'; obtain ⟨x, hw''⟩ := hw'; subst hw''; obtain ⟨wn, hu⟩ := x; dsimp only; obtain ⟨N, J, JF, hn1, hn2, hz, hc, hf⟩ := hu.facts; (try simp only [World.size_alloc, World.size_setCell, World.heap_drewN, World.size_drew] at hn1 hn2)
            go_wp2
            go_ret
            exact ⟨by rw [hff.out]; rfl, hU.trans hu⟩
          · have hs := hide (ok_snoc hok.out (okAt_iff.2 (by omega)))
            have e4 : decide (nth zs k < nth zs (k - 1)) = false := by simp; omega
            go_wp2
            refine wp_region_later (by kernel_rfl) (by kernel_rfl) ?_
            repeat (go_big_quiet_step ((go_at_call 46; exact later_same (s_l09Minute _ _))))
            refine wpQuiet_nil ?_; intro _ hw'; obtain ⟨x, hw''⟩ := hw'; subst hw''; obtain ⟨wn, hu⟩ := x; dsimp only; obtain ⟨N, J, JF, hn1, hn2, hz, hc, hf⟩ := hu.facts; (try simp only [World.size_alloc, World.size_setCell, World.heap_drewN, World.size_drew] at hn1 hn2)
            go_wp2
            go_roundw
            case rel => exact ⟨k + 1, by omega, by go_num, hs.out, hU.trans hu⟩
            case measure => simp [intOf]; omega
        · have e1 : ((k : Int) % 2 == 1) = false := by simp; omega
          have e2 : ((k : Int) % 2 == 0) = true := by simp; omega
          by_cases hz : k ≤ 0
          · have e3 : decide (0 < k) = false := by simp; omega
            have hs := hide (ok_snoc hok.out (okAt_iff.2 (by omega)))
            go_wp2
            refine wp_region_later (by kernel_rfl) (by kernel_rfl) ?_
            repeat (go_big_quiet_step ((go_at_call 46; exact later_same (s_l09Minute _ _))))
            refine wpQuiet_nil ?_; intro _ hw'; obtain ⟨x, hw''⟩ := hw'; subst hw''; obtain ⟨wn, hu⟩ := x; dsimp only; obtain ⟨N, J, JF, hn1, hn2, hz, hc, hf⟩ := hu.facts; (try simp only [World.size_alloc, World.size_setCell, World.heap_drewN, World.size_drew] at hn1 hn2)
            go_wp2
            go_roundw
            case rel => exact ⟨k + 1, by omega, by go_num, hs.out, hU.trans hu⟩
            case measure => simp [intOf]; omega
          · have e3 : decide (0 < k) = true := by simp; omega
            obtain ⟨b1, b2, _, _⟩ := okAt_iff.1 (hok.out (k - 1) (by omega))
            by_cases hl : nth zs k ≤ nth zs (k - 1) + 1
            · have hff : isSetB zs = false := isSetB_no (i := k) (by omega) (okAt_no (by omega))
              have hff := hide hff
              go_wp2
              refine wp_region_later (by kernel_rfl) (by kernel_rfl) ?_
              repeat (go_big_quiet_step ((go_at_call 46; exact later_same (s_l09Minute _ _))))
              refine wpQuiet_nil ?_; intro _ hw'; obtain ⟨x, hw''⟩ := hw'; subst hw''; obtain ⟨wn, hu⟩ := x; dsimp only; obtain ⟨N, J, JF, hn1, hn2, hz, hc, hf⟩ := hu.facts; (try simp only [World.size_alloc, World.size_setCell, World.heap_drewN, World.size_drew] at hn1 hn2)
              go_wp2
              go_ret
              exact ⟨by rw [hff.out]; rfl, hU.trans hu⟩
            · have hs := hide (ok_snoc hok.out (okAt_iff.2 (by omega)))
              have e4 : decide (nth zs k ≤ nth zs (k - 1) + 1) = false := by simp; omega
              go_wp2
              refine wp_region_later (by kernel_rfl) (by kernel_rfl) ?_
              repeat (go_big_quiet_step ((go_at_call 46; exact later_same (s_l09Minute _ _))))
              refine wpQuiet_nil ?_; intro _ hw'; obtain ⟨x, hw''⟩ := hw'; subst hw''; obtain ⟨wn, hu⟩ := x; dsimp only; obtain ⟨N, J, JF, hn1, hn2, hz, hc, hf⟩ := hu.facts; (try simp only [World.size_alloc, World.size_setCell, World.heap_drewN, World.size_drew] at hn1 hn2)
              go_wp2
              go_roundw
              case rel => exact ⟨k + 1, by omega, by go_num, hs.out, hU.trans hu⟩
              case measure => simp [intOf]; omega
      · have hm : inB (nth zs k) 0 1439 = false := by simpa using hm
        have hm' : ¬ (0 ≤ nth zs k ∧ nth zs k ≤ 1439) := fun h => by rw [inB_iff.2 h] at hm; cases hm
        have hff : isSetB zs = false := isSetB_no (i := k) (by omega) (okAt_no (by omega))
        have hff := hide hff
        go_wp2
        refine wp_region_later (by kernel_rfl) (by kernel_rfl) ?_
        repeat (go_big_quiet_step ((go_at_call 46; exact later_same (s_l09Minute _ _))))
        refine wpQuiet_nil ?_; intro _ hw'; obtain ⟨x, hw''⟩ := hw'; subst hw''; obtain ⟨wn, hu⟩ := x; dsimp only; obtain ⟨N, J, JF, hn1, hn2, hz, hc, hf⟩ := hu.facts; (try simp only [World.size_alloc, World.size_setCell, World.heap_drewN, World.size_drew] at hn1 hn2)
        go_wp2
        go_ret
        exact ⟨by rw [hff.out]; rfl, hU.trans hu⟩
    · have hcl : isSetB zs = (decide (n % 2 = 0) && decide (n ≤ 80)) := by
        have : ((List.range zs.length).all (okAt zs)) = true := by
          simp only [List.all_eq_true]; exact fun i hi => hok.out i (by have := List.mem_range.1 hi; omega)
        unfold isSetB; rw [this, hlen, Bool.and_true]
      have hcl := hide hcl
      go_wp2
      all_goals (go_ret; refine ⟨ret_bool ?_, hU⟩; rw [hcl.out, Bool.eq_iff_iff]; simp <;> omega)
end Go.Proofs.Ytconjcfefdbgnaa
