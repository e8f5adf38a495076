import Derived.Test.YtconjcfefdbgnaaMembers
/- CountMinutes, HasMinute: the contracts. -/
namespace Go.Proofs.Ytconjcfefdbgnaa
open Go.RowKit
attribute [local go_sem] cell_allocI frz_allocI later_cell later_frz
set_option maxHeartbeats 1000000 in
theorem i_CountMinutes (A : Option Addr) (n c : Nat) (zs : List Int) (w : World) (h : RdI w A n zs) (hn : n ≤ 1048576) :
    Calls Try.prog 24 #[.slice A n c] w fun e w' => e = .returned (.tuple #[.int .i64 (countM zs).1, .int .i64 (countM zs).2]) ∧ Up w w' := by
  by_cases hs : isSetB zs = true
  · obtain ⟨s1, s2, s3⟩ := isSetB_iff.1 hs
    have s3 := hide s3
    have hcm : countM zs = (cntK zs (zs.length / 2), 0) := by unfold countM; rw [hs]; rfl
    have hcm := hide hcm
    have hl2 : zs.length ≤ n := by rw [h.1]; omega
    have hl3 : n ≤ zs.length := by rw [h.1]; omega
    have hbd := hide (cntK_bd hs)
    go_enter Try.func24, Try.ntmps24
    go_wp2_with (go_at_call 17; refine (i_IsSet _ _ _ _ _ h hn).mono ?_; rintro e wn ⟨rfl, hu⟩; obtain ⟨N, J, JF, hn1, hn2, hz, hc, hf⟩ := hu.facts; (try simp only [World.size_alloc, World.size_setCell, World.heap_drewN, World.size_drew] at hn1 hn2))
    have h := hide h
    go_loopw [4, 5] (fun q i wr => ∃ k : Nat, 2 * k ≤ n ∧ i = .int .i64 (2 * (k : Int)) ∧ q = .int .i64 (cntK zs k) ∧ Up w wr) (fun _ i _ => n - (intOf i).toNat)
    case atStart => exact ⟨0, Nat.zero_le _, rfl, rfl, hu⟩
    case round =>
      obtain ⟨k, hk, rfl, rfl, hU⟩ := hrel
      obtain ⟨n1, n2⟩ := hbd.out k (by omega)
      by_cases hlt : 2 * k < n
      · obtain ⟨b, o, rfl, hbl, hc⟩ := (h.out.2.up hU).at_ (by omega)
        have c0 := hc (2 * k) hlt
        have c1 := hc (2 * k + 1) (by omega)
        obtain ⟨a1, a2, _, _⟩ := okAt_iff.1 (s3.out (2 * k) (by omega))
        obtain ⟨b1, b2, _, _⟩ := okAt_iff.1 (s3.out (2 * k + 1) (by omega))
        have i0 : 2 * (k : Int) < (n : Int) := by omega
        have i1 : 2 * (k : Int) + 1 < (n : Int) := by omega
        have i2 : (0 : Int) ≤ 2 * (k : Int) := by omega
        change _ = some (Value.int .i64 (nth zs (2 * k))) at c0
        change _ = some (Value.int .i64 (nth zs (2 * k + 1))) at c1
        have hst := hide (show cntK zs (k + 1) = cntK zs k + (nth zs (2 * k + 1) - nth zs (2 * k) + 1) from rfl)
        clear hc
        go_wp2
        go_quiet (fail)
        go_wp2
        go_roundw
        case rel => exact ⟨k + 1, by omega, by go_num, val_int (by have := hst.out; omega), hU.drewN _⟩
        case measure => simp [intOf]; omega
      · go_wp2
        go_ret2
        have e : zs.length / 2 = k := by omega
        exact ⟨by rw [hcm.out, e]; rfl, hU⟩
  · have hs : isSetB zs = false := by simpa using hs
    have hcm : countM zs = (0, 1) := by unfold countM; rw [hs]; rfl
    have hcm := hide hcm
    go_enter Try.func24, Try.ntmps24
    go_wp2_with (go_at_call 17; refine (i_IsSet _ _ _ _ _ h hn).mono ?_; rintro e wn ⟨rfl, hu⟩; obtain ⟨N, J, JF, hn1, hn2, hz, hc, hf⟩ := hu.facts; (try simp only [World.size_alloc, World.size_setCell, World.heap_drewN, World.size_drew] at hn1 hn2))
    go_ret2
    exact ⟨by rw [hcm.out]; rfl, hu⟩
set_option maxHeartbeats 1000000 in
theorem s_CountMinutes (A : Option Addr) (n c : Nat) (zs : List Int) (w : World) (h : RdI w A n zs) (hn : n ≤ 1048576) :
    Calls Try.prog 23 #[.slice A n c] w fun e w' => e = .returned (.tuple #[.int .i64 (countM zs).1, .int .i64 (countM zs).2]) ∧ Up w w' := by
  by_cases hs : isSetB zs = true
  · obtain ⟨s1, s2, s3⟩ := isSetB_iff.1 hs
    have s3 := hide s3
    have hcm : countM zs = (cntK zs (zs.length / 2), 0) := by unfold countM; rw [hs]; rfl
    have hcm := hide hcm
    have hl2 : zs.length ≤ n := by rw [h.1]; omega
    have hl3 : n ≤ zs.length := by rw [h.1]; omega
    have hbd := hide (cntK_bd hs)
    go_enter Try.func23, Try.ntmps23
    go_wp2_with (go_at_call 15; refine (s_IsSet _ _ _ _ _ h hn).mono ?_; rintro e wn ⟨rfl, hu⟩; obtain ⟨N, J, JF, hn1, hn2, hz, hc, hf⟩ := hu.facts; (try simp only [World.size_alloc, World.size_setCell, World.heap_drewN, World.size_drew] at hn1 hn2))
    have h := hide h
    go_loopw [4, 5] (fun q i wr => ∃ k : Nat, 2 * k ≤ n ∧ i = .int .i64 (2 * (k : Int)) ∧ q = .int .i64 (cntK zs k) ∧ Up w wr) (fun _ i _ => n - (intOf i).toNat)
    case atStart => exact ⟨0, Nat.zero_le _, rfl, rfl, hu⟩
    case round =>
      obtain ⟨k, hk, rfl, rfl, hU⟩ := hrel
      obtain ⟨n1, n2⟩ := hbd.out k (by omega)
      by_cases hlt : 2 * k < n
      · obtain ⟨b, o, rfl, hbl, hc⟩ := (h.out.2.up hU).at_ (by omega)
        have c0 := hc (2 * k) hlt
        have c1 := hc (2 * k + 1) (by omega)
        obtain ⟨a1, a2, _, _⟩ := okAt_iff.1 (s3.out (2 * k) (by omega))
        obtain ⟨b1, b2, _, _⟩ := okAt_iff.1 (s3.out (2 * k + 1) (by omega))
        have i0 : 2 * (k : Int) < (n : Int) := by omega
        have i1 : 2 * (k : Int) + 1 < (n : Int) := by omega
        have i2 : (0 : Int) ≤ 2 * (k : Int) := by omega
        change _ = some (Value.int .i64 (nth zs (2 * k))) at c0
        change _ = some (Value.int .i64 (nth zs (2 * k + 1))) at c1
        have hst := hide (show cntK zs (k + 1) = cntK zs k + (nth zs (2 * k + 1) - nth zs (2 * k) + 1) from rfl)
        clear hc
        go_wp2
        go_quiet (fail)
        go_wp2
        go_roundw
        case rel => exact ⟨k + 1, by omega, by go_num, val_int (by have := hst.out; omega), hU.drewN _⟩
        case measure => simp [intOf]; omega
      · go_wp2
        go_ret2
        have e : zs.length / 2 = k := by omega
        exact ⟨by rw [hcm.out, e]; rfl, hU⟩
  · have hs : isSetB zs = false := by simpa using hs
    have hcm : countM zs = (0, 1) := by unfold countM; rw [hs]; rfl
    have hcm := hide hcm
    go_enter Try.func23, Try.ntmps23
    go_wp2_with (go_at_call 15; refine (s_IsSet _ _ _ _ _ h hn).mono ?_; rintro e wn ⟨rfl, hu⟩; obtain ⟨N, J, JF, hn1, hn2, hz, hc, hf⟩ := hu.facts; (try simp only [World.size_alloc, World.size_setCell, World.heap_drewN, World.size_drew] at hn1 hn2))
    go_ret2
    exact ⟨by rw [hcm.out]; rfl, hu⟩
set_option maxHeartbeats 1000000 in
theorem s_l23Has (A : Option Addr) (n c : Nat) (zs : List Int) (m : Int) (w : World) (h : RdI w A n zs) (hn : n ≤ 1048576) (he : n % 2 = 0) :
    Calls Try.prog 55 #[.slice A n c, .int .i64 m] w fun e w' => e = .returned (.bool (memB zs m)) ∧ Up w w' := by
  have hl2 : zs.length ≤ n := by rw [h.1]; omega
  have hl3 : n ≤ zs.length := by rw [h.1]; omega
  go_enter Try.func55, Try.ntmps55
  go_wp2
  have h := hide h
  go_loopw [5] (fun i wr => ∃ k : Nat, 2 * k ≤ n ∧ i = .int .i64 (2 * (k : Int)) ∧ memK zs k m = false ∧ Up w wr) (fun i _ => n - (intOf i).toNat)
  case atStart => exact ⟨0, Nat.zero_le _, rfl, rfl, Up.refl _⟩
  case round =>
    obtain ⟨k, hk, rfl, hno, hU⟩ := hrel
    have Hno := hide hno
    clear hno
    by_cases hlt : 2 * k < n
    · obtain ⟨b, o, rfl, hbl, hc⟩ := (h.out.2.up hU).at_ (by omega)
      have c0 := hc (2 * k) hlt
      have c1 := hc (2 * k + 1) (by omega)
      have i0 : 2 * (k : Int) < (n : Int) := by omega
      have i1 : 2 * (k : Int) + 1 < (n : Int) := by omega
      have i2 : (0 : Int) ≤ 2 * (k : Int) := by omega
      change _ = some (Value.int .i64 (nth zs (2 * k))) at c0
      change _ = some (Value.int .i64 (nth zs (2 * k + 1))) at c1
      have hms := hide (memK_succ zs k m)
      clear hc
      by_cases hm : inB m (nth zs (2 * k)) (nth zs (2 * k + 1)) = true
      · have hf : memB zs m = true := by
          unfold memB memK
          rw [List.any_eq_true]
          exact ⟨k, by simp; omega, hm⟩
        have hff := hide hf
        clear hf
        go_wp2
        refine wp_region_later (by kernel_rfl) (by kernel_rfl) ?_
        repeat (go_big_quiet_step ((go_at_call 42; exact later_same (s_l01In _ _ _ _))))
        refine wpQuiet_nil ?_; intro _ hw'; obtain ⟨x, hw''⟩ := hw'; subst hw''; obtain ⟨wn, hu⟩ := x; dsimp only; obtain ⟨N, J, JF, hn1, hn2, hz, hc, hf⟩ := hu.facts; (try simp only [World.size_alloc, World.size_setCell, World.heap_drewN, World.size_drew] at hn1 hn2)
        rw [hm]
        go_wp2
        go_ret
        exact ⟨by rw [hff.out]; rfl, hU.trans hu⟩
      · have hm : inB m (nth zs (2 * k)) (nth zs (2 * k + 1)) = false := by simpa using hm
        have hnx := hide (show memK zs (k + 1) m = false by rw [hms.out, Hno.out, hm]; rfl)
        go_wp2
        refine wp_region_later (by kernel_rfl) (by kernel_rfl) ?_
        repeat (go_big_quiet_step ((go_at_call 42; exact later_same (s_l01In _ _ _ _))))
        refine wpQuiet_nil ?_; intro _ hw'; obtain ⟨x, hw''⟩ := hw'; subst hw''; obtain ⟨wn, hu⟩ := x; dsimp only; obtain ⟨N, J, JF, hn1, hn2, hz, hc, hf⟩ := hu.facts; (try simp only [World.size_alloc, World.size_setCell, World.heap_drewN, World.size_drew] at hn1 hn2)
        rw [hm]
        go_wp2
        go_roundw
        case rel => exact ⟨k + 1, by omega, by go_num, hnx.out, hU.trans hu⟩
        case measure => simp [intOf]; omega
    · have hff := hide (show memB zs m = false by unfold memB; rw [show zs.length / 2 = k from by omega]; exact Hno.out)
      go_wp2
      go_ret
      exact ⟨by rw [hff.out]; rfl, hU⟩
set_option maxHeartbeats 1000000 in
theorem i_HasMinute (A : Option Addr) (n c : Nat) (zs : List Int) (m : Int) (w : World) (h : RdI w A n zs) (hn : n ≤ 1048576) :
    Calls Try.prog 26 #[.slice A n c, .int .i64 m] w fun e w' => e = .returned (.tuple #[.bool (hasM zs m).1, .int .i64 (hasM zs m).2]) ∧ Up w w' := by
  by_cases hs : isSetB zs = true
  · have hcm : hasM zs m = (memB zs m, 0) := by unfold hasM; rw [hs]; rfl
    have hcm := hide hcm
    by_cases hm : inB m 0 1439 = true
    · obtain ⟨m1, m2⟩ := inB_iff.1 hm
      obtain ⟨q, rfl⟩ := Int.eq_ofNat_of_zero_le m1
      go_enter Try.func26, Try.ntmps26
      go_wp2_with (first
        | (go_at_call 17; refine (i_IsSet _ _ _ _ _ h hn).mono ?_; rintro e wn ⟨rfl, hu⟩; obtain ⟨N, J, JF, hn1, hn2, hz, hc, hf⟩ := hu.facts; (try simp only [World.size_alloc, World.size_setCell, World.heap_drewN, World.size_drew] at hn1 hn2); have h := h.up hu)
        | (go_at_call 47; refine (i_isMinute _ _).mono ?_; rintro e w' ⟨rfl, rfl⟩)
        | (go_at_call 56; refine (i_members _ _ _ _ _ h hs).mono ?_; rintro e wn2 ⟨rfl, F, hu2⟩; have c0 := F.cell (i := q) (by omega)))
      go_ret2
      refine ⟨by rw [hcm.out]; rfl, ?_⟩
      (repeat' (first | with_reducible exact Up.refl _ | with_reducible assumption | with_reducible refine Up.alloc ?_ _ | with_reducible refine Up.drew ?_ | with_reducible refine Up.drewN ?_ _ | with_reducible refine Up.setCell ?_ (by (try simp only [World.size_alloc, World.size_setCell, World.heap_drewN, World.size_drew]); omega) _ | (with_reducible refine Up.trans ?_ (by with_reducible assumption))))
    · have hm : inB m 0 1439 = false := by simpa using hm
      have hno : memB zs m = false := by
        cases e : memB zs m with
        | false => rfl
        | true => rw [inB_iff.2 (memB_range hs e)] at hm; cases hm
      have hno := hide hno
      go_enter Try.func26, Try.ntmps26
      go_wp2_with (first
        | (go_at_call 17; refine (i_IsSet _ _ _ _ _ h hn).mono ?_; rintro e wn ⟨rfl, hu⟩; obtain ⟨N, J, JF, hn1, hn2, hz, hc, hf⟩ := hu.facts; (try simp only [World.size_alloc, World.size_setCell, World.heap_drewN, World.size_drew] at hn1 hn2); have h := h.up hu)
        | (go_at_call 47; refine (i_isMinute _ _).mono ?_; rintro e w' ⟨rfl, rfl⟩))
      go_ret2
      refine ⟨by rw [hcm.out, hno.out]; rfl, ?_⟩
      (repeat' (first | with_reducible exact Up.refl _ | with_reducible assumption | with_reducible refine Up.alloc ?_ _ | with_reducible refine Up.drew ?_ | with_reducible refine Up.drewN ?_ _ | with_reducible refine Up.setCell ?_ (by (try simp only [World.size_alloc, World.size_setCell, World.heap_drewN, World.size_drew]); omega) _ | (with_reducible refine Up.trans ?_ (by with_reducible assumption))))
  · have hs : isSetB zs = false := by simpa using hs
    have hcm : hasM zs m = (false, 1) := by unfold hasM; rw [hs]; rfl
    have hcm := hide hcm
    go_enter Try.func26, Try.ntmps26
    go_wp2_with (go_at_call 17; refine (i_IsSet _ _ _ _ _ h hn).mono ?_; rintro e wn ⟨rfl, hu⟩; obtain ⟨N, J, JF, hn1, hn2, hz, hc, hf⟩ := hu.facts; (try simp only [World.size_alloc, World.size_setCell, World.heap_drewN, World.size_drew] at hn1 hn2))
    go_ret2
    exact ⟨by rw [hcm.out]; rfl, hu⟩
theorem s_HasMinute (A : Option Addr) (n c : Nat) (zs : List Int) (m : Int) (w : World) (h : RdI w A n zs) (hn : n ≤ 1048576) :
    Calls Try.prog 25 #[.slice A n c, .int .i64 m] w fun e w' => e = .returned (.tuple #[.bool (hasM zs m).1, .int .i64 (hasM zs m).2]) ∧ Up w w' := by
  by_cases hs : isSetB zs = true
  · have hcm : hasM zs m = (memB zs m, 0) := by unfold hasM; rw [hs]; rfl
    have hcm := hide hcm
    have he : n % 2 = 0 := by have := isSetB_iff.1 hs; have := h.1; omega
    go_enter Try.func25, Try.ntmps25
    go_wp2_with (first
      | (go_at_call 15; refine (s_IsSet _ _ _ _ _ h hn).mono ?_; rintro e wn ⟨rfl, hu⟩; obtain ⟨N, J, JF, hn1, hn2, hz, hc, hf⟩ := hu.facts; (try simp only [World.size_alloc, World.size_setCell, World.heap_drewN, World.size_drew] at hn1 hn2); have h := h.up hu)
      | (go_at_call 55; refine (s_l23Has _ _ _ _ _ _ h hn he).mono ?_; rintro e wn ⟨rfl, hu⟩; obtain ⟨N, J, JF, hn1, hn2, hz, hc, hf⟩ := hu.facts; (try simp only [World.size_alloc, World.size_setCell, World.heap_drewN, World.size_drew] at hn1 hn2)))
    go_ret2
    refine ⟨by rw [hcm.out]; rfl, ?_⟩
    (repeat' (first | with_reducible exact Up.refl _ | with_reducible assumption | with_reducible refine Up.alloc ?_ _ | with_reducible refine Up.drew ?_ | with_reducible refine Up.drewN ?_ _ | with_reducible refine Up.setCell ?_ (by (try simp only [World.size_alloc, World.size_setCell, World.heap_drewN, World.size_drew]); omega) _ | (with_reducible refine Up.trans ?_ (by with_reducible assumption))))
  · have hs : isSetB zs = false := by simpa using hs
    have hcm : hasM zs m = (false, 1) := by unfold hasM; rw [hs]; rfl
    have hcm := hide hcm
    go_enter Try.func25, Try.ntmps25
    go_wp2_with (go_at_call 15; refine (s_IsSet _ _ _ _ _ h hn).mono ?_; rintro e wn ⟨rfl, hu⟩; obtain ⟨N, J, JF, hn1, hn2, hz, hc, hf⟩ := hu.facts; (try simp only [World.size_alloc, World.size_setCell, World.heap_drewN, World.size_drew] at hn1 hn2))
    go_ret2
    exact ⟨by rw [hcm.out]; rfl, hu⟩
end Go.Proofs.Ytconjcfefdbgnaa
