import Derived.Test.YtffkcgdgiggfoaaFitsP
/- Placements: the reference's 'l19Is'. -/
namespace Go.Proofs.Ytffkcgdgiggfoaa
set_option linter.unusedSimpArgs false
set_option linter.unusedVariables false
open Go.RowKit
attribute [local go_sem] cell_allocI frz_allocI later_cell later_frz
attribute [local go_sem] cell_setI cell_drewI frz_drewI
theorem RdF.less {w : World} {A : Option Addr} {m k : Nat} {f : Nat → Value} (h : RdF w A m f) (hk : k ≤ m) : RdF w A k f := fun i hi => h i (by omega)
/-- label j can stand at its place beside the ones ahead of it -/
def fitAt (a b c d : Int) (S : Nat → ByteArray) (X Y P : Nat → Int) (j : Nat) : Bool := fitsP a b c d (boxX (S j).size (X j) (P j)) (boxY (Y j) (P j)) (boxX (S j).size (X j) (P j) + 6 * (S j).size) (boxY (Y j) (P j) + 10) S X Y P j
def stepP (a b c d : Int) (S : Nat → ByteArray) (X Y P : Nat → Int) (j : Nat) : Bool := inB (P j) (-1) 3 && (decide (P j < 0) || fitAt a b c d S X Y P j)
def isPl (a b c d : Int) (S : Nat → ByteArray) (X Y P : Nat → Int) (m n : Nat) : Bool := decide (m = n) && (List.range m).all (stepP a b c d S X Y P)
set_option maxHeartbeats 2000000 in
theorem s_l19Is (a b c d : Int) (A : Option Addr) (n ca : Nat) (S : Nat → ByteArray) (X Y : Nat → Int) (B : Option Addr) (m cb : Nat) (P : Nat → Int) (w : World)
    (hA : RdF w A (n * 3) (labF S X Y)) (hB : RdF w B m (fun i => .int .i64 (P i))) (hcb : m ≤ cb) (hn : n ≤ 1048576) (hm : m ≤ 1048576) (hL : ∀ i, i < n → labAt S X Y i = true) :
    Calls Try.prog 91 #[.agg #[.int .i64 a, .int .i64 b, .int .i64 c, .int .i64 d], .slice A n ca, .slice B m cb] w fun e w' => e = .returned (.bool (isPl a b c d S X Y P m n)) ∧ Up w w' := by
  have hL := hide hL
  by_cases hmn : m = n
  · subst hmn
    go_enter Try.func91, Try.ntmps91
    go_wp2
    have hF := Blk.new w 49 #[.int .i64 a, .int .i64 b, .int .i64 c, .int .i64 d]
    go_loopw [7] (fun i wr => ∃ k : Nat, k ≤ m ∧ i = .int .i64 k ∧ (∀ j, j < k → stepP a b c d S X Y P j = true) ∧ Up (w.alloc (.cells #[.int .i64 a, .int .i64 b, .int .i64 c, .int .i64 d] 49)) wr) (fun i _ => m - (intOf i).toNat)
    case atStart => exact ⟨0, Nat.zero_le _, rfl, fun j hj => by omega, Up.refl _⟩
    case round =>
      obtain ⟨j, hj, rfl, hok, hb⟩ := hrel
      have hok := hide hok
      have hU : Up w _ := ((Up.refl w).alloc _).trans hb
      have hG := hF.up hb
      have hBl := hG.lt
      have f0 := hG.cell 0
      have f1 := hG.cell 1
      have f2 := hG.cell 2
      have f3 := hG.cell 3
      simp at f0 f1 f2 f3
      by_cases hlt : j < m
      · have hA' := hA.up hU
        have hB' := hB.up hU
        obtain ⟨b1, o1, rfl, hbl1, hc1⟩ := hA'.at_ (by omega)
        obtain ⟨b2, o2, rfl, hbl2, hc2⟩ := hB'.at_ (by omega)
        have c0 := hc1 (j * 3) (by omega)
        have c1 := hc1 (j * 3 + 1) (by omega)
        have c2 := hc1 (j * 3 + 2) (by omega)
        have d0 := hc2 j hlt
        rw [labF0] at c0
        rw [labF1, ← Nat.add_assoc] at c1
        rw [labF2, ← Nat.add_assoc] at c2
        have hl : (j : Int) < (m : Int) := by omega
        have hcb' : (j : Int) ≤ (cb : Int) := by omega
        have hlb := hL.out j hlt
        unfold labAt at hlb
        have hLj := hide (show ∀ i, i < j → labAt S X Y i = true from fun i hi => hL.out i (by omega))
        have hPj := hide (show ∀ i, i < j → -1 ≤ P i ∧ P i ≤ 3 from fun i hi => by
          have := hok.out i hi; unfold stepP at this; rw [Bool.and_eq_true] at this; exact inB_iff.1 this.1)
        have hA' := hide hA'
        have hB' := hide (hB'.less (k := j) (by omega))
        clear hc1 hc2 hA hB hF hG
        by_cases hi : inB (P j) (-1) 3 = true
        · by_cases hp : 0 ≤ P j
          · have e0 : decide (0 ≤ P j) = true := by simpa using hp
            have e1 : decide (P j < 0) = false := by simpa using hp
            have hk' : inB (P j) 0 3 = true := inB_iff.2 ⟨hp, (inB_iff.1 hi).2⟩
            by_cases hf : fitAt a b c d S X Y P j = true
            · have hyes := hide (show stepP a b c d S X Y P j = true by unfold stepP; rw [hi, e1, hf]; rfl)
              have hf' := hf
              unfold fitAt at hf'
              go_wp2
              refine wp_region_later (by kernel_rfl) (by kernel_rfl) ?_
              repeat (go_big_quiet_step (first | ((go_at_call 83; exact later_same (s_l01In _ _ _ _))) | ((go_at_call 98; exact later_call (s_l19Fits _ _ _ _ _ _ _ S X Y _ _ _ P _ _ _ _ hlb hk' _ (hA'.out.up (Later.up _)) (hB'.out.up (Later.up _)) (by omega) (by omega) hLj.out hPj.out)))))
              refine wpQuiet_nil ?_; intro _ hw'; obtain ⟨x, hw''⟩ := hw'; subst hw''; obtain ⟨wn, hu⟩ := x; dsimp only; obtain ⟨N, J, JF, hn1, hn2, hz, hc, hf⟩ := hu.facts; (try simp only [World.size_alloc, World.size_setCell, World.heap_drewN, World.size_drew] at hn1 hn2)
              go_wp2
              go_roundw
              case rel => exact ⟨j + 1, by omega, by go_num, fun i hi => by rcases Nat.lt_or_ge i j with h1 | h1; exact hok.out i h1; rw [show i = j by omega]; exact hyes.out, by (repeat' (first | with_reducible exact Up.refl _ | with_reducible assumption | with_reducible refine Up.alloc ?_ _ | with_reducible refine Up.drew ?_ | with_reducible refine Up.drewN ?_ _ | with_reducible refine Up.setCell ?_ (by (try simp only [World.size_alloc, World.size_setCell, World.heap_drewN, World.size_drew]); omega) _ | (with_reducible refine Up.trans ?_ (by with_reducible assumption))))⟩
              case measure => simp [intOf]; omega
            · have hf : fitAt a b c d S X Y P j = false := by simpa using hf
              have hno := hide (all_no (f := stepP a b c d S X Y P) (n := m) hlt (by unfold stepP; rw [hi, e1, hf]; rfl))
              have hf' := hf
              unfold fitAt at hf'
              go_wp2
              refine wp_region_later (by kernel_rfl) (by kernel_rfl) ?_
              repeat (go_big_quiet_step (first | ((go_at_call 83; exact later_same (s_l01In _ _ _ _))) | ((go_at_call 98; exact later_call (s_l19Fits _ _ _ _ _ _ _ S X Y _ _ _ P _ _ _ _ hlb hk' _ (hA'.out.up (Later.up _)) (hB'.out.up (Later.up _)) (by omega) (by omega) hLj.out hPj.out)))))
              refine wpQuiet_nil ?_; intro _ hw'; obtain ⟨x, hw''⟩ := hw'; subst hw''; obtain ⟨wn, hu⟩ := x; dsimp only; obtain ⟨N, J, JF, hn1, hn2, hz, hc, hf⟩ := hu.facts; (try simp only [World.size_alloc, World.size_setCell, World.heap_drewN, World.size_drew] at hn1 hn2)
              go_wp2
              go_ret
              exact ⟨ret_bool (by unfold isPl; rw [hno.out]; simp), by (repeat' (first | with_reducible exact Up.refl _ | with_reducible assumption | with_reducible refine Up.alloc ?_ _ | with_reducible refine Up.drew ?_ | with_reducible refine Up.drewN ?_ _ | with_reducible refine Up.setCell ?_ (by (try simp only [World.size_alloc, World.size_setCell, World.heap_drewN, World.size_drew]); omega) _ | (with_reducible refine Up.trans ?_ (by with_reducible assumption))))⟩
          · have e0 : decide (0 ≤ P j) = false := by simpa using hp
            have e1 : decide (P j < 0) = true := by simp; omega
            have hk' : True := trivial
            have hyes := hide (show stepP a b c d S X Y P j = true by unfold stepP; rw [hi, e1]; rfl)
            go_wp2
            refine wp_region_later (by kernel_rfl) (by kernel_rfl) ?_
            repeat (go_big_quiet_step (first | ((go_at_call 83; exact later_same (s_l01In _ _ _ _)))))
            refine wpQuiet_nil ?_; intro _ hw'; obtain ⟨x, hw''⟩ := hw'; subst hw''; obtain ⟨wn, hu⟩ := x; dsimp only; obtain ⟨N, J, JF, hn1, hn2, hz, hc, hf⟩ := hu.facts; (try simp only [World.size_alloc, World.size_setCell, World.heap_drewN, World.size_drew] at hn1 hn2)
            go_wp2
            go_roundw
            case rel => exact ⟨j + 1, by omega, by go_num, fun i hi => by rcases Nat.lt_or_ge i j with h1 | h1; exact hok.out i h1; rw [show i = j by omega]; exact hyes.out, by (repeat' (first | with_reducible exact Up.refl _ | with_reducible assumption | with_reducible refine Up.alloc ?_ _ | with_reducible refine Up.drew ?_ | with_reducible refine Up.drewN ?_ _ | with_reducible refine Up.setCell ?_ (by (try simp only [World.size_alloc, World.size_setCell, World.heap_drewN, World.size_drew]); omega) _ | (with_reducible refine Up.trans ?_ (by with_reducible assumption))))⟩
            case measure => simp [intOf]; omega
        · have hi : inB (P j) (-1) 3 = false := by simpa using hi
          have hno := hide (all_no (f := stepP a b c d S X Y P) (n := m) hlt (by unfold stepP; rw [hi]; rfl))
          go_wp2
          refine wp_region_later (by kernel_rfl) (by kernel_rfl) ?_
          repeat (go_big_quiet_step (first | ((go_at_call 83; exact later_same (s_l01In _ _ _ _)))))
          refine wpQuiet_nil ?_; intro _ hw'; obtain ⟨x, hw''⟩ := hw'; subst hw''; obtain ⟨wn, hu⟩ := x; dsimp only; obtain ⟨N, J, JF, hn1, hn2, hz, hc, hf⟩ := hu.facts; (try simp only [World.size_alloc, World.size_setCell, World.heap_drewN, World.size_drew] at hn1 hn2)
          go_wp2
          go_ret
          exact ⟨ret_bool (by unfold isPl; rw [hno.out]; simp), by (repeat' (first | with_reducible exact Up.refl _ | with_reducible assumption | with_reducible refine Up.alloc ?_ _ | with_reducible refine Up.drew ?_ | with_reducible refine Up.drewN ?_ _ | with_reducible refine Up.setCell ?_ (by (try simp only [World.size_alloc, World.size_setCell, World.heap_drewN, World.size_drew]); omega) _ | (with_reducible refine Up.trans ?_ (by with_reducible assumption))))⟩
      · obtain rfl : j = m := by omega
        have hy := hide (all_yes hok.out)
        go_wp2
        go_ret
        exact ⟨ret_bool (by unfold isPl; rw [hy.out]; simp), by (repeat' (first | with_reducible exact Up.refl _ | with_reducible assumption | with_reducible refine Up.alloc ?_ _ | with_reducible refine Up.drew ?_ | with_reducible refine Up.drewN ?_ _ | with_reducible refine Up.setCell ?_ (by (try simp only [World.size_alloc, World.size_setCell, World.heap_drewN, World.size_drew]); omega) _ | (with_reducible refine Up.trans ?_ (by with_reducible assumption))))⟩
  · have e0 : ((m : Int) != (n : Int)) = true := by simp; omega
    go_enter Try.func91, Try.ntmps91
    go_wp2
    go_ret
    exact ⟨ret_bool (by unfold isPl; simp [hmn]), by (repeat' (first | with_reducible exact Up.refl _ | with_reducible assumption | with_reducible refine Up.alloc ?_ _ | with_reducible refine Up.drew ?_ | with_reducible refine Up.drewN ?_ _ | with_reducible refine Up.setCell ?_ (by (try simp only [World.size_alloc, World.size_setCell, World.heap_drewN, World.size_drew]); omega) _ | (with_reducible refine Up.trans ?_ (by with_reducible assumption))))⟩
end Go.Proofs.Ytffkcgdgiggfoaa
