import Derived.Test.YtffkcgdgiggfoaaBoxList
import Derived.Deep.AppendLies
import Derived.OwnWalk
/- The program's 'boxes': the boxes of a placement. -/
namespace Go.Proofs.Ytffkcgdgiggfoaa
set_option linter.unusedSimpArgs false
set_option linter.unusedVariables false
open Go.RowKit
attribute [local go_sem] cell_allocI frz_allocI later_cell later_frz
attribute [local go_sem] cell_setI cell_drewI frz_drewI
theorem own_up {w w' : World} {base e size : Nat} {v : Value} {n : Nat} {xs : List Value} (h : w.ownsRow base e size v n xs) (hu : Up w w') : w'.ownsRow base e size v n xs := by
  refine h.kept (row := none) ⟨hu.os, hu.tape, hu.output, hu.size, fun k hk _ => hu.block k hk⟩ ?_
  rcases hh : v.ownBlock with _ | q
  · exact Or.inl rfl
  · exact Or.inr (by simp)
theorem own_rdK {w : World} {base e size : Nat} {v : Value} {m : Nat} {xs : List Value} (h : w.ownsRow base e size v m xs) (hl : xs.length = m * size) : ∃ A c, v = .slice A m c ∧ RdF w A (m * size) (fun i => xs[i]?.getD undef) := by
  rcases Nat.eq_zero_or_pos m with h0 | h0
  · subst h0
    rcases h.2 with ⟨h1, _⟩ | ⟨g, cap, cur, h1, _⟩
    · exact ⟨none, 0, h1, by rw [Nat.zero_mul]; exact RdF.zero _ _ _⟩
    · exact ⟨_, _, h1, by rw [Nat.zero_mul]; exact RdF.zero _ _ _⟩
  · obtain ⟨g, cap, rfl, _, hg⟩ := h.form h0
    refine ⟨_, _, rfl, fun k hk => ⟨g, 0, rfl, hg, ?_⟩⟩
    have hc := h.cells (g := g) rfl k (xs[k]'(by omega)) (List.getElem?_eq_getElem (by omega))
    rw [Addr.add_mid] at hc
    rw [hc]
    simp [show k < xs.length by omega]
theorem Try.info_Face : (Try.prog.info? 49).map (fun i => (i.zero, i.size, i.bytes)) = some (some (.agg #[.int .i64 0, .int .i64 0, .int .i64 0, .int .i64 0]), 4, 32) := by kernel_rfl
set_option maxHeartbeats 2000000 in
theorem i_boxes (a b c d : Int) (A : Option Addr) (n ca : Nat) (S : Nat → ByteArray) (X Y : Nat → Int) (B : Option Addr) (m cb : Nat) (P : Nat → Int) (w : World)
    (hA : RdF w A (n * 3) (labF S X Y)) (hB : RdF w B m (fun i => .int .i64 (P i))) (hn : n ≤ 1048576) (hm : m ≤ 1048576) (hL : ∀ i, i < n → labAt S X Y i = true) :
    Calls Try.prog 93 #[.agg #[.int .i64 a, .int .i64 b, .int .i64 c, .int .i64 d], .slice A n ca, .slice B m cb] w fun e w' => (∃ v, e = .returned (.tuple #[v, .bool (isPl a b c d S X Y P m n)]) ∧ (isPl a b c d S X Y P m n = true → ∃ Bo cap, v = .slice Bo (bxl S X Y P m).length cap ∧ RdF w' Bo ((bxl S X Y P m).length * 4) (fun i => .int .i64 (flatAt (bxl S X Y P m) i)))) ∧ Up w w' := by
  obtain ⟨i0, hi, hz0, hz1, hz2⟩ := info_parts Try.info_Face
  have hi := hide hi
  have hz0 := hide hz0
  have hz1 := hide hz1
  have hz2 := hide hz2
  have hL := hide hL
  by_cases hmn : m = n
  · subst hmn
    go_enter Try.func93, Try.ntmps93
    go_wp2
    have hF := (Blk.new w 49 #[.int .i64 a, .int .i64 b, .int .i64 c, .int .i64 d])
    go_loopw [8, 19] (fun v i wr => ∃ k : Nat, k ≤ m ∧ i = .int .i64 k ∧ (∀ j, j < k → stepP a b c d S X Y P j = true) ∧ wr.ownsRow (w.heap.size + 1) 49 4 v (bxl S X Y P k).length (flat (bxl S X Y P k)) ∧ Up (w.alloc (.cells #[.int .i64 a, .int .i64 b, .int .i64 c, .int .i64 d] 49)) wr) (fun _ i _ => m - (intOf i).toNat)
    case atStart => exact ⟨0, Nat.zero_le _, rfl, fun j hj => by omega, by
      have h0 := World.ownsRow_made (base := w.heap.size + 1) (e := 49) (size := 4) (w.alloc (.cells #[.int .i64 a, .int .i64 b, .int .i64 c, .int .i64 d] 49)) #[] 0 (by simp only [World.size_alloc]; omega) (by decide) rfl
      simp only [World.size_alloc] at h0
      exact h0, (Up.refl _).alloc _⟩
    case round =>
      obtain ⟨j, hj, rfl, hok, hown, hb⟩ := hrel
      have hok := hide hok
      have hU : Up w _ := ((Up.refl w).alloc _).trans hb
      have hG := hF.up hb
      have hBl := hG.lt
      have f0 := hG.cell 0
      have f1 := hG.cell 1
      have f2 := hG.cell 2
      have f3 := hG.cell 3
      simp at f0 f1 f2 f3
      obtain ⟨Bo, cap, hform, hrd⟩ := own_rdK hown (flat_length _)
      subst hform
      have hrd := hide (hrd.congr (fun i hi => flat_at _ hi))
      have hlen := bxl_len S X Y P j
      by_cases hlt : j < m
      · obtain ⟨b1, o1, rfl, hbl1, hc1⟩ := (hA.up hU).at_ (by omega)
        obtain ⟨b2, o2, rfl, hbl2, hc2⟩ := (hB.up hU).at_ (by omega)
        have c0 := hc1 (j * 3) (by omega)
        have c1 := hc1 (j * 3 + 1) (by omega)
        have c2 := hc1 (j * 3 + 2) (by omega)
        have d0 := hc2 j hlt
        rw [labF0] at c0
        rw [labF1, ← Nat.add_assoc] at c1
        rw [labF2, ← Nat.add_assoc] at c2
        have hl : (j : Int) < (m : Int) := by omega
        have hlb := hL.out j hlt
        unfold labAt at hlb
        obtain ⟨q1, q2, q3, q4, q5, q6⟩ := isLabelB_iff.1 hlb
        have hown := hide hown
        clear hc1 hc2 hA hB hF hG
        by_cases hn1 : P j = -1
        · have e0 : (P j == -1) = true := by simpa using hn1
          have hyes := hide (show stepP a b c d S X Y P j = true by unfold stepP; rw [hn1]; rfl)
          have hnx := hide (show bxl S X Y P (j + 1) = bxl S X Y P j by rw [bxl_succ, if_neg (by omega)])
          clear hn1
          go_wp2
          go_roundw
          case rel => exact ⟨j + 1, by omega, by go_num, fun i hi => by rcases Nat.lt_or_ge i j with h1 | h1; exact hok.out i h1; rw [show i = j by omega]; exact hyes.out, by rw [hnx.out]; exact hown.out, hb⟩
          case measure => simp [intOf]; omega
        · have e0 : (P j == -1) = false := by simpa using hn1
          by_cases hk' : inB (P j) 0 3 = true
          · obtain ⟨v1, v2⟩ := inB_iff.1 hk'
            have e1 : decide (P j < 0) = false := by simpa using v1
            have e2 : inB (P j) (-1) 3 = true := inB_iff.2 ⟨by omega, v2⟩
            have hfm := fitsM_P a b c d (boxX (S j).size (X j) (P j)) (boxY (Y j) (P j)) (boxX (S j).size (X j) (P j) + 6 * (S j).size) (boxY (Y j) (P j) + 10) S X Y P j
            by_cases hf : fitAt a b c d S X Y P j = true
            · have hyes := hide (show stepP a b c d S X Y P j = true by unfold stepP; rw [e2, e1, hf]; rfl)
              have hf' := hf
              unfold fitAt at hf'
              rw [hf'] at hfm
              clear e2 e1 hf'
              go_wp2
              refine wp_region_later (by kernel_rfl) (by kernel_rfl) ?_
              repeat (go_big_quiet_step (first | ((go_at_call 80; exact later_same (i_in _ _ _ _))) | ((go_at_call 99; exact later_call (im_Face_fits _ _ _ _ _ _ _ (flatAt (bxl S X Y P j)) _ _ _ _ q2 q3 q4 q5 q6 hk' _ (hrd.out.up (Later.up _)) (by omega))))))
              refine wpQuiet_nil ?_; intro _ hw'; obtain ⟨x, hw''⟩ := hw'; subst hw''; obtain ⟨wn, hu⟩ := x; dsimp only; obtain ⟨N, J, JF, hn1, hn2, hz, hc, hf⟩ := hu.facts; (try simp only [World.size_alloc, World.size_setCell, World.heap_drewN, World.size_drew] at hn1 hn2)
              have hwn : Up (w.alloc (.cells #[.int .i64 a, .int .i64 b, .int .i64 c, .int .i64 d] 49)) wn := hb.trans hu
              have hown := hide (own_up hown.out hu)
              go_wp2_with (first
                | (go_at_call 100; refine (im_Label_box _ _ _ _ q2 q3 q4 q5 q6 hk' _).mono ?_; rintro e w5 ⟨rfl, hu5⟩)
                | (at_builtin; refine wpList_append_lies _ rfl _ _ 144 rfl (w.heap.size + 1) 49 i0 (.agg #[.int .i64 0, .int .i64 0, .int .i64 0, .int .i64 0]) 4 32 Try.underlying144 hi.out hz0.out hz1.out hz2.out rfl (by decide) (.slice Bo (bxl S X Y P j).length cap) (bxl S X Y P j).length (flat (bxl S X Y P j)) rfl ((own_up hown.out hu5).alloc _) ⟨w5.heap.size, 0, none⟩ 1 1 [.int .i64 (boxX (S j).size (X j) (P j)), .int .i64 (boxY (Y j) (P j)), .int .i64 (boxX (S j).size (X j) (P j) + 6 * (S j).size), .int .i64 (boxY (Y j) (P j) + 10)] rfl rfl ?c1 ?c2 (by decide) ?c3 ?c4 ?c5 _ rfl ?_))
              case c1 =>
                intro jj uu hj
                match jj, hj with
                | 0, hj => simp at hj; subst hj; simp [Addr.add_mid, cell_allocI]
                | 1, hj => simp at hj; subst hj; simp [Addr.add_mid, cell_allocI]
                | 2, hj => simp at hj; subst hj; simp [Addr.add_mid, cell_allocI]
                | 3, hj => simp at hj; subst hj; simp [Addr.add_mid, cell_allocI]
                | jj + 4, hj => simp at hj
              case c2 => intro uu hu; simp at hu; rcases hu with rfl | rfl | rfl | rfl <;> rfl
              case c3 => unfold maxLen; omega
              case c4 => omega
              case c5 => have h1 := hwn.size; have h2 := hu5.size; (try simp only [World.size_alloc, World.size_setCell, World.heap_drewN, World.size_drew] at h1); (try simp only [World.size_alloc, World.size_setCell, World.heap_drewN, World.size_drew]); omega
              · intro g2 cap2 w6 hown' hgrow hat hlt6
                have hU6 := (Up.alloc (hwn.trans hu5) (.cells #[.int .i64 (boxX (S j).size (X j) (P j)), .int .i64 (boxY (Y j) (P j)), .int .i64 (boxX (S j).size (X j) (P j) + 6 * (S j).size), .int .i64 (boxY (Y j) (P j) + 10)] 49)).grown hgrow (fun q hq => by have := (hown.out.lt q hq).1; (try simp only [World.size_alloc, World.size_setCell, World.heap_drewN, World.size_drew]); omega)
                have hnx : bxl S X Y P (j + 1) = bxl S X Y P j ++ [(boxX (S j).size (X j) (P j), boxY (Y j) (P j), boxX (S j).size (X j) (P j) + 6 * (S j).size, boxY (Y j) (P j) + 10)] := by rw [bxl_succ, if_pos v1]
                have hfin : w6.ownsRow (w.heap.size + 1) 49 4 (.slice (some ⟨g2, 0, none⟩) ((bxl S X Y P j).length + 1) cap2) (bxl S X Y P (j + 1)).length (flat (bxl S X Y P (j + 1))) := by
                  rw [hnx, flat_snoc, List.length_append, List.length_singleton]
                  exact hown'
                have hfin := hide hfin
                clear hgrow hown hat hlt6 hown' hnx
                go_wp2
                go_roundw
                case rel => exact ⟨j + 1, by omega, by go_num, fun i hi => by rcases Nat.lt_or_ge i j with h1 | h1; exact hok.out i h1; rw [show i = j by omega]; exact hyes.out, hfin.out, hU6⟩
                case measure => simp [intOf]; omega
            · have hf : fitAt a b c d S X Y P j = false := by simpa using hf
              have hno := hide (all_no (f := stepP a b c d S X Y P) (n := m) hlt (by unfold stepP; rw [e2, e1, hf]; rfl))
              have hf' := hf
              unfold fitAt at hf'
              rw [hf'] at hfm
              clear e2 e1 hf'
              go_wp2
              refine wp_region_later (by kernel_rfl) (by kernel_rfl) ?_
              repeat (go_big_quiet_step (first | ((go_at_call 80; exact later_same (i_in _ _ _ _))) | ((go_at_call 99; exact later_call (im_Face_fits _ _ _ _ _ _ _ (flatAt (bxl S X Y P j)) _ _ _ _ q2 q3 q4 q5 q6 hk' _ (hrd.out.up (Later.up _)) (by omega))))))
              refine wpQuiet_nil ?_; intro _ hw'; obtain ⟨x, hw''⟩ := hw'; subst hw''; obtain ⟨wn, hu⟩ := x; dsimp only; obtain ⟨N, J, JF, hn1, hn2, hz, hc, hf⟩ := hu.facts; (try simp only [World.size_alloc, World.size_setCell, World.heap_drewN, World.size_drew] at hn1 hn2)
              go_wp2
              go_ret2
              have hv : isPl a b c d S X Y P m m = false := by unfold isPl; rw [hno.out]; simp
              exact ⟨⟨.slice none 0 0, by rw [hv]; rfl, fun h => by rw [hv] at h; cases h⟩, by (repeat' (first | with_reducible exact Up.refl _ | with_reducible assumption | with_reducible refine Up.alloc ?_ _ | with_reducible refine Up.drew ?_ | with_reducible refine Up.drewN ?_ _ | with_reducible refine Up.setCell ?_ (by (try simp only [World.size_alloc, World.size_setCell, World.heap_drewN, World.size_drew]); omega) _ | (with_reducible refine Up.trans ?_ (by with_reducible assumption))))⟩
          · have hk' : inB (P j) 0 3 = false := by simpa using hk'
            have e2 : inB (P j) (-1) 3 = false := by
              rw [Bool.eq_false_iff] at hk' ⊢
              intro h
              apply hk'
              have := inB_iff.1 h
              exact inB_iff.2 (by omega)
            have hno := hide (all_no (f := stepP a b c d S X Y P) (n := m) hlt (by unfold stepP; rw [e2]; rfl))
            clear e2
            go_wp2
            refine wp_region_later (by kernel_rfl) (by kernel_rfl) ?_
            repeat (go_big_quiet_step (first | ((go_at_call 80; exact later_same (i_in _ _ _ _)))))
            refine wpQuiet_nil ?_; intro _ hw'; obtain ⟨x, hw''⟩ := hw'; subst hw''; obtain ⟨wn, hu⟩ := x; dsimp only; obtain ⟨N, J, JF, hn1, hn2, hz, hc, hf⟩ := hu.facts; (try simp only [World.size_alloc, World.size_setCell, World.heap_drewN, World.size_drew] at hn1 hn2)
            go_wp2
            go_ret2
            have hv : isPl a b c d S X Y P m m = false := by unfold isPl; rw [hno.out]; simp
            exact ⟨⟨.slice none 0 0, by rw [hv]; rfl, fun h => by rw [hv] at h; cases h⟩, by (repeat' (first | with_reducible exact Up.refl _ | with_reducible assumption | with_reducible refine Up.alloc ?_ _ | with_reducible refine Up.drew ?_ | with_reducible refine Up.drewN ?_ _ | with_reducible refine Up.setCell ?_ (by (try simp only [World.size_alloc, World.size_setCell, World.heap_drewN, World.size_drew]); omega) _ | (with_reducible refine Up.trans ?_ (by with_reducible assumption))))⟩
      · obtain rfl : j = m := by omega
        have hy := hide (all_yes hok.out)
        go_wp2
        go_ret2
        have hvt : isPl a b c d S X Y P j j = true := by unfold isPl; rw [hy.out]; simp
        exact ⟨⟨.slice Bo (bxl S X Y P j).length cap, by rw [hvt]; rfl, fun _ => ⟨_, _, rfl, hrd.out⟩⟩, hU⟩
  · have e0 : ((m : Int) != (n : Int)) = true := by simp; omega
    go_enter Try.func93, Try.ntmps93
    go_wp2
    go_ret2
    have hv : isPl a b c d S X Y P m n = false := by unfold isPl; simp [hmn]
    exact ⟨⟨.slice none 0 0, by rw [hv]; rfl, fun h => by rw [hv] at h; cases h⟩, by (repeat' (first | with_reducible exact Up.refl _ | with_reducible assumption | with_reducible refine Up.alloc ?_ _ | with_reducible refine Up.drew ?_ | with_reducible refine Up.drewN ?_ _ | with_reducible refine Up.setCell ?_ (by (try simp only [World.size_alloc, World.size_setCell, World.heap_drewN, World.size_drew]); omega) _ | (with_reducible refine Up.trans ?_ (by with_reducible assumption))))⟩
end Go.Proofs.Ytffkcgdgiggfoaa
