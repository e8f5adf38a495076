import Derived.Test.YtanafhmjmfkpmaaNum
/- The references' source of draws: its contracts. Only what kind of value a draw gives is said. -/
namespace Go.Proofs.Ytanafhmjmfkpmaa
set_option linter.unusedSimpArgs false
set_option linter.unusedVariables false
open Go.RowKit
attribute [local go_sem] cell_allocI frz_allocI later_cell later_frz
attribute [local go_sem] cell_setI cell_drewI frz_drewI
/-- a slice that reads as bytes -/
def RdB (w : World) (A : Option Addr) (n : Nat) : Prop := ∃ f : Nat → Int, RdF w A n (fun k => .int .u8 (f k)) ∧ ∀ k, 0 ≤ f k ∧ f k ≤ 255
theorem RdB.up {w w' : World} {A : Option Addr} {n : Nat} (h : RdB w A n) (hu : Up w w') : RdB w' A n := by obtain ⟨f, h1, h2⟩ := h; exact ⟨f, h1.up hu, h2⟩
/-- block 'g' is a source over the bytes 'A' -/
def Src (w : World) (g t : Nat) (A : Option Addr) (n c : Nat) : Prop := ∃ (p : Nat) (s : Int), Blk w g t #[.slice A n c, .int .i64 p, .int .i64 s] ∧ p ≤ n ∧ 0 ≤ s ∧ s < 2147483647
/-- block 'g' is a source -/
def SrcX (w : World) (g t B : Nat) : Prop := ∃ A n c, Src w g t A n c ∧ RdB w A n ∧ n ≤ 4096 ∧ (0 < n → ∀ b o, A = some ⟨b, o, none⟩ → b < B) ∧ B ≤ g
theorem Src.lt {w : World} {g t : Nat} {A : Option Addr} {n c : Nat} (h : Src w g t A n c) : g < w.heap.size := by obtain ⟨p, s, hB, _⟩ := h; exact hB.lt
theorem SrcX.lt {w : World} {g t B : Nat} (h : SrcX w g t B) : g < w.heap.size := by obtain ⟨A, n, c, h, _⟩ := h; exact h.lt
theorem SrcX.le {w : World} {g t B : Nat} (h : SrcX w g t B) : B ≤ g := by obtain ⟨A, n, c, _, _, _, _, h⟩ := h; exact h
theorem Src.up {w w' : World} {g t : Nat} {A : Option Addr} {n c : Nat} (h : Src w g t A n c) (hu : Up w w') : Src w' g t A n c := by obtain ⟨p, s, hB, r⟩ := h; exact ⟨p, s, hB.up hu, r⟩
theorem SrcX.up {w w' : World} {g t B : Nat} (h : SrcX w g t B) (hu : Up w w') : SrcX w' g t B := by obtain ⟨A, n, c, h1, h2, r⟩ := h; exact ⟨A, n, c, h1.up hu, h2.up hu, r⟩
theorem RdB.grown {w w' : World} {A : Option Addr} {n g : Nat} (h : RdB w A n) (hu : w.grownBy w' (some g)) (hA : 0 < n → ∀ b o, A = some ⟨b, o, none⟩ → b ≠ g) : RdB w' A n := by
  obtain ⟨f, h1, h2⟩ := h
  rcases Nat.eq_zero_or_pos n with h0 | h0
  · subst h0; exact ⟨f, RdF.zero _ _ _, h2⟩
  have hA := hA h0
  exact ⟨f, h1.grown hu (fun b o e => by have := hA b o e; simpa using this), h2⟩
theorem ltne {n g B : Nat} {A : Option Addr} (h : (0 < n → ∀ b o, A = some ⟨b, o, none⟩ → b < B) ∧ B ≤ g) : 0 < n → ∀ b o, A = some ⟨b, o, none⟩ → b ≠ g := fun h0 b o e => by have := h.1 h0 b o e; have := h.2; omega
theorem RdB.far {w : World} {A : Option Addr} {n : Nat} (h : RdB w A n) {p : Addr} (hp : 0 < n → ∀ b o, A = some ⟨b, o, none⟩ → b ≠ p.block) (u : Value) : RdB (w.setCell p u) A n := by
  rcases Nat.eq_zero_or_pos n with h0 | h0
  · obtain ⟨f, _, h2⟩ := h; subst h0; exact ⟨f, RdF.zero _ _ _, h2⟩
  exact h.grown (g := p.block) ⟨rfl, rfl, rfl, by simp [World.setCell], fun k hk hne => Below.heap_setCell w p u k (by rintro rfl; exact hne rfl)⟩ hp
/-- a store to another block than the source's and the bytes' -/
theorem SrcX.far {w : World} {g t B : Nat} (h : SrcX w g t B) {p : Addr} (hp : B ≤ p.block) (hq : g ≠ p.block) (u : Value) : SrcX (w.setCell p u) g t B := by
  obtain ⟨A, n, c, ⟨q, s, hB, r⟩, h2, h3, h4, h5⟩ := h
  exact ⟨A, n, c, ⟨q, s, hB.far hq u, r⟩, h2.far (fun h0 b o e => by have := h4 h0 b o e; omega) u, h3, h4, h5⟩
theorem tmod_in (x : Int) (h : 0 ≤ x) {m : Int} (hm : 0 < m) : 0 ≤ x.tmod m ∧ x.tmod m < m := ⟨Int.tmod_nonneg m h, Int.tmod_lt_of_pos x hm⟩
set_option maxHeartbeats 1000000 in
theorem s_l01From (A : Option Addr) (n c : Nat) (w : World) (h : RdB w A n) (hn : n ≤ 4096) :
    Calls Try.prog 114 #[.slice A n c] w fun e w' => e = .returned (.pointer (some ⟨w.heap.size, 0, none⟩)) ∧ Src w' w.heap.size 102 A n c ∧ Up w w' := by
  obtain ⟨f, hf, hb⟩ := h
  go_enter Try.func114, Try.ntmps114
  go_wp2
  have hf := hide hf
  have hb := hide hb
  go_loopw [4] (fun i wr => ∃ (k : Nat) (s : Int), k ≤ n ∧ i = .int .i64 k ∧ Blk wr w.heap.size 102 #[.slice A n c, .int .i64 0, .int .i64 s] ∧ 0 ≤ s ∧ s < 2147483647 ∧ Up w wr) (fun i _ => n - (intOf i).toNat)
  case atStart => exact ⟨0, 21013, Nat.zero_le _, rfl, Blk.new _ _ _, by omega, by omega, by (repeat' (first | with_reducible exact Up.refl _ | with_reducible assumption | with_reducible refine Up.alloc ?_ _ | with_reducible refine Up.drew ?_ | with_reducible refine Up.drewN ?_ _ | with_reducible refine Up.setCell ?_ (by (try simp only [World.size_alloc, World.size_setCell, World.heap_drewN, World.size_drew]); omega) _ | (with_reducible refine Up.trans ?_ (by with_reducible assumption))))⟩
  case round =>
    obtain ⟨k, s, hk, rfl, hB, s0, s1, hU⟩ := hrel
    have b0 := hB.cell 0
    have b1 := hB.cell 1
    have b2 := hB.cell 2
    have z2 := hB.frozen 2
    have hs := hB.lt
    simp at b0 b1 b2
    by_cases hlt : k < n
    · by_cases h64 : k < 64
      · obtain ⟨b, o, rfl, hbl, hc⟩ := (hf.out.up hU).at_ (by omega)
        have c0 := hc k hlt
        obtain ⟨f0, f1⟩ := hb.out k
        clear hc
        obtain ⟨q0, q1⟩ := tmod_in (s * 71 + f k) (by omega) (m := 2147483647) (by omega)
        have g1 : decide (k < n) = true := by simpa using hlt
        have g2 : decide ((k : Int) < 64) = true := by simp; omega
        go_wp2
        go_region
        go_wp2
        go_roundw
        case rel => exact ⟨k + 1, _, by omega, by go_num, (hB.set_ 2 _).drew, by omega, by omega, by (repeat' (first | with_reducible exact Up.refl _ | with_reducible assumption | with_reducible refine Up.alloc ?_ _ | with_reducible refine Up.drew ?_ | with_reducible refine Up.drewN ?_ _ | with_reducible refine Up.setCell ?_ (by (try simp only [World.size_alloc, World.size_setCell, World.heap_drewN, World.size_drew]); omega) _ | (with_reducible refine Up.trans ?_ (by with_reducible assumption))))⟩
        case measure => simp [intOf]; omega
      · have g1 : decide (k < n) = true := by simpa using hlt
        have g2 : decide ((k : Int) < 64) = false := by simp; omega
        go_wp2
        go_ret
        exact ⟨rfl, ⟨0, s, hB, by omega, s0, s1⟩, hU⟩
    · have g1 : decide (k < n) = false := by simpa using hlt
      go_wp2
      go_ret
      exact ⟨rfl, ⟨0, s, hB, by omega, s0, s1⟩, hU⟩
theorem next_in (x : Int) {m : Int} (hm : 1 < m) : 0 ≤ x % m ∧ (x % m < m ∨ x % m = 0) := ⟨Int.emod_nonneg _ (by omega), Or.inl (Int.emod_lt_of_pos _ (by omega))⟩
set_option maxHeartbeats 1000000 in
theorem s_l01Next (g : Nat) (A : Option Addr) (n c : Nat) (m : Int) (w : World) (hS : Src w g 102 A n c) (h : RdB w A n) (hn : n ≤ 4096) (hA : 0 < n → ∀ b o, A = some ⟨b, o, none⟩ → b ≠ g) (hm : m ≤ 9000000000000000) :
    Calls Try.prog 115 #[.pointer (some ⟨g, 0, none⟩), .int .i64 m] w fun e w' => (∃ r : Int, e = .returned (.int .i64 r) ∧ 0 ≤ r ∧ (r < m ∨ r = 0)) ∧ Src w' g 102 A n c ∧ w.grownBy w' (some g) := by
  obtain ⟨p, s, hB, p1, s0, s1⟩ := hS
  have b0 := hB.cell 0
  have b1 := hB.cell 1
  have b2 := hB.cell 2
  have z1 := hB.frozen 1
  have z2 := hB.frozen 2
  simp at b0 b1 b2
  by_cases m1 : m ≤ 1
  · go_enter Try.func115, Try.ntmps115
    go_wp2
    go_ret
    exact ⟨⟨0, rfl, by omega, Or.inr rfl⟩, ⟨p, s, hB, p1, s0, s1⟩, grown_refl _ _⟩
  · have m1 : 1 < m := by omega
    obtain ⟨q0, q1⟩ := tmod_in (s * 48271 + 29) (by omega) (m := 2147483647) (by omega)
    by_cases hp : p < n
    · obtain ⟨f, hf, hb⟩ := h
      obtain ⟨b, o, rfl, hbl, hc⟩ := hf.at_ (by omega)
      have hbg := hA (by omega) b o rfl
      have c0 := hc p hp
      obtain ⟨f0, f1⟩ := hb p
      clear hc hf
      have g1 : decide (p < n) = true := by simpa using hp
      have hB2 : Blk ((w.setCell ⟨g, 2, none⟩ (.int .i64 ((s * 48271 + 29) % 2147483647))).setCell ⟨g, 1, none⟩ (.int .i64 ((p : Int) + 1))) g 102 #[.slice (some ⟨b, o, none⟩) n c, .int .i64 ((p + 1 : Nat) : Int), .int .i64 ((s * 48271 + 29) % 2147483647)] := (hB.set_ 2 _).set_ 1 _
      go_enter Try.func115, Try.ntmps115
      go_wp2
      go_region
      go_wp2
      go_region
      go_wp2
      · have e1 : (p : Int) + 1 - 1 = p := by omega
        have e2 : ((p : Int) + 1 - 1).toNat = p := by omega
        have e1 := hide e1
        have e2 := hide e2
        go_region
        go_wp2
        go_ret
        refine ⟨⟨_, rfl, next_in _ m1⟩, ⟨p + 1, _, hB2, by omega, by omega, by omega⟩, ?_⟩
        (repeat' (first | with_reducible exact grown_refl _ _ | with_reducible assumption | with_reducible refine grown_new ?_ (by (try dsimp only); (try simp only [World.size_alloc, World.size_setCell, World.heap_drewN, World.size_drew]); omega) _ | with_reducible refine grown_set ?_ _ _ | with_reducible refine grown_up ?_ ((Up.refl _).drew) | with_reducible refine grown_up ?_ (Up.alloc (Up.refl _) _) | with_reducible refine grown_trans ?_ (by with_reducible assumption)))
      all_goals (go_ret; refine ⟨⟨_, rfl, next_in _ m1⟩, ⟨p + 1, _, hB2, by omega, by omega, by omega⟩, ?_⟩; (repeat' (first | with_reducible exact grown_refl _ _ | with_reducible assumption | with_reducible refine grown_new ?_ (by (try dsimp only); (try simp only [World.size_alloc, World.size_setCell, World.heap_drewN, World.size_drew]); omega) _ | with_reducible refine grown_set ?_ _ _ | with_reducible refine grown_up ?_ ((Up.refl _).drew) | with_reducible refine grown_up ?_ (Up.alloc (Up.refl _) _) | with_reducible refine grown_trans ?_ (by with_reducible assumption))))
    · have g1 : decide (p < n) = false := by simpa using hp
      go_enter Try.func115, Try.ntmps115
      go_wp2
      go_region
      go_wp2
      go_ret
      refine ⟨⟨_, rfl, next_in _ m1⟩, ⟨p, _, hB.set_ 2 (.int .i64 ((s * 48271 + 29) % 2147483647)), p1, by omega, by omega⟩, ?_⟩
      (repeat' (first | with_reducible exact grown_refl _ _ | with_reducible assumption | with_reducible refine grown_new ?_ (by (try dsimp only); (try simp only [World.size_alloc, World.size_setCell, World.heap_drewN, World.size_drew]); omega) _ | with_reducible refine grown_set ?_ _ _ | with_reducible refine grown_up ?_ ((Up.refl _).drew) | with_reducible refine grown_up ?_ (Up.alloc (Up.refl _) _) | with_reducible refine grown_trans ?_ (by with_reducible assumption)))
theorem s_l01NextX {B : Nat} (g : Nat) (m : Int) (w : World) (hS : SrcX w g 102 B) (hm : m ≤ 9000000000000000) :
    Calls Try.prog 115 #[.pointer (some ⟨g, 0, none⟩), .int .i64 m] w fun e w' => (∃ r : Int, e = .returned (.int .i64 r) ∧ 0 ≤ r ∧ (r < m ∨ r = 0)) ∧ SrcX w' g 102 B ∧ w.grownBy w' (some g) := by
  obtain ⟨A, n, c, h1, h2, h3, h4⟩ := hS
  refine (s_l01Next g A n c m w h1 h2 h3 (ltne h4) hm).mono ?_
  rintro e w' ⟨k1, k2, k3⟩
  exact ⟨k1, ⟨A, n, c, k2, h2.grown k3 (ltne h4), h3, h4⟩, k3⟩
theorem s_l01FromX (w0 : World) (A : Option Addr) (n c : Nat) (w : World) (h0 : RdB w0 A n) (hu : Up w0 w) (hn : n ≤ 4096) :
    Calls Try.prog 114 #[.slice A n c] w fun e w' => e = .returned (.pointer (some ⟨w.heap.size, 0, none⟩)) ∧ SrcX w' w.heap.size 102 w0.heap.size ∧ Up w w' := by
  have h := h0.up hu
  refine (s_l01From A n c w h hn).mono ?_
  rintro e w' ⟨rfl, k2, k3⟩
  refine ⟨rfl, ⟨A, n, c, k2, h.up k3, hn, fun hp b o e => ?_, hu.size⟩, k3⟩
  obtain ⟨f, hf, _⟩ := h0
  obtain ⟨b', o', e', hb, _⟩ := hf 0 hp
  rw [e] at e'; injection e' with e'; injection e' with e1 e2; omega
theorem s_l01Pick {B : Nat} (g : Nat) (b o L c : Nat) (vs : List Int) (w : World) (hS : SrcX w g 102 B) (hV : RdI w (some ⟨b, o, none⟩) L vs) (hb : b ≠ g) (hL : 0 < L) (hL1 : L ≤ 1048576) :
    Calls Try.prog 119 #[.pointer (some ⟨g, 0, none⟩), .slice (some ⟨b, o, none⟩) L c] w fun e w' => (∃ k, k < L ∧ e = .returned (.int .i64 (vs[k]?.getD 0))) ∧ SrcX w' g 102 B ∧ w.grownBy w' (some g) := by
  go_enter Try.func119, Try.ntmps119
  go_wp2_with fail
  refine (s_l01NextX g _ _ hS (by omega)).mono ?_
  rintro e w' ⟨⟨r, rfl, r0, r1⟩, hS', hg⟩
  obtain ⟨k, rfl⟩ := Int.eq_ofNat_of_zero_le r0
  have hk : k < L := by omega
  obtain ⟨b', o', e', hbl, hc⟩ := (hV.2.grown hg (fun b' o' e => by injection e with e; injection e with e1 e2; simp; omega)) k hk
  injection e' with e'; injection e' with e1 e2; subst e1 e2
  clear r1
  go_wp2
  go_ret
  exact ⟨⟨k, hk, rfl⟩, hS', hg⟩
end Go.Proofs.Ytanafhmjmfkpmaa
