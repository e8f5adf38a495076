import Derived.Test.YtanafhmjmfkpmaaDivide
import Derived.Test.YtanafhmjmfkpmaaEq
import Derived.Test.YtanafhmjmfkpmaaOpen
import Derived.Deep.RegionHeld3
import Derived.Deep.DeepCutAuto
/- The walk of the law FnExactDivideIntervals. -/
namespace Go.Proofs.Ytanafhmjmfkpmaa
set_option linter.unusedSimpArgs false
set_option linter.unusedVariables false
open Go.RowKit
attribute [local go_sem] cell_allocI frz_allocI later_cell later_frz
set_option maxHeartbeats 1000000 in
theorem walk_FnExactDivideIntervals (w : World) (a b : Int) (_ua : I64 a) (_ub : I64 b) (c d : Int) (_uc : I64 c) (_ud : I64 d) :
    Calls Try.prog 4 #[.agg #[.int .i64 a, .int .i64 b], .agg #[.int .i64 c, .int .i64 d]] w fun e w' => e = .returned (.bool true) ∧ Up w w' := by
  clear _ua _ub _uc _ud
  go_enter Try.func4, Try.ntmps4
  go_upto_region 1 with fail
  have s1 : ((w.alloc (Obj.cells #[.int .i64 a, .int .i64 b] 23)).alloc (Obj.cells #[.int .i64 c, .int .i64 d] 23)).cell? ⟨w.heap.size, 0, none⟩ = some (.int .i64 a) := by simp [cell_allocI, ↓IntWalk.iteOmega]
  have s2 : ((w.alloc (Obj.cells #[.int .i64 a, .int .i64 b] 23)).alloc (Obj.cells #[.int .i64 c, .int .i64 d] 23)).cell? ⟨w.heap.size, 1, none⟩ = some (.int .i64 b) := by simp [cell_allocI, ↓IntWalk.iteOmega]
  have s3 : ((w.alloc (Obj.cells #[.int .i64 a, .int .i64 b] 23)).alloc (Obj.cells #[.int .i64 c, .int .i64 d] 23)).cell? ⟨w.heap.size + 1, 0, none⟩ = some (.int .i64 c) := by simp [cell_allocI, ↓IntWalk.iteOmega]
  have s4 : ((w.alloc (Obj.cells #[.int .i64 a, .int .i64 b] 23)).alloc (Obj.cells #[.int .i64 c, .int .i64 d] 23)).cell? ⟨w.heap.size + 1, 1, none⟩ = some (.int .i64 d) := by simp [cell_allocI, ↓IntWalk.iteOmega]
  have kS : ∀ w', Up ((w.alloc (Obj.cells #[.int .i64 a, .int .i64 b] 23)).alloc (Obj.cells #[.int .i64 c, .int .i64 d] 23)) w' → w'.cell? ⟨w.heap.size, 0, none⟩ = some (.int .i64 a) ∧ w'.cell? ⟨w.heap.size, 1, none⟩ = some (.int .i64 b) ∧ w'.cell? ⟨w.heap.size + 1, 0, none⟩ = some (.int .i64 c) ∧ w'.cell? ⟨w.heap.size + 1, 1, none⟩ = some (.int .i64 d) := fun w' hU => ⟨(hU.cells _ _ (cell_lt s1)).trans s1, (hU.cells _ _ (cell_lt s2)).trans s2, (hU.cells _ _ (cell_lt s3)).trans s3, (hU.cells _ _ (cell_lt s4)).trans s4⟩
  go_cut [5, 6] (fun s5 s6 wx => ∃ g : Nat, s5 = .pointer (some ⟨g, 0, none⟩) ∧ s6 = .int .i64 (divR a b c d).2.2 ∧ Up ((w.alloc (Obj.cells #[.int .i64 a, .int .i64 b] 23)).alloc (Obj.cells #[.int .i64 c, .int .i64 d] 23)) wx ∧ wx.cell? ⟨g, 0, none⟩ = some (.int .i64 (divR a b c d).1) ∧ wx.cell? ⟨g, 1, none⟩ = some (.int .i64 (divR a b c d).2.1))
  case first =>
    go_region_held3 (fun w' => w'.cell? ⟨w.heap.size, 0, none⟩ = some (.int .i64 a) ∧ w'.cell? ⟨w.heap.size, 1, none⟩ = some (.int .i64 b) ∧ w'.cell? ⟨w.heap.size + 1, 0, none⟩ = some (.int .i64 c) ∧ w'.cell? ⟨w.heap.size + 1, 1, none⟩ = some (.int .i64 d))
      (first | exact kS _ (by (repeat' (first | with_reducible exact Up.refl _ | with_reducible assumption | with_reducible refine Up.alloc ?_ _ | with_reducible refine Up.drew ?_ | with_reducible refine Up.drewN ?_ _ | with_reducible refine Up.setCell ?_ (by (try simp only [World.size_alloc, World.size_setCell, World.heap_drewN, World.size_drew]); omega) _ | (with_reducible refine Up.trans ?_ (by with_reducible assumption))))))
      (first
        | (go_at_call 20; refine (l_toInterval _ _ _).mono ?_; rintro e wn ⟨rfl, hu⟩; obtain ⟨N, J, JF, hn1, hn2, hz, hc, hf⟩ := hu.facts; (try simp only [World.size_alloc, World.size_setCell, World.heap_drewN, World.size_drew] at hn1 hn2))
        | (go_at_call 19; refine (s_DivideIntervals _ _ _ _ _).mono ?_; rintro e wn ⟨rfl, hu⟩; obtain ⟨N, J, JF, hn1, hn2, hz, hc, hf⟩ := hu.facts; (try simp only [World.size_alloc, World.size_setCell, World.heap_drewN, World.size_drew] at hn1 hn2); (try simp only [cell_drewI] at hc); (try simp only [frz_drewI] at hf)))
    all_goals (go_wp2_with fail; go_meet; exact ⟨_, rfl, rfl, by (repeat' (first | with_reducible exact Up.refl _ | with_reducible assumption | with_reducible refine Up.alloc ?_ _ | with_reducible refine Up.drew ?_ | with_reducible refine Up.drewN ?_ _ | with_reducible refine Up.setCell ?_ (by (try simp only [World.size_alloc, World.size_setCell, World.heap_drewN, World.size_drew]); omega) _ | (with_reducible refine Up.trans ?_ (by with_reducible assumption)))), (by simp [isSome_setCell, cell_setI, cell_drewI, cell_allocI, ↓IntWalk.iteOmega, *]), (by simp [isSome_setCell, cell_setI, cell_drewI, cell_allocI, ↓IntWalk.iteOmega, *])⟩)
  case rest =>
    obtain ⟨g, rfl, rfl, hu, h0, h1⟩ := hcut
    have hs := hu.size; simp only [World.size_alloc, World.size_setCell, World.heap_drewN, World.size_drew] at hs
    have g0 := cell_lt h0
    go_upto_region 2 with fail
    go_cut [7, 8] (fun s7 s8 wx => ∃ g : Nat, s7 = .pointer (some ⟨g, 0, none⟩) ∧ s8 = .int .i64 (divR a b c d).2.2 ∧ Up wc wx ∧ wx.cell? ⟨g, 0, none⟩ = some (.int .i64 (divR a b c d).1) ∧ wx.cell? ⟨g, 1, none⟩ = some (.int .i64 (divR a b c d).2.1))
    case first =>
      go_region_held3 (fun w' => w'.cell? ⟨w.heap.size, 0, none⟩ = some (.int .i64 a) ∧ w'.cell? ⟨w.heap.size, 1, none⟩ = some (.int .i64 b) ∧ w'.cell? ⟨w.heap.size + 1, 0, none⟩ = some (.int .i64 c) ∧ w'.cell? ⟨w.heap.size + 1, 1, none⟩ = some (.int .i64 d))
        (first | exact kS _ (by (repeat' (first | with_reducible exact Up.refl _ | with_reducible assumption | with_reducible refine Up.alloc ?_ _ | with_reducible refine Up.drew ?_ | with_reducible refine Up.drewN ?_ _ | with_reducible refine Up.setCell ?_ (by (try simp only [World.size_alloc, World.size_setCell, World.heap_drewN, World.size_drew]); omega) _ | (with_reducible refine Up.trans ?_ (by with_reducible assumption))))))
        (first
          | (go_at_call 20; refine (l_toInterval _ _ _).mono ?_; rintro e wn ⟨rfl, hu⟩; obtain ⟨N, J, JF, hn1, hn2, hz, hc, hf⟩ := hu.facts; (try simp only [World.size_alloc, World.size_setCell, World.heap_drewN, World.size_drew] at hn1 hn2))
          | (go_at_call 21; refine (i_DivideIntervals _ _ _ _ _).mono ?_; rintro e wn ⟨rfl, hu⟩; obtain ⟨N, J, JF, hn1, hn2, hz, hc, hf⟩ := hu.facts; (try simp only [World.size_alloc, World.size_setCell, World.heap_drewN, World.size_drew] at hn1 hn2); (try simp only [cell_drewI] at hc); (try simp only [frz_drewI] at hf)))
      all_goals (go_wp2_with fail; go_meet; exact ⟨_, rfl, rfl, by (repeat' (first | with_reducible exact Up.refl _ | with_reducible assumption | with_reducible refine Up.alloc ?_ _ | with_reducible refine Up.drew ?_ | with_reducible refine Up.drewN ?_ _ | with_reducible refine Up.setCell ?_ (by (try simp only [World.size_alloc, World.size_setCell, World.heap_drewN, World.size_drew]); omega) _ | (with_reducible refine Up.trans ?_ (by with_reducible assumption)))), (by simp [isSome_setCell, cell_setI, cell_drewI, cell_allocI, ↓IntWalk.iteOmega, *]), (by simp [isSome_setCell, cell_setI, cell_drewI, cell_allocI, ↓IntWalk.iteOmega, *])⟩)
    case rest =>
      obtain ⟨g', rfl, rfl, hu2, h2, h3⟩ := hcut
      have h4 := (hu2.cells _ _ g0).trans h0
      have h5 := (hu2.cells _ _ (cell_lt h1)).trans h1
      go_wp2_with (first
        | (go_at_call 18; refine (l_eqInterval _ _ _).mono ?_; rintro e wn ⟨rfl, hu⟩; obtain ⟨N, J, JF, hn1, hn2, hz, hc, hf⟩ := hu.facts; (try simp only [World.size_alloc, World.size_setCell, World.heap_drewN, World.size_drew] at hn1 hn2); (try simp only [cell_drewI] at hc); (try simp only [frz_drewI] at hf)))
      go_ret
      refine ⟨rfl, ?_⟩
      (repeat' (first | with_reducible exact Up.refl _ | with_reducible assumption | with_reducible refine Up.alloc ?_ _ | with_reducible refine Up.drew ?_ | with_reducible refine Up.drewN ?_ _ | with_reducible refine Up.setCell ?_ (by (try simp only [World.size_alloc, World.size_setCell, World.heap_drewN, World.size_drew]); omega) _ | (with_reducible refine Up.trans ?_ (by with_reducible assumption))))
end Go.Proofs.Ytanafhmjmfkpmaa
