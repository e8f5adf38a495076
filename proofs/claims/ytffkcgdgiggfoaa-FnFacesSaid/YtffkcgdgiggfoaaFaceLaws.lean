import Derived.Test.YtffkcgdgiggfoaaFaceFns
import Derived.Test.YtffkcgdgiggfoaaSlices
import Derived.LoopN
/- Faces: MeetFaces, InFace, likePoints: the contracts. -/
namespace Go.Proofs.Ytffkcgdgiggfoaa
set_option linter.unusedSimpArgs false
set_option linter.unusedVariables false
open Go.RowKit
attribute [local go_sem] cell_allocI frz_allocI later_cell later_frz
attribute [local go_sem ↓] min_two max_two min_four max_four
attribute [local go_sem] cell_setI cell_drewI frz_drewI
/-- what MeetFaces returns -/
def meetF (a b c d p q r s : Int) : Int × Int × Int × Int × Int := if isFaceB a b c d then (if isFaceB p q r s then (if isFaceB (max a p) (max b q) (min c r) (min d s) then (max a p, max b q, min c r, min d s, 0) else (0, 0, 0, 0, 4)) else (0, 0, 0, 0, 1)) else (0, 0, 0, 0, 1)
set_option maxHeartbeats 1000000 in
theorem i_MeetFaces (a b c d p q r s : Int) (w : World) :
    Calls Try.prog 60 #[.agg #[.int .i64 a, .int .i64 b, .int .i64 c, .int .i64 d], .agg #[.int .i64 p, .int .i64 q, .int .i64 r, .int .i64 s]] w fun e w' => e = .returned (.tuple #[.agg #[.int .i64 (meetF a b c d p q r s).1, .int .i64 (meetF a b c d p q r s).2.1, .int .i64 (meetF a b c d p q r s).2.2.1, .int .i64 (meetF a b c d p q r s).2.2.2.1], .int .i64 (meetF a b c d p q r s).2.2.2.2]) ∧ Up w w' := by
  by_cases h : isFaceB a b c d = true
  · by_cases k : isFaceB p q r s = true
    · by_cases l : isFaceB (max a p) (max b q) (min c r) (min d s) = true
      · have hv := hide (show (meetF a b c d p q r s) = (max a p, max b q, min c r, min d s, 0) by unfold meetF; rw [if_pos h, if_pos k, if_pos l])
        go_enter Try.func60, Try.ntmps60
        go_wp2_with (go_at_call 122; refine (i_IsFace _ _ _ _ _).mono ?_; rintro e wn ⟨rfl, hu⟩; obtain ⟨N, J, JF, hn1, hn2, hz, hc, hf⟩ := hu.facts; (try simp only [World.size_alloc, World.size_setCell, World.heap_drewN, World.size_drew] at hn1 hn2); (try simp only [cell_drewI] at hc); (try simp only [frz_drewI] at hf))
        all_goals (refine ret_agg4t Try.results60 rfl Try.underlying49 rfl (by kernel_rfl) rfl (by simp [isSome_setCell, cell_setI, cell_drewI, cell_allocI, ↓IntWalk.iteOmega, *]) (by simp [isSome_setCell, cell_setI, cell_drewI, cell_allocI, ↓IntWalk.iteOmega, *]) (by simp [isSome_setCell, cell_setI, cell_drewI, cell_allocI, ↓IntWalk.iteOmega, *]) (by simp [isSome_setCell, cell_setI, cell_drewI, cell_allocI, ↓IntWalk.iteOmega, *]) ⟨(by rw [hv.out] <;> rfl), ?_⟩; (repeat' (first | with_reducible exact Up.refl _ | with_reducible assumption | with_reducible refine Up.alloc ?_ _ | with_reducible refine Up.drew ?_ | with_reducible refine Up.drewN ?_ _ | with_reducible refine Up.setCell ?_ (by (try simp only [World.size_alloc, World.size_setCell, World.heap_drewN, World.size_drew]); omega) _ | (with_reducible refine Up.trans ?_ (by with_reducible assumption)))))
      · have hv := hide (show (meetF a b c d p q r s) = (0, 0, 0, 0, 4) by unfold meetF; rw [if_pos h, if_pos k, if_neg l])
        have l : isFaceB (max a p) (max b q) (min c r) (min d s) = false := by simpa using l
        go_enter Try.func60, Try.ntmps60
        go_wp2_with (go_at_call 122; refine (i_IsFace _ _ _ _ _).mono ?_; rintro e wn ⟨rfl, hu⟩; obtain ⟨N, J, JF, hn1, hn2, hz, hc, hf⟩ := hu.facts; (try simp only [World.size_alloc, World.size_setCell, World.heap_drewN, World.size_drew] at hn1 hn2); (try simp only [cell_drewI] at hc); (try simp only [frz_drewI] at hf))
        all_goals (refine ret_agg4t Try.results60 rfl Try.underlying49 rfl (by kernel_rfl) rfl (by simp [isSome_setCell, cell_setI, cell_drewI, cell_allocI, ↓IntWalk.iteOmega, *]) (by simp [isSome_setCell, cell_setI, cell_drewI, cell_allocI, ↓IntWalk.iteOmega, *]) (by simp [isSome_setCell, cell_setI, cell_drewI, cell_allocI, ↓IntWalk.iteOmega, *]) (by simp [isSome_setCell, cell_setI, cell_drewI, cell_allocI, ↓IntWalk.iteOmega, *]) ⟨(by rw [hv.out] <;> rfl), ?_⟩; (repeat' (first | with_reducible exact Up.refl _ | with_reducible assumption | with_reducible refine Up.alloc ?_ _ | with_reducible refine Up.drew ?_ | with_reducible refine Up.drewN ?_ _ | with_reducible refine Up.setCell ?_ (by (try simp only [World.size_alloc, World.size_setCell, World.heap_drewN, World.size_drew]); omega) _ | (with_reducible refine Up.trans ?_ (by with_reducible assumption)))))
    · have hv := hide (show (meetF a b c d p q r s) = (0, 0, 0, 0, 1) by unfold meetF; rw [if_pos h, if_neg k])
      have k : isFaceB p q r s = false := by simpa using k
      go_enter Try.func60, Try.ntmps60
      go_wp2_with (go_at_call 122; refine (i_IsFace _ _ _ _ _).mono ?_; rintro e wn ⟨rfl, hu⟩; obtain ⟨N, J, JF, hn1, hn2, hz, hc, hf⟩ := hu.facts; (try simp only [World.size_alloc, World.size_setCell, World.heap_drewN, World.size_drew] at hn1 hn2); (try simp only [cell_drewI] at hc); (try simp only [frz_drewI] at hf))
      all_goals (refine ret_agg4t Try.results60 rfl Try.underlying49 rfl (by kernel_rfl) rfl (by simp [isSome_setCell, cell_setI, cell_drewI, cell_allocI, ↓IntWalk.iteOmega, *]) (by simp [isSome_setCell, cell_setI, cell_drewI, cell_allocI, ↓IntWalk.iteOmega, *]) (by simp [isSome_setCell, cell_setI, cell_drewI, cell_allocI, ↓IntWalk.iteOmega, *]) (by simp [isSome_setCell, cell_setI, cell_drewI, cell_allocI, ↓IntWalk.iteOmega, *]) ⟨(by rw [hv.out] <;> rfl), ?_⟩; (repeat' (first | with_reducible exact Up.refl _ | with_reducible assumption | with_reducible refine Up.alloc ?_ _ | with_reducible refine Up.drew ?_ | with_reducible refine Up.drewN ?_ _ | with_reducible refine Up.setCell ?_ (by (try simp only [World.size_alloc, World.size_setCell, World.heap_drewN, World.size_drew]); omega) _ | (with_reducible refine Up.trans ?_ (by with_reducible assumption)))))
  · have hv := hide (show (meetF a b c d p q r s) = (0, 0, 0, 0, 1) by unfold meetF; rw [if_neg h])
    have h : isFaceB a b c d = false := by simpa using h
    go_enter Try.func60, Try.ntmps60
    go_wp2_with (go_at_call 122; refine (i_IsFace _ _ _ _ _).mono ?_; rintro e wn ⟨rfl, hu⟩; obtain ⟨N, J, JF, hn1, hn2, hz, hc, hf⟩ := hu.facts; (try simp only [World.size_alloc, World.size_setCell, World.heap_drewN, World.size_drew] at hn1 hn2); (try simp only [cell_drewI] at hc); (try simp only [frz_drewI] at hf))
    all_goals (refine ret_agg4t Try.results60 rfl Try.underlying49 rfl (by kernel_rfl) rfl (by simp [isSome_setCell, cell_setI, cell_drewI, cell_allocI, ↓IntWalk.iteOmega, *]) (by simp [isSome_setCell, cell_setI, cell_drewI, cell_allocI, ↓IntWalk.iteOmega, *]) (by simp [isSome_setCell, cell_setI, cell_drewI, cell_allocI, ↓IntWalk.iteOmega, *]) (by simp [isSome_setCell, cell_setI, cell_drewI, cell_allocI, ↓IntWalk.iteOmega, *]) ⟨(by rw [hv.out] <;> rfl), ?_⟩; (repeat' (first | with_reducible exact Up.refl _ | with_reducible assumption | with_reducible refine Up.alloc ?_ _ | with_reducible refine Up.drew ?_ | with_reducible refine Up.drewN ?_ _ | with_reducible refine Up.setCell ?_ (by (try simp only [World.size_alloc, World.size_setCell, World.heap_drewN, World.size_drew]); omega) _ | (with_reducible refine Up.trans ?_ (by with_reducible assumption)))))
set_option maxHeartbeats 1000000 in
theorem s_MeetFaces (a b c d p q r s : Int) (w : World) :
    Calls Try.prog 61 #[.agg #[.int .i64 a, .int .i64 b, .int .i64 c, .int .i64 d], .agg #[.int .i64 p, .int .i64 q, .int .i64 r, .int .i64 s]] w fun e w' => e = .returned (.tuple #[.agg #[.int .i64 (meetF a b c d p q r s).1, .int .i64 (meetF a b c d p q r s).2.1, .int .i64 (meetF a b c d p q r s).2.2.1, .int .i64 (meetF a b c d p q r s).2.2.2.1], .int .i64 (meetF a b c d p q r s).2.2.2.2]) ∧ Up w w' := by
  by_cases h : isFaceB a b c d = true
  · by_cases k : isFaceB p q r s = true
    · by_cases l : isFaceB (max a p) (max b q) (min c r) (min d s) = true
      · have hv := hide (show (meetF a b c d p q r s) = (max a p, max b q, min c r, min d s, 0) by unfold meetF; rw [if_pos h, if_pos k, if_pos l])
        go_enter Try.func61, Try.ntmps61
        go_wp2_with (go_at_call 123; refine (s_IsFace _ _ _ _ _).mono ?_; rintro e wn ⟨rfl, hu⟩; obtain ⟨N, J, JF, hn1, hn2, hz, hc, hf⟩ := hu.facts; (try simp only [World.size_alloc, World.size_setCell, World.heap_drewN, World.size_drew] at hn1 hn2); (try simp only [cell_drewI] at hc); (try simp only [frz_drewI] at hf))
        all_goals (refine ret_agg4t Try.results61 rfl Try.underlying49 rfl (by kernel_rfl) rfl (by simp [isSome_setCell, cell_setI, cell_drewI, cell_allocI, ↓IntWalk.iteOmega, *]) (by simp [isSome_setCell, cell_setI, cell_drewI, cell_allocI, ↓IntWalk.iteOmega, *]) (by simp [isSome_setCell, cell_setI, cell_drewI, cell_allocI, ↓IntWalk.iteOmega, *]) (by simp [isSome_setCell, cell_setI, cell_drewI, cell_allocI, ↓IntWalk.iteOmega, *]) ⟨(by rw [hv.out] <;> rfl), ?_⟩; (repeat' (first | with_reducible exact Up.refl _ | with_reducible assumption | with_reducible refine Up.alloc ?_ _ | with_reducible refine Up.drew ?_ | with_reducible refine Up.drewN ?_ _ | with_reducible refine Up.setCell ?_ (by (try simp only [World.size_alloc, World.size_setCell, World.heap_drewN, World.size_drew]); omega) _ | (with_reducible refine Up.trans ?_ (by with_reducible assumption)))))
      · have hv := hide (show (meetF a b c d p q r s) = (0, 0, 0, 0, 4) by unfold meetF; rw [if_pos h, if_pos k, if_neg l])
        have l : isFaceB (max a p) (max b q) (min c r) (min d s) = false := by simpa using l
        go_enter Try.func61, Try.ntmps61
        go_wp2_with (go_at_call 123; refine (s_IsFace _ _ _ _ _).mono ?_; rintro e wn ⟨rfl, hu⟩; obtain ⟨N, J, JF, hn1, hn2, hz, hc, hf⟩ := hu.facts; (try simp only [World.size_alloc, World.size_setCell, World.heap_drewN, World.size_drew] at hn1 hn2); (try simp only [cell_drewI] at hc); (try simp only [frz_drewI] at hf))
        all_goals (refine ret_agg4t Try.results61 rfl Try.underlying49 rfl (by kernel_rfl) rfl (by simp [isSome_setCell, cell_setI, cell_drewI, cell_allocI, ↓IntWalk.iteOmega, *]) (by simp [isSome_setCell, cell_setI, cell_drewI, cell_allocI, ↓IntWalk.iteOmega, *]) (by simp [isSome_setCell, cell_setI, cell_drewI, cell_allocI, ↓IntWalk.iteOmega, *]) (by simp [isSome_setCell, cell_setI, cell_drewI, cell_allocI, ↓IntWalk.iteOmega, *]) ⟨(by rw [hv.out] <;> rfl), ?_⟩; (repeat' (first | with_reducible exact Up.refl _ | with_reducible assumption | with_reducible refine Up.alloc ?_ _ | with_reducible refine Up.drew ?_ | with_reducible refine Up.drewN ?_ _ | with_reducible refine Up.setCell ?_ (by (try simp only [World.size_alloc, World.size_setCell, World.heap_drewN, World.size_drew]); omega) _ | (with_reducible refine Up.trans ?_ (by with_reducible assumption)))))
    · have hv := hide (show (meetF a b c d p q r s) = (0, 0, 0, 0, 1) by unfold meetF; rw [if_pos h, if_neg k])
      have k : isFaceB p q r s = false := by simpa using k
      go_enter Try.func61, Try.ntmps61
      go_wp2_with (go_at_call 123; refine (s_IsFace _ _ _ _ _).mono ?_; rintro e wn ⟨rfl, hu⟩; obtain ⟨N, J, JF, hn1, hn2, hz, hc, hf⟩ := hu.facts; (try simp only [World.size_alloc, World.size_setCell, World.heap_drewN, World.size_drew] at hn1 hn2); (try simp only [cell_drewI] at hc); (try simp only [frz_drewI] at hf))
      all_goals (refine ret_agg4t Try.results61 rfl Try.underlying49 rfl (by kernel_rfl) rfl (by simp [isSome_setCell, cell_setI, cell_drewI, cell_allocI, ↓IntWalk.iteOmega, *]) (by simp [isSome_setCell, cell_setI, cell_drewI, cell_allocI, ↓IntWalk.iteOmega, *]) (by simp [isSome_setCell, cell_setI, cell_drewI, cell_allocI, ↓IntWalk.iteOmega, *]) (by simp [isSome_setCell, cell_setI, cell_drewI, cell_allocI, ↓IntWalk.iteOmega, *]) ⟨(by rw [hv.out] <;> rfl), ?_⟩; (repeat' (first | with_reducible exact Up.refl _ | with_reducible assumption | with_reducible refine Up.alloc ?_ _ | with_reducible refine Up.drew ?_ | with_reducible refine Up.drewN ?_ _ | with_reducible refine Up.setCell ?_ (by (try simp only [World.size_alloc, World.size_setCell, World.heap_drewN, World.size_drew]); omega) _ | (with_reducible refine Up.trans ?_ (by with_reducible assumption)))))
  · have hv := hide (show (meetF a b c d p q r s) = (0, 0, 0, 0, 1) by unfold meetF; rw [if_neg h])
    have h : isFaceB a b c d = false := by simpa using h
    go_enter Try.func61, Try.ntmps61
    go_wp2_with (go_at_call 123; refine (s_IsFace _ _ _ _ _).mono ?_; rintro e wn ⟨rfl, hu⟩; obtain ⟨N, J, JF, hn1, hn2, hz, hc, hf⟩ := hu.facts; (try simp only [World.size_alloc, World.size_setCell, World.heap_drewN, World.size_drew] at hn1 hn2); (try simp only [cell_drewI] at hc); (try simp only [frz_drewI] at hf))
    all_goals (refine ret_agg4t Try.results61 rfl Try.underlying49 rfl (by kernel_rfl) rfl (by simp [isSome_setCell, cell_setI, cell_drewI, cell_allocI, ↓IntWalk.iteOmega, *]) (by simp [isSome_setCell, cell_setI, cell_drewI, cell_allocI, ↓IntWalk.iteOmega, *]) (by simp [isSome_setCell, cell_setI, cell_drewI, cell_allocI, ↓IntWalk.iteOmega, *]) (by simp [isSome_setCell, cell_setI, cell_drewI, cell_allocI, ↓IntWalk.iteOmega, *]) ⟨(by rw [hv.out] <;> rfl), ?_⟩; (repeat' (first | with_reducible exact Up.refl _ | with_reducible assumption | with_reducible refine Up.alloc ?_ _ | with_reducible refine Up.drew ?_ | with_reducible refine Up.drewN ?_ _ | with_reducible refine Up.setCell ?_ (by (try simp only [World.size_alloc, World.size_setCell, World.heap_drewN, World.size_drew]); omega) _ | (with_reducible refine Up.trans ?_ (by with_reducible assumption)))))
set_option maxHeartbeats 1000000 in
theorem i_faced1 (a b c d x y : Int) (g k : Nat) (w : World) (hF : isFaceB a b c d = true) (hp : (spotB x && spotB y) = true) (h0 : w.cell? ⟨g, 0, none⟩ = some (.int .i64 x)) (h1 : w.cell? ⟨g, 1, none⟩ = some (.int .i64 y)) :
    Calls Try.prog 125 #[.agg #[.int .i64 a, .int .i64 b, .int .i64 c, .int .i64 d], .slice (some ⟨g, 0, none⟩) 1 k] w fun e w' => e = .returned (.int .i64 0) ∧ Up w w' := by
  have hg := cell_lt h0
  go_enter Try.func125, Try.ntmps125
  go_wp2_with (first
    | (go_at_call 122; refine (i_IsFace _ _ _ _ _).mono ?_; rintro e wn ⟨rfl, hu⟩; obtain ⟨N, J, JF, hn1, hn2, hz, hc, hf⟩ := hu.facts; (try simp only [World.size_alloc, World.size_setCell, World.heap_drewN, World.size_drew] at hn1 hn2); (try simp only [cell_drewI] at hc); (try simp only [frz_drewI] at hf))
    | (go_at_call 142; refine (i_isPoint _ _ _).mono ?_; rw [hp]; rintro e wn ⟨rfl, hu⟩; obtain ⟨N, J, JF, hn1, hn2, hz, hc, hf⟩ := hu.facts; (try simp only [World.size_alloc, World.size_setCell, World.heap_drewN, World.size_drew] at hn1 hn2); (try simp only [cell_drewI] at hc); (try simp only [frz_drewI] at hf)))
  refine wp_loop_rounds 2 ?_
  repeat any_goals (rw [rounds_succ]; go_wp2_with (first
    | (go_at_call 122; refine (i_IsFace _ _ _ _ _).mono ?_; rintro e wn ⟨rfl, hu⟩; obtain ⟨N, J, JF, hn1, hn2, hz, hc, hf⟩ := hu.facts; (try simp only [World.size_alloc, World.size_setCell, World.heap_drewN, World.size_drew] at hn1 hn2); (try simp only [cell_drewI] at hc); (try simp only [frz_drewI] at hf))
    | (go_at_call 142; refine (i_isPoint _ _ _).mono ?_; rw [hp]; rintro e wn ⟨rfl, hu⟩; obtain ⟨N, J, JF, hn1, hn2, hz, hc, hf⟩ := hu.facts; (try simp only [World.size_alloc, World.size_setCell, World.heap_drewN, World.size_drew] at hn1 hn2); (try simp only [cell_drewI] at hc); (try simp only [frz_drewI] at hf))); try refine wp_loop_rounds 2 ?_)
  go_ret
  exact ⟨rfl, by (repeat' (first | with_reducible exact Up.refl _ | with_reducible assumption | with_reducible refine Up.alloc ?_ _ | with_reducible refine Up.drew ?_ | with_reducible refine Up.drewN ?_ _ | with_reducible refine Up.setCell ?_ (by (try simp only [World.size_alloc, World.size_setCell, World.heap_drewN, World.size_drew]); omega) _ | (with_reducible refine Up.trans ?_ (by with_reducible assumption))))⟩
theorem im_Face_has (a b c d x y : Int) (w : World) :
    Calls Try.prog 126 #[.agg #[.int .i64 a, .int .i64 b, .int .i64 c, .int .i64 d], .agg #[.int .i64 x, .int .i64 y]] w fun e w' => e = .returned (.bool (inB x a c && inB y b d)) ∧ Up w w' := by
  go_enter Try.func126, Try.ntmps126
  go_wp2_with (go_at_call 80; refine (i_in _ _ _ _).mono ?_; rintro e w' ⟨rfl, rfl⟩)
  all_goals (go_ret; refine ⟨ret_bool ?_, ?_⟩; · simp [*]
             (repeat' (first | with_reducible exact Up.refl _ | with_reducible assumption | with_reducible refine Up.alloc ?_ _ | with_reducible refine Up.drew ?_ | with_reducible refine Up.drewN ?_ _ | with_reducible refine Up.setCell ?_ (by (try simp only [World.size_alloc, World.size_setCell, World.heap_drewN, World.size_drew]); omega) _ | (with_reducible refine Up.trans ?_ (by with_reducible assumption)))))
theorem i_InFace (a b c d x y : Int) (hF : isFaceB a b c d = true) (hp : (spotB x && spotB y) = true) (w : World) :
    Calls Try.prog 66 #[.agg #[.int .i64 a, .int .i64 b, .int .i64 c, .int .i64 d], .agg #[.int .i64 x, .int .i64 y]] w fun e w' => e = .returned (.tuple #[.bool (inB x a c && inB y b d), .int .i64 0]) ∧ Up w w' := by
  go_enter Try.func66, Try.ntmps66
  go_wp2_with (first
    | (go_at_call 125; refine (i_faced1 _ _ _ _ x y _ _ _ hF hp (by simp [isSome_setCell, cell_setI, cell_drewI, cell_allocI, ↓IntWalk.iteOmega, *]) (by simp [isSome_setCell, cell_setI, cell_drewI, cell_allocI, ↓IntWalk.iteOmega, *])).mono ?_; rintro e wn ⟨rfl, hu⟩; obtain ⟨N, J, JF, hn1, hn2, hz, hc, hf⟩ := hu.facts; (try simp only [World.size_alloc, World.size_setCell, World.heap_drewN, World.size_drew] at hn1 hn2); (try simp only [cell_drewI] at hc); (try simp only [frz_drewI] at hf))
    | (go_at_call 126; refine (im_Face_has _ _ _ _ _ _ _).mono ?_; rintro e wn ⟨rfl, hu⟩; obtain ⟨N, J, JF, hn1, hn2, hz, hc, hf⟩ := hu.facts; (try simp only [World.size_alloc, World.size_setCell, World.heap_drewN, World.size_drew] at hn1 hn2); (try simp only [cell_drewI] at hc); (try simp only [frz_drewI] at hf)))
  go_ret2
  exact ⟨rfl, by (repeat' (first | with_reducible exact Up.refl _ | with_reducible assumption | with_reducible refine Up.alloc ?_ _ | with_reducible refine Up.drew ?_ | with_reducible refine Up.drewN ?_ _ | with_reducible refine Up.setCell ?_ (by (try simp only [World.size_alloc, World.size_setCell, World.heap_drewN, World.size_drew]); omega) _ | (with_reducible refine Up.trans ?_ (by with_reducible assumption))))⟩
theorem l_likePoints (A B : Option Addr) (n c d : Nat) (f : Nat → Int) (w : World) (h : RdF w A (2 * n) (fun i => .int .i64 (f i))) (k : RdF w B (2 * n) (fun i => .int .i64 (f i))) (hn : n ≤ 1048576) :
    Calls Try.prog 65 #[.slice A n c, .slice B n d] w fun e w' => e = .returned (.bool true) ∧ Up w w' := by
  go_enter Try.func65, Try.ntmps65
  go_wp2
  go_loopw [5] (fun i wr => ∃ k : Nat, k ≤ n ∧ i = .int .i64 k ∧ Up w wr) (fun i _ => n - (intOf i).toNat)
  case atStart => exact ⟨0, Nat.zero_le _, rfl, Up.refl _⟩
  case round =>
    obtain ⟨j, hj, rfl, hb⟩ := hrel
    by_cases hlt : j < n
    · obtain ⟨b, o, rfl, hbl, hc⟩ := (h.up hb).at_ (by omega)
      obtain ⟨b2, o2, rfl, hbl2, hc2⟩ := (k.up hb).at_ (by omega)
      have c0 := hc (j * 2) (by omega)
      have c1 := hc (j * 2 + 1) (by omega)
      have d0 := hc2 (j * 2) (by omega)
      have d1 := hc2 (j * 2 + 1) (by omega)
      rw [← Nat.add_assoc] at c1 d1
      have hl : (j : Int) < (n : Int) := by omega
      clear h k hc hc2
      go_wp2
      go_quiet (fail)
      go_wp2
      go_roundw
      case rel => exact ⟨j + 1, by omega, by go_num, hb.drewN _⟩
      case measure => simp [intOf]; omega
    · go_wp2
      go_ret
      exact ⟨rfl, hb⟩
end Go.Proofs.Ytffkcgdgiggfoaa
