import Derived.Test.YtconjcfefdbgnaaSetCount
import Derived.Test.YtconjcfefdbgnaaSlices
import Derived.Test.YtconjcfefdbgnaaOpen
/- The walk of the law FnExactHasMinute. -/
namespace Go.Proofs.Ytconjcfefdbgnaa
open Go.RowKit
attribute [local go_sem] cell_allocI frz_allocI later_cell later_frz
theorem walk_FnExactHasMinute (w : World) (A : Option Addr) (n c : Nat) (zs : List Int) (h : RdI w A n zs) (_hi : ∀ k, k < n → I64 (zs[k]?.getD 0)) (hm : n ≤ maxLen) (m : Int) (_um : I64 m) :
    Calls Try.prog 7 #[.slice A n c, .int .i64 m] w fun e w' => e = .returned (.bool true) ∧ Up w w' := by
  unfold maxLen at hm
  clear _hi
  by_cases hn : n ≤ 1048576
  · have hln := hide h.1
    go_enter Try.func7, Try.ntmps7
    go_wp2_with fail
    refine (l_toInt64S _ _ _ _ _ h hn).mono ?_
    rintro e w1 ⟨rfl, F1, hu1⟩
    go_wp2_with fail
    refine (s_HasMinute _ _ _ _ _ _ (F1.rdI hln.out) hn).mono ?_
    rintro e w2 ⟨rfl, hu2⟩
    have h2 := (h.up hu1).up hu2
    go_wp2_with fail
    refine (l_toInt64S _ _ _ _ _ h2 hn).mono ?_
    rintro e w3 ⟨rfl, F3, hu3⟩
    go_wp2_with fail
    refine (i_HasMinute _ _ _ _ _ _ (F3.rdI hln.out) hn).mono ?_
    rintro e w4 ⟨rfl, hu4⟩
    have h4 := (h2.up hu3).up hu4
    have F4 := F3.up hu4
    go_wp2_with fail
    refine (l_toInt64S _ _ _ _ _ h4 hn).mono ?_
    rintro e w5 ⟨rfl, F5, hu5⟩
    have F6 := F4.up hu5
    go_wp2_with fail
    refine (l_eqInt64S _ _ _ _ _ _ _ (F6.rdI hln.out) (F5.rdI hln.out) hn).mono ?_
    rintro e w6 ⟨rfl, hu6⟩
    go_wp2
    go_ret
    exact ⟨rfl, hu1.trans (hu2.trans (hu3.trans (hu4.trans (hu5.trans hu6))))⟩
  · go_enter Try.func7, Try.ntmps7
    go_wp2
    go_ret
    exact ⟨rfl, Up.refl _⟩
end Go.Proofs.Ytconjcfefdbgnaa
