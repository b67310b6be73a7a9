-- Printed by this session's wip/print2.py (the kit's print.py, widened) out of the translation. Lean checks it.
import Derived.Test.YtomapoenndlbiaaP0
import Derived.Test.YtomapoenndlbiaaP14
import Derived.Test.YtomapoenndlbiaaP18
namespace Go.Proofs.Ytomapoenndlbiaa.P
open Go.RowKit Go.Proofs.YtomapoenndlbiaaW.PrintWords Go.Proofs.YtomapoenndlbiaaW.PrintLast Go.Proofs.YtomapoenndlbiaaW.PrintMore
attribute [local go_sem] max2_int min2_int max_two min_two max_three min_three max_four min_four   -- for this text's walks alone
set_option linter.unusedVariables false
set_option linter.unusedSimpArgs false

-- NOT PRINTED: function 66 (impl_isNucleus_1)

/-! ### cf_isNucleus_1: by hand -/
def cf_isNucleus_1.f (l0 : List Int) (l1 : List Int) : Option Bool := if l0.length ≤ 9223372036854775807 then some (l0.any (fun x => !(withinB x 0 (wrap64 ((l1.length : Int) - 1))))) else none
theorem cf_isNucleus_1.pred (B : Nat) (A1 : Option Addr) (c1 : Nat) (l1 : List Int) (w : World) (hb : w.heap[B]? = some (.cells #[.slice A1 l1.length c1] 22 (0, 0))) :
  Answers 66 #[.pointer (some ⟨B, 0, none⟩)] (fun x => !(withinB x 0 (wrap64 ((l1.length : Int) - 1)))) w := fun W x hb' => by
 have hB := Aside0.mk (blk_below hb hb')
 have hc0 := (blk_cell hB.out 0).trans rfl
 have hc1 := (blk_cell hB.out 1).trans rfl
 show Calls Try.prog 66 #[.int .i64 x, .pointer (some ⟨B, 0, none⟩)] W _
 go_enter Try.func66, Try.ntmps66
 go_wp2_with (go_at_call 64; refine (impl_within.calls _ _ _ _ _ (within_eq _ _ _)).mono ?_; rintro e w' ⟨rfl, ⟨nd, rfl⟩⟩)
 go_ret
 exact ⟨rfl, nd, rfl⟩
theorem cf_isNucleus_1.calls (A0 : Option Addr) (c0 : Nat) (l0 : List Int) (g1 : Nat) (A1 : Option Addr) (c1 : Nat) (l1 : List Int) (r : Bool) (w : World) (hr0 : Kd.C (Kd.int .i64) w A0 l0.length l0) (hc0 : l0.length ≤ c0) (hr1 : Kd.C (Kd.int .i64) w A1 l1.length l1) (hc1 : l1.length ≤ c1) (hb1 : w.heap[g1]? = some (.cells #[.slice A1 l1.length c1] 22 (0, 0))) (h : cf_isNucleus_1.f l0 l1 = some r) :
  Calls Try.prog 56 #[.slice A0 l0.length c0, .func (.func 66) #[] #[.pointer (some ⟨g1, 0, none⟩)]] w fun e w' => e = .returned (.bool r) ∧ Drawn0 w w' := by
 unfold cf_isNucleus_1.f at h
 by_cases hl : l0.length ≤ 9223372036854775807
 ·rw [if_pos hl] at h
  obtain rfl := Option.some.inj h
  refine (containsFunc_any _ 66 _ (enters_of Try.func66 (by kernel_rfl) rfl) A0 c0 l0 w (cf_isNucleus_1.pred g1 A1 c1 l1 w hb1) hr0 hl).mono ?_
  rintro e w' ⟨rfl, q, rfl⟩
  exact ⟨rfl, ⟨⟨q, rfl⟩⟩⟩
 ·rw [if_neg hl] at h
  exact absurd h (by simp)


end Go.Proofs.Ytomapoenndlbiaa.P

-- shrunk
