-- Printed by this session's wip/print2.py (the kit's print.py, widened) out of the translation. Lean checks it.
import Derived.Test.YtomapoenndlbiaaP0
import Derived.Test.YtomapoenndlbiaaP18
import Derived.Test.YtomapoenndlbiaaP22
namespace Go.Proofs.Ytomapoenndlbiaa.P
open Go.RowKit Go.Proofs.YtomapoenndlbiaaW.PrintWords Go.Proofs.YtomapoenndlbiaaW.PrintLast Go.Proofs.YtomapoenndlbiaaW.PrintMore
attribute [local go_sem] max2_int min2_int max_two min_two max_three min_three max_four min_four   -- for this text's walks alone
set_option linter.unusedVariables false
set_option linter.unusedSimpArgs false

/-! ### cf_isMap_1: by hand -/
def cf_isMap_1.f (l0 : List Int) (l1_0 : List Int) (l1_1 : List (List Int)) : Option Bool := if l0.length ≤ 9223372036854775807 then some (l0.any (fun x => !(withinB x 0 (wrap64 ((l1_0.length : Int) - 1))))) else none
theorem cf_isMap_1.pred (B : Nat) (A1_0 : Option Addr) (c1_0 : Nat) (l1_0 : List Int) (A1_1 : Option Addr) (c1_1 : Nat) (l1_1 : List (List Int)) (w : World) (hb : w.heap[B]? = some (.cells #[.slice A1_0 l1_0.length c1_0, .slice A1_1 l1_1.length c1_1] 28 (0, 0))) :
  Answers 70 #[.pointer (some ⟨B, 0, none⟩)] (fun x => !(withinB x 0 (wrap64 ((l1_0.length : Int) - 1)))) w := fun W x hb' => by
 have hB := Aside0.mk (blk_below hb hb')
 have hc0 := (blk_cell hB.out 0).trans rfl
 have hc1 := (blk_cell hB.out 1).trans rfl
 show Calls Try.prog 70 #[.int .i64 x, .pointer (some ⟨B, 0, none⟩)] W _
 go_enter Try.func70, Try.ntmps70
 go_wp2_with (go_at_call 64; refine (impl_within.calls _ _ _ _ _ (within_eq _ _ _)).mono ?_; rintro e w' ⟨rfl, ⟨nd, rfl⟩⟩)
 go_ret
 exact ⟨rfl, nd, rfl⟩
theorem cf_isMap_1.calls (A0 : Option Addr) (c0 : Nat) (l0 : List Int) (g1 : Nat) (A1_0 : Option Addr) (c1_0 : Nat) (l1_0 : List Int) (A1_1 : Option Addr) (c1_1 : Nat) (l1_1 : List (List Int)) (r : Bool) (w : World) (hr0 : Kd.C (Kd.int .i64) w A0 l0.length l0) (hc0 : l0.length ≤ c0) (hr1_0 : Kd.C (Kd.int .i64) w A1_0 l1_0.length l1_0) (hc1_0 : l1_0.length ≤ c1_0) (hr1_1 : Kd.C (Kd.slice 22 (Kd.int .i64)) w A1_1 l1_1.length l1_1) (hc1_1 : l1_1.length ≤ c1_1) (hb1 : w.heap[g1]? = some (.cells #[.slice A1_0 l1_0.length c1_0, .slice A1_1 l1_1.length c1_1] 28 (0, 0))) (h : cf_isMap_1.f l0 l1_0 l1_1 = some r) :
  Calls Try.prog 56 #[.slice A0 l0.length c0, .func (.func 70) #[] #[.pointer (some ⟨g1, 0, none⟩)]] w fun e w' => e = .returned (.bool r) ∧ Drawn0 w w' := by
 unfold cf_isMap_1.f at h
 by_cases hl : l0.length ≤ 9223372036854775807
 rotate_left
 ·rw [if_neg hl] at h
  exact absurd h (by simp)
 rw [if_pos hl] at h
 obtain rfl := Option.some.inj h
 refine (containsFunc_any _ 70 _ (enters_of Try.func70 (by kernel_rfl) rfl) A0 c0 l0 w (cf_isMap_1.pred g1 A1_0 c1_0 l1_0 A1_1 c1_1 l1_1 w hb1) hr0 hl).mono ?_
 rintro e w' ⟨rfl, q, rfl⟩
 exact ⟨rfl, ⟨⟨q, rfl⟩⟩⟩
end Go.Proofs.Ytomapoenndlbiaa.P

-- shrunk
