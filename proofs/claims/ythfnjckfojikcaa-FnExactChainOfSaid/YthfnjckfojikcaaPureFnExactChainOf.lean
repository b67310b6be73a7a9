/- For every number the program's ChainOf and the reference's answer the same list, in memory of its own. -/
import Derived.Test.YthfnjckfojikcaaP12
import Derived.Test.YthfnjckfojikcaaP14
import Derived.Test.YthfnjckfojikcaaP15
import Derived.Test.YthfnjckfojikcaaP5
import Derived.Test.YthfnjckfojikcaaP8
import Derived.Test.YthfnjckfojikcaaMBase
namespace Go.Proofs.Ythfnjckfojikcaa.Pure
set_option linter.unusedVariables false
open Go.RowKit Go.Proofs.Ythfnjckfojikcaa.P Go.Proofs.YthfnjckfojikcaaW.PrintWords Go.Proofs.YthfnjckfojikcaaW.PrintLast Go.Proofs.Ythfnjckfojikcaa.M
theorem FnExactChainOf : laws_FnExactChainOf.Pure := by
  intro n _
  refine ⟨40, ?_⟩
  by_cases h : 1 ≤ n ∧ n ≤ 6
  · obtain rfl | rfl | rfl | rfl | rfl | rfl : n = 1 ∨ n = 2 ∨ n = 3 ∨ n = 4 ∨ n = 5 ∨ n = 6 := by omega
    all_goals decide +kernel
  · have h1 : spec_inRange.f n 1 6 = some false := by
      unfold spec_inRange.f
      by_cases c : 1 ≤ n
      · rw [if_pos c, decide_eq_false (fun x => h ⟨c, x⟩)]
      · rw [if_neg c]
    have h2 : impl_within.f n 1 6 = some false := by
      unfold impl_within.f
      by_cases c : 1 ≤ n
      · rw [if_pos c, decide_eq_false (fun x => h ⟨c, x⟩)]
      · rw [if_neg c]
    unfold laws_FnExactChainOf.f spec_ChainOf.f impl_ChainOf.f
    rw [h1, h2]
    rfl
end Go.Proofs.Ythfnjckfojikcaa.Pure
