/- Which numbers are elements of an algebra: the program and the reference answer the same. -/
import Derived.Test.YtkndndgladdmcaaP22
import Derived.Test.YtkndndgladdmcaaP24
import Derived.Test.YtkndndgladdmcaaMAlgVal
namespace Go.Proofs.Ytkndndgladdmcaa.M
set_option linter.unusedVariables false
open Go.RowKit Go.Proofs.YtkndndgladdmcaaW.PrintWords Go.Proofs.YtkndndgladdmcaaW.PrintLast Go.Proofs.YtkndndgladdmcaaW.PrintMore Go.Proofs.Ytkndndgladdmcaa.P
theorem spec_has_ev (up : List Int) (T : List (List Int)) (x y : Int) (hl : up.length ≤ 17592186044416) : Ev (fun k => spec_has.f k up T x y) (algB up T && (inB up x && inB up y)) := by
  unfold spec_has.f
  refine Ev.bind (spec_validAlgebra_ev up T hl) ?_
  cases hb : algB up T with
  | false => exact Ev.neg (by decide) (Ev.some _)
  | true =>
    have h1 := (latB_ok (algB_lat hb))
    have h6 := h1.1.1
    have h1 := h1.2
    refine Ev.pos rfl ?_
    rw [w64 (x := (up.length : Int) - 1) (by omega) (by omega)]
    refine Ev.bindc (inRange_eq x 0 _) ?_
    rw [show decide (0 ≤ x ∧ x ≤ (up.length : Int) - 1) = inB up x from rfl]
    cases hx : inB up x with
    | false => exact Ev.neg (by decide) (Ev.some _)
    | true =>
      refine Ev.pos rfl (Ev.bindc (inRange_eq y 0 _) ?_)
      exact Ev.some _
theorem impl_at_ev (up : List Int) (T : List (List Int)) (l : List Int) (hl : up.length ≤ 17592186044416) (hk : l.length ≤ 17592186044416) : Ev (fun k => impl_at.f k up T l) (algB up T && l.all (inB up)) := by
  unfold impl_at.f
  refine Ev.bind (impl_ValidAlgebra_ev up T hl) ?_
  cases hb : algB up T with
  | false => exact Ev.neg (by decide) (Ev.some _)
  | true =>
    have h1 := (latB_ok (algB_lat hb))
    have h6 := h1.1.1
    have h1 := h1.2
    refine Ev.pos rfl ?_
    have e : cf_at_1.f l up T = some (!(l.all (inB up))) := by
      unfold cf_at_1.f
      rw [if_pos (by omega)]
      rw [w64 (x := (up.length : Int) - 1) (by omega) (by omega)]
      congr 1
      rw [List.not_all_eq_any_not]
      congr 1
      funext x
      unfold withinB inB
      rw [← Bool.decide_and]
    refine Ev.bindc e (Ev.eq (Ev.some _) ?_)
    rw [Bool.not_not, Bool.true_and]
theorem two_inA (up : List Int) (x y : Int) : ([x, y].all (inB up)) = (inB up x && inB up y) := by simp
theorem one_inA (up : List Int) (x : Int) : ([x].all (inB up)) = (inB up x && inB up x) := by simp
theorem at_cases {up : List Int} {T : List (List Int)} {x y : Int} (h : (algB up T && (inB up x && inB up y)) = true) : Alg up T ∧ ∃ a b : Nat, x = (a : Int) ∧ y = (b : Int) ∧ a < up.length ∧ b < up.length := by
  rw [Bool.and_eq_true, Bool.and_eq_true] at h
  obtain ⟨a, rfl, ha⟩ := inB_nat h.2.1
  obtain ⟨b, rfl, hb⟩ := inB_nat h.2.2
  exact ⟨Alg.of h.1, a, b, rfl, rfl, ha, hb⟩
end Go.Proofs.Ytkndndgladdmcaa.M
