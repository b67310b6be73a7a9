/- What a lattice's numbers are, and which numbers are its elements. -/
import Derived.Test.YtjijfflifonjoaaMA
namespace Go.Proofs.Ytjijfflifonjoaa.M
set_option linter.unusedVariables false
open Go.RowKit Go.Proofs.YtjijfflifonjoaaW.PrintWords Go.Proofs.YtjijfflifonjoaaW.PrintLast Go.Proofs.YtjijfflifonjoaaW.PrintMore Go.Proofs.Ytjijfflifonjoaa.P

theorem latB_ok {up : List Int} (h : latB up = true) : OkR up ∧ 1 ≤ up.length := by
  unfold latB at h
  rw [Bool.and_eq_true, Bool.and_eq_true, Bool.and_eq_true, decide_eq_true_eq] at h
  exact ⟨(okB_iff h.1.1.1.2).1 h.1.1.2, h.1.1.1.1⟩
/-- x is an element. -/
def inB (up : List Int) (x : Int) : Bool := decide (0 ≤ x ∧ x ≤ (up.length : Int) - 1)
theorem inB_nat {up : List Int} {x : Int} (h : inB up x = true) : ∃ n : Nat, x = (n : Int) ∧ n < up.length := by
  unfold inB at h
  rw [decide_eq_true_eq] at h
  exact ⟨x.toNat, by omega, by omega⟩
theorem inB_of {up : List Int} {n : Nat} (h : n < up.length) : inB up (n : Int) = true := by
  unfold inB; rw [decide_eq_true_eq]; omega
end Go.Proofs.Ytjijfflifonjoaa.M
