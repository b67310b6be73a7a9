/- Questions on elements of a lattice: what is below, meets, joins, chains, distributive lattices: the program and the reference answer the same. -/
import Derived.Test.YtjijfflifonjoaaP24
import Derived.Test.YtjijfflifonjoaaP25
import Derived.Test.YtjijfflifonjoaaMElem0
namespace Go.Proofs.Ytjijfflifonjoaa.M
set_option linter.unusedVariables false
open Go.RowKit Go.Proofs.YtjijfflifonjoaaW.PrintWords Go.Proofs.YtjijfflifonjoaaW.PrintLast Go.Proofs.YtjijfflifonjoaaW.PrintMore Go.Proofs.Ytjijfflifonjoaa.P

theorem latticeAt_ev (up list : List Int) (hl : up.length ≤ 17592186044416) (hk : list.length ≤ 17592186044416) : Ev (fun k => impl_latticeAt.f k up list) (latB up && list.all (inB up)) := by
  unfold impl_latticeAt.f
  refine Ev.bind (impl_ValidLattice_ev up hl) ?_
  cases hb : latB up with
  | false => exact Ev.neg (by decide) (Ev.some _)
  | true =>
    obtain ⟨h, h1⟩ := latB_ok hb
    have h6 := h.1
    refine Ev.pos rfl (Ev.bindc (a := list.any fun x => !(withinB x 0 (wrap64 ((up.length : Int) - 1)))) ?_ (Ev.const ?_))
    · unfold cf_latticeAt_1.f
      rw [if_pos (by omega)]
    · rw [w64 (x := (up.length : Int) - 1) (by omega) (by omega), Bool.true_and]
      congr 1
      rw [List.any_eq_not_all_not, Bool.not_not]
      congr 1
      funext x
      rw [Bool.not_not]
      unfold withinB inB
      rw [Bool.eq_iff_iff, Bool.and_eq_true, decide_eq_true_eq, decide_eq_true_eq, decide_eq_true_eq]
theorem two_in (up : List Int) (x y : Int) : ([x, y].all (inB up)) = (inB up x && inB up y) := by simp
theorem one_in (up : List Int) (x : Int) : ([x].all (inB up)) = (inB up x && inB up x) := by simp
/-- What 'IsBelow' says. -/
def isBelowM (up : List Int) (x y : Int) : Bool := (latB up && (inB up x && inB up y)) && le up x.toNat y.toNat
def meetOfM (up : List Int) (x y : Int) : Int := if (latB up && (inB up x && inB up y)) = true then meetM up x.toNat y.toNat else -1
def joinOfM (up : List Int) (x y : Int) : Int := if (latB up && (inB up x && inB up y)) = true then joinM up x.toNat y.toNat else -1
theorem good_cases {up : List Int} {x y : Int} (h : (latB up && (inB up x && inB up y)) = true) : OkR up ∧ 1 ≤ up.length ∧ ∃ a b : Nat, x = (a : Int) ∧ y = (b : Int) ∧ a < up.length ∧ b < up.length := by
  rw [Bool.and_eq_true, Bool.and_eq_true] at h
  obtain ⟨ho, h1⟩ := latB_ok h.1
  obtain ⟨a, ha, ha'⟩ := inB_nat h.2.1
  obtain ⟨b, hb, hb'⟩ := inB_nat h.2.2
  exact ⟨ho, h1, a, b, ha, hb, ha', hb'⟩
theorem impl_IsBelow_ev (up : List Int) (x y : Int) (hl : up.length ≤ 17592186044416) : Ev (fun k => impl_IsBelow.f k up x y) (isBelowM up x y) := by
  unfold impl_IsBelow.f isBelowM
  refine Ev.bind (latticeAt_ev up [x, y] hl (by simp)) ?_
  rw [two_in]
  cases hg : (latB up && (inB up x && inB up y)) with
  | false => exact Ev.neg (by decide) (Ev.some _)
  | true =>
    obtain ⟨h, h1, a, b, rfl, rfl, ha, hb⟩ := good_cases hg
    exact Ev.pos rfl (Ev.bindc (impl_below_eq h ha) (Ev.const (by simp)))
/-- All elements are comparable. -/
def chainB (up : List Int) : Bool := allN up.length fun x => allN up.length fun y => le up x y || le up y x
def isChainM (up : List Int) : Bool := latB up && chainB up
end Go.Proofs.Ytjijfflifonjoaa.M
