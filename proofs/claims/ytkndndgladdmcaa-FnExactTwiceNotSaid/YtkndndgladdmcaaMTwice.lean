/- The opposite of the opposite of each element: the program and the reference list the same. -/
import Derived.Test.YtkndndgladdmcaaP56
import Derived.Test.YtkndndgladdmcaaP55
import Derived.Test.YtkndndgladdmcaaP57
import Derived.Test.YtkndndgladdmcaaMNot
namespace Go.Proofs.Ytkndndgladdmcaa.M
set_option linter.unusedVariables false
open Go.RowKit Go.Proofs.YtkndndgladdmcaaW.PrintWords Go.Proofs.YtkndndgladdmcaaW.PrintLast Go.Proofs.YtkndndgladdmcaaW.PrintMore Go.Proofs.Ytkndndgladdmcaa.P
def twiceL (up : List Int) (T : List (List Int)) (n : Nat) : List Int := (List.range n).map fun x => ((implyN up T (implyN up T x 0) 0 : Nat) : Int)
theorem twiceL_succ (up : List Int) (T : List (List Int)) (n : Nat) : twiceL up T (n + 1) = twiceL up T n ++ [((implyN up T (implyN up T n 0) 0 : Nat) : Int)] := by
  unfold twiceL
  rw [List.range_succ, List.map_append]
  rfl
theorem twiceL_len (up : List Int) (T : List (List Int)) (n : Nat) : (twiceL up T n).length = n := by simp [twiceL]
def TwiceNotM (up : List Int) (T : List (List Int)) : List Int := if algB up T = true then twiceL up T up.length else []
theorem TwiceNotM_len (up : List Int) (T : List (List Int)) : (TwiceNotM up T).length ≤ 6 := by
  unfold TwiceNotM
  split
  · rename_i h
    rw [twiceL_len]
    exact (Alg.of h).ok.1
  · simp
theorem spec_TwiceNot_ev (up : List Int) (T : List (List Int)) (hl : up.length ≤ 17592186044416) : Ev (fun k => spec_TwiceNot.f k up T) (TwiceNotM up T) := by
  unfold spec_TwiceNot.f TwiceNotM
  refine Ev.bind (spec_validAlgebra_ev up T hl) ?_
  cases hb : algB up T with
  | false => exact Ev.neg (by decide) (Ev.some _)
  | true =>
    have A := Alg.of hb
    have h6 := A.ok.1
    rw [if_pos rfl]
    refine Ev.pos rfl (Ev.bind (a := twiceL up T up.length) ?_ (Ev.some _))
    unfold spec_twiceNot.f
    refine ev_inv2 (fun k (s : List Int) i => spec_twiceNot.l0 k s i up T) up.length (fun i s => s = twiceL up T i) _ ?_ ?_ up.length 0 [] (by omega) rfl
    · intro x hx s hs h
      subst hs
      have hn := twiceL_len up T x
      refine Ev.step (fun k => by simp only [spec_twiceNot.l0]; exact rfl) (Ev.pos (by omega) (Ev.bind (spec_not_ev A hx) (Ev.bind (spec_not_ev A (imply_lt A x 0)) ?_)))
      refine Ev.pos (by omega) ?_
      rw [w64s hx (by omega)]
      exact h _ (twiceL_succ up T x).symm
    · intro s hs
      subst hs
      exact Ev.step (fun k => by simp only [spec_twiceNot.l0]; exact rfl) (Ev.neg (by omega) (Ev.some _))
theorem impl_TwiceNot_ev (up : List Int) (T : List (List Int)) (hl : up.length ≤ 17592186044416) : Ev (fun k => impl_TwiceNot.f k up T) (TwiceNotM up T) := by
  unfold impl_TwiceNot.f TwiceNotM
  refine Ev.bind (impl_ValidAlgebra_ev up T hl) ?_
  cases hb : algB up T with
  | false => exact Ev.neg (by decide) (Ev.some _)
  | true =>
    have A := Alg.of hb
    have h6 := A.ok.1
    rw [if_pos rfl]
    refine Ev.pos rfl ?_
    refine ev_inv2 (fun k (s : List Int) i => impl_TwiceNot.l0 k s (up.length : Int) i up T) up.length (fun i s => s = twiceL up T i) _ ?_ ?_ up.length 0 [] (by omega) rfl
    · intro x hx s hs h
      subst hs
      have hn := twiceL_len up T x
      refine Ev.step (fun k => by simp only [impl_TwiceNot.l0]; exact rfl) (Ev.pos (by omega) (Ev.bind (impl_not_ev A hx) (Ev.bind (impl_not_ev A (imply_lt A x 0)) ?_)))
      refine Ev.pos (by omega) ?_
      rw [w64s hx (by omega)]
      exact h _ (twiceL_succ up T x).symm
    · intro s hs
      subst hs
      exact Ev.step (fun k => by simp only [impl_TwiceNot.l0]; exact rfl) (Ev.neg (by omega) (Ev.some _))
end Go.Proofs.Ytkndndgladdmcaa.M
