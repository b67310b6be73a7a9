/- All filters, and the least one with some elements: the program and the reference answer the same. -/
import Derived.Test.YtkndndgladdmcaaP64
import Derived.Test.YtkndndgladdmcaaP65
import Derived.Test.YtkndndgladdmcaaP66
import Derived.Test.YtkndndgladdmcaaMFilt
import Derived.Test.YtkndndgladdmcaaMListN
namespace Go.Proofs.Ytkndndgladdmcaa.M
set_option linter.unusedVariables false
open Go.RowKit Go.Proofs.YtkndndgladdmcaaW.PrintWords Go.Proofs.YtkndndgladdmcaaW.PrintLast Go.Proofs.YtkndndgladdmcaaW.PrintMore Go.Proofs.Ytkndndgladdmcaa.P

def filtersN (up : List Int) (T : List (List Int)) : List Int := listN (filtB up T) (2 ^ up.length)
theorem filtersN_len {up : List Int} (T : List (List Int)) (h6 : up.length ≤ 6) : (filtersN up T).length ≤ 64 := Nat.le_trans (listN_len _ _) (pow_le64 h6)
theorem spec_filters_ev {up : List Int} {T : List (List Int)} (A : Alg up T) : Ev (fun k => spec_filters.f k up T) (filtersN up T) := by
  have h6 := A.ok.1
  have h64 := pow_le64 h6
  unfold spec_filters.f
  refine ev_list (fun k s i => spec_filters.l0 k s i up T) (2 ^ up.length) (filtB up T) _ ?_ ?_
  · intro F hF s hs r k1 k2
    refine Ev.step (fun k => by simp only [spec_filters.l0]; exact rfl) (Ev.bind (power_ev up.length (by omega)) ?_)
    refine Ev.pos (by omega) (Ev.bind (spec_isFilter_ev A hF) ?_)
    rw [w64s hF (by omega)]
    cases hf : filtB up T F with
    | true => exact Ev.pos rfl (Ev.pos (by omega) (k1 hf))
    | false => exact Ev.neg (by decide) (k2 hf)
  · refine Ev.step (fun k => by simp only [spec_filters.l0]; exact rfl) (Ev.bind (power_ev up.length (by omega)) ?_)
    exact Ev.neg (by omega) (Ev.some _)
theorem impl_filters_ev {up : List Int} {T : List (List Int)} (A : Alg up T) : Ev (fun k => impl_filters.f k up T) (filtersN up T) := by
  have h6 := A.ok.1
  have h64 := pow_le64 h6
  unfold impl_filters.f
  refine ev_list (fun k s i => impl_filters.l0 k s i up T) (2 ^ up.length) (filtB up T) _ ?_ ?_
  · intro F hF s hs r k1 k2
    refine Ev.step (fun k => by simp only [impl_filters.l0]; exact rfl) ?_
    rw [shl1 up.length (by omega)]
    refine Ev.pos (by omega) (Ev.bind (impl_isFilter_ev A hF) ?_)
    rw [w64s hF (by omega)]
    cases hf : filtB up T F with
    | true => exact Ev.pos rfl (Ev.pos (by omega) (k1 hf))
    | false => exact Ev.neg (by decide) (k2 hf)
  · refine Ev.step (fun k => by simp only [impl_filters.l0]; exact rfl) ?_
    rw [shl1 up.length (by omega)]
    exact Ev.neg (by omega) (Ev.some _)
def FiltersOfM (up : List Int) (T : List (List Int)) : List Int := if algB up T = true then filtersN up T else []
theorem FiltersOfM_len (up : List Int) (T : List (List Int)) : (FiltersOfM up T).length ≤ 64 := by
  unfold FiltersOfM
  split
  · rename_i h
    exact filtersN_len T (Alg.of h).ok.1
  · simp
theorem impl_FiltersOf_ev (up : List Int) (T : List (List Int)) (hl : up.length ≤ 17592186044416) : Ev (fun k => impl_FiltersOf.f k up T) (FiltersOfM up T) := by
  unfold impl_FiltersOf.f FiltersOfM
  refine Ev.bind (impl_ValidAlgebra_ev up T hl) ?_
  cases hb : algB up T with
  | false => exact Ev.neg (by decide) (Ev.some _)
  | true => exact Ev.pos rfl (Ev.bind (impl_filters_ev (Alg.of hb)) (Ev.some _))
def IsSimpleM (up : List Int) (T : List (List Int)) : Bool := algB up T && (((filtersN up T).length : Int) == 2)
theorem spec_IsSimple_ev (up : List Int) (T : List (List Int)) (hl : up.length ≤ 17592186044416) : Ev (fun k => spec_IsSimple.f k up T) (IsSimpleM up T) := by
  unfold spec_IsSimple.f IsSimpleM
  refine Ev.bind (spec_validAlgebra_ev up T hl) ?_
  cases hb : algB up T with
  | false => exact Ev.neg (by decide) (Ev.some _)
  | true => exact Ev.pos rfl (Ev.bind (spec_filters_ev (Alg.of hb)) (Ev.some _))
theorem impl_IsSimple_ev (up : List Int) (T : List (List Int)) (hl : up.length ≤ 17592186044416) : Ev (fun k => impl_IsSimple.f k up T) (IsSimpleM up T) := by
  unfold impl_IsSimple.f IsSimpleM
  refine Ev.bind (impl_FiltersOf_ev up T hl) (Ev.eq (Ev.some _) ?_)
  unfold FiltersOfM
  cases hb : algB up T with
  | false => rfl
  | true => rfl
end Go.Proofs.Ytkndndgladdmcaa.M
