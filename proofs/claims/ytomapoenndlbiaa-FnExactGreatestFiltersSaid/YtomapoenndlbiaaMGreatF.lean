/- GreatestFilters: the program and the reference answer the same. -/
import Derived.Test.YtomapoenndlbiaaP34
import Derived.Test.YtomapoenndlbiaaP41
import Derived.Test.YtomapoenndlbiaaMGreat
namespace Go.Proofs.Ytomapoenndlbiaa.M
set_option linter.unusedVariables false
open Go.RowKit Go.Proofs.YtomapoenndlbiaaW.PrintWords Go.Proofs.YtomapoenndlbiaaW.PrintLast Go.Proofs.YtomapoenndlbiaaW.PrintMore Go.Proofs.Ytomapoenndlbiaa.P

def GreatestFiltersM (up : List Int) (T : List (List Int)) : List Int := if algB up T = true then greatN up T else []
theorem GreatestFiltersM_len (up : List Int) (T : List (List Int)) : (GreatestFiltersM up T).length ≤ 64 := by
  unfold GreatestFiltersM
  split
  · rename_i h
    exact (great_small T (Alg.of h).ok.1).1
  · simp
theorem spec_GreatestFilters_ev (up : List Int) (T : List (List Int)) (hl : up.length ≤ 17592186044416) : Ev (fun k => spec_GreatestFilters.f k up T) (GreatestFiltersM up T) := by
  unfold spec_GreatestFilters.f GreatestFiltersM
  refine Ev.bind (spec_validAlgebra_ev up T hl) ?_
  cases hb : algB up T with
  | false => exact Ev.neg (by decide) (Ev.some _)
  | true => exact Ev.pos rfl (Ev.bind (spec_greatest_ev (Alg.of hb)) (Ev.some _))
theorem impl_GreatestFilters_ev (up : List Int) (T : List (List Int)) (hl : up.length ≤ 17592186044416) : Ev (fun k => impl_GreatestFilters.f k up T) (GreatestFiltersM up T) := by
  unfold impl_GreatestFilters.f GreatestFiltersM
  refine Ev.bind (impl_ValidAlgebra_ev up T hl) ?_
  cases hb : algB up T with
  | false => exact Ev.neg (by decide) (Ev.some _)
  | true => exact Ev.pos rfl (Ev.bind (impl_greatest_ev (Alg.of hb)) (Ev.some _))
end Go.Proofs.Ytomapoenndlbiaa.M
