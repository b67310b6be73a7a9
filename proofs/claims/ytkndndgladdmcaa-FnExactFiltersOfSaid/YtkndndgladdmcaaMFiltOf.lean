/- The reference's FiltersOf. -/
import Derived.Test.YtkndndgladdmcaaP68
import Derived.Test.YtkndndgladdmcaaMFilts
namespace Go.Proofs.Ytkndndgladdmcaa.M
open Go.RowKit Go.Proofs.YtkndndgladdmcaaW.PrintWords Go.Proofs.YtkndndgladdmcaaW.PrintLast Go.Proofs.YtkndndgladdmcaaW.PrintMore Go.Proofs.Ytkndndgladdmcaa.P
theorem spec_FiltersOf_ev (up : List Int) (T : List (List Int)) (hl : up.length ≤ 17592186044416) : Ev (fun k => spec_FiltersOf.f k up T) (FiltersOfM up T) := by
  unfold spec_FiltersOf.f FiltersOfM
  refine Ev.bind (spec_validAlgebra_ev up T hl) ?_
  cases hb : algB up T with
  | false => exact Ev.neg (by decide) (Ev.some _)
  | true => exact Ev.pos rfl (Ev.bind (spec_filters_ev (Alg.of hb)) (Ev.some _))
end Go.Proofs.Ytkndndgladdmcaa.M
