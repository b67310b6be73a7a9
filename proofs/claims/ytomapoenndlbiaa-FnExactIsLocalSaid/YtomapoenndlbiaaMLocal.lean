/- IsLocal: the program and the reference answer the same. -/
import Derived.Test.YtomapoenndlbiaaP48
import Derived.Test.YtomapoenndlbiaaP41
import Derived.Test.YtomapoenndlbiaaMGreat
namespace Go.Proofs.Ytomapoenndlbiaa.M
set_option linter.unusedVariables false
open Go.RowKit Go.Proofs.YtomapoenndlbiaaW.PrintWords Go.Proofs.YtomapoenndlbiaaW.PrintLast Go.Proofs.YtomapoenndlbiaaW.PrintMore Go.Proofs.Ytomapoenndlbiaa.P

def IsLocalM (up : List Int) (T : List (List Int)) : Bool := algB up T && (((greatN up T).length : Int) == 1)
theorem spec_IsLocal_ev (up : List Int) (T : List (List Int)) (hl : up.length ≤ 17592186044416) : Ev (fun k => spec_IsLocal.f k up T) (IsLocalM up T) := by
  unfold spec_IsLocal.f IsLocalM
  refine Ev.bind (spec_validAlgebra_ev up T hl) ?_
  cases hb : algB up T with
  | false => exact Ev.neg (by decide) (Ev.some _)
  | true => exact Ev.pos rfl (Ev.bind (spec_greatest_ev (Alg.of hb)) (Ev.some _))
theorem impl_IsLocal_ev (up : List Int) (T : List (List Int)) (hl : up.length ≤ 17592186044416) : Ev (fun k => impl_IsLocal.f k up T) (IsLocalM up T) := by
  unfold impl_IsLocal.f IsLocalM
  have h : Ev (fun k => impl_GreatestFilters.f k up T) (if algB up T = true then greatN up T else []) := by
    unfold impl_GreatestFilters.f
    refine Ev.bind (impl_ValidAlgebra_ev up T hl) ?_
    cases hb : algB up T with
    | false => exact Ev.neg (by decide) (Ev.some _)
    | true => exact Ev.pos rfl (Ev.bind (impl_greatest_ev (Alg.of hb)) (Ev.some _))
  refine Ev.bind h (Ev.eq (Ev.some _) ?_)
  cases hb : algB up T with
  | false => rfl
  | true => rfl
end Go.Proofs.Ytomapoenndlbiaa.M
