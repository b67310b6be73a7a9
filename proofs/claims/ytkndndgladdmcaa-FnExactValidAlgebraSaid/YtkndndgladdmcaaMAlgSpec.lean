/- The reference's ValidAlgebra. -/
import Derived.Test.YtkndndgladdmcaaP9
import Derived.Test.YtkndndgladdmcaaMAlgVal
namespace Go.Proofs.Ytkndndgladdmcaa.M
open Go.RowKit Go.Proofs.YtkndndgladdmcaaW.PrintWords Go.Proofs.YtkndndgladdmcaaW.PrintLast Go.Proofs.YtkndndgladdmcaaW.PrintMore Go.Proofs.Ytkndndgladdmcaa.P
theorem spec_ValidAlgebra_ev (up : List Int) (T : List (List Int)) (hl : up.length ≤ 17592186044416) : Ev (fun k => spec_ValidAlgebra.f k up T) (algB up T) := by
  unfold spec_ValidAlgebra.f
  exact Ev.bind (spec_validAlgebra_ev up T hl) (Ev.some _)
end Go.Proofs.Ytkndndgladdmcaa.M
