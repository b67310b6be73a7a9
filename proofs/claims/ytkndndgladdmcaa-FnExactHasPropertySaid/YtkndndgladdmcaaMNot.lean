/- The opposite of an element: the program and the reference answer the same. -/
import Derived.Test.YtkndndgladdmcaaP28
import Derived.Test.YtkndndgladdmcaaMAlgFn
namespace Go.Proofs.Ytkndndgladdmcaa.M
set_option linter.unusedVariables false
open Go.RowKit Go.Proofs.YtkndndgladdmcaaW.PrintWords Go.Proofs.YtkndndgladdmcaaW.PrintLast Go.Proofs.YtkndndgladdmcaaW.PrintMore Go.Proofs.Ytkndndgladdmcaa.P

theorem spec_not_ev {up : List Int} {T : List (List Int)} (A : Alg up T) {x : Nat} (hx : x < up.length) : Ev (fun k => spec_imply.f k up T (x : Int) 0) (implyN up T x 0 : Int) := spec_imply_ev A hx (y := 0) A.pos
theorem impl_not_ev {up : List Int} {T : List (List Int)} (A : Alg up T) {x : Nat} (hx : x < up.length) : Ev (fun k => impl_not.f k up T (x : Int)) (implyN up T x 0 : Int) := by
  unfold impl_not.f
  exact Ev.bind (impl_imply_ev A hx (y := 0) A.pos) (Ev.some _)
end Go.Proofs.Ytkndndgladdmcaa.M
