/- How near two elements are: the program and the reference answer the same. -/
import Derived.Test.YtkndndgladdmcaaP30
import Derived.Test.YtkndndgladdmcaaP32
import Derived.Test.YtkndndgladdmcaaMAlgFn
namespace Go.Proofs.Ytkndndgladdmcaa.M
set_option linter.unusedVariables false
open Go.RowKit Go.Proofs.YtkndndgladdmcaaW.PrintWords Go.Proofs.YtkndndgladdmcaaW.PrintLast Go.Proofs.YtkndndgladdmcaaW.PrintMore Go.Proofs.Ytkndndgladdmcaa.P

theorem spec_near_ev {up : List Int} {T : List (List Int)} (A : Alg up T) {x y : Nat} (hx : x < up.length) (hy : y < up.length) : Ev (fun k => spec_near.f k up T (x : Int) (y : Int)) (nearN up T x y : Int) := by
  unfold spec_near.f nearN
  have hl := A.len
  have a := imply_lt A x y
  have b := imply_lt A y x
  have r : (rd_L1 T (implyN up T x y : Int)).length = up.length := A.row _ a
  refine Ev.bind (spec_imply_ev A hx hy) (Ev.pos (by omega) (Ev.pos (by omega) (Ev.bind (spec_imply_ev A hy hx) (Ev.pos (by omega) (Ev.pos (by omega) (Ev.eq (Ev.some _) ?_))))))
  exact A.val _ _ a b
theorem impl_near_ev {up : List Int} {T : List (List Int)} (A : Alg up T) {x y : Nat} (hx : x < up.length) (hy : y < up.length) : Ev (fun k => impl_near.f k up T (x : Int) (y : Int)) (nearN up T x y : Int) := by
  unfold impl_near.f nearN
  have hl := A.len
  have a := imply_lt A x y
  have b := imply_lt A y x
  have r : (rd_L1 T (implyN up T x y : Int)).length = up.length := A.row _ a
  refine Ev.bind (impl_imply_ev A hx hy) (Ev.pos (by omega) (Ev.pos (by omega) (Ev.bind (impl_imply_ev A hy hx) (Ev.pos (by omega) (Ev.pos (by omega) (Ev.eq (Ev.some _) ?_))))))
  exact A.val _ _ a b
end Go.Proofs.Ytkndndgladdmcaa.M
