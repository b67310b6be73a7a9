/- All filters, and the least one with some elements: the program and the reference answer the same. -/
import Derived.Test.YtomapoenndlbiaaP32
import Derived.Test.YtomapoenndlbiaaP37
import Derived.Test.YtomapoenndlbiaaMFilt
import Derived.Test.YtomapoenndlbiaaMListN
namespace Go.Proofs.Ytomapoenndlbiaa.M
set_option linter.unusedVariables false
open Go.RowKit Go.Proofs.YtomapoenndlbiaaW.PrintWords Go.Proofs.YtomapoenndlbiaaW.PrintLast Go.Proofs.YtomapoenndlbiaaW.PrintMore Go.Proofs.Ytomapoenndlbiaa.P

def filtersN (up : List Int) (T : List (List Int)) : List Int := listN (filtB up T) (2 ^ up.length)
theorem filtersN_len {up : List Int} (T : List (List Int)) (h6 : up.length ≤ 6) : (filtersN up T).length ≤ 64 := Nat.le_trans (listN_len _ _) (pow_le64 h6)
theorem spec_filters_ev {up : List Int} {T : List (List Int)} (A : Alg up T) : Ev (fun k => spec_filters.f k up T) (filtersN up T) := by
  have h6 := A.ok.1
  have h64 := pow_le64 h6
  unfold spec_filters.f
  refine ev_list (fun k s i => spec_filters.l0 k s i up T) (2 ^ up.length) (filtB up T) _ ?_ ?_
  · intro F hF s hs r k1 k2
    refine Ev.step (fun k => by simp only [spec_filters.l0]; exact rfl) (Ev.bind (power_ev up.length (by omega)) ?_)
    refine Ev.pos (by omega) (Ev.bind (spec_isFilter_ev A hF) ?_)
    rw [w64s hF (by omega)]
    cases hf : filtB up T F with
    | true => exact Ev.pos rfl (Ev.pos (by omega) (k1 hf))
    | false => exact Ev.neg (by decide) (k2 hf)
  · refine Ev.step (fun k => by simp only [spec_filters.l0]; exact rfl) (Ev.bind (power_ev up.length (by omega)) ?_)
    exact Ev.neg (by omega) (Ev.some _)
theorem impl_filters_ev {up : List Int} {T : List (List Int)} (A : Alg up T) : Ev (fun k => impl_filters.f k up T) (filtersN up T) := by
  have h6 := A.ok.1
  have h64 := pow_le64 h6
  unfold impl_filters.f
  refine ev_list (fun k s i => impl_filters.l0 k s i up T) (2 ^ up.length) (filtB up T) _ ?_ ?_
  · intro F hF s hs r k1 k2
    refine Ev.step (fun k => by simp only [impl_filters.l0]; exact rfl) ?_
    rw [shl1 up.length (by omega)]
    refine Ev.pos (by omega) (Ev.bind (impl_isFilter_ev A hF) ?_)
    rw [w64s hF (by omega)]
    cases hf : filtB up T F with
    | true => exact Ev.pos rfl (Ev.pos (by omega) (k1 hf))
    | false => exact Ev.neg (by decide) (k2 hf)
  · refine Ev.step (fun k => by simp only [impl_filters.l0]; exact rfl) ?_
    rw [shl1 up.length (by omega)]
    exact Ev.neg (by omega) (Ev.some _)
end Go.Proofs.Ytomapoenndlbiaa.M
