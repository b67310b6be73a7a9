/- Implications, powers and how near two elements are: the program and the reference answer the same. -/
import Derived.Test.YtkndndgladdmcaaP23
import Derived.Test.YtkndndgladdmcaaP25
import Derived.Test.YtkndndgladdmcaaMAlgVal
namespace Go.Proofs.Ytkndndgladdmcaa.M
set_option linter.unusedVariables false
open Go.RowKit Go.Proofs.YtkndndgladdmcaaW.PrintWords Go.Proofs.YtkndndgladdmcaaW.PrintLast Go.Proofs.YtkndndgladdmcaaW.PrintMore Go.Proofs.Ytkndndgladdmcaa.P

theorem impS_lt {up : List Int} {T : List (List Int)} (A : Alg up T) (x y : Nat) {z s : Nat} (hz : z < up.length) (hs : s < up.length) : impS up T x y z s < up.length := by
  unfold impS
  split
  · exact jlt A.lat hs hz
  · exact hs
theorem spec_imply_ev {up : List Int} {T : List (List Int)} (A : Alg up T) {x y : Nat} (hx : x < up.length) (hy : y < up.length) : Ev (fun k => spec_imply.f k up T (x : Int) (y : Int)) (implyN up T x y : Int) := by
  have h6 := A.ok.1
  have pos := A.pos
  have hl := A.len
  unfold spec_imply.f implyN
  refine ev_fold (fun k (s : Nat) i => spec_imply.l0 k (x : Int) (y : Int) (s : Int) i up T) up.length (impS up T x y) (fun _ s => s < up.length) (fun s => (s : Int)) ?_ ?_ up.length 0 0 (by omega) (by omega)
  · intro z hz s hs
    refine ⟨impS_lt A x y hz hs, fun r h => ?_⟩
    have rx : (rd_L1 T (x : Int)).length = up.length := A.row x hx
    refine Ev.step (fun k => by simp only [spec_imply.l0]; exact rfl) ?_
    rw [w64s hz (by omega), show rd (rd_L1 T (x : Int)) (z : Int) = (tN T x z : Int) from A.val x z hx hz]
    refine Ev.pos (by omega) (Ev.pos (by omega) (Ev.pos (by omega) (Ev.pos (by omega) (Ev.pos (by omega) (Ev.bind (spec_below_ev A.ok (A.lt x z hx hz) (by omega)) ?_)))))
    unfold impS at h
    cases hb : le up (tN T x z) y with
    | true =>
      rw [if_pos hb] at h
      exact Ev.pos rfl (Ev.bind (sjoin A.lat hs hz) h)
    | false =>
      rw [hb, if_neg (by decide)] at h
      exact Ev.neg (by decide) h
  · intro s hs
    exact Ev.step (fun k => by simp only [spec_imply.l0]; exact rfl) (Ev.neg (by omega) (Ev.some _))
theorem impl_imply_ev {up : List Int} {T : List (List Int)} (A : Alg up T) {x y : Nat} (hx : x < up.length) (hy : y < up.length) : Ev (fun k => impl_imply.f k up T (x : Int) (y : Int)) (implyN up T x y : Int) := by
  have h6 := A.ok.1
  have pos := A.pos
  have hl := A.len
  unfold impl_imply.f implyN
  refine ev_fold (fun k (s : Nat) i => impl_imply.l0 k (x : Int) (y : Int) (s : Int) (up.length : Int) i up T) up.length (impS up T x y) (fun _ s => s < up.length) (fun s => (s : Int)) ?_ ?_ up.length 0 0 (by omega) (by omega)
  · intro z hz s hs
    refine ⟨impS_lt A x y hz hs, fun r h => ?_⟩
    have rx : (rd_L1 T (x : Int)).length = up.length := A.row x hx
    refine Ev.step (fun k => by simp only [impl_imply.l0]; exact rfl) ?_
    rw [w64s hz (by omega), show rd (rd_L1 T (x : Int)) (z : Int) = (tN T x z : Int) from A.val x z hx hz]
    refine Ev.pos (by omega) (Ev.pos (by omega) (Ev.pos (by omega) (Ev.pos (by omega) (Ev.pos (by omega) (Ev.bindc (impl_below_eq A.ok (A.lt x z hx hz)) ?_)))))
    unfold impS at h
    cases hb : le up (tN T x z) y with
    | true =>
      rw [if_pos hb] at h
      exact Ev.pos rfl (Ev.bind (ijoin A.lat hs hz) h)
    | false =>
      rw [hb, if_neg (by decide)] at h
      exact Ev.neg (by decide) h
  · intro s hs
    exact Ev.step (fun k => by simp only [impl_imply.l0]; exact rfl) (Ev.neg (by omega) (Ev.some _))
end Go.Proofs.Ytkndndgladdmcaa.M
