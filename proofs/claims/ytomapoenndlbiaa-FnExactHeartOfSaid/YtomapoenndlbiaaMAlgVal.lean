/- Which lists and tables are algebras: the program's ValidAlgebra and the reference's answer the same. -/
import Derived.Test.YtomapoenndlbiaaP9
import Derived.Test.YtomapoenndlbiaaP19
import Derived.Test.YtomapoenndlbiaaP18
import Derived.Test.YtomapoenndlbiaaP6
import Derived.Test.YtomapoenndlbiaaP14
import Derived.Test.YtomapoenndlbiaaMAlg
import Derived.Test.YtomapoenndlbiaaMA
namespace Go.Proofs.Ytomapoenndlbiaa.M
set_option linter.unusedVariables false
open Go.RowKit Go.Proofs.YtomapoenndlbiaaW.PrintWords Go.Proofs.YtomapoenndlbiaaW.PrintLast Go.Proofs.YtomapoenndlbiaaW.PrintMore Go.Proofs.Ytomapoenndlbiaa.P

theorem sjoin {up : List Int} (hb : latB up = true) {x y : Nat} (hx : x < up.length) (hy : y < up.length) : Ev (fun k => spec_join.f k up (x : Int) (y : Int)) (joinN up x y : Int) :=
  Ev.eq (spec_join_ev (latB_ok hb).1 hx hy) (joinN_int hb hx hy)
theorem ijoin {up : List Int} (hb : latB up = true) {x y : Nat} (hx : x < up.length) (hy : y < up.length) : Ev (fun k => impl_join.f k up (x : Int) (y : Int)) (joinN up x y : Int) :=
  Ev.eq (impl_join_ev (latB_ok hb).1 hx hy) (joinN_int hb hx hy)
theorem shape_no {up : List Int} {T : List (List Int)} (h : ¬ T.length = up.length) : (shapeB up T && lawB up T) = false := by
  unfold shapeB
  rw [decide_eq_false h]
  rfl
theorem shape_rows {up : List Int} {T : List (List Int)} (h : T.length = up.length) : shapeB up T = allN up.length (rowB up T) := by
  unfold shapeB
  rw [decide_eq_true h, Bool.true_and]
theorem last_eq {n : Nat} (h : 1 ≤ n) (h6 : n ≤ 6) : wrap64 ((n : Int) - 1) = ((n - 1 : Nat) : Int) := by
  rw [w64 (by omega) (by omega)]
  omega
theorem spec_validAlgebra_ev (up : List Int) (T : List (List Int)) (hl : up.length ≤ 17592186044416) : Ev (fun k => spec_validAlgebra.f k up T) (algB up T) := by
  unfold spec_validAlgebra.f
  refine Ev.bind (spec_validLattice_ev up hl) ?_
  unfold algB
  cases hb : latB up with
  | false =>
    refine Ev.neg (by decide) (Ev.step (fun k => by simp only [spec_validAlgebra.j0]; exact rfl) ?_)
    exact Ev.pos trivial (Ev.some _)
  | true =>
    obtain ⟨ho, h1⟩ := latB_ok hb
    have h6 := ho.1
    have en := last_eq h1 h6
    rw [Bool.true_and]
    refine Ev.pos rfl (Ev.step (fun k => by simp only [spec_validAlgebra.j0]; exact rfl) ?_)
    by_cases hT : T.length = up.length
    · refine Ev.neg (by simp [hT]) ?_
      rw [shape_rows hT]
      refine ev_all (fun k i => spec_validAlgebra.l0 k (up.length : Int) i up T) up.length (rowB up T) _ ?_ ?_ ?_
      · intro x hx r k1 k2
        refine Ev.step (fun k => by simp only [spec_validAlgebra.l0]; exact rfl) (Ev.pos (by omega) (Ev.pos (by omega) (Ev.pos (by omega) ?_)))
        refine Ev.ite' (fun c => ?_) (fun c => ?_)
        · have hc : (rd_L1 T (x : Int)).length = up.length := by omega
          have hr : rowB up T x = allN up.length (valAt up T x) := by
            unfold rowB
            rw [decide_eq_true (p := (rowT T x).length = up.length) hc, Bool.true_and]
          rw [hr] at k1 k2
          refine ev_all (fun k i => spec_validAlgebra.l1 k (up.length : Int) (x : Int) i up T) up.length (valAt up T x) r ?_ ?_ k2
          · intro y hy r q1 q2
            refine Ev.step (fun k => by simp only [spec_validAlgebra.l1]; exact rfl) (Ev.pos (by omega) (Ev.pos (by omega) (Ev.pos (by omega) (Ev.pos (by omega) (Ev.pos (by omega) ?_)))))
            refine Ev.bindc (inRange_eq _ _ _) ?_
            rw [w64 (x := (up.length : Int) - 1) (by omega) (by omega), w64s hy (by omega)]
            cases hv : valAt up T x y with
            | true => exact Ev.pos hv (q1 hv)
            | false =>
              rw [q2 hv]
              refine Ev.neg ?_ (Ev.some _)
              show ¬ valAt up T x y = true
              rw [hv]
              decide
          · intro e
            refine Ev.step (fun k => by simp only [spec_validAlgebra.l1]; exact rfl) (Ev.neg (by omega) ?_)
            rw [w64s hx (by omega)]
            exact k1 e
        · rw [k2 (by unfold rowB; rw [decide_eq_false (p := (rowT T x).length = up.length) (fun e => c (by show ((rowT T x).length : Int) = _; omega)), Bool.false_and])]
          exact Ev.some _
      · intro e
        have e' : allN up.length (rowB up T) = true := e
        have A : Tab up T := Tab.of (by rw [shape_rows hT]; exact e)
        refine Ev.step (fun k => by simp only [spec_validAlgebra.l0]; exact rfl) (Ev.neg (by omega) ?_)
        rw [e', Bool.true_and]
        refine ev_all (fun k i => spec_validAlgebra.l2 k (up.length : Int) i up T) up.length (lawX up T) _ ?_ (fun e => ?_) (fun e => e)
        · intro x hx r k1 k2
          have rx : (rd_L1 T (x : Int)).length = up.length := A.row x hx
          refine Ev.step (fun k => by simp only [spec_validAlgebra.l2]; exact rfl) ?_
          rw [en, show rd (rd_L1 T (x : Int)) ((up.length - 1 : Nat) : Int) = (tN T x (up.length - 1) : Int) from A.val x _ hx (by omega), show rd (rd_L1 T (x : Int)) 0 = (tN T x 0 : Int) from A.val x 0 hx (by omega)]
          refine Ev.pos (by omega) (Ev.pos (by omega) (Ev.pos (by omega) (Ev.pos (by omega) (Ev.pos (by omega) ?_))))
          have key : ∀ b : Bool, (b = false ↔ tN T x (up.length - 1) = x ∧ tN T x 0 = 0) → Ev (fun k => spec_validAlgebra.j4 k (up.length : Int) (x : Int) b up T) r := by
            intro b hb'
            refine Ev.step (fun k => by simp only [spec_validAlgebra.j4]; exact rfl) ?_
            cases b with
            | true =>
              rw [k2 ?_]
              · exact Ev.pos rfl (Ev.some _)
              · unfold lawX
                rw [Bool.and_eq_false_iff]
                left
                rw [Bool.eq_false_iff]
                intro h
                rw [Bool.and_eq_true, decide_eq_true_eq, decide_eq_true_eq] at h
                have := hb'.2 h
                cases this
            | false =>
              refine Ev.neg (by decide) ?_
              obtain ⟨c1, c2⟩ := hb'.1 rfl
              have hr : lawX up T x = allN up.length (lawY up T x) := by
                unfold lawX
                rw [decide_eq_true c1, decide_eq_true c2, Bool.true_and, Bool.true_and]
              rw [hr] at k1 k2
              refine ev_all (fun k i => spec_validAlgebra.l3 k (up.length : Int) (x : Int) i up T) up.length (lawY up T x) r ?_ ?_ k2
              · intro y hy r q1 q2
                have ry : (rd_L1 T (y : Int)).length = up.length := A.row y hy
                have hxy := A.lt x y hx hy
                have rxy : (rd_L1 T (tN T x y : Int)).length = up.length := A.row _ hxy
                refine Ev.step (fun k => by simp only [spec_validAlgebra.l3]; exact rfl) ?_
                rw [show rd (rd_L1 T (x : Int)) (y : Int) = (tN T x y : Int) from A.val x y hx hy, show rd (rd_L1 T (y : Int)) (x : Int) = (tN T y x : Int) from A.val y x hy hx]
                refine Ev.pos (by omega) (Ev.pos (by omega) (Ev.pos (by omega) (Ev.pos (by omega) (Ev.pos (by omega) (Ev.pos (by omega) (Ev.pos (by omega) ?_))))))
                refine Ev.ite' (fun c => ?_) (fun c => ?_)
                · have hr : lawY up T x y = allN up.length (lawAt up T x y) := by
                    unfold lawY
                    rw [decide_eq_true (p := tN T x y = tN T y x) (by omega), Bool.true_and]
                  rw [hr] at q1 q2
                  refine ev_all (fun k i => spec_validAlgebra.l4 k (up.length : Int) (x : Int) (y : Int) i up T) up.length (lawAt up T x y) r ?_ ?_ q2
                  · intro z hz r s1 s2
                    have hyz := A.lt y z hy hz
                    have hxz := A.lt x z hx hz
                    have hj := jlt hb hy hz
                    refine Ev.step (fun k => by simp only [spec_validAlgebra.l4]; exact rfl) ?_
                    rw [w64s hz (by omega), show rd (rd_L1 T (x : Int)) (y : Int) = (tN T x y : Int) from A.val x y hx hy, show rd (rd_L1 T (y : Int)) (z : Int) = (tN T y z : Int) from A.val y z hy hz, show rd (rd_L1 T (x : Int)) (z : Int) = (tN T x z : Int) from A.val x z hx hz,
                      show rd (rd_L1 T (tN T x y : Int)) (z : Int) = (tN T (tN T x y) z : Int) from A.val _ z hxy hz, show rd (rd_L1 T (x : Int)) (tN T y z : Int) = (tN T x (tN T y z) : Int) from A.val x _ hx hyz]
                    refine Ev.pos (by omega) (Ev.pos (by omega) (Ev.pos (by omega) (Ev.pos (by omega) (Ev.pos (by omega) (Ev.pos (by omega) (Ev.pos (by omega) (Ev.pos (by omega) (Ev.pos (by omega) (Ev.pos (by omega) (Ev.pos (by omega) (Ev.pos (by omega) (Ev.pos (by omega) ?_))))))))))))
                    refine Ev.ite' (fun c1 => ?_) (fun c1 => ?_)
                    · refine Ev.bind (sjoin hb hy hz) (Ev.pos (by omega) (Ev.pos (by omega) (Ev.pos (by omega) (Ev.bind (sjoin hb hxy hxz) ?_))))
                      rw [show rd (rd_L1 T (x : Int)) (joinN up y z : Int) = (tN T x (joinN up y z) : Int) from A.val x _ hx hj]
                      refine Ev.ite' (fun c2 => s1 ?_) (fun c2 => ?_)
                      · unfold lawAt
                        rw [decide_eq_true (show tN T (tN T x y) z = tN T x (tN T y z) by omega), decide_eq_true (show tN T x (joinN up y z) = joinN up (tN T x y) (tN T x z) by omega)]
                        rfl
                      · rw [s2 ?_]
                        · exact Ev.some _
                        · unfold lawAt
                          rw [decide_eq_false (fun e => c2 (by omega) : ¬ tN T x (joinN up y z) = joinN up (tN T x y) (tN T x z)), Bool.and_false]
                    · rw [s2 ?_]
                      · exact Ev.some _
                      · unfold lawAt
                        rw [decide_eq_false (fun e => c1 (by omega) : ¬ tN T (tN T x y) z = tN T x (tN T y z)), Bool.false_and]
                  · intro e
                    refine Ev.step (fun k => by simp only [spec_validAlgebra.l4]; exact rfl) (Ev.neg (by omega) ?_)
                    rw [w64s hy (by omega)]
                    exact q1 e
                · rw [q2 ?_]
                  · exact Ev.some _
                  · unfold lawY
                    rw [decide_eq_false (fun e => c (by omega) : ¬ tN T x y = tN T y x), Bool.false_and]
              · intro e
                refine Ev.step (fun k => by simp only [spec_validAlgebra.l3]; exact rfl) (Ev.neg (by omega) ?_)
                rw [w64s hx (by omega)]
                exact k1 e
          refine Ev.ite' (fun c => Ev.pos (by omega) (key _ ?_)) (fun c => key _ ?_)
          · rw [bne_eq_false_iff_eq]
            omega
          · constructor
            · intro h; cases h
            · intro h; exact absurd (by omega) c
        · refine Ev.step (fun k => by simp only [spec_validAlgebra.l2]; exact rfl) (Ev.neg (by omega) ?_)
          rw [show lawB up T = true from e]
          exact Ev.some _
      · intro e
        rw [show allN up.length (rowB up T) = false from e]
        rfl
    · refine Ev.pos ?_ (Ev.eq (Ev.some _) (shape_no hT).symm)
      rw [bne_iff_ne]
      omega
theorem cf_val (r : List Int) (n : Nat) (h6 : n ≤ 6) (hr : r.length ≤ 17592186044416) : cf_ValidAlgebra_1.f r (n : Int) = some (r.any fun x => !(decide (0 ≤ x ∧ x ≤ (n : Int) - 1))) := by
  unfold cf_ValidAlgebra_1.f
  rw [if_pos (by omega)]
  congr 2
  funext x
  rw [w64 (x := (n : Int) - 1) (by omega) (by omega)]
  unfold withinB
  rw [← Bool.decide_and]
theorem any_row {up : List Int} {T : List (List Int)} {x : Nat} (hc : (rd_L1 T (x : Int)).length = up.length) : ((rd_L1 T (x : Int)).any fun v => !(decide (0 ≤ v ∧ v ≤ (up.length : Int) - 1))) = !(allN up.length (valAt up T x)) := by
  rw [Bool.eq_iff_iff, List.any_eq_true, Bool.not_eq_true', ← Bool.not_eq_true, allN_iff]
  constructor
  · rintro ⟨v, hv, hn⟩ h
    obtain ⟨i, hi, rfl⟩ := List.mem_iff_getElem.1 hv
    have := h i (by omega)
    unfold valAt at this
    rw [show rowT T x = rd_L1 T (x : Int) from rfl, rd_lt hi] at this
    rw [this] at hn
    cases hn
  · intro h
    refine Classical.byContradiction fun hc2 => h fun i hi => ?_
    have hi' : i < (rd_L1 T (x : Int)).length := by omega
    unfold valAt
    rw [show rowT T x = rd_L1 T (x : Int) from rfl, rd_lt hi']
    refine Classical.byContradiction fun hv => hc2 ⟨_, List.getElem_mem hi', ?_⟩
    rw [Bool.not_eq_true] at hv
    rw [hv]
    rfl
theorem impl_ValidAlgebra_ev (up : List Int) (T : List (List Int)) (hl : up.length ≤ 17592186044416) : Ev (fun k => impl_ValidAlgebra.f k up T) (algB up T) := by
  unfold impl_ValidAlgebra.f
  refine Ev.bind (impl_ValidLattice_ev up hl) ?_
  unfold algB
  cases hb : latB up with
  | false =>
    refine Ev.neg (by decide) (Ev.step (fun k => by simp only [impl_ValidAlgebra.j0]; exact rfl) ?_)
    exact Ev.pos trivial (Ev.some _)
  | true =>
    obtain ⟨ho, h1⟩ := latB_ok hb
    have h6 := ho.1
    have en := last_eq h1 h6
    rw [Bool.true_and]
    refine Ev.pos rfl (Ev.step (fun k => by simp only [impl_ValidAlgebra.j0]; exact rfl) ?_)
    by_cases hT : T.length = up.length
    · refine Ev.neg (by simp [hT]) ?_
      rw [shape_rows hT]
      refine ev_all (fun k i => impl_ValidAlgebra.l0 k T (T.length : Int) i up T (up.length : Int)) up.length (rowB up T) _ ?_ ?_ ?_
      · intro x hx r k1 k2
        refine Ev.step (fun k => by simp only [impl_ValidAlgebra.l0]; exact rfl) (Ev.pos (by omega) (Ev.pos (by omega) (Ev.pos (by omega) ?_)))
        rw [w64s hx (by omega)]
        refine Ev.ite' (fun c => ?_) (fun c => ?_)
        · have hc : (rd_L1 T (x : Int)).length = up.length := by omega
          have hr : rowB up T x = allN up.length (valAt up T x) := by
            unfold rowB
            rw [decide_eq_true (p := (rowT T x).length = up.length) hc, Bool.true_and]
          rw [hr] at k1 k2
          refine Ev.bindc (cf_val _ _ h6 (by omega)) ?_
          rw [any_row hc]
          cases hv : allN up.length (valAt up T x) with
          | true => exact Ev.neg (by decide) (k1 hv)
          | false =>
            rw [k2 hv]
            exact Ev.pos rfl (Ev.some _)
        · rw [k2 (by unfold rowB; rw [decide_eq_false (p := (rowT T x).length = up.length) (fun e => c (by show ((rowT T x).length : Int) = _; omega)), Bool.false_and])]
          exact Ev.some _
      · intro e
        have e' : allN up.length (rowB up T) = true := e
        have A : Tab up T := Tab.of (by rw [shape_rows hT]; exact e)
        refine Ev.step (fun k => by simp only [impl_ValidAlgebra.l0]; exact rfl) (Ev.neg (by omega) ?_)
        rw [e', Bool.true_and]
        refine ev_all (fun k i => impl_ValidAlgebra.l1 k (up.length : Int) i up T (up.length : Int)) up.length (lawX up T) _ ?_ (fun e => ?_) (fun e => e)
        · intro x hx r k1 k2
          have rx : (rd_L1 T (x : Int)).length = up.length := A.row x hx
          refine Ev.step (fun k => by simp only [impl_ValidAlgebra.l1]; exact rfl) ?_
          rw [en, show rd (rd_L1 T (x : Int)) ((up.length - 1 : Nat) : Int) = (tN T x (up.length - 1) : Int) from A.val x _ hx (by omega), show rd (rd_L1 T (x : Int)) 0 = (tN T x 0 : Int) from A.val x 0 hx (by omega)]
          refine Ev.pos (by omega) (Ev.pos (by omega) (Ev.pos (by omega) (Ev.pos (by omega) (Ev.pos (by omega) ?_))))
          have key : ∀ b : Bool, (b = false ↔ tN T x (up.length - 1) = x ∧ tN T x 0 = 0) → Ev (fun k => impl_ValidAlgebra.j3 k (x : Int) (up.length : Int) (x : Int) b up T (up.length : Int)) r := by
            intro b hb'
            refine Ev.step (fun k => by simp only [impl_ValidAlgebra.j3]; exact rfl) ?_
            cases b with
            | true =>
              rw [k2 ?_]
              · exact Ev.pos rfl (Ev.some _)
              · unfold lawX
                rw [Bool.and_eq_false_iff]
                left
                rw [Bool.eq_false_iff]
                intro h
                rw [Bool.and_eq_true, decide_eq_true_eq, decide_eq_true_eq] at h
                have := hb'.2 h
                cases this
            | false =>
              refine Ev.neg (by decide) ?_
              obtain ⟨c1, c2⟩ := hb'.1 rfl
              have hr : lawX up T x = allN up.length (lawY up T x) := by
                unfold lawX
                rw [decide_eq_true c1, decide_eq_true c2, Bool.true_and, Bool.true_and]
              rw [hr] at k1 k2
              refine ev_all (fun k i => impl_ValidAlgebra.l2 k (x : Int) (up.length : Int) (x : Int) (up.length : Int) i up T (up.length : Int)) up.length (lawY up T x) r ?_ ?_ k2
              · intro y hy r q1 q2
                have ry : (rd_L1 T (y : Int)).length = up.length := A.row y hy
                have hxy := A.lt x y hx hy
                have rxy : (rd_L1 T (tN T x y : Int)).length = up.length := A.row _ hxy
                refine Ev.step (fun k => by simp only [impl_ValidAlgebra.l2]; exact rfl) ?_
                rw [show rd (rd_L1 T (x : Int)) (y : Int) = (tN T x y : Int) from A.val x y hx hy, show rd (rd_L1 T (y : Int)) (x : Int) = (tN T y x : Int) from A.val y x hy hx]
                refine Ev.pos (by omega) (Ev.pos (by omega) (Ev.pos (by omega) (Ev.pos (by omega) (Ev.pos (by omega) (Ev.pos (by omega) (Ev.pos (by omega) ?_))))))
                refine Ev.ite' (fun c => ?_) (fun c => ?_)
                · have hr : lawY up T x y = allN up.length (lawAt up T x y) := by
                    unfold lawY
                    rw [decide_eq_true (p := tN T x y = tN T y x) (by omega), Bool.true_and]
                  rw [hr] at q1 q2
                  refine ev_all (fun k i => impl_ValidAlgebra.l3 k (x : Int) (y : Int) (up.length : Int) (x : Int) (up.length : Int) (y : Int) (up.length : Int) i up T (up.length : Int)) up.length (lawAt up T x y) r ?_ ?_ q2
                  · intro z hz r s1 s2
                    have hyz := A.lt y z hy hz
                    have hxz := A.lt x z hx hz
                    have hj := jlt hb hy hz
                    refine Ev.step (fun k => by simp only [impl_ValidAlgebra.l3]; exact rfl) ?_
                    rw [w64s hz (by omega), show rd (rd_L1 T (x : Int)) (y : Int) = (tN T x y : Int) from A.val x y hx hy, show rd (rd_L1 T (y : Int)) (z : Int) = (tN T y z : Int) from A.val y z hy hz, show rd (rd_L1 T (x : Int)) (z : Int) = (tN T x z : Int) from A.val x z hx hz,
                      show rd (rd_L1 T (tN T x y : Int)) (z : Int) = (tN T (tN T x y) z : Int) from A.val _ z hxy hz, show rd (rd_L1 T (x : Int)) (tN T y z : Int) = (tN T x (tN T y z) : Int) from A.val x _ hx hyz]
                    refine Ev.pos (by omega) (Ev.pos (by omega) (Ev.pos (by omega) (Ev.pos (by omega) (Ev.pos (by omega) (Ev.pos (by omega) (Ev.pos (by omega) (Ev.pos (by omega) (Ev.pos (by omega) (Ev.pos (by omega) (Ev.pos (by omega) (Ev.pos (by omega) (Ev.pos (by omega) ?_))))))))))))
                    refine Ev.ite' (fun c1 => ?_) (fun c1 => ?_)
                    · refine Ev.bind (ijoin hb hy hz) (Ev.pos (by omega) (Ev.pos (by omega) (Ev.pos (by omega) (Ev.bind (ijoin hb hxy hxz) ?_))))
                      rw [show rd (rd_L1 T (x : Int)) (joinN up y z : Int) = (tN T x (joinN up y z) : Int) from A.val x _ hx hj]
                      refine Ev.ite' (fun c2 => s1 ?_) (fun c2 => ?_)
                      · unfold lawAt
                        rw [decide_eq_true (show tN T (tN T x y) z = tN T x (tN T y z) by omega), decide_eq_true (show tN T x (joinN up y z) = joinN up (tN T x y) (tN T x z) by omega)]
                        rfl
                      · rw [s2 ?_]
                        · exact Ev.some _
                        · unfold lawAt
                          rw [decide_eq_false (fun e => c2 (by omega) : ¬ tN T x (joinN up y z) = joinN up (tN T x y) (tN T x z)), Bool.and_false]
                    · rw [s2 ?_]
                      · exact Ev.some _
                      · unfold lawAt
                        rw [decide_eq_false (fun e => c1 (by omega) : ¬ tN T (tN T x y) z = tN T x (tN T y z)), Bool.false_and]
                  · intro e
                    refine Ev.step (fun k => by simp only [impl_ValidAlgebra.l3]; exact rfl) (Ev.neg (by omega) ?_)
                    rw [w64s hy (by omega)]
                    exact q1 e
                · rw [q2 ?_]
                  · exact Ev.some _
                  · unfold lawY
                    rw [decide_eq_false (fun e => c (by omega) : ¬ tN T x y = tN T y x), Bool.false_and]
              · intro e
                refine Ev.step (fun k => by simp only [impl_ValidAlgebra.l2]; exact rfl) (Ev.neg (by omega) ?_)
                rw [w64s hx (by omega)]
                exact k1 e
          refine Ev.ite' (fun c => Ev.pos (by omega) (key _ ?_)) (fun c => key _ ?_)
          · rw [bne_eq_false_iff_eq]
            omega
          · constructor
            · intro h; cases h
            · intro h; exact absurd (by omega) c
        · refine Ev.step (fun k => by simp only [impl_ValidAlgebra.l1]; exact rfl) (Ev.neg (by omega) ?_)
          rw [show lawB up T = true from e]
          exact Ev.some _
      · intro e
        rw [show allN up.length (rowB up T) = false from e]
        rfl
    · refine Ev.pos ?_ (Ev.eq (Ev.some _) (shape_no hT).symm)
      rw [bne_iff_ne]
      omega
end Go.Proofs.Ytomapoenndlbiaa.M
