-- Printed by this session's wip/print2.py (the kit's print.py, widened) out of the translation. Lean checks it.
import Derived.Test.YtomapoenndlbiaaP0
import Derived.Test.YtomapoenndlbiaaP7
import Derived.Test.YtomapoenndlbiaaP14
import Derived.Test.YtomapoenndlbiaaP16
namespace Go.Proofs.Ytomapoenndlbiaa.P
open Go.RowKit Go.Proofs.YtomapoenndlbiaaW.PrintWords Go.Proofs.YtomapoenndlbiaaW.PrintLast Go.Proofs.YtomapoenndlbiaaW.PrintMore
attribute [local go_sem] max2_int min2_int max_two min_two max_three min_three max_four min_four   -- for this text's walks alone
set_option linter.unusedVariables false
set_option linter.unusedSimpArgs false

/-! ### spec_KernelOf: function 20 -/
mutual
def spec_KernelOf.j0 : Nat → List Int → Bool → List Int → List (List Int) → Option (Int)
 | 0, _, _, _, _ => none
 | k + 1, x2, x23, x378000, x378001 => if x23 = true then (some (-1)) else (spec_KernelOf.l0 k x2 0 0 x378000 x378001)
def spec_KernelOf.l0 : Nat → List Int → Int → Int → List Int → List (List Int) → Option (Int)
 | 0, _, _, _, _, _ => none
 | k + 1, x2, x7, x8, x378000, x378001 => if x8 < (x2.length : Int) then (if 0 ≤ x8 then (if (rd x2 x8) = (wrap64 ((x378000.length : Int) - 1)) then ((spec_power.f k x8).bind fun t382 => (spec_KernelOf.l0 k x2 (wrap64 (x7 + t382)) (wrap64 (x8 + 1)) x378000 x378001)) else (spec_KernelOf.l0 k x2 x7 (wrap64 (x8 + 1)) x378000 x378001)) else (none)) else (some x7)
end
def spec_KernelOf.f (k : Nat) (l0_0 : List Int) (l0_1 : List (List Int)) (l1_0 : List Int) (l1_1 : List (List Int)) (l2 : List Int) : Option (Int) := (spec_validAlgebra.f k l0_0 l0_1).bind fun t378 => (if t378 = true then ((spec_validAlgebra.f k l1_0 l1_1).bind fun t379 => (if t379 = true then ((spec_isMap.f k l0_0 l0_1 l1_0 l1_1 l2).bind fun t380 => (spec_KernelOf.j0 k l2 (!t380) l1_0 l1_1)) else (spec_KernelOf.j0 k l2 true l1_0 l1_1))) else (spec_KernelOf.j0 k l2 true l1_0 l1_1))
set_option maxHeartbeats 8000000 in
set_option maxRecDepth 100000 in
theorem spec_KernelOf.calls (k : Nat) (A0_0 : Option Addr) (c0_0 : Nat) (l0_0 : List Int) (A0_1 : Option Addr) (c0_1 : Nat) (l0_1 : List (List Int)) (A1_0 : Option Addr) (c1_0 : Nat) (l1_0 : List Int) (A1_1 : Option Addr) (c1_1 : Nat) (l1_1 : List (List Int)) (A2 : Option Addr) (c2 : Nat) (l2 : List Int) (r : Int) (w : World) (hr0_0 : Kd.C (Kd.int .i64) w A0_0 l0_0.length l0_0) (hc0_0 : l0_0.length ≤ c0_0) (hr0_1 : Kd.C (Kd.slice 3 (Kd.int .i64)) w A0_1 l0_1.length l0_1) (hc0_1 : l0_1.length ≤ c0_1) (hr1_0 : Kd.C (Kd.int .i64) w A1_0 l1_0.length l1_0) (hc1_0 : l1_0.length ≤ c1_0) (hr1_1 : Kd.C (Kd.slice 3 (Kd.int .i64)) w A1_1 l1_1.length l1_1) (hc1_1 : l1_1.length ≤ c1_1) (hr2 : Kd.C (Kd.int .i64) w A2 l2.length l2) (hc2 : l2.length ≤ c2) (h : spec_KernelOf.f k l0_0 l0_1 l1_0 l1_1 l2 = some r) :
  Calls Try.prog 20 #[.agg #[.slice A0_0 l0_0.length c0_0, .slice A0_1 l0_1.length c0_1], .agg #[.slice A1_0 l1_0.length c1_0, .slice A1_1 l1_1.length c1_1], .slice A2 l2.length c2] w fun e w' => e = .returned (.int .i64 r) ∧ Below w.heap.size w w' := by
 have hu28 := Try.underlying28
 have HR0_0 := ak hr0_0
 have HC0_0 := ak hc0_0
 clear hr0_0 hc0_0
 have HR0_1 := ak hr0_1
 have HC0_1 := ak hc0_1
 clear hr0_1 hc0_1
 have HR1_0 := ak hr1_0
 have HC1_0 := ak hc1_0
 clear hr1_0 hc1_0
 have HR1_1 := ak hr1_1
 have HC1_1 := ak hc1_1
 clear hr1_1 hc1_1
 have HR2 := ak hr2
 have HC2 := ak hc2
 clear hr2 hc2
 have HB := ak (Below.refl w.heap.size w)
 have H : ((spec_validAlgebra.f k l0_0 l0_1).bind fun t378 => (if t378 = true then ((spec_validAlgebra.f k l1_0 l1_1).bind fun t379 => (if t379 = true then ((spec_isMap.f k l0_0 l0_1 l1_0 l1_1 l2).bind fun t380 => (spec_KernelOf.j0 k l2 (!t380) l1_0 l1_1)) else (spec_KernelOf.j0 k l2 true l1_0 l1_1))) else (spec_KernelOf.j0 k l2 true l1_0 l1_1))) = some r := h
 clear h
 have HC4 := ak H
 clear H
 go_enter Try.func20, Try.ntmps20
 go_upto_region 1 with (first | ((with_reducible refine gate_dst (N := 3) rfl ?_); refine box_event ?hg (N := 3) ?hd (cs := #[.slice A0_0 l0_0.length c0_0, .slice A0_1 l0_1.length c0_1]) (t := 28) ?hr ?_; (case hd => rfl); (case hg => rfl); (case hr => first | (go_simp; done) | (go_simp; rfl)); intro gb376 hg w5 hbox hb; have BK376 := ak (hbox); have GW376 := ak ((by rw [hg]; exact (below_size (bB HB.out)) : w.heap.size ≤ gb376)); have GE376 := ak ((by rw [hg]; exact (below_size (bB HB.out)) : w.heap.size ≤ gb376)); replace HB := ak (below_step (bB HB.out) hb); clear hb hbox hg) | ((with_reducible refine gate_dst (N := 4) rfl ?_); refine box_event ?hg (N := 4) ?hd (cs := #[.slice A1_0 l1_0.length c1_0, .slice A1_1 l1_1.length c1_1]) (t := 28) ?hr ?_; (case hd => rfl); (case hg => rfl); (case hr => first | (go_simp; done) | (go_simp; rfl)); intro gb377 hg w6 hbox hb; have BK377 := ak (hbox); have GW377 := ak ((by rw [hg]; exact (below_size (bB HB.out)) : w.heap.size ≤ gb377)); have GE377 := ak ((by rw [hg]; exact (below_size (bB HB.out)) : w.heap.size ≤ gb377)); replace HB := ak (below_step (bB HB.out) hb); have NB376_377 := ak ((ne_box hg (kK BK376.out))); have NB377_376 := ak ((ne_box' hg (kK BK376.out))); replace BK376 := ak (blk_below (kK BK376.out) hb); clear hb hbox hg))
 repeat ((refine wp_region_quiet_lit ?_ ?_ ?_; kernel_rfl; kernel_rfl; (repeat (first | go_big_quiet_step (first | ((with_reducible refine gate_dst (N := 3) rfl ?_); refine box_event ?hg (N := 3) ?hd (cs := #[.slice A0_0 l0_0.length c0_0, .slice A0_1 l0_1.length c0_1]) (t := 28) ?hr ?_; (case hd => rfl); (case hg => rfl); (case hr => first | (go_simp; done) | (go_simp; rfl)); intro gb376 hg w5 hbox hb; have BK376 := ak (hbox); have GW376 := ak ((by rw [hg]; exact (below_size (bB HB.out)) : w.heap.size ≤ gb376)); have GE376 := ak ((by rw [hg]; exact (below_size (bB HB.out)) : w.heap.size ≤ gb376)); replace HB := ak (below_step (bB HB.out) hb); clear hb hbox hg) | ((with_reducible refine gate_dst (N := 4) rfl ?_); refine box_event ?hg (N := 4) ?hd (cs := #[.slice A1_0 l1_0.length c1_0, .slice A1_1 l1_1.length c1_1]) (t := 28) ?hr ?_; (case hd => rfl); (case hg => rfl); (case hr => first | (go_simp; done) | (go_simp; rfl)); intro gb377 hg w6 hbox hb; have BK377 := ak (hbox); have GW377 := ak ((by rw [hg]; exact (below_size (bB HB.out)) : w.heap.size ≤ gb377)); have GE377 := ak ((by rw [hg]; exact (below_size (bB HB.out)) : w.heap.size ≤ gb377)); replace HB := ak (below_step (bB HB.out) hb); have NB376_377 := ak ((ne_box hg (kK BK376.out))); have NB377_376 := ak ((ne_box' hg (kK BK376.out))); replace BK376 := ak (blk_below (kK BK376.out) hb); clear hb hbox hg)) | (refine wpQuiet_step (fun K hK => ?_); go_simp; refine hK _ ?_; clear hK K))); refine wpQuiet_nil ?_; intro _ hw'; obtain ⟨nq, hw''⟩ := hw'; subst hw''); go_upto_region 1 with (first | ((with_reducible refine gate_dst (N := 3) rfl ?_); refine box_event ?hg (N := 3) ?hd (cs := #[.slice A0_0 l0_0.length c0_0, .slice A0_1 l0_1.length c0_1]) (t := 28) ?hr ?_; (case hd => rfl); (case hg => rfl); (case hr => first | (go_simp; done) | (go_simp; rfl)); intro gb376 hg w5 hbox hb; have BK376 := ak (hbox); have GW376 := ak ((by rw [hg]; exact (below_size (bB HB.out)) : w.heap.size ≤ gb376)); have GE376 := ak ((by rw [hg]; exact (below_size (bB HB.out)) : w.heap.size ≤ gb376)); replace HB := ak (below_step (bB HB.out) hb); clear hb hbox hg) | ((with_reducible refine gate_dst (N := 4) rfl ?_); refine box_event ?hg (N := 4) ?hd (cs := #[.slice A1_0 l1_0.length c1_0, .slice A1_1 l1_1.length c1_1]) (t := 28) ?hr ?_; (case hd => rfl); (case hg => rfl); (case hr => first | (go_simp; done) | (go_simp; rfl)); intro gb377 hg w6 hbox hb; have BK377 := ak (hbox); have GW377 := ak ((by rw [hg]; exact (below_size (bB HB.out)) : w.heap.size ≤ gb377)); have GE377 := ak ((by rw [hg]; exact (below_size (bB HB.out)) : w.heap.size ≤ gb377)); replace HB := ak (below_step (bB HB.out) hb); have NB376_377 := ak ((ne_box hg (kK BK376.out))); have NB377_376 := ak ((ne_box' hg (kK BK376.out))); replace BK376 := ak (blk_below (kK BK376.out) hb); clear hb hbox hg)))
 (try simp only [Act.put, List.setIfInBounds_toArray, List.set_cons_zero, List.set_cons_succ])
 go_cut [23] (fun v23 wc => ∃ (kq : Nat) (x23_3 : Bool), v23 = .bool x23_3 ∧ Aside0 (spec_KernelOf.j0 kq l2 x23_3 l1_0 l1_1 = some r) ∧ Aside0 (kq ≤ k) ∧ Aside0 (wc.heap[gb376]? = some (.cells #[(.slice A0_0 l0_0.length c0_0), (.slice A0_1 l0_1.length c0_1)] 28 (0, 0))) ∧ Aside0 (wc.heap[gb377]? = some (.cells #[(.slice A1_0 l1_0.length c1_0), (.slice A1_1 l1_1.length c1_1)] 28 (0, 0))) ∧ Aside0 (Below w.heap.size w wc))
 case first =>
  have H := HC4.out
  clear HC4
  replace H := bi H
  obtain ⟨t378, A70, H⟩ := H
  try dsimp only at H
  have A7 := ak A70
  clear A70
  by_cases c8 : t378 = true
  rotate_left
  ·replace c8 := Bool.eq_false_iff.mpr c8
   subst c8
   rw [if_neg (show ¬ (false = true) by decide)] at H
   have H' := ak H
   clear H
   have hnb25 := NB376_377.out
   have hnc25 := NB377_376.out
   have hcz26_0 : w6.cell? ⟨gb376, 0, none⟩ = some (.slice A0_0 l0_0.length c0_0) := (blk_cell BK376.out 0).trans rfl
   have hcz26_1 : w6.cell? ⟨gb376, 1, none⟩ = some (.slice A0_1 l0_1.length c0_1) := (blk_cell BK376.out 1).trans rfl
   have hfz26_0 := blk_frozen BK376.out 0
   have hfz26_1 := blk_frozen BK376.out 1
   go_wp2_with (first | (go_at_call 37; (with_reducible refine (spec_validAlgebra.calls k _ _ l0_0 _ _ l0_1 false _ ?side1 ?side2 ?side3 ?side4 A7.out).mono ?_); (case side1 => exact kC (Kd.C_below HR0_0.out HB.out)); (case side2 => exact HC0_0.out); (case side3 => exact kC (Kd.C_below HR0_1.out HB.out)); (case side4 => exact HC0_1.out); rintro e w27 ⟨rfl, hb⟩; replace BK376 := ak (blk_below (kK BK376.out) hb); replace BK377 := ak (blk_below (kK BK377.out) hb); replace HB := ak (below_step (bB HB.out) hb); (try clear hb); (try clear hb2); (try clear hk); (try clear hi)))
   repeat ((refine wp_region_quiet_lit ?_ ?_ ?_; kernel_rfl; kernel_rfl; (repeat (first | go_big_quiet_step (first | (go_at_call 37; (with_reducible refine (spec_validAlgebra.calls k _ _ l0_0 _ _ l0_1 false _ ?side1 ?side2 ?side3 ?side4 A7.out).mono ?_); (case side1 => exact kC (Kd.C_below HR0_0.out HB.out)); (case side2 => exact HC0_0.out); (case side3 => exact kC (Kd.C_below HR0_1.out HB.out)); (case side4 => exact HC0_1.out); rintro e w27 ⟨rfl, hb⟩; replace BK376 := ak (blk_below (kK BK376.out) hb); replace BK377 := ak (blk_below (kK BK377.out) hb); replace HB := ak (below_step (bB HB.out) hb); (try clear hb); (try clear hb2); (try clear hk); (try clear hi))) | (refine wpQuiet_step (fun K hK => ?_); go_simp; refine hK _ ?_; clear hK K))); refine wpQuiet_nil ?_; intro _ hw'; obtain ⟨nq, hw''⟩ := hw'; subst hw''); try go_wp2_with (first | (go_at_call 37; (with_reducible refine (spec_validAlgebra.calls k _ _ l0_0 _ _ l0_1 false _ ?side1 ?side2 ?side3 ?side4 A7.out).mono ?_); (case side1 => exact kC (Kd.C_below HR0_0.out HB.out)); (case side2 => exact HC0_0.out); (case side3 => exact kC (Kd.C_below HR0_1.out HB.out)); (case side4 => exact HC0_1.out); rintro e w27 ⟨rfl, hb⟩; replace BK376 := ak (blk_below (kK BK376.out) hb); replace BK377 := ak (blk_below (kK BK377.out) hb); replace HB := ak (below_step (bB HB.out) hb); (try clear hb); (try clear hb2); (try clear hk); (try clear hi))))
   go_meet
   case rel => exact ⟨_, (true), (by first | rfl | (simp; done) | (simp [*]; done)), H', ⟨by first | omega | exact Nat.le_refl _⟩, ⟨by (with_reducible repeat (first | refine blk_drewN ?_ _ | refine blk_drew ?_ | refine blk_alloc ?_ _)); exact BK376.out⟩, ⟨by (with_reducible repeat (first | refine blk_drewN ?_ _ | refine blk_drew ?_ | refine blk_alloc ?_ _)); exact BK377.out⟩, ⟨by repeat (first | (with_reducible first | exact HB.out | apply below_alloc | apply pw_below_drewN | apply below_drew1 | refine below_set ?_ GE376.out | refine below_set ?_ GE377.out) | exact HB.out)⟩⟩
  subst c8
  rw [if_pos rfl] at H
  replace H := bi H
  obtain ⟨t379, A90, H⟩ := H
  try dsimp only at H
  have A9 := ak A90
  clear A90
  by_cases c10 : t379 = true
  rotate_left
  ·replace c10 := Bool.eq_false_iff.mpr c10
   subst c10
   rw [if_neg (show ¬ (false = true) by decide)] at H
   have H' := ak H
   clear H
   have hnb20 := NB376_377.out
   have hnc20 := NB377_376.out
   have hcz21_0 : w6.cell? ⟨gb376, 0, none⟩ = some (.slice A0_0 l0_0.length c0_0) := (blk_cell BK376.out 0).trans rfl
   have hcz21_1 : w6.cell? ⟨gb376, 1, none⟩ = some (.slice A0_1 l0_1.length c0_1) := (blk_cell BK376.out 1).trans rfl
   have hfz21_0 := blk_frozen BK376.out 0
   have hfz21_1 := blk_frozen BK376.out 1
   go_wp2_with (first | (go_at_call 37; (with_reducible refine (spec_validAlgebra.calls k _ _ l0_0 _ _ l0_1 true _ ?side1 ?side2 ?side3 ?side4 A7.out).mono ?_); (case side1 => exact kC (Kd.C_below HR0_0.out HB.out)); (case side2 => exact HC0_0.out); (case side3 => exact kC (Kd.C_below HR0_1.out HB.out)); (case side4 => exact HC0_1.out); rintro e w22 ⟨rfl, hb⟩; replace BK376 := ak (blk_below (kK BK376.out) hb); replace BK377 := ak (blk_below (kK BK377.out) hb); replace HB := ak (below_step (bB HB.out) hb); (try clear hb); (try clear hb2); (try clear hk); (try clear hi); have hcz23_0 : w22.cell? ⟨gb377, 0, none⟩ = some (.slice A1_0 l1_0.length c1_0) := (blk_cell BK377.out 0).trans rfl; have hcz23_1 : w22.cell? ⟨gb377, 1, none⟩ = some (.slice A1_1 l1_1.length c1_1) := (blk_cell BK377.out 1).trans rfl; have hfz23_0 := blk_frozen BK377.out 0; have hfz23_1 := blk_frozen BK377.out 1) | (go_at_call 37; (with_reducible refine (spec_validAlgebra.calls k _ _ l1_0 _ _ l1_1 false _ ?side1 ?side2 ?side3 ?side4 A9.out).mono ?_); (case side1 => exact kC (Kd.C_below HR1_0.out HB.out)); (case side2 => exact HC1_0.out); (case side3 => exact kC (Kd.C_below HR1_1.out HB.out)); (case side4 => exact HC1_1.out); rintro e w24 ⟨rfl, hb⟩; replace BK376 := ak (blk_below (kK BK376.out) hb); replace BK377 := ak (blk_below (kK BK377.out) hb); replace HB := ak (below_step (bB HB.out) hb); (try clear hb); (try clear hb2); (try clear hk); (try clear hi)))
   repeat ((refine wp_region_quiet_lit ?_ ?_ ?_; kernel_rfl; kernel_rfl; (repeat (first | go_big_quiet_step (first | (go_at_call 37; (with_reducible refine (spec_validAlgebra.calls k _ _ l0_0 _ _ l0_1 true _ ?side1 ?side2 ?side3 ?side4 A7.out).mono ?_); (case side1 => exact kC (Kd.C_below HR0_0.out HB.out)); (case side2 => exact HC0_0.out); (case side3 => exact kC (Kd.C_below HR0_1.out HB.out)); (case side4 => exact HC0_1.out); rintro e w22 ⟨rfl, hb⟩; replace BK376 := ak (blk_below (kK BK376.out) hb); replace BK377 := ak (blk_below (kK BK377.out) hb); replace HB := ak (below_step (bB HB.out) hb); (try clear hb); (try clear hb2); (try clear hk); (try clear hi); have hcz23_0 : w22.cell? ⟨gb377, 0, none⟩ = some (.slice A1_0 l1_0.length c1_0) := (blk_cell BK377.out 0).trans rfl; have hcz23_1 : w22.cell? ⟨gb377, 1, none⟩ = some (.slice A1_1 l1_1.length c1_1) := (blk_cell BK377.out 1).trans rfl; have hfz23_0 := blk_frozen BK377.out 0; have hfz23_1 := blk_frozen BK377.out 1) | (go_at_call 37; (with_reducible refine (spec_validAlgebra.calls k _ _ l1_0 _ _ l1_1 false _ ?side1 ?side2 ?side3 ?side4 A9.out).mono ?_); (case side1 => exact kC (Kd.C_below HR1_0.out HB.out)); (case side2 => exact HC1_0.out); (case side3 => exact kC (Kd.C_below HR1_1.out HB.out)); (case side4 => exact HC1_1.out); rintro e w24 ⟨rfl, hb⟩; replace BK376 := ak (blk_below (kK BK376.out) hb); replace BK377 := ak (blk_below (kK BK377.out) hb); replace HB := ak (below_step (bB HB.out) hb); (try clear hb); (try clear hb2); (try clear hk); (try clear hi))) | (refine wpQuiet_step (fun K hK => ?_); go_simp; refine hK _ ?_; clear hK K))); refine wpQuiet_nil ?_; intro _ hw'; obtain ⟨nq, hw''⟩ := hw'; subst hw''); try go_wp2_with (first | (go_at_call 37; (with_reducible refine (spec_validAlgebra.calls k _ _ l0_0 _ _ l0_1 true _ ?side1 ?side2 ?side3 ?side4 A7.out).mono ?_); (case side1 => exact kC (Kd.C_below HR0_0.out HB.out)); (case side2 => exact HC0_0.out); (case side3 => exact kC (Kd.C_below HR0_1.out HB.out)); (case side4 => exact HC0_1.out); rintro e w22 ⟨rfl, hb⟩; replace BK376 := ak (blk_below (kK BK376.out) hb); replace BK377 := ak (blk_below (kK BK377.out) hb); replace HB := ak (below_step (bB HB.out) hb); (try clear hb); (try clear hb2); (try clear hk); (try clear hi); have hcz23_0 : w22.cell? ⟨gb377, 0, none⟩ = some (.slice A1_0 l1_0.length c1_0) := (blk_cell BK377.out 0).trans rfl; have hcz23_1 : w22.cell? ⟨gb377, 1, none⟩ = some (.slice A1_1 l1_1.length c1_1) := (blk_cell BK377.out 1).trans rfl; have hfz23_0 := blk_frozen BK377.out 0; have hfz23_1 := blk_frozen BK377.out 1) | (go_at_call 37; (with_reducible refine (spec_validAlgebra.calls k _ _ l1_0 _ _ l1_1 false _ ?side1 ?side2 ?side3 ?side4 A9.out).mono ?_); (case side1 => exact kC (Kd.C_below HR1_0.out HB.out)); (case side2 => exact HC1_0.out); (case side3 => exact kC (Kd.C_below HR1_1.out HB.out)); (case side4 => exact HC1_1.out); rintro e w24 ⟨rfl, hb⟩; replace BK376 := ak (blk_below (kK BK376.out) hb); replace BK377 := ak (blk_below (kK BK377.out) hb); replace HB := ak (below_step (bB HB.out) hb); (try clear hb); (try clear hb2); (try clear hk); (try clear hi))))
   go_meet
   case rel => exact ⟨_, (true), (by first | rfl | (simp; done) | (simp [*]; done)), H', ⟨by first | omega | exact Nat.le_refl _⟩, ⟨by (with_reducible repeat (first | refine blk_drewN ?_ _ | refine blk_drew ?_ | refine blk_alloc ?_ _)); exact BK376.out⟩, ⟨by (with_reducible repeat (first | refine blk_drewN ?_ _ | refine blk_drew ?_ | refine blk_alloc ?_ _)); exact BK377.out⟩, ⟨by repeat (first | (with_reducible first | exact HB.out | apply below_alloc | apply pw_below_drewN | apply below_drew1 | refine below_set ?_ GE376.out | refine below_set ?_ GE377.out) | exact HB.out)⟩⟩
  subst c10
  rw [if_pos rfl] at H
  replace H := bi H
  obtain ⟨t380, A110, H⟩ := H
  try dsimp only at H
  have A11 := ak A110
  clear A110
  have H' := ak H
  clear H
  have hnb12 := NB376_377.out
  have hnc12 := NB377_376.out
  have hcz13_0 : w6.cell? ⟨gb376, 0, none⟩ = some (.slice A0_0 l0_0.length c0_0) := (blk_cell BK376.out 0).trans rfl
  have hcz13_1 : w6.cell? ⟨gb376, 1, none⟩ = some (.slice A0_1 l0_1.length c0_1) := (blk_cell BK376.out 1).trans rfl
  have hfz13_0 := blk_frozen BK376.out 0
  have hfz13_1 := blk_frozen BK376.out 1
  go_wp2_with (first | (go_at_call 37; (with_reducible refine (spec_validAlgebra.calls k _ _ l0_0 _ _ l0_1 true _ ?side1 ?side2 ?side3 ?side4 A7.out).mono ?_); (case side1 => exact kC (Kd.C_below HR0_0.out HB.out)); (case side2 => exact HC0_0.out); (case side3 => exact kC (Kd.C_below HR0_1.out HB.out)); (case side4 => exact HC0_1.out); rintro e w14 ⟨rfl, hb⟩; replace BK376 := ak (blk_below (kK BK376.out) hb); replace BK377 := ak (blk_below (kK BK377.out) hb); replace HB := ak (below_step (bB HB.out) hb); (try clear hb); (try clear hb2); (try clear hk); (try clear hi); have hcz15_0 : w14.cell? ⟨gb377, 0, none⟩ = some (.slice A1_0 l1_0.length c1_0) := (blk_cell BK377.out 0).trans rfl; have hcz15_1 : w14.cell? ⟨gb377, 1, none⟩ = some (.slice A1_1 l1_1.length c1_1) := (blk_cell BK377.out 1).trans rfl; have hfz15_0 := blk_frozen BK377.out 0; have hfz15_1 := blk_frozen BK377.out 1) | (go_at_call 37; (with_reducible refine (spec_validAlgebra.calls k _ _ l1_0 _ _ l1_1 true _ ?side1 ?side2 ?side3 ?side4 A9.out).mono ?_); (case side1 => exact kC (Kd.C_below HR1_0.out HB.out)); (case side2 => exact HC1_0.out); (case side3 => exact kC (Kd.C_below HR1_1.out HB.out)); (case side4 => exact HC1_1.out); rintro e w16 ⟨rfl, hb⟩; replace BK376 := ak (blk_below (kK BK376.out) hb); replace BK377 := ak (blk_below (kK BK377.out) hb); replace HB := ak (below_step (bB HB.out) hb); (try clear hb); (try clear hb2); (try clear hk); (try clear hi); have hcz17_0 : w16.cell? ⟨gb376, 0, none⟩ = some (.slice A0_0 l0_0.length c0_0) := (blk_cell BK376.out 0).trans rfl; have hcz17_1 : w16.cell? ⟨gb376, 1, none⟩ = some (.slice A0_1 l0_1.length c0_1) := (blk_cell BK376.out 1).trans rfl; have hfz17_0 := blk_frozen BK376.out 0; have hfz17_1 := blk_frozen BK376.out 1; have hcz18_0 : w16.cell? ⟨gb377, 0, none⟩ = some (.slice A1_0 l1_0.length c1_0) := (blk_cell BK377.out 0).trans rfl; have hcz18_1 : w16.cell? ⟨gb377, 1, none⟩ = some (.slice A1_1 l1_1.length c1_1) := (blk_cell BK377.out 1).trans rfl; have hfz18_0 := blk_frozen BK377.out 0; have hfz18_1 := blk_frozen BK377.out 1) | (go_at_call 43; (with_reducible refine (spec_isMap.calls k _ _ l0_0 _ _ l0_1 _ _ l1_0 _ _ l1_1 _ _ l2 t380 _ ?side1 ?side2 ?side3 ?side4 ?side5 ?side6 ?side7 ?side8 ?side9 ?side10 A11.out).mono ?_); (case side1 => exact kC (Kd.C_below HR0_0.out HB.out)); (case side2 => exact HC0_0.out); (case side3 => exact kC (Kd.C_below HR0_1.out HB.out)); (case side4 => exact HC0_1.out); (case side5 => exact kC (Kd.C_below HR1_0.out HB.out)); (case side6 => exact HC1_0.out); (case side7 => exact kC (Kd.C_below HR1_1.out HB.out)); (case side8 => exact HC1_1.out); (case side9 => exact kC (Kd.C_below HR2.out HB.out)); (case side10 => exact HC2.out); rintro e w19 ⟨rfl, hb⟩; replace BK376 := ak (blk_below (kK BK376.out) hb); replace BK377 := ak (blk_below (kK BK377.out) hb); replace HB := ak (below_step (bB HB.out) hb); (try clear hb); (try clear hb2); (try clear hk); (try clear hi)))
  repeat ((refine wp_region_quiet_lit ?_ ?_ ?_; kernel_rfl; kernel_rfl; (repeat (first | go_big_quiet_step (first | (go_at_call 37; (with_reducible refine (spec_validAlgebra.calls k _ _ l0_0 _ _ l0_1 true _ ?side1 ?side2 ?side3 ?side4 A7.out).mono ?_); (case side1 => exact kC (Kd.C_below HR0_0.out HB.out)); (case side2 => exact HC0_0.out); (case side3 => exact kC (Kd.C_below HR0_1.out HB.out)); (case side4 => exact HC0_1.out); rintro e w14 ⟨rfl, hb⟩; replace BK376 := ak (blk_below (kK BK376.out) hb); replace BK377 := ak (blk_below (kK BK377.out) hb); replace HB := ak (below_step (bB HB.out) hb); (try clear hb); (try clear hb2); (try clear hk); (try clear hi); have hcz15_0 : w14.cell? ⟨gb377, 0, none⟩ = some (.slice A1_0 l1_0.length c1_0) := (blk_cell BK377.out 0).trans rfl; have hcz15_1 : w14.cell? ⟨gb377, 1, none⟩ = some (.slice A1_1 l1_1.length c1_1) := (blk_cell BK377.out 1).trans rfl; have hfz15_0 := blk_frozen BK377.out 0; have hfz15_1 := blk_frozen BK377.out 1) | (go_at_call 37; (with_reducible refine (spec_validAlgebra.calls k _ _ l1_0 _ _ l1_1 true _ ?side1 ?side2 ?side3 ?side4 A9.out).mono ?_); (case side1 => exact kC (Kd.C_below HR1_0.out HB.out)); (case side2 => exact HC1_0.out); (case side3 => exact kC (Kd.C_below HR1_1.out HB.out)); (case side4 => exact HC1_1.out); rintro e w16 ⟨rfl, hb⟩; replace BK376 := ak (blk_below (kK BK376.out) hb); replace BK377 := ak (blk_below (kK BK377.out) hb); replace HB := ak (below_step (bB HB.out) hb); (try clear hb); (try clear hb2); (try clear hk); (try clear hi); have hcz17_0 : w16.cell? ⟨gb376, 0, none⟩ = some (.slice A0_0 l0_0.length c0_0) := (blk_cell BK376.out 0).trans rfl; have hcz17_1 : w16.cell? ⟨gb376, 1, none⟩ = some (.slice A0_1 l0_1.length c0_1) := (blk_cell BK376.out 1).trans rfl; have hfz17_0 := blk_frozen BK376.out 0; have hfz17_1 := blk_frozen BK376.out 1; have hcz18_0 : w16.cell? ⟨gb377, 0, none⟩ = some (.slice A1_0 l1_0.length c1_0) := (blk_cell BK377.out 0).trans rfl; have hcz18_1 : w16.cell? ⟨gb377, 1, none⟩ = some (.slice A1_1 l1_1.length c1_1) := (blk_cell BK377.out 1).trans rfl; have hfz18_0 := blk_frozen BK377.out 0; have hfz18_1 := blk_frozen BK377.out 1) | (go_at_call 43; (with_reducible refine (spec_isMap.calls k _ _ l0_0 _ _ l0_1 _ _ l1_0 _ _ l1_1 _ _ l2 t380 _ ?side1 ?side2 ?side3 ?side4 ?side5 ?side6 ?side7 ?side8 ?side9 ?side10 A11.out).mono ?_); (case side1 => exact kC (Kd.C_below HR0_0.out HB.out)); (case side2 => exact HC0_0.out); (case side3 => exact kC (Kd.C_below HR0_1.out HB.out)); (case side4 => exact HC0_1.out); (case side5 => exact kC (Kd.C_below HR1_0.out HB.out)); (case side6 => exact HC1_0.out); (case side7 => exact kC (Kd.C_below HR1_1.out HB.out)); (case side8 => exact HC1_1.out); (case side9 => exact kC (Kd.C_below HR2.out HB.out)); (case side10 => exact HC2.out); rintro e w19 ⟨rfl, hb⟩; replace BK376 := ak (blk_below (kK BK376.out) hb); replace BK377 := ak (blk_below (kK BK377.out) hb); replace HB := ak (below_step (bB HB.out) hb); (try clear hb); (try clear hb2); (try clear hk); (try clear hi))) | (refine wpQuiet_step (fun K hK => ?_); go_simp; refine hK _ ?_; clear hK K))); refine wpQuiet_nil ?_; intro _ hw'; obtain ⟨nq, hw''⟩ := hw'; subst hw''); try go_wp2_with (first | (go_at_call 37; (with_reducible refine (spec_validAlgebra.calls k _ _ l0_0 _ _ l0_1 true _ ?side1 ?side2 ?side3 ?side4 A7.out).mono ?_); (case side1 => exact kC (Kd.C_below HR0_0.out HB.out)); (case side2 => exact HC0_0.out); (case side3 => exact kC (Kd.C_below HR0_1.out HB.out)); (case side4 => exact HC0_1.out); rintro e w14 ⟨rfl, hb⟩; replace BK376 := ak (blk_below (kK BK376.out) hb); replace BK377 := ak (blk_below (kK BK377.out) hb); replace HB := ak (below_step (bB HB.out) hb); (try clear hb); (try clear hb2); (try clear hk); (try clear hi); have hcz15_0 : w14.cell? ⟨gb377, 0, none⟩ = some (.slice A1_0 l1_0.length c1_0) := (blk_cell BK377.out 0).trans rfl; have hcz15_1 : w14.cell? ⟨gb377, 1, none⟩ = some (.slice A1_1 l1_1.length c1_1) := (blk_cell BK377.out 1).trans rfl; have hfz15_0 := blk_frozen BK377.out 0; have hfz15_1 := blk_frozen BK377.out 1) | (go_at_call 37; (with_reducible refine (spec_validAlgebra.calls k _ _ l1_0 _ _ l1_1 true _ ?side1 ?side2 ?side3 ?side4 A9.out).mono ?_); (case side1 => exact kC (Kd.C_below HR1_0.out HB.out)); (case side2 => exact HC1_0.out); (case side3 => exact kC (Kd.C_below HR1_1.out HB.out)); (case side4 => exact HC1_1.out); rintro e w16 ⟨rfl, hb⟩; replace BK376 := ak (blk_below (kK BK376.out) hb); replace BK377 := ak (blk_below (kK BK377.out) hb); replace HB := ak (below_step (bB HB.out) hb); (try clear hb); (try clear hb2); (try clear hk); (try clear hi); have hcz17_0 : w16.cell? ⟨gb376, 0, none⟩ = some (.slice A0_0 l0_0.length c0_0) := (blk_cell BK376.out 0).trans rfl; have hcz17_1 : w16.cell? ⟨gb376, 1, none⟩ = some (.slice A0_1 l0_1.length c0_1) := (blk_cell BK376.out 1).trans rfl; have hfz17_0 := blk_frozen BK376.out 0; have hfz17_1 := blk_frozen BK376.out 1; have hcz18_0 : w16.cell? ⟨gb377, 0, none⟩ = some (.slice A1_0 l1_0.length c1_0) := (blk_cell BK377.out 0).trans rfl; have hcz18_1 : w16.cell? ⟨gb377, 1, none⟩ = some (.slice A1_1 l1_1.length c1_1) := (blk_cell BK377.out 1).trans rfl; have hfz18_0 := blk_frozen BK377.out 0; have hfz18_1 := blk_frozen BK377.out 1) | (go_at_call 43; (with_reducible refine (spec_isMap.calls k _ _ l0_0 _ _ l0_1 _ _ l1_0 _ _ l1_1 _ _ l2 t380 _ ?side1 ?side2 ?side3 ?side4 ?side5 ?side6 ?side7 ?side8 ?side9 ?side10 A11.out).mono ?_); (case side1 => exact kC (Kd.C_below HR0_0.out HB.out)); (case side2 => exact HC0_0.out); (case side3 => exact kC (Kd.C_below HR0_1.out HB.out)); (case side4 => exact HC0_1.out); (case side5 => exact kC (Kd.C_below HR1_0.out HB.out)); (case side6 => exact HC1_0.out); (case side7 => exact kC (Kd.C_below HR1_1.out HB.out)); (case side8 => exact HC1_1.out); (case side9 => exact kC (Kd.C_below HR2.out HB.out)); (case side10 => exact HC2.out); rintro e w19 ⟨rfl, hb⟩; replace BK376 := ak (blk_below (kK BK376.out) hb); replace BK377 := ak (blk_below (kK BK377.out) hb); replace HB := ak (below_step (bB HB.out) hb); (try clear hb); (try clear hb2); (try clear hk); (try clear hi))))
  go_meet
  case rel => exact ⟨_, (!t380), (by first | rfl | (simp; done) | (simp [*]; done)), H', ⟨by first | omega | exact Nat.le_refl _⟩, ⟨by (with_reducible repeat (first | refine blk_drewN ?_ _ | refine blk_drew ?_ | refine blk_alloc ?_ _)); exact BK376.out⟩, ⟨by (with_reducible repeat (first | refine blk_drewN ?_ _ | refine blk_drew ?_ | refine blk_alloc ?_ _)); exact BK377.out⟩, ⟨by repeat (first | (with_reducible first | exact HB.out | apply below_alloc | apply pw_below_drewN | apply below_drew1 | refine below_set ?_ GE376.out | refine below_set ?_ GE377.out) | exact HB.out)⟩⟩
 case rest =>
  clear HC4
  try clear c1
  try clear c2
  try clear p2
  try clear c8
  try clear c10
  try clear c12
  try clear c20
  try clear c25
  try clear hcz13_0
  try clear hcz13_1
  try clear hcz15_0
  try clear hcz15_1
  try clear hcz17_0
  try clear hcz17_1
  try clear hcz18_0
  try clear hcz18_1
  try clear hcz21_0
  try clear hcz21_1
  try clear hcz23_0
  try clear hcz23_1
  try clear hcz26_0
  try clear hcz26_1
  try clear hfz13_0
  try clear hfz13_1
  try clear hfz15_0
  try clear hfz15_1
  try clear hfz17_0
  try clear hfz17_1
  try clear hfz18_0
  try clear hfz18_1
  try clear hfz21_0
  try clear hfz21_1
  try clear hfz23_0
  try clear hfz23_1
  try clear hfz26_0
  try clear hfz26_1
  obtain ⟨kq, x23_3, rfl, HA, HJ3, BK376, BK377, HB⟩ := hcut
  cases kq with
  | zero => exact absurd HA.out (by simp [spec_KernelOf.j0])
  | succ kj3 =>
   have H := HA.out
   clear HA
   simp only [spec_KernelOf.j0] at H
   by_cases c28 : x23_3 = true
   ·subst c28
    rw [if_pos rfl] at H
    obtain rfl := Option.some.inj H
    go_wp2
    repeat ((refine wp_region_quiet_lit ?_ ?_ ?_; kernel_rfl; kernel_rfl; (repeat (first | go_big_quiet_step (fail) | (refine wpQuiet_step (fun K hK => ?_); go_simp; refine hK _ ?_; clear hK K))); refine wpQuiet_nil ?_; intro _ hw'; obtain ⟨nq, hw''⟩ := hw'; subst hw''); try go_wp2)
    go_ret
    exact ⟨by first | rfl | (simp [errW_none, errW_some] <;> rfl) | (simp [*, errW_none, errW_some] <;> rfl), by repeat (first | (with_reducible first | exact HB.out | apply below_alloc | apply pw_below_drewN | apply below_drew1 | refine below_set ?_ GE376.out | refine below_set ?_ GE377.out) | exact HB.out)⟩
   replace c28 := Bool.eq_false_iff.mpr c28
   subst c28
   rw [if_neg (show ¬ (false = true) by decide)] at H
   have H' := ak H
   clear H
   go_wp2
   repeat ((refine wp_region_quiet_lit ?_ ?_ ?_; kernel_rfl; kernel_rfl; (repeat (first | go_big_quiet_step (fail) | (refine wpQuiet_step (fun K hK => ?_); go_simp; refine hK _ ?_; clear hK K))); refine wpQuiet_nil ?_; intro _ hw'; obtain ⟨nq, hw''⟩ := hw'; subst hw''); try go_wp2)
   go_loopg [7, 8] kj3 (fun kq v7 v8 w' => ∃ (x7_2 : Int) (x8_2 : Int), v7 = .int .i64 x7_2 ∧ v8 = .int .i64 x8_2 ∧ Aside0 (spec_KernelOf.l0 kq l2 x7_2 x8_2 l1_0 l1_1 = some r) ∧ Aside0 (kq ≤ kj3) ∧ Aside0 (w'.heap[gb376]? = some (.cells #[(.slice A0_0 l0_0.length c0_0), (.slice A0_1 l0_1.length c0_1)] 28 (0, 0))) ∧ Aside0 (w'.heap[gb377]? = some (.cells #[(.slice A1_0 l1_0.length c1_0), (.slice A1_1 l1_1.length c1_1)] 28 (0, 0))) ∧ Aside0 (Below w.heap.size w w'))
   case atStart => exact ⟨(0), (0), (by first | rfl | (simp; done) | (simp [*]; done)), (by first | rfl | (simp; done) | (simp [*]; done)), H', ⟨Nat.le_refl _⟩, ⟨by (with_reducible repeat (first | refine blk_drewN ?_ _ | refine blk_drew ?_ | refine blk_alloc ?_ _)); exact BK376.out⟩, ⟨by (with_reducible repeat (first | refine blk_drewN ?_ _ | refine blk_drew ?_ | refine blk_alloc ?_ _)); exact BK377.out⟩, ⟨by repeat (first | (with_reducible first | exact HB.out | apply below_alloc | apply pw_below_drewN | apply below_drew1 | refine below_set ?_ GE376.out | refine below_set ?_ GE377.out) | exact HB.out)⟩⟩
   case round =>
    clear H'
    try clear c1
    try clear c2
    try clear p2
    try clear c8
    try clear c10
    try clear c12
    try clear c20
    try clear c25
    try clear c28
    try clear hcz13_0
    try clear hcz13_1
    try clear hcz15_0
    try clear hcz15_1
    try clear hcz17_0
    try clear hcz17_1
    try clear hcz18_0
    try clear hcz18_1
    try clear hcz21_0
    try clear hcz21_1
    try clear hcz23_0
    try clear hcz23_1
    try clear hcz26_0
    try clear hcz26_1
    try clear hfz13_0
    try clear hfz13_1
    try clear hfz15_0
    try clear hfz15_1
    try clear hfz17_0
    try clear hfz17_1
    try clear hfz18_0
    try clear hfz18_1
    try clear hfz21_0
    try clear hfz21_1
    try clear hfz23_0
    try clear hfz23_1
    try clear hfz26_0
    try clear hfz26_1
    try clear p2
    obtain ⟨x7_2, x8_2, rfl, rfl, HA, HK2, BK376, BK377, HB⟩ := hrel
    cases gk with
    | zero => exact absurd HA.out (by simp [spec_KernelOf.l0])
    | succ k2 =>
     have H := HA.out
     clear HA
     simp only [spec_KernelOf.l0] at H
     by_cases c29 : x8_2 < (l2.length : Int)
     rotate_left
     ·rw [if_neg c29] at H
      have c29b0 : decide (x8_2 < (l2.length : Int)) = false := decide_eq_false c29
      clear c29
      obtain rfl := Option.some.inj H
      go_wp2
      repeat ((refine wp_region_quiet_lit ?_ ?_ ?_; kernel_rfl; kernel_rfl; (repeat (first | go_big_quiet_step (fail) | (refine wpQuiet_step (fun K hK => ?_); go_simp; refine hK _ ?_; clear hK K))); refine wpQuiet_nil ?_; intro _ hw'; obtain ⟨nq, hw''⟩ := hw'; subst hw''); try go_wp2)
      go_ret
      exact ⟨by first | rfl | (simp [errW_none, errW_some] <;> rfl) | (simp [*, errW_none, errW_some] <;> rfl), by repeat (first | (with_reducible first | exact HB.out | apply below_alloc | apply pw_below_drewN | apply below_drew1 | refine below_set ?_ GE376.out | refine below_set ?_ GE377.out) | exact HB.out)⟩
     rw [if_pos c29] at H
     have c29b0 : decide (x8_2 < (l2.length : Int)) = true := decide_eq_true c29
     clear c29
     replace H := oi H
     obtain ⟨c30, H⟩ := H
     have c30b0 : decide (0 ≤ x8_2) = true := decide_eq_true c30
     clear c30
     by_cases c31 : (rd l2 x8_2) = (wrap64 ((l1_0.length : Int) - 1))
     rotate_left
     ·rw [if_neg c31] at H
      have c31b0 : ((rd l2 x8_2) == (wrap64 ((l1_0.length : Int) - 1))) = false := beq_eq_false_iff_ne.mpr c31
      have c31b1 : ((rd l2 x8_2) != (wrap64 ((l1_0.length : Int) - 1))) = true := bne_iff_ne.mpr c31
      have H' := ak H
      clear H
      have p381 : 0 ≤ (x8_2 : Int) := of_decide_eq_true (by first | (with_reducible assumption) | assumption)
      have q381 : x8_2 < (l2.length : Int) := of_decide_eq_true (by first | (with_reducible assumption) | assumption)
      obtain ⟨ad381, e381, hx381_0⟩ := Kd.at_int HR2.out x8_2 p381 q381
      cases e381
      replace hx381_0 := (HB.out.cell (World.block_lt_of_cell? w _ hx381_0)).trans hx381_0
      replace p381 := eq_true p381
      replace q381 := eq_true q381
      have hnb35 := NB377_376.out
      have hnc35 := NB376_377.out
      have hcz36_0 : wr.cell? ⟨gb377, 0, none⟩ = some (.slice A1_0 l1_0.length c1_0) := (blk_cell BK377.out 0).trans rfl
      have hcz36_1 : wr.cell? ⟨gb377, 1, none⟩ = some (.slice A1_1 l1_1.length c1_1) := (blk_cell BK377.out 1).trans rfl
      have hfz36_0 := blk_frozen BK377.out 0
      have hfz36_1 := blk_frozen BK377.out 1
      go_wp2
      repeat ((refine wp_region_quiet_lit ?_ ?_ ?_; kernel_rfl; kernel_rfl; (repeat (first | go_big_quiet_step (fail) | (refine wpQuiet_step (fun K hK => ?_); go_simp; refine hK _ ?_; clear hK K))); refine wpQuiet_nil ?_; intro _ hw'; obtain ⟨nq, hw''⟩ := hw'; subst hw''); try go_wp2)
      go_roundg k2
      case measure => have := HJ3.out; have := HK2.out; omega
      case rel => exact ⟨(x7_2), (wrap64 (x8_2 + 1)), (by first | rfl | (simp; done) | (simp [*]; done)), (by first | rfl | (simp; done) | (simp [*]; done)), H', ⟨by have := HJ3.out; have := HK2.out; omega⟩, ⟨by (with_reducible repeat (first | refine blk_drewN ?_ _ | refine blk_drew ?_ | refine blk_alloc ?_ _)); exact BK376.out⟩, ⟨by (with_reducible repeat (first | refine blk_drewN ?_ _ | refine blk_drew ?_ | refine blk_alloc ?_ _)); exact BK377.out⟩, ⟨by repeat (first | (with_reducible first | exact HB.out | apply below_alloc | apply pw_below_drewN | apply below_drew1 | refine below_set ?_ GE376.out | refine below_set ?_ GE377.out) | exact HB.out)⟩⟩
     rw [if_pos c31] at H
     have c31b0 : ((rd l2 x8_2) == (wrap64 ((l1_0.length : Int) - 1))) = true := beq_iff_eq.mpr c31
     have c31b1 : ((rd l2 x8_2) != (wrap64 ((l1_0.length : Int) - 1))) = false := bne_eq_false_iff_eq.mpr c31
     clear c31
     replace H := bi H
     obtain ⟨t382, A320, H⟩ := H
     try dsimp only at H
     have A32 := ak A320
     clear A320
     have H' := ak H
     clear H
     have p381 : 0 ≤ (x8_2 : Int) := of_decide_eq_true (by first | (with_reducible assumption) | assumption)
     have q381 : x8_2 < (l2.length : Int) := of_decide_eq_true (by first | (with_reducible assumption) | assumption)
     obtain ⟨ad381, e381, hx381_0⟩ := Kd.at_int HR2.out x8_2 p381 q381
     cases e381
     replace hx381_0 := (HB.out.cell (World.block_lt_of_cell? w _ hx381_0)).trans hx381_0
     replace p381 := eq_true p381
     replace q381 := eq_true q381
     have hnb33 := NB377_376.out
     have hnc33 := NB376_377.out
     have hcz34_0 : wr.cell? ⟨gb377, 0, none⟩ = some (.slice A1_0 l1_0.length c1_0) := (blk_cell BK377.out 0).trans rfl
     have hcz34_1 : wr.cell? ⟨gb377, 1, none⟩ = some (.slice A1_1 l1_1.length c1_1) := (blk_cell BK377.out 1).trans rfl
     have hfz34_0 := blk_frozen BK377.out 0
     have hfz34_1 := blk_frozen BK377.out 1
     go_wp2_with (first | (go_at_call 45; (with_reducible refine (spec_power.calls k2 x8_2 t382 _ A32.out).mono ?_); rintro e w' ⟨rfl, ⟨nd, rfl⟩⟩; (try first | exact ⟨rfl, _, World.drewN_drewN _ _ _⟩ | exact ⟨rfl, _, Eq.trans (World.drewN_drewN _ _ _) (congrArg (World.drewN _) (Nat.add_assoc _ _ _))⟩)))
     repeat ((refine wp_region_quiet_lit ?_ ?_ ?_; kernel_rfl; kernel_rfl; (repeat (first | go_big_quiet_step (first | (go_at_call 45; (with_reducible refine (spec_power.calls k2 x8_2 t382 _ A32.out).mono ?_); rintro e w' ⟨rfl, ⟨nd, rfl⟩⟩; (try first | exact ⟨rfl, _, World.drewN_drewN _ _ _⟩ | exact ⟨rfl, _, Eq.trans (World.drewN_drewN _ _ _) (congrArg (World.drewN _) (Nat.add_assoc _ _ _))⟩))) | (refine wpQuiet_step (fun K hK => ?_); go_simp; refine hK _ ?_; clear hK K))); refine wpQuiet_nil ?_; intro _ hw'; obtain ⟨nq, hw''⟩ := hw'; subst hw''); try go_wp2_with (first | (go_at_call 45; (with_reducible refine (spec_power.calls k2 x8_2 t382 _ A32.out).mono ?_); rintro e w' ⟨rfl, ⟨nd, rfl⟩⟩; (try first | exact ⟨rfl, _, World.drewN_drewN _ _ _⟩ | exact ⟨rfl, _, Eq.trans (World.drewN_drewN _ _ _) (congrArg (World.drewN _) (Nat.add_assoc _ _ _))⟩))))
     go_roundg k2
     case measure => have := HJ3.out; have := HK2.out; omega
     case rel => exact ⟨(wrap64 (x7_2 + t382)), (wrap64 (x8_2 + 1)), (by first | rfl | (simp; done) | (simp [*]; done)), (by first | rfl | (simp; done) | (simp [*]; done)), H', ⟨by have := HJ3.out; have := HK2.out; omega⟩, ⟨by (with_reducible repeat (first | refine blk_drewN ?_ _ | refine blk_drew ?_ | refine blk_alloc ?_ _)); exact BK376.out⟩, ⟨by (with_reducible repeat (first | refine blk_drewN ?_ _ | refine blk_drew ?_ | refine blk_alloc ?_ _)); exact BK377.out⟩, ⟨by repeat (first | (with_reducible first | exact HB.out | apply below_alloc | apply pw_below_drewN | apply below_drew1 | refine below_set ?_ GE376.out | refine below_set ?_ GE377.out) | exact HB.out)⟩⟩
end Go.Proofs.Ytomapoenndlbiaa.P

-- shrunk
