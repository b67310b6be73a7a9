-- Printed by this session's wip/print2.py (the kit's print.py, widened) out of the translation. Lean checks it.
import Derived.Test.YtomapoenndlbiaaP0
import Derived.Test.YtomapoenndlbiaaP4
import Derived.Test.YtomapoenndlbiaaP6
import Derived.Test.YtomapoenndlbiaaP8
namespace Go.Proofs.Ytomapoenndlbiaa.P
open Go.RowKit Go.Proofs.YtomapoenndlbiaaW.PrintWords Go.Proofs.YtomapoenndlbiaaW.PrintLast Go.Proofs.YtomapoenndlbiaaW.PrintMore
attribute [local go_sem] max2_int min2_int max_two min_two max_three min_three max_four min_four   -- for this text's walks alone
set_option linter.unusedVariables false
set_option linter.unusedSimpArgs false

/-! ### spec_validAlgebra: function 37 -/
mutual
def spec_validAlgebra.j0 : Nat → Int → Bool → List Int → List (List Int) → Option (Bool)
 | 0, _, _, _, _ => none
 | k + 1, x3, x22, x135000, x135001 => if x22 = true then (some false) else (spec_validAlgebra.l0 k x3 0 x135000 x135001)
def spec_validAlgebra.l0 : Nat → Int → Int → List Int → List (List Int) → Option (Bool)
 | 0, _, _, _, _ => none
 | k + 1, x3, x4, x135000, x135001 => if x4 < x3 then (if 0 ≤ x4 then (if x4 < (x135001.length : Int) then (if ((rd_L1 x135001 x4).length : Int) = x3 then (spec_validAlgebra.l1 k x3 x4 0 x135000 x135001) else (some false)) else (none)) else (none)) else (spec_validAlgebra.l2 k x3 0 x135000 x135001)
def spec_validAlgebra.l1 : Nat → Int → Int → Int → List Int → List (List Int) → Option (Bool)
 | 0, _, _, _, _, _ => none
 | k + 1, x3, x4, x5, x135000, x135001 => if x5 < x3 then (if 0 ≤ x4 then (if x4 < (x135001.length : Int) then (if 0 ≤ x5 then (if x5 < ((rd_L1 x135001 x4).length : Int) then ((spec_inRange.f (rd (rd_L1 x135001 x4) x5) 0 (wrap64 (x3 - 1))).bind fun t139 => (if t139 = true then (spec_validAlgebra.l1 k x3 x4 (wrap64 (x5 + 1)) x135000 x135001) else (some false))) else (none)) else (none)) else (none)) else (none)) else (spec_validAlgebra.l0 k x3 (wrap64 (x4 + 1)) x135000 x135001)
def spec_validAlgebra.l2 : Nat → Int → Int → List Int → List (List Int) → Option (Bool)
 | 0, _, _, _, _ => none
 | k + 1, x3, x6, x135000, x135001 => if x6 < x3 then (if 0 ≤ x6 then (if x6 < (x135001.length : Int) then (if 0 ≤ (wrap64 (x3 - 1)) then (if (wrap64 (x3 - 1)) < ((rd_L1 x135001 x6).length : Int) then (if (rd (rd_L1 x135001 x6) (wrap64 (x3 - 1))) = x6 then (if 0 < ((rd_L1 x135001 x6).length : Int) then (spec_validAlgebra.j4 k x3 x6 ((rd (rd_L1 x135001 x6) 0) != 0) x135000 x135001) else (none)) else (spec_validAlgebra.j4 k x3 x6 true x135000 x135001)) else (none)) else (none)) else (none)) else (none)) else (some true)
def spec_validAlgebra.j4 : Nat → Int → Int → Bool → List Int → List (List Int) → Option (Bool)
 | 0, _, _, _, _, _ => none
 | k + 1, x3, x6, x78, x135000, x135001 => if x78 = true then (some false) else (spec_validAlgebra.l3 k x3 x6 0 x135000 x135001)
def spec_validAlgebra.l3 : Nat → Int → Int → Int → List Int → List (List Int) → Option (Bool)
 | 0, _, _, _, _, _ => none
 | k + 1, x3, x6, x7, x135000, x135001 => if x7 < x3 then (if 0 ≤ x6 then (if x6 < (x135001.length : Int) then (if 0 ≤ x7 then (if x7 < ((rd_L1 x135001 x6).length : Int) then (if x7 < (x135001.length : Int) then (if x6 < ((rd_L1 x135001 x7).length : Int) then (if (rd (rd_L1 x135001 x6) x7) = (rd (rd_L1 x135001 x7) x6) then (spec_validAlgebra.l4 k x3 x6 x7 0 x135000 x135001) else (some false)) else (none)) else (none)) else (none)) else (none)) else (none)) else (none)) else (spec_validAlgebra.l2 k x3 (wrap64 (x6 + 1)) x135000 x135001)
def spec_validAlgebra.l4 : Nat → Int → Int → Int → Int → List Int → List (List Int) → Option (Bool)
 | 0, _, _, _, _, _, _ => none
 | k + 1, x3, x6, x7, x8, x135000, x135001 => if x8 < x3 then (if 0 ≤ x6 then (if x6 < (x135001.length : Int) then (if 0 ≤ x7 then (if x7 < ((rd_L1 x135001 x6).length : Int) then (if 0 ≤ (rd (rd_L1 x135001 x6) x7) then (if (rd (rd_L1 x135001 x6) x7) < (x135001.length : Int) then (if 0 ≤ x8 then (if x8 < ((rd_L1 x135001 (rd (rd_L1 x135001 x6) x7)).length : Int) then (if x7 < (x135001.length : Int) then (if x8 < ((rd_L1 x135001 x7).length : Int) then (if 0 ≤ (rd (rd_L1 x135001 x7) x8) then (if (rd (rd_L1 x135001 x7) x8) < ((rd_L1 x135001 x6).length : Int) then (if (rd (rd_L1 x135001 (rd (rd_L1 x135001 x6) x7)) x8) = (rd (rd_L1 x135001 x6) (rd (rd_L1 x135001 x7) x8)) then ((spec_join.f k x135000 x7 x8).bind fun t157 => (if 0 ≤ t157 then (if t157 < ((rd_L1 x135001 x6).length : Int) then (if x8 < ((rd_L1 x135001 x6).length : Int) then ((spec_join.f k x135000 (rd (rd_L1 x135001 x6) x7) (rd (rd_L1 x135001 x6) x8)).bind fun t163 => (if (rd (rd_L1 x135001 x6) t157) = t163 then (spec_validAlgebra.l4 k x3 x6 x7 (wrap64 (x8 + 1)) x135000 x135001) else (some false))) else (none)) else (none)) else (none))) else (some false)) else (none)) else (none)) else (none)) else (none)) else (none)) else (none)) else (none)) else (none)) else (none)) else (none)) else (none)) else (none)) else (spec_validAlgebra.l3 k x3 x6 (wrap64 (x7 + 1)) x135000 x135001)
end
def spec_validAlgebra.f (k : Nat) (l0_0 : List Int) (l0_1 : List (List Int)) : Option (Bool) := (spec_validLattice.f k l0_0).bind fun t135 => (if t135 = true then (spec_validAlgebra.j0 k (l0_0.length : Int) ((l0_1.length : Int) != (l0_0.length : Int)) l0_0 l0_1) else (spec_validAlgebra.j0 k (l0_0.length : Int) true l0_0 l0_1))
set_option maxHeartbeats 8000000 in
set_option maxRecDepth 100000 in
theorem spec_validAlgebra.calls (k : Nat) (A0_0 : Option Addr) (c0_0 : Nat) (l0_0 : List Int) (A0_1 : Option Addr) (c0_1 : Nat) (l0_1 : List (List Int)) (r : Bool) (w : World) (hr0_0 : Kd.C (Kd.int .i64) w A0_0 l0_0.length l0_0) (hc0_0 : l0_0.length ≤ c0_0) (hr0_1 : Kd.C (Kd.slice 3 (Kd.int .i64)) w A0_1 l0_1.length l0_1) (hc0_1 : l0_1.length ≤ c0_1) (h : spec_validAlgebra.f k l0_0 l0_1 = some r) :
  Calls Try.prog 37 #[.agg #[.slice A0_0 l0_0.length c0_0, .slice A0_1 l0_1.length c0_1]] w fun e w' => e = .returned (.bool r) ∧ Below w.heap.size w w' := by
 have hu28 := Try.underlying28
 have HR0_0 := Aside0.mk hr0_0
 have HC0_0 := Aside0.mk hc0_0
 clear hr0_0 hc0_0
 have HR0_1 := Aside0.mk hr0_1
 have HC0_1 := Aside0.mk hc0_1
 clear hr0_1 hc0_1
 have HB := Aside0.mk (Below.refl w.heap.size w)
 have H : ((spec_validLattice.f k l0_0).bind fun t135 => (if t135 = true then (spec_validAlgebra.j0 k (l0_0.length : Int) ((l0_1.length : Int) != (l0_0.length : Int)) l0_0 l0_1) else (spec_validAlgebra.j0 k (l0_0.length : Int) true l0_0 l0_1))) = some r := h
 clear h
 have HC2 := Aside0.mk H
 clear H
 go_enter Try.func37, Try.ntmps37
 go_upto_region 2 with (first | ((with_reducible refine gate_dst (N := 1) rfl ?_); (try (refine gate_guard (by rfl) ?_; dsimp only)); refine box_event ?hg (N := 1) ?hd (cs := #[.slice A0_0 l0_0.length c0_0, .slice A0_1 l0_1.length c0_1]) (t := 28) ?hr ?_; (case hd => rfl); (case hg => rfl); (case hr => first | (go_simp; done) | (go_simp; rfl)); intro gb134 hg w3 hbox hb; have n0_ := Aside0.mk (below_step (by repeat (first | (with_reducible first | exact HB.out | apply below_alloc | apply pw_below_drewN | apply below_drew1) | exact HB.out)) hb); have n1_ := Aside0.mk (hbox); have n2_ := Aside0.mk ((by rw [hg]; exact (below_size (by repeat (first | (with_reducible first | exact HB.out | apply below_alloc | apply pw_below_drewN | apply below_drew1) | exact HB.out))) : w.heap.size ≤ gb134)); have n3_ := Aside0.mk ((by rw [hg]; exact (below_size (by repeat (first | (with_reducible first | exact HB.out | apply below_alloc | apply pw_below_drewN | apply below_drew1) | exact HB.out))) : w.heap.size ≤ gb134)); clear HB; have HB := n0_; have BK134 := n1_; have GW134 := n2_; have GE134 := n3_; clear n0_ n1_ n2_ n3_; clear hb hbox hg; have hcz4_0 : w3.cell? ⟨gb134, 0, none⟩ = some (.slice A0_0 l0_0.length c0_0) := (blk_cell BK134.out 0).trans rfl; have hcz4_1 : w3.cell? ⟨gb134, 1, none⟩ = some (.slice A0_1 l0_1.length c0_1) := (blk_cell BK134.out 1).trans rfl; have hfz4_0 := blk_frozen BK134.out 0; have hfz4_1 := blk_frozen BK134.out 1))
 repeat ((refine wp_region_quiet_lit ?_ ?_ ?_; kernel_rfl; kernel_rfl; (repeat (first | go_big_quiet_step (first | ((with_reducible refine gate_dst (N := 1) rfl ?_); (try (refine gate_guard (by rfl) ?_; dsimp only)); refine box_event ?hg (N := 1) ?hd (cs := #[.slice A0_0 l0_0.length c0_0, .slice A0_1 l0_1.length c0_1]) (t := 28) ?hr ?_; (case hd => rfl); (case hg => rfl); (case hr => first | (go_simp; done) | (go_simp; rfl)); intro gb134 hg w3 hbox hb; have n0_ := Aside0.mk (below_step (by repeat (first | (with_reducible first | exact HB.out | apply below_alloc | apply pw_below_drewN | apply below_drew1) | exact HB.out)) hb); have n1_ := Aside0.mk (hbox); have n2_ := Aside0.mk ((by rw [hg]; exact (below_size (by repeat (first | (with_reducible first | exact HB.out | apply below_alloc | apply pw_below_drewN | apply below_drew1) | exact HB.out))) : w.heap.size ≤ gb134)); have n3_ := Aside0.mk ((by rw [hg]; exact (below_size (by repeat (first | (with_reducible first | exact HB.out | apply below_alloc | apply pw_below_drewN | apply below_drew1) | exact HB.out))) : w.heap.size ≤ gb134)); clear HB; have HB := n0_; have BK134 := n1_; have GW134 := n2_; have GE134 := n3_; clear n0_ n1_ n2_ n3_; clear hb hbox hg; have hcz4_0 : w3.cell? ⟨gb134, 0, none⟩ = some (.slice A0_0 l0_0.length c0_0) := (blk_cell BK134.out 0).trans rfl; have hcz4_1 : w3.cell? ⟨gb134, 1, none⟩ = some (.slice A0_1 l0_1.length c0_1) := (blk_cell BK134.out 1).trans rfl; have hfz4_0 := blk_frozen BK134.out 0; have hfz4_1 := blk_frozen BK134.out 1)) | (refine wpQuiet_step (fun K hK => ?_); go_simp; refine hK _ ?_; clear hK K))); refine wpQuiet_nil ?_; intro _ hw'; obtain ⟨nq, hw''⟩ := hw'; subst hw''); go_upto_region 2 with (first | ((with_reducible refine gate_dst (N := 1) rfl ?_); (try (refine gate_guard (by rfl) ?_; dsimp only)); refine box_event ?hg (N := 1) ?hd (cs := #[.slice A0_0 l0_0.length c0_0, .slice A0_1 l0_1.length c0_1]) (t := 28) ?hr ?_; (case hd => rfl); (case hg => rfl); (case hr => first | (go_simp; done) | (go_simp; rfl)); intro gb134 hg w3 hbox hb; have n0_ := Aside0.mk (below_step (by repeat (first | (with_reducible first | exact HB.out | apply below_alloc | apply pw_below_drewN | apply below_drew1) | exact HB.out)) hb); have n1_ := Aside0.mk (hbox); have n2_ := Aside0.mk ((by rw [hg]; exact (below_size (by repeat (first | (with_reducible first | exact HB.out | apply below_alloc | apply pw_below_drewN | apply below_drew1) | exact HB.out))) : w.heap.size ≤ gb134)); have n3_ := Aside0.mk ((by rw [hg]; exact (below_size (by repeat (first | (with_reducible first | exact HB.out | apply below_alloc | apply pw_below_drewN | apply below_drew1) | exact HB.out))) : w.heap.size ≤ gb134)); clear HB; have HB := n0_; have BK134 := n1_; have GW134 := n2_; have GE134 := n3_; clear n0_ n1_ n2_ n3_; clear hb hbox hg; have hcz4_0 : w3.cell? ⟨gb134, 0, none⟩ = some (.slice A0_0 l0_0.length c0_0) := (blk_cell BK134.out 0).trans rfl; have hcz4_1 : w3.cell? ⟨gb134, 1, none⟩ = some (.slice A0_1 l0_1.length c0_1) := (blk_cell BK134.out 1).trans rfl; have hfz4_0 := blk_frozen BK134.out 0; have hfz4_1 := blk_frozen BK134.out 1)))
 (try simp only [Act.put, List.setIfInBounds_toArray, List.set_cons_zero, List.set_cons_succ])
 go_cut [22] (fun v22 wc => ∃ (kq : Nat) (x22_1 : Bool), v22 = .bool x22_1 ∧ Aside0 (spec_validAlgebra.j0 kq (l0_0.length : Int) x22_1 l0_0 l0_1 = some r) ∧ Aside0 (kq ≤ k) ∧ Aside0 (wc.heap[gb134]? = some (.cells #[(.slice A0_0 l0_0.length c0_0), (.slice A0_1 l0_1.length c0_1)] 28 (0, 0))) ∧ Aside0 (Below w.heap.size w wc))
 case first =>
  have H := HC2.out
  clear HC2
  replace H := Option.bind_eq_some_iff.mp H
  obtain ⟨t135, A50, H⟩ := H
  replace H : (if t135 = true then (spec_validAlgebra.j0 k (l0_0.length : Int) ((l0_1.length : Int) != (l0_0.length : Int)) l0_0 l0_1) else (spec_validAlgebra.j0 k (l0_0.length : Int) true l0_0 l0_1)) = some r := H
  have A5 := Aside0.mk A50
  clear A50
  by_cases c6 : t135 = true
  ·subst c6
   have H1 : (spec_validAlgebra.j0 k (l0_0.length : Int) ((l0_1.length : Int) != (l0_0.length : Int)) l0_0 l0_1) = some r := by rw [if_pos rfl] at H; exact H
   clear H
   have H := H1
   clear H1
   have H' := Aside0.mk H
   clear H
   have hcz7_0 : w3.cell? ⟨gb134, 0, none⟩ = some (.slice A0_0 l0_0.length c0_0) := (blk_cell BK134.out 0).trans rfl
   have hcz7_1 : w3.cell? ⟨gb134, 1, none⟩ = some (.slice A0_1 l0_1.length c0_1) := (blk_cell BK134.out 1).trans rfl
   have hfz7_0 := blk_frozen BK134.out 0
   have hfz7_1 := blk_frozen BK134.out 1
   as_aux_lemma =>
    go_wp2_with (first | (go_at_call 58; (with_reducible refine (spec_validLattice.calls k _ _ l0_0 true _ ?side1 ?side2 A5.out).mono ?_); (case side1 => repeat (first | exact (Kd.C_below HR0_0.out HB.out) | (with_reducible refine Kd.C_alloc ?_ _) | (with_reducible refine Kd.C_drewN ?_ _) | (with_reducible refine Kd.C_drew ?_))); (case side2 => exact HC0_0.out); rintro e w' ⟨rfl, ⟨nd, rfl⟩⟩; (try first | exact ⟨rfl, _, World.drewN_drewN _ _ _⟩ | exact ⟨rfl, _, Eq.trans (World.drewN_drewN _ _ _) (congrArg (World.drewN _) (Nat.add_assoc _ _ _))⟩)))
    repeat ((refine wp_region_quiet_lit ?_ ?_ ?_; kernel_rfl; kernel_rfl; (repeat (first | go_big_quiet_step (first | (go_at_call 58; (with_reducible refine (spec_validLattice.calls k _ _ l0_0 true _ ?side1 ?side2 A5.out).mono ?_); (case side1 => repeat (first | exact (Kd.C_below HR0_0.out HB.out) | (with_reducible refine Kd.C_alloc ?_ _) | (with_reducible refine Kd.C_drewN ?_ _) | (with_reducible refine Kd.C_drew ?_))); (case side2 => exact HC0_0.out); rintro e w' ⟨rfl, ⟨nd, rfl⟩⟩; (try first | exact ⟨rfl, _, World.drewN_drewN _ _ _⟩ | exact ⟨rfl, _, Eq.trans (World.drewN_drewN _ _ _) (congrArg (World.drewN _) (Nat.add_assoc _ _ _))⟩))) | (refine wpQuiet_step (fun K hK => ?_); go_simp; refine hK _ ?_; clear hK K))); refine wpQuiet_nil ?_; intro _ hw'; obtain ⟨nq, hw''⟩ := hw'; subst hw''); try go_wp2_with (first | (go_at_call 58; (with_reducible refine (spec_validLattice.calls k _ _ l0_0 true _ ?side1 ?side2 A5.out).mono ?_); (case side1 => repeat (first | exact (Kd.C_below HR0_0.out HB.out) | (with_reducible refine Kd.C_alloc ?_ _) | (with_reducible refine Kd.C_drewN ?_ _) | (with_reducible refine Kd.C_drew ?_))); (case side2 => exact HC0_0.out); rintro e w' ⟨rfl, ⟨nd, rfl⟩⟩; (try first | exact ⟨rfl, _, World.drewN_drewN _ _ _⟩ | exact ⟨rfl, _, Eq.trans (World.drewN_drewN _ _ _) (congrArg (World.drewN _) (Nat.add_assoc _ _ _))⟩))))
    go_meet
    case rel => exact ⟨_, (((l0_1.length : Int) != (l0_0.length : Int))), (by first | rfl | (simp; done) | (simp [*]; done)), H', ⟨by first | omega | exact Nat.le_refl _⟩, ⟨by (with_reducible repeat (first | refine blk_drewN ?_ _ | refine blk_drew ?_ | refine blk_alloc ?_ _)); exact BK134.out⟩, ⟨by repeat (first | (with_reducible first | exact HB.out | apply below_alloc | apply pw_below_drewN | apply below_drew1 | refine below_set ?_ GE134.out) | exact HB.out)⟩⟩
  ·replace c6 := Bool.eq_false_iff.mpr c6
   subst c6
   have H1 : (spec_validAlgebra.j0 k (l0_0.length : Int) true l0_0 l0_1) = some r := by rw [if_neg (show ¬ (false = true) by decide)] at H; exact H
   clear H
   have H := H1
   clear H1
   have H' := Aside0.mk H
   clear H
   have hcz8_0 : w3.cell? ⟨gb134, 0, none⟩ = some (.slice A0_0 l0_0.length c0_0) := (blk_cell BK134.out 0).trans rfl
   have hcz8_1 : w3.cell? ⟨gb134, 1, none⟩ = some (.slice A0_1 l0_1.length c0_1) := (blk_cell BK134.out 1).trans rfl
   have hfz8_0 := blk_frozen BK134.out 0
   have hfz8_1 := blk_frozen BK134.out 1
   as_aux_lemma =>
    go_wp2_with (first | (go_at_call 58; (with_reducible refine (spec_validLattice.calls k _ _ l0_0 false _ ?side1 ?side2 A5.out).mono ?_); (case side1 => repeat (first | exact (Kd.C_below HR0_0.out HB.out) | (with_reducible refine Kd.C_alloc ?_ _) | (with_reducible refine Kd.C_drewN ?_ _) | (with_reducible refine Kd.C_drew ?_))); (case side2 => exact HC0_0.out); rintro e w' ⟨rfl, ⟨nd, rfl⟩⟩; (try first | exact ⟨rfl, _, World.drewN_drewN _ _ _⟩ | exact ⟨rfl, _, Eq.trans (World.drewN_drewN _ _ _) (congrArg (World.drewN _) (Nat.add_assoc _ _ _))⟩)))
    repeat ((refine wp_region_quiet_lit ?_ ?_ ?_; kernel_rfl; kernel_rfl; (repeat (first | go_big_quiet_step (first | (go_at_call 58; (with_reducible refine (spec_validLattice.calls k _ _ l0_0 false _ ?side1 ?side2 A5.out).mono ?_); (case side1 => repeat (first | exact (Kd.C_below HR0_0.out HB.out) | (with_reducible refine Kd.C_alloc ?_ _) | (with_reducible refine Kd.C_drewN ?_ _) | (with_reducible refine Kd.C_drew ?_))); (case side2 => exact HC0_0.out); rintro e w' ⟨rfl, ⟨nd, rfl⟩⟩; (try first | exact ⟨rfl, _, World.drewN_drewN _ _ _⟩ | exact ⟨rfl, _, Eq.trans (World.drewN_drewN _ _ _) (congrArg (World.drewN _) (Nat.add_assoc _ _ _))⟩))) | (refine wpQuiet_step (fun K hK => ?_); go_simp; refine hK _ ?_; clear hK K))); refine wpQuiet_nil ?_; intro _ hw'; obtain ⟨nq, hw''⟩ := hw'; subst hw''); try go_wp2_with (first | (go_at_call 58; (with_reducible refine (spec_validLattice.calls k _ _ l0_0 false _ ?side1 ?side2 A5.out).mono ?_); (case side1 => repeat (first | exact (Kd.C_below HR0_0.out HB.out) | (with_reducible refine Kd.C_alloc ?_ _) | (with_reducible refine Kd.C_drewN ?_ _) | (with_reducible refine Kd.C_drew ?_))); (case side2 => exact HC0_0.out); rintro e w' ⟨rfl, ⟨nd, rfl⟩⟩; (try first | exact ⟨rfl, _, World.drewN_drewN _ _ _⟩ | exact ⟨rfl, _, Eq.trans (World.drewN_drewN _ _ _) (congrArg (World.drewN _) (Nat.add_assoc _ _ _))⟩))))
    go_meet
    case rel => exact ⟨_, (true), (by first | rfl | (simp; done) | (simp [*]; done)), H', ⟨by first | omega | exact Nat.le_refl _⟩, ⟨by (with_reducible repeat (first | refine blk_drewN ?_ _ | refine blk_drew ?_ | refine blk_alloc ?_ _)); exact BK134.out⟩, ⟨by repeat (first | (with_reducible first | exact HB.out | apply below_alloc | apply pw_below_drewN | apply below_drew1 | refine below_set ?_ GE134.out) | exact HB.out)⟩⟩
 case rest =>
  clear HC2
  try clear p2
  try clear c3
  try clear c6
  try clear hcz4_0
  try clear hcz4_1
  try clear hcz7_0
  try clear hcz7_1
  try clear hcz8_0
  try clear hcz8_1
  try clear hfz4_0
  try clear hfz4_1
  try clear hfz7_0
  try clear hfz7_1
  try clear hfz8_0
  try clear hfz8_1
  obtain ⟨kq, x22_1, rfl, HA, HJ1, BK134, HB⟩ := hcut
  cases kq with
  | zero => exact absurd HA.out (by simp [spec_validAlgebra.j0])
  | succ kj1 =>
   have H := HA.out
   clear HA
   simp only [spec_validAlgebra.j0] at H
   by_cases c9 : x22_1 = true
   ·subst c9
    have H1 : (some false) = some r := by rw [if_pos rfl] at H; exact H
    clear H
    have H := H1
    clear H1
    obtain rfl := Option.some.inj H
    as_aux_lemma =>
     go_wp2
     repeat ((refine wp_region_quiet_lit ?_ ?_ ?_; kernel_rfl; kernel_rfl; (repeat (first | go_big_quiet_step (fail) | (refine wpQuiet_step (fun K hK => ?_); go_simp; refine hK _ ?_; clear hK K))); refine wpQuiet_nil ?_; intro _ hw'; obtain ⟨nq, hw''⟩ := hw'; subst hw''); try go_wp2)
     go_ret
     exact ⟨by first | rfl | (simp [errW_none, errW_some] <;> rfl) | (simp [*, errW_none, errW_some] <;> rfl), by repeat (first | (with_reducible first | exact HB.out | apply below_alloc | apply pw_below_drewN | apply below_drew1 | refine below_set ?_ GE134.out) | exact HB.out)⟩
   ·replace c9 := Bool.eq_false_iff.mpr c9
    subst c9
    have H1 : (spec_validAlgebra.l0 kj1 (l0_0.length : Int) 0 l0_0 l0_1) = some r := by rw [if_neg (show ¬ (false = true) by decide)] at H; exact H
    clear H
    have H := H1
    clear H1
    have H' := Aside0.mk H
    clear H
    as_aux_lemma =>
     go_wp2
     repeat ((refine wp_region_quiet_lit ?_ ?_ ?_; kernel_rfl; kernel_rfl; (repeat (first | go_big_quiet_step (fail) | (refine wpQuiet_step (fun K hK => ?_); go_simp; refine hK _ ?_; clear hK K))); refine wpQuiet_nil ?_; intro _ hw'; obtain ⟨nq, hw''⟩ := hw'; subst hw''); try go_wp2)
     go_loopg [4] kj1 (fun kq v4 w' => ∃ (x4_2 : Int), v4 = .int .i64 x4_2 ∧ Aside0 (spec_validAlgebra.l0 kq (l0_0.length : Int) x4_2 l0_0 l0_1 = some r) ∧ Aside0 (kq ≤ kj1) ∧ Aside0 (w'.heap[gb134]? = some (.cells #[(.slice A0_0 l0_0.length c0_0), (.slice A0_1 l0_1.length c0_1)] 28 (0, 0))) ∧ Aside0 (Below w.heap.size w w'))
     case atStart => exact ⟨(0), (by first | rfl | (simp; done) | (simp [*]; done)), H', ⟨Nat.le_refl _⟩, ⟨by (with_reducible repeat (first | refine blk_drewN ?_ _ | refine blk_drew ?_ | refine blk_alloc ?_ _)); exact BK134.out⟩, ⟨by repeat (first | (with_reducible first | exact HB.out | apply below_alloc | apply pw_below_drewN | apply below_drew1 | refine below_set ?_ GE134.out) | exact HB.out)⟩⟩
     case round =>
      clear H'
      try clear p2
      try clear c3
      try clear c6
      try clear c9
      try clear hcz4_0
      try clear hcz4_1
      try clear hcz7_0
      try clear hcz7_1
      try clear hcz8_0
      try clear hcz8_1
      try clear hfz4_0
      try clear hfz4_1
      try clear hfz7_0
      try clear hfz7_1
      try clear hfz8_0
      try clear hfz8_1
      try clear p2
      obtain ⟨x4_2, rfl, HA, HK2, BK134, HB⟩ := hrel
      cases gk with
      | zero => exact absurd HA.out (by simp [spec_validAlgebra.l0])
      | succ k2 =>
       have H := HA.out
       clear HA
       simp only [spec_validAlgebra.l0] at H
       by_cases c10 : x4_2 < (l0_0.length : Int)
       ·rw [if_pos c10] at H
        have c10b0 : decide (x4_2 < (l0_0.length : Int)) = true := decide_eq_true c10
        clear c10
        by_cases c11 : 0 ≤ x4_2
        ·rw [if_pos c11] at H
         have c11b0 : decide (0 ≤ x4_2) = true := decide_eq_true c11
         clear c11
         by_cases c12 : x4_2 < (l0_1.length : Int)
         ·rw [if_pos c12] at H
          have c12b0 : decide (x4_2 < (l0_1.length : Int)) = true := decide_eq_true c12
          clear c12
          by_cases c13 : ((rd_L1 l0_1 x4_2).length : Int) = (l0_0.length : Int)
          ·rw [if_pos c13] at H
           have c13b0 : (((rd_L1 l0_1 x4_2).length : Int) == (l0_0.length : Int)) = true := beq_iff_eq.mpr c13
           have c13b1 : (((rd_L1 l0_1 x4_2).length : Int) != (l0_0.length : Int)) = false := bne_eq_false_iff_eq.mpr c13
           have c13b2 : ((rd_L1 l0_1 x4_2).length == l0_0.length) = true := by first | simpa using c13 | (simp at c13 ⊢; omega)
           clear c13
           have H' := Aside0.mk H
           clear H
           have hcz14_0 : wr.cell? ⟨gb134, 0, none⟩ = some (.slice A0_0 l0_0.length c0_0) := (blk_cell BK134.out 0).trans rfl
           have hcz14_1 : wr.cell? ⟨gb134, 1, none⟩ = some (.slice A0_1 l0_1.length c0_1) := (blk_cell BK134.out 1).trans rfl
           have hfz14_0 := blk_frozen BK134.out 0
           have hfz14_1 := blk_frozen BK134.out 1
           have p136 : 0 ≤ (x4_2 : Int) := of_decide_eq_true (by first | (with_reducible assumption) | assumption)
           have q136 : x4_2 < (l0_1.length : Int) := of_decide_eq_true (by first | (with_reducible assumption) | assumption)
           obtain ⟨ad136, A136_0, c136_0, e136, hx136_0, hl136_0, hi136_0⟩ := at_L1 HR0_1.out x4_2 p136 q136
           cases e136
           replace hx136_0 := (HB.out.cell (World.block_lt_of_cell? w _ hx136_0)).trans hx136_0
           have HR136_0 := Aside0.mk hi136_0
           have HC136_0 := Aside0.mk hl136_0
           clear hi136_0 hl136_0
           replace p136 := eq_true p136
           replace q136 := eq_true q136
           as_aux_lemma =>
            go_wp2
            repeat ((refine wp_region_quiet_lit ?_ ?_ ?_; kernel_rfl; kernel_rfl; (repeat (first | go_big_quiet_step (fail) | (refine wpQuiet_step (fun K hK => ?_); go_simp; refine hK _ ?_; clear hK K))); refine wpQuiet_nil ?_; intro _ hw'; obtain ⟨nq, hw''⟩ := hw'; subst hw''); try go_wp2)
            go_loopg [5] k2 (fun kq v5 w' => ∃ (x5_3 : Int), v5 = .int .i64 x5_3 ∧ Aside0 (spec_validAlgebra.l1 kq (l0_0.length : Int) x4_2 x5_3 l0_0 l0_1 = some r) ∧ Aside0 (kq ≤ k2) ∧ Aside0 (w'.heap[gb134]? = some (.cells #[(.slice A0_0 l0_0.length c0_0), (.slice (some ad136) l0_1.length c0_1)] 28 (0, 0))) ∧ Aside0 (Below w.heap.size w w'))
            case atStart => exact ⟨(0), (by first | rfl | (simp; done) | (simp [*]; done)), H', ⟨Nat.le_refl _⟩, ⟨by (with_reducible repeat (first | refine blk_drewN ?_ _ | refine blk_drew ?_ | refine blk_alloc ?_ _)); exact BK134.out⟩, ⟨by repeat (first | (with_reducible first | exact HB.out | apply below_alloc | apply pw_below_drewN | apply below_drew1 | refine below_set ?_ GE134.out) | exact HB.out)⟩⟩
            case round =>
             clear H'
             try clear c1
             try clear p1
             try clear q1
             try clear hx1
             try clear p2
             try clear c3
             try clear c6
             try clear c9
             try clear c10
             try clear c10b0
             try clear c11
             try clear c11b0
             try clear c12
             try clear c12b0
             try clear c13
             try clear c13b0
             try clear c13b1
             try clear c13b2
             try clear p13
             try clear q13
             try clear hx13
             try clear hcz14_0
             try clear hcz14_1
             try clear hcz4_0
             try clear hcz4_1
             try clear hcz7_0
             try clear hcz7_1
             try clear hcz8_0
             try clear hcz8_1
             try clear hfz14_0
             try clear hfz14_1
             try clear hfz4_0
             try clear hfz4_1
             try clear hfz7_0
             try clear hfz7_1
             try clear hfz8_0
             try clear hfz8_1
             try clear hx136_0
             try clear p136
             try clear p2
             try clear q136
             obtain ⟨x5_3, rfl, HA, HK3, BK134, HB⟩ := hrel
             cases gk with
             | zero => exact absurd HA.out (by simp [spec_validAlgebra.l1])
             | succ k3 =>
              have H := HA.out
              clear HA
              simp only [spec_validAlgebra.l1] at H
              by_cases c15 : x5_3 < (l0_0.length : Int)
              ·rw [if_pos c15] at H
               have c15b0 : decide (x5_3 < (l0_0.length : Int)) = true := decide_eq_true c15
               clear c15
               by_cases c16 : 0 ≤ x4_2
               ·rw [if_pos c16] at H
                have c16b0 : decide (0 ≤ x4_2) = true := decide_eq_true c16
                clear c16
                by_cases c17 : x4_2 < (l0_1.length : Int)
                ·rw [if_pos c17] at H
                 have c17b0 : decide (x4_2 < (l0_1.length : Int)) = true := decide_eq_true c17
                 clear c17
                 by_cases c18 : 0 ≤ x5_3
                 ·rw [if_pos c18] at H
                  have c18b0 : decide (0 ≤ x5_3) = true := decide_eq_true c18
                  clear c18
                  by_cases c19 : x5_3 < ((rd_L1 l0_1 x4_2).length : Int)
                  ·rw [if_pos c19] at H
                   have c19b0 : decide (x5_3 < ((rd_L1 l0_1 x4_2).length : Int)) = true := decide_eq_true c19
                   clear c19
                   replace H := Option.bind_eq_some_iff.mp H
                   obtain ⟨t139, A200, H⟩ := H
                   replace H : (if t139 = true then (spec_validAlgebra.l1 k3 (l0_0.length : Int) x4_2 (wrap64 (x5_3 + 1)) l0_0 l0_1) else (some false)) = some r := H
                   have A20 := Aside0.mk A200
                   clear A200
                   by_cases c21 : t139 = true
                   ·subst c21
                    have H1 : (spec_validAlgebra.l1 k3 (l0_0.length : Int) x4_2 (wrap64 (x5_3 + 1)) l0_0 l0_1) = some r := by rw [if_pos rfl] at H; exact H
                    clear H
                    have H := H1
                    clear H1
                    have H' := Aside0.mk H
                    clear H
                    have hcz22_0 : wr.cell? ⟨gb134, 0, none⟩ = some (.slice A0_0 l0_0.length c0_0) := (blk_cell BK134.out 0).trans rfl
                    have hcz22_1 : wr.cell? ⟨gb134, 1, none⟩ = some (.slice (some ad136) l0_1.length c0_1) := (blk_cell BK134.out 1).trans rfl
                    have hfz22_0 := blk_frozen BK134.out 0
                    have hfz22_1 := blk_frozen BK134.out 1
                    have p137 : 0 ≤ (x4_2 : Int) := of_decide_eq_true (by first | (with_reducible assumption) | assumption)
                    have q137 : x4_2 < (l0_1.length : Int) := of_decide_eq_true (by first | (with_reducible assumption) | assumption)
                    obtain ⟨ad137, A137_0, c137_0, e137, hx137_0, hl137_0, hi137_0⟩ := at_L1 HR0_1.out x4_2 p137 q137
                    obtain rfl : ad136 = ad137 := (by injection e137)
                    replace hx137_0 := (HB.out.cell (World.block_lt_of_cell? w _ hx137_0)).trans hx137_0
                    have HR137_0 := Aside0.mk hi137_0
                    have HC137_0 := Aside0.mk hl137_0
                    clear hi137_0 hl137_0
                    replace p137 := eq_true p137
                    replace q137 := eq_true q137
                    have p138 : 0 ≤ (x5_3 : Int) := of_decide_eq_true (by first | (with_reducible assumption) | assumption)
                    have q138 : x5_3 < ((rd_L1 l0_1 x4_2).length : Int) := of_decide_eq_true (by first | (with_reducible assumption) | assumption)
                    obtain ⟨ad138, e138, hx138_0⟩ := Kd.at_int HR137_0.out x5_3 p138 q138
                    cases e138
                    replace hx138_0 := (HB.out.cell (World.block_lt_of_cell? w _ hx138_0)).trans hx138_0
                    replace p138 := eq_true p138
                    replace q138 := eq_true q138
                    as_aux_lemma =>
                     go_wp2_with (first | (go_at_call 59; (with_reducible refine (spec_inRange.calls (rd (rd_L1 l0_1 x4_2) x5_3) 0 (wrap64 ((l0_0.length : Int) - 1)) true _ A20.out).mono ?_); rintro e w' ⟨rfl, ⟨nd, rfl⟩⟩; (try first | exact ⟨rfl, _, World.drewN_drewN _ _ _⟩ | exact ⟨rfl, _, Eq.trans (World.drewN_drewN _ _ _) (congrArg (World.drewN _) (Nat.add_assoc _ _ _))⟩)))
                     repeat ((refine wp_region_quiet_lit ?_ ?_ ?_; kernel_rfl; kernel_rfl; (repeat (first | go_big_quiet_step (first | (go_at_call 59; (with_reducible refine (spec_inRange.calls (rd (rd_L1 l0_1 x4_2) x5_3) 0 (wrap64 ((l0_0.length : Int) - 1)) true _ A20.out).mono ?_); rintro e w' ⟨rfl, ⟨nd, rfl⟩⟩; (try first | exact ⟨rfl, _, World.drewN_drewN _ _ _⟩ | exact ⟨rfl, _, Eq.trans (World.drewN_drewN _ _ _) (congrArg (World.drewN _) (Nat.add_assoc _ _ _))⟩))) | (refine wpQuiet_step (fun K hK => ?_); go_simp; refine hK _ ?_; clear hK K))); refine wpQuiet_nil ?_; intro _ hw'; obtain ⟨nq, hw''⟩ := hw'; subst hw''); try go_wp2_with (first | (go_at_call 59; (with_reducible refine (spec_inRange.calls (rd (rd_L1 l0_1 x4_2) x5_3) 0 (wrap64 ((l0_0.length : Int) - 1)) true _ A20.out).mono ?_); rintro e w' ⟨rfl, ⟨nd, rfl⟩⟩; (try first | exact ⟨rfl, _, World.drewN_drewN _ _ _⟩ | exact ⟨rfl, _, Eq.trans (World.drewN_drewN _ _ _) (congrArg (World.drewN _) (Nat.add_assoc _ _ _))⟩))))
                     go_roundg k3
                     case measure => have := HJ1.out; have := HK2.out; have := HK3.out; omega
                     case rel => exact ⟨(wrap64 (x5_3 + 1)), (by first | rfl | (simp; done) | (simp [*]; done)), H', ⟨by have := HJ1.out; have := HK2.out; have := HK3.out; omega⟩, ⟨by (with_reducible repeat (first | refine blk_drewN ?_ _ | refine blk_drew ?_ | refine blk_alloc ?_ _)); exact BK134.out⟩, ⟨by repeat (first | (with_reducible first | exact HB.out | apply below_alloc | apply pw_below_drewN | apply below_drew1 | refine below_set ?_ GE134.out) | exact HB.out)⟩⟩
                   ·replace c21 := Bool.eq_false_iff.mpr c21
                    subst c21
                    have H1 : (some false) = some r := by rw [if_neg (show ¬ (false = true) by decide)] at H; exact H
                    clear H
                    have H := H1
                    clear H1
                    obtain rfl := Option.some.inj H
                    have hcz23_0 : wr.cell? ⟨gb134, 0, none⟩ = some (.slice A0_0 l0_0.length c0_0) := (blk_cell BK134.out 0).trans rfl
                    have hcz23_1 : wr.cell? ⟨gb134, 1, none⟩ = some (.slice (some ad136) l0_1.length c0_1) := (blk_cell BK134.out 1).trans rfl
                    have hfz23_0 := blk_frozen BK134.out 0
                    have hfz23_1 := blk_frozen BK134.out 1
                    have p137 : 0 ≤ (x4_2 : Int) := of_decide_eq_true (by first | (with_reducible assumption) | assumption)
                    have q137 : x4_2 < (l0_1.length : Int) := of_decide_eq_true (by first | (with_reducible assumption) | assumption)
                    obtain ⟨ad137, A137_0, c137_0, e137, hx137_0, hl137_0, hi137_0⟩ := at_L1 HR0_1.out x4_2 p137 q137
                    obtain rfl : ad136 = ad137 := (by injection e137)
                    replace hx137_0 := (HB.out.cell (World.block_lt_of_cell? w _ hx137_0)).trans hx137_0
                    have HR137_0 := Aside0.mk hi137_0
                    have HC137_0 := Aside0.mk hl137_0
                    clear hi137_0 hl137_0
                    replace p137 := eq_true p137
                    replace q137 := eq_true q137
                    have p138 : 0 ≤ (x5_3 : Int) := of_decide_eq_true (by first | (with_reducible assumption) | assumption)
                    have q138 : x5_3 < ((rd_L1 l0_1 x4_2).length : Int) := of_decide_eq_true (by first | (with_reducible assumption) | assumption)
                    obtain ⟨ad138, e138, hx138_0⟩ := Kd.at_int HR137_0.out x5_3 p138 q138
                    cases e138
                    replace hx138_0 := (HB.out.cell (World.block_lt_of_cell? w _ hx138_0)).trans hx138_0
                    replace p138 := eq_true p138
                    replace q138 := eq_true q138
                    as_aux_lemma =>
                     go_wp2_with (first | (go_at_call 59; (with_reducible refine (spec_inRange.calls (rd (rd_L1 l0_1 x4_2) x5_3) 0 (wrap64 ((l0_0.length : Int) - 1)) false _ A20.out).mono ?_); rintro e w' ⟨rfl, ⟨nd, rfl⟩⟩; (try first | exact ⟨rfl, _, World.drewN_drewN _ _ _⟩ | exact ⟨rfl, _, Eq.trans (World.drewN_drewN _ _ _) (congrArg (World.drewN _) (Nat.add_assoc _ _ _))⟩)))
                     repeat ((refine wp_region_quiet_lit ?_ ?_ ?_; kernel_rfl; kernel_rfl; (repeat (first | go_big_quiet_step (first | (go_at_call 59; (with_reducible refine (spec_inRange.calls (rd (rd_L1 l0_1 x4_2) x5_3) 0 (wrap64 ((l0_0.length : Int) - 1)) false _ A20.out).mono ?_); rintro e w' ⟨rfl, ⟨nd, rfl⟩⟩; (try first | exact ⟨rfl, _, World.drewN_drewN _ _ _⟩ | exact ⟨rfl, _, Eq.trans (World.drewN_drewN _ _ _) (congrArg (World.drewN _) (Nat.add_assoc _ _ _))⟩))) | (refine wpQuiet_step (fun K hK => ?_); go_simp; refine hK _ ?_; clear hK K))); refine wpQuiet_nil ?_; intro _ hw'; obtain ⟨nq, hw''⟩ := hw'; subst hw''); try go_wp2_with (first | (go_at_call 59; (with_reducible refine (spec_inRange.calls (rd (rd_L1 l0_1 x4_2) x5_3) 0 (wrap64 ((l0_0.length : Int) - 1)) false _ A20.out).mono ?_); rintro e w' ⟨rfl, ⟨nd, rfl⟩⟩; (try first | exact ⟨rfl, _, World.drewN_drewN _ _ _⟩ | exact ⟨rfl, _, Eq.trans (World.drewN_drewN _ _ _) (congrArg (World.drewN _) (Nat.add_assoc _ _ _))⟩))))
                     go_ret
                     exact ⟨by first | rfl | (simp [errW_none, errW_some] <;> rfl) | (simp [*, errW_none, errW_some] <;> rfl), by repeat (first | (with_reducible first | exact HB.out | apply below_alloc | apply pw_below_drewN | apply below_drew1 | refine below_set ?_ GE134.out) | exact HB.out)⟩
                  ·rw [if_neg c19] at H
                   exact absurd H (by simp)
                 ·rw [if_neg c18] at H
                  exact absurd H (by simp)
                ·rw [if_neg c17] at H
                 exact absurd H (by simp)
               ·rw [if_neg c16] at H
                exact absurd H (by simp)
              ·rw [if_neg c15] at H
               have c15b0 : decide (x5_3 < (l0_0.length : Int)) = false := decide_eq_false c15
               clear c15
               have H' := Aside0.mk H
               clear H
               as_aux_lemma =>
                go_wp2
                repeat ((refine wp_region_quiet_lit ?_ ?_ ?_; kernel_rfl; kernel_rfl; (repeat (first | go_big_quiet_step (fail) | (refine wpQuiet_step (fun K hK => ?_); go_simp; refine hK _ ?_; clear hK K))); refine wpQuiet_nil ?_; intro _ hw'; obtain ⟨nq, hw''⟩ := hw'; subst hw''); try go_wp2)
                go_roundg k3
                case measure => have := HJ1.out; have := HK2.out; have := HK3.out; omega
                case rel => exact ⟨(wrap64 (x4_2 + 1)), (by first | rfl | (simp; done) | (simp [*]; done)), H', ⟨by have := HJ1.out; have := HK2.out; have := HK3.out; omega⟩, ⟨by (with_reducible repeat (first | refine blk_drewN ?_ _ | refine blk_drew ?_ | refine blk_alloc ?_ _)); exact BK134.out⟩, ⟨by repeat (first | (with_reducible first | exact HB.out | apply below_alloc | apply pw_below_drewN | apply below_drew1 | refine below_set ?_ GE134.out) | exact HB.out)⟩⟩
          ·rw [if_neg c13] at H
           have c13b0 : (((rd_L1 l0_1 x4_2).length : Int) == (l0_0.length : Int)) = false := beq_eq_false_iff_ne.mpr c13
           have c13b1 : (((rd_L1 l0_1 x4_2).length : Int) != (l0_0.length : Int)) = true := bne_iff_ne.mpr c13
           have c13b2 : ((rd_L1 l0_1 x4_2).length == l0_0.length) = false := by first | simpa using c13 | (simp at c13 ⊢; omega)
           obtain rfl := Option.some.inj H
           have hcz24_0 : wr.cell? ⟨gb134, 0, none⟩ = some (.slice A0_0 l0_0.length c0_0) := (blk_cell BK134.out 0).trans rfl
           have hcz24_1 : wr.cell? ⟨gb134, 1, none⟩ = some (.slice A0_1 l0_1.length c0_1) := (blk_cell BK134.out 1).trans rfl
           have hfz24_0 := blk_frozen BK134.out 0
           have hfz24_1 := blk_frozen BK134.out 1
           have p136 : 0 ≤ (x4_2 : Int) := of_decide_eq_true (by first | (with_reducible assumption) | assumption)
           have q136 : x4_2 < (l0_1.length : Int) := of_decide_eq_true (by first | (with_reducible assumption) | assumption)
           obtain ⟨ad136, A136_0, c136_0, e136, hx136_0, hl136_0, hi136_0⟩ := at_L1 HR0_1.out x4_2 p136 q136
           cases e136
           replace hx136_0 := (HB.out.cell (World.block_lt_of_cell? w _ hx136_0)).trans hx136_0
           have HR136_0 := Aside0.mk hi136_0
           have HC136_0 := Aside0.mk hl136_0
           clear hi136_0 hl136_0
           replace p136 := eq_true p136
           replace q136 := eq_true q136
           as_aux_lemma =>
            go_wp2
            repeat ((refine wp_region_quiet_lit ?_ ?_ ?_; kernel_rfl; kernel_rfl; (repeat (first | go_big_quiet_step (fail) | (refine wpQuiet_step (fun K hK => ?_); go_simp; refine hK _ ?_; clear hK K))); refine wpQuiet_nil ?_; intro _ hw'; obtain ⟨nq, hw''⟩ := hw'; subst hw''); try go_wp2)
            go_ret
            exact ⟨by first | rfl | (simp [errW_none, errW_some] <;> rfl) | (simp [*, errW_none, errW_some] <;> rfl), by repeat (first | (with_reducible first | exact HB.out | apply below_alloc | apply pw_below_drewN | apply below_drew1 | refine below_set ?_ GE134.out) | exact HB.out)⟩
         ·rw [if_neg c12] at H
          exact absurd H (by simp)
        ·rw [if_neg c11] at H
         exact absurd H (by simp)
       ·rw [if_neg c10] at H
        have c10b0 : decide (x4_2 < (l0_0.length : Int)) = false := decide_eq_false c10
        clear c10
        have H' := Aside0.mk H
        clear H
        as_aux_lemma =>
         go_wp2
         repeat ((refine wp_region_quiet_lit ?_ ?_ ?_; kernel_rfl; kernel_rfl; (repeat (first | go_big_quiet_step (fail) | (refine wpQuiet_step (fun K hK => ?_); go_simp; refine hK _ ?_; clear hK K))); refine wpQuiet_nil ?_; intro _ hw'; obtain ⟨nq, hw''⟩ := hw'; subst hw''); try go_wp2)
         go_loopg [6] k2 (fun kq v6 w' => ∃ (x6_3 : Int), v6 = .int .i64 x6_3 ∧ Aside0 (spec_validAlgebra.l2 kq (l0_0.length : Int) x6_3 l0_0 l0_1 = some r) ∧ Aside0 (kq ≤ k2) ∧ Aside0 (w'.heap[gb134]? = some (.cells #[(.slice A0_0 l0_0.length c0_0), (.slice A0_1 l0_1.length c0_1)] 28 (0, 0))) ∧ Aside0 (Below w.heap.size w w'))
         case atStart => exact ⟨(0), (by first | rfl | (simp; done) | (simp [*]; done)), H', ⟨Nat.le_refl _⟩, ⟨by (with_reducible repeat (first | refine blk_drewN ?_ _ | refine blk_drew ?_ | refine blk_alloc ?_ _)); exact BK134.out⟩, ⟨by repeat (first | (with_reducible first | exact HB.out | apply below_alloc | apply pw_below_drewN | apply below_drew1 | refine below_set ?_ GE134.out) | exact HB.out)⟩⟩
         case round =>
          clear H'
          try clear c1
          try clear p1
          try clear q1
          try clear hx1
          try clear c2
          try clear p2
          try clear c3
          try clear c6
          try clear p6
          try clear c9
          try clear c10
          try clear c10b0
          try clear c11
          try clear c11b0
          try clear c12
          try clear c12b0
          try clear c13
          try clear c13b0
          try clear c13b1
          try clear c13b2
          try clear p13
          try clear q13
          try clear hx13
          try clear c15
          try clear c15b0
          try clear c16
          try clear c16b0
          try clear c17
          try clear c17b0
          try clear c18
          try clear c18b0
          try clear c19
          try clear c19b0
          try clear c21
          try clear hcz14_0
          try clear hcz14_1
          try clear hcz22_0
          try clear hcz22_1
          try clear hcz23_0
          try clear hcz23_1
          try clear hcz24_0
          try clear hcz24_1
          try clear hcz4_0
          try clear hcz4_1
          try clear hcz7_0
          try clear hcz7_1
          try clear hcz8_0
          try clear hcz8_1
          try clear hfz14_0
          try clear hfz14_1
          try clear hfz22_0
          try clear hfz22_1
          try clear hfz23_0
          try clear hfz23_1
          try clear hfz24_0
          try clear hfz24_1
          try clear hfz4_0
          try clear hfz4_1
          try clear hfz7_0
          try clear hfz7_1
          try clear hfz8_0
          try clear hfz8_1
          try clear hx136_0
          try clear hx137_0
          try clear hx138_0
          try clear p1
          try clear p13
          try clear p136
          try clear p137
          try clear p138
          try clear p2
          try clear q1
          try clear q13
          try clear q136
          try clear q137
          try clear q138
          obtain ⟨x6_3, rfl, HA, HK3, BK134, HB⟩ := hrel
          cases gk with
          | zero => exact absurd HA.out (by simp [spec_validAlgebra.l2])
          | succ k3 =>
           have H := HA.out
           clear HA
           simp only [spec_validAlgebra.l2] at H
           by_cases c25 : x6_3 < (l0_0.length : Int)
           ·rw [if_pos c25] at H
            have c25b0 : decide (x6_3 < (l0_0.length : Int)) = true := decide_eq_true c25
            clear c25
            have HC26 := Aside0.mk H
            clear H
            go_upto_region 17 with (fail)
            repeat ((refine wp_region_quiet_lit ?_ ?_ ?_; kernel_rfl; kernel_rfl; (repeat (first | go_big_quiet_step (fail) | (refine wpQuiet_step (fun K hK => ?_); go_simp; refine hK _ ?_; clear hK K))); refine wpQuiet_nil ?_; intro _ hw'; obtain ⟨nq, hw''⟩ := hw'; subst hw''); go_upto_region 17 with (fail))
            go_cut [78] (fun v78 wc => ∃ (kq : Nat) (x78_25 : Bool), v78 = .bool x78_25 ∧ Aside0 (spec_validAlgebra.j4 kq (l0_0.length : Int) x6_3 x78_25 l0_0 l0_1 = some r) ∧ Aside0 (kq ≤ k3) ∧ Aside0 (wc.heap[gb134]? = some (.cells #[(.slice A0_0 l0_0.length c0_0), (.slice A0_1 l0_1.length c0_1)] 28 (0, 0))) ∧ Aside0 (Below w.heap.size w wc))
            case first =>
             have H := HC26.out
             clear HC26
             by_cases c27 : 0 ≤ x6_3
             ·rw [if_pos c27] at H
              have c27b0 : decide (0 ≤ x6_3) = true := decide_eq_true c27
              clear c27
              (first | rw [c27b0] | (simp only [i64_w, i32_w]; rw [c27b0]) | skip)
              by_cases c28 : x6_3 < (l0_1.length : Int)
              ·rw [if_pos c28] at H
               have c28b0 : decide (x6_3 < (l0_1.length : Int)) = true := decide_eq_true c28
               clear c28
               obtain ⟨ji29, hji29⟩ : ∃ j_ : Int, (wrap64 ((l0_0.length : Int) - 1)) = j_ := ⟨_, rfl⟩
               replace H : (if 0 ≤ (ji29) then (if (ji29) < ((rd_L1 l0_1 x6_3).length : Int) then (if (rd (rd_L1 l0_1 x6_3) (ji29)) = x6_3 then (if 0 < ((rd_L1 l0_1 x6_3).length : Int) then (spec_validAlgebra.j4 k3 (l0_0.length : Int) x6_3 ((rd (rd_L1 l0_1 x6_3) 0) != 0) l0_0 l0_1) else (none)) else (spec_validAlgebra.j4 k3 (l0_0.length : Int) x6_3 true l0_0 l0_1)) else (none)) else (none)) = some r := by first | (rw [hji29] at H; exact H) | (simp only [hji29] at H ⊢; exact H)
               have hji29w : (IntKind.i64.wrap ((l0_0.length : Int) - 1)) = ji29 := (i64_w _).trans hji29
               by_cases c30 : 0 ≤ (ji29)
               ·rw [if_pos c30] at H
                have c30b0 : decide (0 ≤ (ji29)) = true := decide_eq_true c30
                clear c30
                by_cases c31 : (ji29) < ((rd_L1 l0_1 x6_3).length : Int)
                ·rw [if_pos c31] at H
                 have c31b0 : decide ((ji29) < ((rd_L1 l0_1 x6_3).length : Int)) = true := decide_eq_true c31
                 clear c31
                 by_cases c32 : (rd (rd_L1 l0_1 x6_3) (ji29)) = x6_3
                 ·rw [if_pos c32] at H
                  have c32b0 : ((rd (rd_L1 l0_1 x6_3) (ji29)) == x6_3) = true := beq_iff_eq.mpr c32
                  have c32b1 : ((rd (rd_L1 l0_1 x6_3) (ji29)) != x6_3) = false := bne_eq_false_iff_eq.mpr c32
                  clear c32
                  by_cases c33 : 0 < ((rd_L1 l0_1 x6_3).length : Int)
                  ·rw [if_pos c33] at H
                   have c33b0 : decide (0 < ((rd_L1 l0_1 x6_3).length : Int)) = true := decide_eq_true c33
                   have c33b1 : decide (0 < (rd_L1 l0_1 x6_3).length) = true := decide_eq_true (by omega)
                   clear c33
                   have H' := Aside0.mk H
                   clear H
                   have hcz34_0 : wr.cell? ⟨gb134, 0, none⟩ = some (.slice A0_0 l0_0.length c0_0) := (blk_cell BK134.out 0).trans rfl
                   have hcz34_1 : wr.cell? ⟨gb134, 1, none⟩ = some (.slice A0_1 l0_1.length c0_1) := (blk_cell BK134.out 1).trans rfl
                   have hfz34_0 := blk_frozen BK134.out 0
                   have hfz34_1 := blk_frozen BK134.out 1
                   have p140 : 0 ≤ (x6_3 : Int) := of_decide_eq_true (by first | (with_reducible assumption) | assumption)
                   have q140 : x6_3 < (l0_1.length : Int) := of_decide_eq_true (by first | (with_reducible assumption) | assumption)
                   obtain ⟨ad140, A140_0, c140_0, e140, hx140_0, hl140_0, hi140_0⟩ := at_L1 HR0_1.out x6_3 p140 q140
                   cases e140
                   replace hx140_0 := (HB.out.cell (World.block_lt_of_cell? w _ hx140_0)).trans hx140_0
                   have HR140_0 := Aside0.mk hi140_0
                   have HC140_0 := Aside0.mk hl140_0
                   clear hi140_0 hl140_0
                   replace p140 := eq_true p140
                   replace q140 := eq_true q140
                   have p141 : 0 ≤ ((ji29) : Int) := of_decide_eq_true (by first | (with_reducible assumption) | assumption)
                   have q141 : (ji29) < ((rd_L1 l0_1 x6_3).length : Int) := of_decide_eq_true (by first | (with_reducible assumption) | assumption)
                   obtain ⟨ad141, e141, hx141_0⟩ := Kd.at_int HR140_0.out (ji29) p141 q141
                   cases e141
                   replace hx141_0 := (HB.out.cell (World.block_lt_of_cell? w _ hx141_0)).trans hx141_0
                   replace p141 := eq_true p141
                   replace q141 := eq_true q141
                   have p142 : 0 ≤ (x6_3 : Int) := of_decide_eq_true (by first | (with_reducible assumption) | assumption)
                   have q142 : x6_3 < (l0_1.length : Int) := of_decide_eq_true (by first | (with_reducible assumption) | assumption)
                   obtain ⟨ad142, A142_0, c142_0, e142, hx142_0, hl142_0, hi142_0⟩ := at_L1 HR0_1.out x6_3 p142 q142
                   obtain rfl : ad140 = ad142 := (by injection e142)
                   replace hx142_0 := (HB.out.cell (World.block_lt_of_cell? w _ hx142_0)).trans hx142_0
                   have HR142_0 := Aside0.mk hi142_0
                   have HC142_0 := Aside0.mk hl142_0
                   clear hi142_0 hl142_0
                   replace p142 := eq_true p142
                   replace q142 := eq_true q142
                   have ea_ := Option.some.inj (hx140_0.symm.trans hx142_0)
                   injection ea_ with ea_ en_ ec_
                   subst ea_
                   subst ec_
                   clear en_
                   have p143 : 0 ≤ (0 : Int) := (by omega)
                   have q143 : 0 < ((rd_L1 l0_1 x6_3).length : Int) := of_decide_eq_true (by first | (with_reducible assumption) | assumption)
                   obtain ⟨ad143, e143, hx143_0⟩ := Kd.at_int HR142_0.out 0 p143 q143
                   cases e143
                   have qi143 : (0 < (rd_L1 l0_1 x6_3).length) = True := eq_true (by omega)
                   (try rw [show ((0 : Int)).toNat = 0 from rfl] at hx143_0)
                   (try rw [Addr.add_zero'] at hx143_0)
                   replace hx143_0 := (HB.out.cell (World.block_lt_of_cell? w _ hx143_0)).trans hx143_0
                   replace p143 := eq_true p143
                   replace q143 := eq_true q143
                   as_aux_lemma =>
                    go_wp2
                    repeat ((refine wp_region_quiet_lit ?_ ?_ ?_; kernel_rfl; kernel_rfl; (repeat (first | go_big_quiet_step (fail) | (refine wpQuiet_step (fun K hK => ?_); go_simp; refine hK _ ?_; clear hK K))); refine wpQuiet_nil ?_; intro _ hw'; obtain ⟨nq, hw''⟩ := hw'; subst hw''); try go_wp2)
                    go_meet
                    case rel => exact ⟨_, (((rd (rd_L1 l0_1 x6_3) 0) != 0)), (by first | rfl | (simp; done) | (simp [*]; done)), H', ⟨by have := HJ1.out; have := HK2.out; have := HK3.out; first | omega | exact Nat.le_refl _⟩, ⟨by (with_reducible repeat (first | refine blk_drewN ?_ _ | refine blk_drew ?_ | refine blk_alloc ?_ _)); exact BK134.out⟩, ⟨by repeat (first | (with_reducible first | exact HB.out | apply below_alloc | apply pw_below_drewN | apply below_drew1 | refine below_set ?_ GE134.out) | exact HB.out)⟩⟩
                  ·rw [if_neg c33] at H
                   exact absurd H (by simp)
                 ·rw [if_neg c32] at H
                  have c32b0 : ((rd (rd_L1 l0_1 x6_3) (ji29)) == x6_3) = false := beq_eq_false_iff_ne.mpr c32
                  have c32b1 : ((rd (rd_L1 l0_1 x6_3) (ji29)) != x6_3) = true := bne_iff_ne.mpr c32
                  have H' := Aside0.mk H
                  clear H
                  have hcz35_0 : wr.cell? ⟨gb134, 0, none⟩ = some (.slice A0_0 l0_0.length c0_0) := (blk_cell BK134.out 0).trans rfl
                  have hcz35_1 : wr.cell? ⟨gb134, 1, none⟩ = some (.slice A0_1 l0_1.length c0_1) := (blk_cell BK134.out 1).trans rfl
                  have hfz35_0 := blk_frozen BK134.out 0
                  have hfz35_1 := blk_frozen BK134.out 1
                  have p140 : 0 ≤ (x6_3 : Int) := of_decide_eq_true (by first | (with_reducible assumption) | assumption)
                  have q140 : x6_3 < (l0_1.length : Int) := of_decide_eq_true (by first | (with_reducible assumption) | assumption)
                  obtain ⟨ad140, A140_0, c140_0, e140, hx140_0, hl140_0, hi140_0⟩ := at_L1 HR0_1.out x6_3 p140 q140
                  cases e140
                  replace hx140_0 := (HB.out.cell (World.block_lt_of_cell? w _ hx140_0)).trans hx140_0
                  have HR140_0 := Aside0.mk hi140_0
                  have HC140_0 := Aside0.mk hl140_0
                  clear hi140_0 hl140_0
                  replace p140 := eq_true p140
                  replace q140 := eq_true q140
                  have p141 : 0 ≤ ((ji29) : Int) := of_decide_eq_true (by first | (with_reducible assumption) | assumption)
                  have q141 : (ji29) < ((rd_L1 l0_1 x6_3).length : Int) := of_decide_eq_true (by first | (with_reducible assumption) | assumption)
                  obtain ⟨ad141, e141, hx141_0⟩ := Kd.at_int HR140_0.out (ji29) p141 q141
                  cases e141
                  replace hx141_0 := (HB.out.cell (World.block_lt_of_cell? w _ hx141_0)).trans hx141_0
                  replace p141 := eq_true p141
                  replace q141 := eq_true q141
                  as_aux_lemma =>
                   go_wp2
                   repeat ((refine wp_region_quiet_lit ?_ ?_ ?_; kernel_rfl; kernel_rfl; (repeat (first | go_big_quiet_step (fail) | (refine wpQuiet_step (fun K hK => ?_); go_simp; refine hK _ ?_; clear hK K))); refine wpQuiet_nil ?_; intro _ hw'; obtain ⟨nq, hw''⟩ := hw'; subst hw''); try go_wp2)
                   go_meet
                   case rel => exact ⟨_, (true), (by first | rfl | (simp; done) | (simp [*]; done)), H', ⟨by have := HJ1.out; have := HK2.out; have := HK3.out; first | omega | exact Nat.le_refl _⟩, ⟨by (with_reducible repeat (first | refine blk_drewN ?_ _ | refine blk_drew ?_ | refine blk_alloc ?_ _)); exact BK134.out⟩, ⟨by repeat (first | (with_reducible first | exact HB.out | apply below_alloc | apply pw_below_drewN | apply below_drew1 | refine below_set ?_ GE134.out) | exact HB.out)⟩⟩
                ·rw [if_neg c31] at H
                 exact absurd H (by simp)
               ·rw [if_neg c30] at H
                exact absurd H (by simp)
              ·rw [if_neg c28] at H
               exact absurd H (by simp)
             ·rw [if_neg c27] at H
              exact absurd H (by simp)
            case rest =>
             clear HC26
             try clear c1
             try clear p1
             try clear q1
             try clear hx1
             try clear qi1
             try clear c2
             try clear p2
             try clear c3
             try clear c6
             try clear p6
             try clear c9
             try clear c10
             try clear c10b0
             try clear c11
             try clear c11b0
             try clear c12
             try clear c12b0
             try clear c13
             try clear c13b0
             try clear c13b1
             try clear c13b2
             try clear p13
             try clear q13
             try clear hx13
             try clear c14
             try clear p14
             try clear q14
             try clear hx14
             try clear qi14
             try clear c15
             try clear c15b0
             try clear c16
             try clear c16b0
             try clear c17
             try clear c17b0
             try clear c18
             try clear c18b0
             try clear c19
             try clear c19b0
             try clear c21
             try clear c25
             try clear c25b0
             try clear c27
             try clear c27b0
             try clear c28
             try clear c28b0
             try clear c30
             try clear c30b0
             try clear c31
             try clear c31b0
             try clear c32
             try clear c32b0
             try clear c32b1
             try clear c33
             try clear c33b0
             try clear c33b1
             try clear hcz14_0
             try clear hcz14_1
             try clear hcz22_0
             try clear hcz22_1
             try clear hcz23_0
             try clear hcz23_1
             try clear hcz24_0
             try clear hcz24_1
             try clear hcz34_0
             try clear hcz34_1
             try clear hcz35_0
             try clear hcz35_1
             try clear hcz4_0
             try clear hcz4_1
             try clear hcz7_0
             try clear hcz7_1
             try clear hcz8_0
             try clear hcz8_1
             try clear hfz14_0
             try clear hfz14_1
             try clear hfz22_0
             try clear hfz22_1
             try clear hfz23_0
             try clear hfz23_1
             try clear hfz24_0
             try clear hfz24_1
             try clear hfz34_0
             try clear hfz34_1
             try clear hfz35_0
             try clear hfz35_1
             try clear hfz4_0
             try clear hfz4_1
             try clear hfz7_0
             try clear hfz7_1
             try clear hfz8_0
             try clear hfz8_1
             try clear hx136_0
             try clear hx137_0
             try clear hx138_0
             try clear hx140_0
             try clear hx141_0
             try clear hx142_0
             try clear hx143_0
             try clear p1
             try clear p13
             try clear p136
             try clear p137
             try clear p138
             try clear p140
             try clear p141
             try clear p142
             try clear p143
             try clear p2
             try clear p6
             try clear q1
             try clear q13
             try clear q136
             try clear q137
             try clear q138
             try clear q140
             try clear q141
             try clear q142
             try clear q143
             obtain ⟨kq, x78_25, rfl, HA, HJ25, BK134, HB⟩ := hcut
             cases kq with
             | zero => exact absurd HA.out (by simp [spec_validAlgebra.j4])
             | succ kj25 =>
              have H := HA.out
              clear HA
              simp only [spec_validAlgebra.j4] at H
              by_cases c36 : x78_25 = true
              ·subst c36
               have H1 : (some false) = some r := by rw [if_pos rfl] at H; exact H
               clear H
               have H := H1
               clear H1
               obtain rfl := Option.some.inj H
               as_aux_lemma =>
                go_wp2
                repeat ((refine wp_region_quiet_lit ?_ ?_ ?_; kernel_rfl; kernel_rfl; (repeat (first | go_big_quiet_step (fail) | (refine wpQuiet_step (fun K hK => ?_); go_simp; refine hK _ ?_; clear hK K))); refine wpQuiet_nil ?_; intro _ hw'; obtain ⟨nq, hw''⟩ := hw'; subst hw''); try go_wp2)
                go_ret
                exact ⟨by first | rfl | (simp [errW_none, errW_some] <;> rfl) | (simp [*, errW_none, errW_some] <;> rfl), by repeat (first | (with_reducible first | exact HB.out | apply below_alloc | apply pw_below_drewN | apply below_drew1 | refine below_set ?_ GE134.out) | exact HB.out)⟩
              ·replace c36 := Bool.eq_false_iff.mpr c36
               subst c36
               have H1 : (spec_validAlgebra.l3 kj25 (l0_0.length : Int) x6_3 0 l0_0 l0_1) = some r := by rw [if_neg (show ¬ (false = true) by decide)] at H; exact H
               clear H
               have H := H1
               clear H1
               have H' := Aside0.mk H
               clear H
               as_aux_lemma =>
                go_wp2
                repeat ((refine wp_region_quiet_lit ?_ ?_ ?_; kernel_rfl; kernel_rfl; (repeat (first | go_big_quiet_step (fail) | (refine wpQuiet_step (fun K hK => ?_); go_simp; refine hK _ ?_; clear hK K))); refine wpQuiet_nil ?_; intro _ hw'; obtain ⟨nq, hw''⟩ := hw'; subst hw''); try go_wp2)
                go_loopg [7] kj25 (fun kq v7 w' => ∃ (x7_5 : Int), v7 = .int .i64 x7_5 ∧ Aside0 (spec_validAlgebra.l3 kq (l0_0.length : Int) x6_3 x7_5 l0_0 l0_1 = some r) ∧ Aside0 (kq ≤ kj25) ∧ Aside0 (w'.heap[gb134]? = some (.cells #[(.slice A0_0 l0_0.length c0_0), (.slice A0_1 l0_1.length c0_1)] 28 (0, 0))) ∧ Aside0 (Below w.heap.size w w'))
                case atStart => exact ⟨(0), (by first | rfl | (simp; done) | (simp [*]; done)), H', ⟨Nat.le_refl _⟩, ⟨by (with_reducible repeat (first | refine blk_drewN ?_ _ | refine blk_drew ?_ | refine blk_alloc ?_ _)); exact BK134.out⟩, ⟨by repeat (first | (with_reducible first | exact HB.out | apply below_alloc | apply pw_below_drewN | apply below_drew1 | refine below_set ?_ GE134.out) | exact HB.out)⟩⟩
                case round =>
                 clear H'
                 try clear c1
                 try clear p1
                 try clear q1
                 try clear hx1
                 try clear qi1
                 try clear c2
                 try clear p2
                 try clear c3
                 try clear c6
                 try clear p6
                 try clear c9
                 try clear c10
                 try clear c10b0
                 try clear c11
                 try clear c11b0
                 try clear c12
                 try clear c12b0
                 try clear c13
                 try clear c13b0
                 try clear c13b1
                 try clear c13b2
                 try clear p13
                 try clear q13
                 try clear hx13
                 try clear c14
                 try clear p14
                 try clear q14
                 try clear hx14
                 try clear qi14
                 try clear c15
                 try clear c15b0
                 try clear c16
                 try clear c16b0
                 try clear c17
                 try clear c17b0
                 try clear c18
                 try clear c18b0
                 try clear c19
                 try clear c19b0
                 try clear c21
                 try clear c25
                 try clear c25b0
                 try clear c27
                 try clear c27b0
                 try clear c28
                 try clear c28b0
                 try clear c30
                 try clear c30b0
                 try clear c31
                 try clear c31b0
                 try clear c32
                 try clear c32b0
                 try clear c32b1
                 try clear c33
                 try clear c33b0
                 try clear c33b1
                 try clear c36
                 try clear hcz14_0
                 try clear hcz14_1
                 try clear hcz22_0
                 try clear hcz22_1
                 try clear hcz23_0
                 try clear hcz23_1
                 try clear hcz24_0
                 try clear hcz24_1
                 try clear hcz34_0
                 try clear hcz34_1
                 try clear hcz35_0
                 try clear hcz35_1
                 try clear hcz4_0
                 try clear hcz4_1
                 try clear hcz7_0
                 try clear hcz7_1
                 try clear hcz8_0
                 try clear hcz8_1
                 try clear hfz14_0
                 try clear hfz14_1
                 try clear hfz22_0
                 try clear hfz22_1
                 try clear hfz23_0
                 try clear hfz23_1
                 try clear hfz24_0
                 try clear hfz24_1
                 try clear hfz34_0
                 try clear hfz34_1
                 try clear hfz35_0
                 try clear hfz35_1
                 try clear hfz4_0
                 try clear hfz4_1
                 try clear hfz7_0
                 try clear hfz7_1
                 try clear hfz8_0
                 try clear hfz8_1
                 try clear hx136_0
                 try clear hx137_0
                 try clear hx138_0
                 try clear hx140_0
                 try clear hx141_0
                 try clear hx142_0
                 try clear hx143_0
                 try clear p1
                 try clear p13
                 try clear p136
                 try clear p137
                 try clear p138
                 try clear p14
                 try clear p140
                 try clear p141
                 try clear p142
                 try clear p143
                 try clear p2
                 try clear p6
                 try clear q1
                 try clear q13
                 try clear q136
                 try clear q137
                 try clear q138
                 try clear q14
                 try clear q140
                 try clear q141
                 try clear q142
                 try clear q143
                 obtain ⟨x7_5, rfl, HA, HK5, BK134, HB⟩ := hrel
                 cases gk with
                 | zero => exact absurd HA.out (by simp [spec_validAlgebra.l3])
                 | succ k5 =>
                  have H := HA.out
                  clear HA
                  simp only [spec_validAlgebra.l3] at H
                  by_cases c37 : x7_5 < (l0_0.length : Int)
                  ·rw [if_pos c37] at H
                   have c37b0 : decide (x7_5 < (l0_0.length : Int)) = true := decide_eq_true c37
                   clear c37
                   by_cases c38 : 0 ≤ x6_3
                   ·rw [if_pos c38] at H
                    have c38b0 : decide (0 ≤ x6_3) = true := decide_eq_true c38
                    clear c38
                    by_cases c39 : x6_3 < (l0_1.length : Int)
                    ·rw [if_pos c39] at H
                     have c39b0 : decide (x6_3 < (l0_1.length : Int)) = true := decide_eq_true c39
                     clear c39
                     by_cases c40 : 0 ≤ x7_5
                     ·rw [if_pos c40] at H
                      have c40b0 : decide (0 ≤ x7_5) = true := decide_eq_true c40
                      clear c40
                      by_cases c41 : x7_5 < ((rd_L1 l0_1 x6_3).length : Int)
                      ·rw [if_pos c41] at H
                       have c41b0 : decide (x7_5 < ((rd_L1 l0_1 x6_3).length : Int)) = true := decide_eq_true c41
                       clear c41
                       by_cases c42 : x7_5 < (l0_1.length : Int)
                       ·rw [if_pos c42] at H
                        have c42b0 : decide (x7_5 < (l0_1.length : Int)) = true := decide_eq_true c42
                        clear c42
                        by_cases c43 : x6_3 < ((rd_L1 l0_1 x7_5).length : Int)
                        ·rw [if_pos c43] at H
                         have c43b0 : decide (x6_3 < ((rd_L1 l0_1 x7_5).length : Int)) = true := decide_eq_true c43
                         clear c43
                         by_cases c44 : (rd (rd_L1 l0_1 x6_3) x7_5) = (rd (rd_L1 l0_1 x7_5) x6_3)
                         ·rw [if_pos c44] at H
                          have c44b0 : ((rd (rd_L1 l0_1 x6_3) x7_5) == (rd (rd_L1 l0_1 x7_5) x6_3)) = true := beq_iff_eq.mpr c44
                          have c44b1 : ((rd (rd_L1 l0_1 x6_3) x7_5) != (rd (rd_L1 l0_1 x7_5) x6_3)) = false := bne_eq_false_iff_eq.mpr c44
                          clear c44
                          have H' := Aside0.mk H
                          clear H
                          have hcz45_0 : wr.cell? ⟨gb134, 0, none⟩ = some (.slice A0_0 l0_0.length c0_0) := (blk_cell BK134.out 0).trans rfl
                          have hcz45_1 : wr.cell? ⟨gb134, 1, none⟩ = some (.slice A0_1 l0_1.length c0_1) := (blk_cell BK134.out 1).trans rfl
                          have hfz45_0 := blk_frozen BK134.out 0
                          have hfz45_1 := blk_frozen BK134.out 1
                          have p144 : 0 ≤ (x6_3 : Int) := of_decide_eq_true (by first | (with_reducible assumption) | assumption)
                          have q144 : x6_3 < (l0_1.length : Int) := of_decide_eq_true (by first | (with_reducible assumption) | assumption)
                          obtain ⟨ad144, A144_0, c144_0, e144, hx144_0, hl144_0, hi144_0⟩ := at_L1 HR0_1.out x6_3 p144 q144
                          cases e144
                          replace hx144_0 := (HB.out.cell (World.block_lt_of_cell? w _ hx144_0)).trans hx144_0
                          have HR144_0 := Aside0.mk hi144_0
                          have HC144_0 := Aside0.mk hl144_0
                          clear hi144_0 hl144_0
                          replace p144 := eq_true p144
                          replace q144 := eq_true q144
                          have p145 : 0 ≤ (x7_5 : Int) := of_decide_eq_true (by first | (with_reducible assumption) | assumption)
                          have q145 : x7_5 < ((rd_L1 l0_1 x6_3).length : Int) := of_decide_eq_true (by first | (with_reducible assumption) | assumption)
                          obtain ⟨ad145, e145, hx145_0⟩ := Kd.at_int HR144_0.out x7_5 p145 q145
                          cases e145
                          replace hx145_0 := (HB.out.cell (World.block_lt_of_cell? w _ hx145_0)).trans hx145_0
                          replace p145 := eq_true p145
                          replace q145 := eq_true q145
                          have p146 : 0 ≤ (x7_5 : Int) := of_decide_eq_true (by first | (with_reducible assumption) | assumption)
                          have q146 : x7_5 < (l0_1.length : Int) := of_decide_eq_true (by first | (with_reducible assumption) | assumption)
                          obtain ⟨ad146, A146_0, c146_0, e146, hx146_0, hl146_0, hi146_0⟩ := at_L1 HR0_1.out x7_5 p146 q146
                          obtain rfl : ad144 = ad146 := (by injection e146)
                          replace hx146_0 := (HB.out.cell (World.block_lt_of_cell? w _ hx146_0)).trans hx146_0
                          have HR146_0 := Aside0.mk hi146_0
                          have HC146_0 := Aside0.mk hl146_0
                          clear hi146_0 hl146_0
                          replace p146 := eq_true p146
                          replace q146 := eq_true q146
                          have p147 : 0 ≤ (x6_3 : Int) := of_decide_eq_true (by first | (with_reducible assumption) | assumption)
                          have q147 : x6_3 < ((rd_L1 l0_1 x7_5).length : Int) := of_decide_eq_true (by first | (with_reducible assumption) | assumption)
                          obtain ⟨ad147, e147, hx147_0⟩ := Kd.at_int HR146_0.out x6_3 p147 q147
                          cases e147
                          replace hx147_0 := (HB.out.cell (World.block_lt_of_cell? w _ hx147_0)).trans hx147_0
                          replace p147 := eq_true p147
                          replace q147 := eq_true q147
                          as_aux_lemma =>
                           go_wp2
                           repeat ((refine wp_region_quiet_lit ?_ ?_ ?_; kernel_rfl; kernel_rfl; (repeat (first | go_big_quiet_step (fail) | (refine wpQuiet_step (fun K hK => ?_); go_simp; refine hK _ ?_; clear hK K))); refine wpQuiet_nil ?_; intro _ hw'; obtain ⟨nq, hw''⟩ := hw'; subst hw''); try go_wp2)
                           go_loopg [8] k5 (fun kq v8 w' => ∃ (x8_6 : Int), v8 = .int .i64 x8_6 ∧ Aside0 (spec_validAlgebra.l4 kq (l0_0.length : Int) x6_3 x7_5 x8_6 l0_0 l0_1 = some r) ∧ Aside0 (kq ≤ k5) ∧ Aside0 (w'.heap[gb134]? = some (.cells #[(.slice A0_0 l0_0.length c0_0), (.slice (some ad144) l0_1.length c0_1)] 28 (0, 0))) ∧ Aside0 (Below w.heap.size w w'))
                           case atStart => exact ⟨(0), (by first | rfl | (simp; done) | (simp [*]; done)), H', ⟨Nat.le_refl _⟩, ⟨by (with_reducible repeat (first | refine blk_drewN ?_ _ | refine blk_drew ?_ | refine blk_alloc ?_ _)); exact BK134.out⟩, ⟨by repeat (first | (with_reducible first | exact HB.out | apply below_alloc | apply pw_below_drewN | apply below_drew1 | refine below_set ?_ GE134.out) | exact HB.out)⟩⟩
                           case round =>
                            clear H'
                            try clear c1
                            try clear p1
                            try clear q1
                            try clear hx1
                            try clear qi1
                            try clear c2
                            try clear p2
                            try clear c3
                            try clear c4
                            try clear c6
                            try clear p6
                            try clear c9
                            try clear c10
                            try clear c10b0
                            try clear c11
                            try clear c11b0
                            try clear c12
                            try clear c12b0
                            try clear c13
                            try clear c13b0
                            try clear c13b1
                            try clear c13b2
                            try clear p13
                            try clear q13
                            try clear hx13
                            try clear c14
                            try clear p14
                            try clear q14
                            try clear hx14
                            try clear qi14
                            try clear c15
                            try clear c15b0
                            try clear c16
                            try clear c16b0
                            try clear c17
                            try clear c17b0
                            try clear c18
                            try clear c18b0
                            try clear c19
                            try clear c19b0
                            try clear c21
                            try clear c25
                            try clear c25b0
                            try clear c27
                            try clear c27b0
                            try clear c28
                            try clear c28b0
                            try clear c30
                            try clear c30b0
                            try clear c31
                            try clear c31b0
                            try clear c32
                            try clear c32b0
                            try clear c32b1
                            try clear c33
                            try clear c33b0
                            try clear c33b1
                            try clear c36
                            try clear c37
                            try clear c37b0
                            try clear c38
                            try clear c38b0
                            try clear c39
                            try clear c39b0
                            try clear c40
                            try clear c40b0
                            try clear c41
                            try clear c41b0
                            try clear c42
                            try clear c42b0
                            try clear c43
                            try clear c43b0
                            try clear c44
                            try clear c44b0
                            try clear c44b1
                            try clear hcz14_0
                            try clear hcz14_1
                            try clear hcz22_0
                            try clear hcz22_1
                            try clear hcz23_0
                            try clear hcz23_1
                            try clear hcz24_0
                            try clear hcz24_1
                            try clear hcz34_0
                            try clear hcz34_1
                            try clear hcz35_0
                            try clear hcz35_1
                            try clear hcz45_0
                            try clear hcz45_1
                            try clear hcz4_0
                            try clear hcz4_1
                            try clear hcz7_0
                            try clear hcz7_1
                            try clear hcz8_0
                            try clear hcz8_1
                            try clear hfz14_0
                            try clear hfz14_1
                            try clear hfz22_0
                            try clear hfz22_1
                            try clear hfz23_0
                            try clear hfz23_1
                            try clear hfz24_0
                            try clear hfz24_1
                            try clear hfz34_0
                            try clear hfz34_1
                            try clear hfz35_0
                            try clear hfz35_1
                            try clear hfz45_0
                            try clear hfz45_1
                            try clear hfz4_0
                            try clear hfz4_1
                            try clear hfz7_0
                            try clear hfz7_1
                            try clear hfz8_0
                            try clear hfz8_1
                            try clear hx136_0
                            try clear hx137_0
                            try clear hx138_0
                            try clear hx140_0
                            try clear hx141_0
                            try clear hx142_0
                            try clear hx143_0
                            try clear hx144_0
                            try clear hx145_0
                            try clear hx146_0
                            try clear hx147_0
                            try clear p1
                            try clear p13
                            try clear p136
                            try clear p137
                            try clear p138
                            try clear p14
                            try clear p140
                            try clear p141
                            try clear p142
                            try clear p143
                            try clear p144
                            try clear p145
                            try clear p146
                            try clear p147
                            try clear p2
                            try clear p6
                            try clear q1
                            try clear q13
                            try clear q136
                            try clear q137
                            try clear q138
                            try clear q14
                            try clear q140
                            try clear q141
                            try clear q142
                            try clear q143
                            try clear q144
                            try clear q145
                            try clear q146
                            try clear q147
                            obtain ⟨x8_6, rfl, HA, HK6, BK134, HB⟩ := hrel
                            cases gk with
                            | zero => exact absurd HA.out (by simp [spec_validAlgebra.l4])
                            | succ k6 =>
                             have H := HA.out
                             clear HA
                             simp only [spec_validAlgebra.l4] at H
                             by_cases c46 : x8_6 < (l0_0.length : Int)
                             ·rw [if_pos c46] at H
                              have c46b0 : decide (x8_6 < (l0_0.length : Int)) = true := decide_eq_true c46
                              clear c46
                              by_cases c47 : 0 ≤ x6_3
                              ·rw [if_pos c47] at H
                               have c47b0 : decide (0 ≤ x6_3) = true := decide_eq_true c47
                               clear c47
                               by_cases c48 : x6_3 < (l0_1.length : Int)
                               ·rw [if_pos c48] at H
                                have c48b0 : decide (x6_3 < (l0_1.length : Int)) = true := decide_eq_true c48
                                clear c48
                                by_cases c49 : 0 ≤ x7_5
                                ·rw [if_pos c49] at H
                                 have c49b0 : decide (0 ≤ x7_5) = true := decide_eq_true c49
                                 clear c49
                                 by_cases c50 : x7_5 < ((rd_L1 l0_1 x6_3).length : Int)
                                 ·rw [if_pos c50] at H
                                  have c50b0 : decide (x7_5 < ((rd_L1 l0_1 x6_3).length : Int)) = true := decide_eq_true c50
                                  clear c50
                                  by_cases c51 : 0 ≤ (rd (rd_L1 l0_1 x6_3) x7_5)
                                  ·rw [if_pos c51] at H
                                   have c51b0 : decide (0 ≤ (rd (rd_L1 l0_1 x6_3) x7_5)) = true := decide_eq_true c51
                                   clear c51
                                   by_cases c52 : (rd (rd_L1 l0_1 x6_3) x7_5) < (l0_1.length : Int)
                                   ·rw [if_pos c52] at H
                                    have c52b0 : decide ((rd (rd_L1 l0_1 x6_3) x7_5) < (l0_1.length : Int)) = true := decide_eq_true c52
                                    clear c52
                                    by_cases c53 : 0 ≤ x8_6
                                    ·rw [if_pos c53] at H
                                     have c53b0 : decide (0 ≤ x8_6) = true := decide_eq_true c53
                                     clear c53
                                     by_cases c54 : x8_6 < ((rd_L1 l0_1 (rd (rd_L1 l0_1 x6_3) x7_5)).length : Int)
                                     ·rw [if_pos c54] at H
                                      have c54b0 : decide (x8_6 < ((rd_L1 l0_1 (rd (rd_L1 l0_1 x6_3) x7_5)).length : Int)) = true := decide_eq_true c54
                                      clear c54
                                      by_cases c55 : x7_5 < (l0_1.length : Int)
                                      ·rw [if_pos c55] at H
                                       have c55b0 : decide (x7_5 < (l0_1.length : Int)) = true := decide_eq_true c55
                                       clear c55
                                       by_cases c56 : x8_6 < ((rd_L1 l0_1 x7_5).length : Int)
                                       ·rw [if_pos c56] at H
                                        have c56b0 : decide (x8_6 < ((rd_L1 l0_1 x7_5).length : Int)) = true := decide_eq_true c56
                                        clear c56
                                        by_cases c57 : 0 ≤ (rd (rd_L1 l0_1 x7_5) x8_6)
                                        ·rw [if_pos c57] at H
                                         have c57b0 : decide (0 ≤ (rd (rd_L1 l0_1 x7_5) x8_6)) = true := decide_eq_true c57
                                         clear c57
                                         by_cases c58 : (rd (rd_L1 l0_1 x7_5) x8_6) < ((rd_L1 l0_1 x6_3).length : Int)
                                         ·rw [if_pos c58] at H
                                          have c58b0 : decide ((rd (rd_L1 l0_1 x7_5) x8_6) < ((rd_L1 l0_1 x6_3).length : Int)) = true := decide_eq_true c58
                                          clear c58
                                          by_cases c59 : (rd (rd_L1 l0_1 (rd (rd_L1 l0_1 x6_3) x7_5)) x8_6) = (rd (rd_L1 l0_1 x6_3) (rd (rd_L1 l0_1 x7_5) x8_6))
                                          ·rw [if_pos c59] at H
                                           have c59b0 : ((rd (rd_L1 l0_1 (rd (rd_L1 l0_1 x6_3) x7_5)) x8_6) == (rd (rd_L1 l0_1 x6_3) (rd (rd_L1 l0_1 x7_5) x8_6))) = true := beq_iff_eq.mpr c59
                                           have c59b1 : ((rd (rd_L1 l0_1 (rd (rd_L1 l0_1 x6_3) x7_5)) x8_6) != (rd (rd_L1 l0_1 x6_3) (rd (rd_L1 l0_1 x7_5) x8_6))) = false := bne_eq_false_iff_eq.mpr c59
                                           clear c59
                                           replace H := Option.bind_eq_some_iff.mp H
                                           obtain ⟨t157, A600, H⟩ := H
                                           replace H : (if 0 ≤ t157 then (if t157 < ((rd_L1 l0_1 x6_3).length : Int) then (if x8_6 < ((rd_L1 l0_1 x6_3).length : Int) then ((spec_join.f k6 l0_0 (rd (rd_L1 l0_1 x6_3) x7_5) (rd (rd_L1 l0_1 x6_3) x8_6)).bind fun t163 => (if (rd (rd_L1 l0_1 x6_3) t157) = t163 then (spec_validAlgebra.l4 k6 (l0_0.length : Int) x6_3 x7_5 (wrap64 (x8_6 + 1)) l0_0 l0_1) else (some false))) else (none)) else (none)) else (none)) = some r := H
                                           have A60 := Aside0.mk A600
                                           clear A600
                                           by_cases c61 : 0 ≤ t157
                                           ·rw [if_pos c61] at H
                                            have c61b0 : decide (0 ≤ t157) = true := decide_eq_true c61
                                            clear c61
                                            by_cases c62 : t157 < ((rd_L1 l0_1 x6_3).length : Int)
                                            ·rw [if_pos c62] at H
                                             have c62b0 : decide (t157 < ((rd_L1 l0_1 x6_3).length : Int)) = true := decide_eq_true c62
                                             clear c62
                                             by_cases c63 : x8_6 < ((rd_L1 l0_1 x6_3).length : Int)
                                             ·rw [if_pos c63] at H
                                              have c63b0 : decide (x8_6 < ((rd_L1 l0_1 x6_3).length : Int)) = true := decide_eq_true c63
                                              clear c63
                                              replace H := Option.bind_eq_some_iff.mp H
                                              obtain ⟨t163, A640, H⟩ := H
                                              replace H : (if (rd (rd_L1 l0_1 x6_3) t157) = t163 then (spec_validAlgebra.l4 k6 (l0_0.length : Int) x6_3 x7_5 (wrap64 (x8_6 + 1)) l0_0 l0_1) else (some false)) = some r := H
                                              have A64 := Aside0.mk A640
                                              clear A640
                                              by_cases c65 : (rd (rd_L1 l0_1 x6_3) t157) = t163
                                              ·rw [if_pos c65] at H
                                               have c65b0 : ((rd (rd_L1 l0_1 x6_3) t157) == t163) = true := beq_iff_eq.mpr c65
                                               have c65b1 : ((rd (rd_L1 l0_1 x6_3) t157) != t163) = false := bne_eq_false_iff_eq.mpr c65
                                               clear c65
                                               have H' := Aside0.mk H
                                               clear H
                                               have hcz66_0 : wr.cell? ⟨gb134, 0, none⟩ = some (.slice A0_0 l0_0.length c0_0) := (blk_cell BK134.out 0).trans rfl
                                               have hcz66_1 : wr.cell? ⟨gb134, 1, none⟩ = some (.slice (some ad144) l0_1.length c0_1) := (blk_cell BK134.out 1).trans rfl
                                               have hfz66_0 := blk_frozen BK134.out 0
                                               have hfz66_1 := blk_frozen BK134.out 1
                                               have p148 : 0 ≤ (x6_3 : Int) := of_decide_eq_true (by first | (with_reducible assumption) | assumption)
                                               have q148 : x6_3 < (l0_1.length : Int) := of_decide_eq_true (by first | (with_reducible assumption) | assumption)
                                               obtain ⟨ad148, A148_0, c148_0, e148, hx148_0, hl148_0, hi148_0⟩ := at_L1 HR0_1.out x6_3 p148 q148
                                               obtain rfl : ad144 = ad148 := (by injection e148)
                                               replace hx148_0 := (HB.out.cell (World.block_lt_of_cell? w _ hx148_0)).trans hx148_0
                                               have HR148_0 := Aside0.mk hi148_0
                                               have HC148_0 := Aside0.mk hl148_0
                                               clear hi148_0 hl148_0
                                               replace p148 := eq_true p148
                                               replace q148 := eq_true q148
                                               have p149 : 0 ≤ (x7_5 : Int) := of_decide_eq_true (by first | (with_reducible assumption) | assumption)
                                               have q149 : x7_5 < ((rd_L1 l0_1 x6_3).length : Int) := of_decide_eq_true (by first | (with_reducible assumption) | assumption)
                                               obtain ⟨ad149, e149, hx149_0⟩ := Kd.at_int HR148_0.out x7_5 p149 q149
                                               cases e149
                                               replace hx149_0 := (HB.out.cell (World.block_lt_of_cell? w _ hx149_0)).trans hx149_0
                                               replace p149 := eq_true p149
                                               replace q149 := eq_true q149
                                               have p150 : 0 ≤ ((rd (rd_L1 l0_1 x6_3) x7_5) : Int) := of_decide_eq_true (by first | (with_reducible assumption) | assumption)
                                               have q150 : (rd (rd_L1 l0_1 x6_3) x7_5) < (l0_1.length : Int) := of_decide_eq_true (by first | (with_reducible assumption) | assumption)
                                               obtain ⟨ad150, A150_0, c150_0, e150, hx150_0, hl150_0, hi150_0⟩ := at_L1 HR0_1.out (rd (rd_L1 l0_1 x6_3) x7_5) p150 q150
                                               obtain rfl : ad144 = ad150 := (by injection e150)
                                               replace hx150_0 := (HB.out.cell (World.block_lt_of_cell? w _ hx150_0)).trans hx150_0
                                               have HR150_0 := Aside0.mk hi150_0
                                               have HC150_0 := Aside0.mk hl150_0
                                               clear hi150_0 hl150_0
                                               replace p150 := eq_true p150
                                               replace q150 := eq_true q150
                                               have p151 : 0 ≤ (x8_6 : Int) := of_decide_eq_true (by first | (with_reducible assumption) | assumption)
                                               have q151 : x8_6 < ((rd_L1 l0_1 (rd (rd_L1 l0_1 x6_3) x7_5)).length : Int) := of_decide_eq_true (by first | (with_reducible assumption) | assumption)
                                               obtain ⟨ad151, e151, hx151_0⟩ := Kd.at_int HR150_0.out x8_6 p151 q151
                                               cases e151
                                               replace hx151_0 := (HB.out.cell (World.block_lt_of_cell? w _ hx151_0)).trans hx151_0
                                               replace p151 := eq_true p151
                                               replace q151 := eq_true q151
                                               have p152 : 0 ≤ (x6_3 : Int) := of_decide_eq_true (by first | (with_reducible assumption) | assumption)
                                               have q152 : x6_3 < (l0_1.length : Int) := of_decide_eq_true (by first | (with_reducible assumption) | assumption)
                                               obtain ⟨ad152, A152_0, c152_0, e152, hx152_0, hl152_0, hi152_0⟩ := at_L1 HR0_1.out x6_3 p152 q152
                                               obtain rfl : ad144 = ad152 := (by injection e152)
                                               replace hx152_0 := (HB.out.cell (World.block_lt_of_cell? w _ hx152_0)).trans hx152_0
                                               have HR152_0 := Aside0.mk hi152_0
                                               have HC152_0 := Aside0.mk hl152_0
                                               clear hi152_0 hl152_0
                                               replace p152 := eq_true p152
                                               replace q152 := eq_true q152
                                               have ea_ := Option.some.inj (hx148_0.symm.trans hx152_0)
                                               injection ea_ with ea_ en_ ec_
                                               subst ea_
                                               subst ec_
                                               clear en_
                                               have p153 : 0 ≤ (x7_5 : Int) := of_decide_eq_true (by first | (with_reducible assumption) | assumption)
                                               have q153 : x7_5 < (l0_1.length : Int) := of_decide_eq_true (by first | (with_reducible assumption) | assumption)
                                               obtain ⟨ad153, A153_0, c153_0, e153, hx153_0, hl153_0, hi153_0⟩ := at_L1 HR0_1.out x7_5 p153 q153
                                               obtain rfl : ad144 = ad153 := (by injection e153)
                                               replace hx153_0 := (HB.out.cell (World.block_lt_of_cell? w _ hx153_0)).trans hx153_0
                                               have HR153_0 := Aside0.mk hi153_0
                                               have HC153_0 := Aside0.mk hl153_0
                                               clear hi153_0 hl153_0
                                               replace p153 := eq_true p153
                                               replace q153 := eq_true q153
                                               have p154 : 0 ≤ (x8_6 : Int) := of_decide_eq_true (by first | (with_reducible assumption) | assumption)
                                               have q154 : x8_6 < ((rd_L1 l0_1 x7_5).length : Int) := of_decide_eq_true (by first | (with_reducible assumption) | assumption)
                                               obtain ⟨ad154, e154, hx154_0⟩ := Kd.at_int HR153_0.out x8_6 p154 q154
                                               cases e154
                                               replace hx154_0 := (HB.out.cell (World.block_lt_of_cell? w _ hx154_0)).trans hx154_0
                                               replace p154 := eq_true p154
                                               replace q154 := eq_true q154
                                               have p155 : 0 ≤ ((rd (rd_L1 l0_1 x7_5) x8_6) : Int) := of_decide_eq_true (by first | (with_reducible assumption) | assumption)
                                               have q155 : (rd (rd_L1 l0_1 x7_5) x8_6) < ((rd_L1 l0_1 x6_3).length : Int) := of_decide_eq_true (by first | (with_reducible assumption) | assumption)
                                               obtain ⟨ad155, e155, hx155_0⟩ := Kd.at_int HR152_0.out (rd (rd_L1 l0_1 x7_5) x8_6) p155 q155
                                               cases e155
                                               replace hx155_0 := (HB.out.cell (World.block_lt_of_cell? w _ hx155_0)).trans hx155_0
                                               replace p155 := eq_true p155
                                               replace q155 := eq_true q155
                                               have p156 : 0 ≤ (x6_3 : Int) := of_decide_eq_true (by first | (with_reducible assumption) | assumption)
                                               have q156 : x6_3 < (l0_1.length : Int) := of_decide_eq_true (by first | (with_reducible assumption) | assumption)
                                               obtain ⟨ad156, A156_0, c156_0, e156, hx156_0, hl156_0, hi156_0⟩ := at_L1 HR0_1.out x6_3 p156 q156
                                               obtain rfl : ad144 = ad156 := (by injection e156)
                                               replace hx156_0 := (HB.out.cell (World.block_lt_of_cell? w _ hx156_0)).trans hx156_0
                                               have HR156_0 := Aside0.mk hi156_0
                                               have HC156_0 := Aside0.mk hl156_0
                                               clear hi156_0 hl156_0
                                               replace p156 := eq_true p156
                                               replace q156 := eq_true q156
                                               have ea_ := Option.some.inj (hx148_0.symm.trans hx156_0)
                                               injection ea_ with ea_ en_ ec_
                                               subst ea_
                                               subst ec_
                                               clear en_
                                               have p158 : 0 ≤ (t157 : Int) := of_decide_eq_true (by first | (with_reducible assumption) | assumption)
                                               have q158 : t157 < ((rd_L1 l0_1 x6_3).length : Int) := of_decide_eq_true (by first | (with_reducible assumption) | assumption)
                                               obtain ⟨ad158, e158, hx158_0⟩ := Kd.at_int HR156_0.out t157 p158 q158
                                               cases e158
                                               replace hx158_0 := (HB.out.cell (World.block_lt_of_cell? w _ hx158_0)).trans hx158_0
                                               replace p158 := eq_true p158
                                               replace q158 := eq_true q158
                                               have p159 : 0 ≤ (x6_3 : Int) := of_decide_eq_true (by first | (with_reducible assumption) | assumption)
                                               have q159 : x6_3 < (l0_1.length : Int) := of_decide_eq_true (by first | (with_reducible assumption) | assumption)
                                               obtain ⟨ad159, A159_0, c159_0, e159, hx159_0, hl159_0, hi159_0⟩ := at_L1 HR0_1.out x6_3 p159 q159
                                               obtain rfl : ad144 = ad159 := (by injection e159)
                                               replace hx159_0 := (HB.out.cell (World.block_lt_of_cell? w _ hx159_0)).trans hx159_0
                                               have HR159_0 := Aside0.mk hi159_0
                                               have HC159_0 := Aside0.mk hl159_0
                                               clear hi159_0 hl159_0
                                               replace p159 := eq_true p159
                                               replace q159 := eq_true q159
                                               have ea_ := Option.some.inj (hx148_0.symm.trans hx159_0)
                                               injection ea_ with ea_ en_ ec_
                                               subst ea_
                                               subst ec_
                                               clear en_
                                               have p160 : 0 ≤ (x7_5 : Int) := of_decide_eq_true (by first | (with_reducible assumption) | assumption)
                                               have q160 : x7_5 < ((rd_L1 l0_1 x6_3).length : Int) := of_decide_eq_true (by first | (with_reducible assumption) | assumption)
                                               obtain ⟨ad160, e160, hx160_0⟩ := Kd.at_int HR159_0.out x7_5 p160 q160
                                               cases e160
                                               replace hx160_0 := (HB.out.cell (World.block_lt_of_cell? w _ hx160_0)).trans hx160_0
                                               replace p160 := eq_true p160
                                               replace q160 := eq_true q160
                                               have p161 : 0 ≤ (x6_3 : Int) := of_decide_eq_true (by first | (with_reducible assumption) | assumption)
                                               have q161 : x6_3 < (l0_1.length : Int) := of_decide_eq_true (by first | (with_reducible assumption) | assumption)
                                               obtain ⟨ad161, A161_0, c161_0, e161, hx161_0, hl161_0, hi161_0⟩ := at_L1 HR0_1.out x6_3 p161 q161
                                               obtain rfl : ad144 = ad161 := (by injection e161)
                                               replace hx161_0 := (HB.out.cell (World.block_lt_of_cell? w _ hx161_0)).trans hx161_0
                                               have HR161_0 := Aside0.mk hi161_0
                                               have HC161_0 := Aside0.mk hl161_0
                                               clear hi161_0 hl161_0
                                               replace p161 := eq_true p161
                                               replace q161 := eq_true q161
                                               have ea_ := Option.some.inj (hx148_0.symm.trans hx161_0)
                                               have p162 : 0 ≤ (x8_6 : Int) := of_decide_eq_true (by first | (with_reducible assumption) | assumption)
                                               have q162 : x8_6 < ((rd_L1 l0_1 x6_3).length : Int) := of_decide_eq_true (by first | (with_reducible assumption) | assumption)
                                               obtain ⟨ad162, e162, hx162_0⟩ := Kd.at_int HR161_0.out x8_6 p162 q162
                                               cases e162
                                               replace hx162_0 := (HB.out.cell (World.block_lt_of_cell? w _ hx162_0)).trans hx162_0
                                               replace p162 := eq_true p162
                                               replace q162 := eq_true q162
                                               as_aux_lemma =>
                                                go_wp2_with (first | (go_at_call 60; (with_reducible refine (spec_join.calls k6 _ _ l0_0 x7_5 x8_6 t157 _ ?side1 ?side2 A60.out).mono ?_); (case side1 => repeat (first | exact (Kd.C_below HR0_0.out HB.out) | (with_reducible refine Kd.C_alloc ?_ _) | (with_reducible refine Kd.C_drewN ?_ _) | (with_reducible refine Kd.C_drew ?_))); (case side2 => exact HC0_0.out); rintro e w' ⟨rfl, ⟨nd, rfl⟩⟩; (try first | exact ⟨rfl, _, World.drewN_drewN _ _ _⟩ | exact ⟨rfl, _, Eq.trans (World.drewN_drewN _ _ _) (congrArg (World.drewN _) (Nat.add_assoc _ _ _))⟩)) | (go_at_call 60; (with_reducible refine (spec_join.calls k6 _ _ l0_0 (rd (rd_L1 l0_1 x6_3) x7_5) (rd (rd_L1 l0_1 x6_3) x8_6) t163 _ ?side1 ?side2 A64.out).mono ?_); (case side1 => repeat (first | exact (Kd.C_below HR0_0.out (by repeat (first | (with_reducible first | exact HB.out | apply below_alloc | apply pw_below_drewN | apply below_drew1 | refine below_set ?_ GE134.out) | exact HB.out))) | (with_reducible refine Kd.C_alloc ?_ _) | (with_reducible refine Kd.C_drewN ?_ _) | (with_reducible refine Kd.C_drew ?_))); (case side2 => exact HC0_0.out); rintro e w' ⟨rfl, ⟨nd, rfl⟩⟩; (try first | exact ⟨rfl, _, World.drewN_drewN _ _ _⟩ | exact ⟨rfl, _, Eq.trans (World.drewN_drewN _ _ _) (congrArg (World.drewN _) (Nat.add_assoc _ _ _))⟩)))
                                                repeat ((refine wp_region_quiet_lit ?_ ?_ ?_; kernel_rfl; kernel_rfl; (repeat (first | go_big_quiet_step (first | (go_at_call 60; (with_reducible refine (spec_join.calls k6 _ _ l0_0 x7_5 x8_6 t157 _ ?side1 ?side2 A60.out).mono ?_); (case side1 => repeat (first | exact (Kd.C_below HR0_0.out HB.out) | (with_reducible refine Kd.C_alloc ?_ _) | (with_reducible refine Kd.C_drewN ?_ _) | (with_reducible refine Kd.C_drew ?_))); (case side2 => exact HC0_0.out); rintro e w' ⟨rfl, ⟨nd, rfl⟩⟩; (try first | exact ⟨rfl, _, World.drewN_drewN _ _ _⟩ | exact ⟨rfl, _, Eq.trans (World.drewN_drewN _ _ _) (congrArg (World.drewN _) (Nat.add_assoc _ _ _))⟩)) | (go_at_call 60; (with_reducible refine (spec_join.calls k6 _ _ l0_0 (rd (rd_L1 l0_1 x6_3) x7_5) (rd (rd_L1 l0_1 x6_3) x8_6) t163 _ ?side1 ?side2 A64.out).mono ?_); (case side1 => repeat (first | exact (Kd.C_below HR0_0.out (by repeat (first | (with_reducible first | exact HB.out | apply below_alloc | apply pw_below_drewN | apply below_drew1 | refine below_set ?_ GE134.out) | exact HB.out))) | (with_reducible refine Kd.C_alloc ?_ _) | (with_reducible refine Kd.C_drewN ?_ _) | (with_reducible refine Kd.C_drew ?_))); (case side2 => exact HC0_0.out); rintro e w' ⟨rfl, ⟨nd, rfl⟩⟩; (try first | exact ⟨rfl, _, World.drewN_drewN _ _ _⟩ | exact ⟨rfl, _, Eq.trans (World.drewN_drewN _ _ _) (congrArg (World.drewN _) (Nat.add_assoc _ _ _))⟩))) | (refine wpQuiet_step (fun K hK => ?_); go_simp; refine hK _ ?_; clear hK K))); refine wpQuiet_nil ?_; intro _ hw'; obtain ⟨nq, hw''⟩ := hw'; subst hw''); try go_wp2_with (first | (go_at_call 60; (with_reducible refine (spec_join.calls k6 _ _ l0_0 x7_5 x8_6 t157 _ ?side1 ?side2 A60.out).mono ?_); (case side1 => repeat (first | exact (Kd.C_below HR0_0.out HB.out) | (with_reducible refine Kd.C_alloc ?_ _) | (with_reducible refine Kd.C_drewN ?_ _) | (with_reducible refine Kd.C_drew ?_))); (case side2 => exact HC0_0.out); rintro e w' ⟨rfl, ⟨nd, rfl⟩⟩; (try first | exact ⟨rfl, _, World.drewN_drewN _ _ _⟩ | exact ⟨rfl, _, Eq.trans (World.drewN_drewN _ _ _) (congrArg (World.drewN _) (Nat.add_assoc _ _ _))⟩)) | (go_at_call 60; (with_reducible refine (spec_join.calls k6 _ _ l0_0 (rd (rd_L1 l0_1 x6_3) x7_5) (rd (rd_L1 l0_1 x6_3) x8_6) t163 _ ?side1 ?side2 A64.out).mono ?_); (case side1 => repeat (first | exact (Kd.C_below HR0_0.out (by repeat (first | (with_reducible first | exact HB.out | apply below_alloc | apply pw_below_drewN | apply below_drew1 | refine below_set ?_ GE134.out) | exact HB.out))) | (with_reducible refine Kd.C_alloc ?_ _) | (with_reducible refine Kd.C_drewN ?_ _) | (with_reducible refine Kd.C_drew ?_))); (case side2 => exact HC0_0.out); rintro e w' ⟨rfl, ⟨nd, rfl⟩⟩; (try first | exact ⟨rfl, _, World.drewN_drewN _ _ _⟩ | exact ⟨rfl, _, Eq.trans (World.drewN_drewN _ _ _) (congrArg (World.drewN _) (Nat.add_assoc _ _ _))⟩))))
                                                go_roundg k6
                                                case measure => have := HJ1.out; have := HK2.out; have := HK3.out; have := HJ25.out; have := HK5.out; have := HK6.out; omega
                                                case rel => exact ⟨(wrap64 (x8_6 + 1)), (by first | rfl | (simp; done) | (simp [*]; done)), H', ⟨by have := HJ1.out; have := HK2.out; have := HK3.out; have := HJ25.out; have := HK5.out; have := HK6.out; omega⟩, ⟨by (with_reducible repeat (first | refine blk_drewN ?_ _ | refine blk_drew ?_ | refine blk_alloc ?_ _)); exact BK134.out⟩, ⟨by repeat (first | (with_reducible first | exact HB.out | apply below_alloc | apply pw_below_drewN | apply below_drew1 | refine below_set ?_ GE134.out) | exact HB.out)⟩⟩
                                              ·rw [if_neg c65] at H
                                               have c65b0 : ((rd (rd_L1 l0_1 x6_3) t157) == t163) = false := beq_eq_false_iff_ne.mpr c65
                                               have c65b1 : ((rd (rd_L1 l0_1 x6_3) t157) != t163) = true := bne_iff_ne.mpr c65
                                               obtain rfl := Option.some.inj H
                                               have hcz67_0 : wr.cell? ⟨gb134, 0, none⟩ = some (.slice A0_0 l0_0.length c0_0) := (blk_cell BK134.out 0).trans rfl
                                               have hcz67_1 : wr.cell? ⟨gb134, 1, none⟩ = some (.slice (some ad144) l0_1.length c0_1) := (blk_cell BK134.out 1).trans rfl
                                               have hfz67_0 := blk_frozen BK134.out 0
                                               have hfz67_1 := blk_frozen BK134.out 1
                                               have p148 : 0 ≤ (x6_3 : Int) := of_decide_eq_true (by first | (with_reducible assumption) | assumption)
                                               have q148 : x6_3 < (l0_1.length : Int) := of_decide_eq_true (by first | (with_reducible assumption) | assumption)
                                               obtain ⟨ad148, A148_0, c148_0, e148, hx148_0, hl148_0, hi148_0⟩ := at_L1 HR0_1.out x6_3 p148 q148
                                               obtain rfl : ad144 = ad148 := (by injection e148)
                                               replace hx148_0 := (HB.out.cell (World.block_lt_of_cell? w _ hx148_0)).trans hx148_0
                                               have HR148_0 := Aside0.mk hi148_0
                                               have HC148_0 := Aside0.mk hl148_0
                                               clear hi148_0 hl148_0
                                               replace p148 := eq_true p148
                                               replace q148 := eq_true q148
                                               have p149 : 0 ≤ (x7_5 : Int) := of_decide_eq_true (by first | (with_reducible assumption) | assumption)
                                               have q149 : x7_5 < ((rd_L1 l0_1 x6_3).length : Int) := of_decide_eq_true (by first | (with_reducible assumption) | assumption)
                                               obtain ⟨ad149, e149, hx149_0⟩ := Kd.at_int HR148_0.out x7_5 p149 q149
                                               cases e149
                                               replace hx149_0 := (HB.out.cell (World.block_lt_of_cell? w _ hx149_0)).trans hx149_0
                                               replace p149 := eq_true p149
                                               replace q149 := eq_true q149
                                               have p150 : 0 ≤ ((rd (rd_L1 l0_1 x6_3) x7_5) : Int) := of_decide_eq_true (by first | (with_reducible assumption) | assumption)
                                               have q150 : (rd (rd_L1 l0_1 x6_3) x7_5) < (l0_1.length : Int) := of_decide_eq_true (by first | (with_reducible assumption) | assumption)
                                               obtain ⟨ad150, A150_0, c150_0, e150, hx150_0, hl150_0, hi150_0⟩ := at_L1 HR0_1.out (rd (rd_L1 l0_1 x6_3) x7_5) p150 q150
                                               obtain rfl : ad144 = ad150 := (by injection e150)
                                               replace hx150_0 := (HB.out.cell (World.block_lt_of_cell? w _ hx150_0)).trans hx150_0
                                               have HR150_0 := Aside0.mk hi150_0
                                               have HC150_0 := Aside0.mk hl150_0
                                               clear hi150_0 hl150_0
                                               replace p150 := eq_true p150
                                               replace q150 := eq_true q150
                                               have p151 : 0 ≤ (x8_6 : Int) := of_decide_eq_true (by first | (with_reducible assumption) | assumption)
                                               have q151 : x8_6 < ((rd_L1 l0_1 (rd (rd_L1 l0_1 x6_3) x7_5)).length : Int) := of_decide_eq_true (by first | (with_reducible assumption) | assumption)
                                               obtain ⟨ad151, e151, hx151_0⟩ := Kd.at_int HR150_0.out x8_6 p151 q151
                                               cases e151
                                               replace hx151_0 := (HB.out.cell (World.block_lt_of_cell? w _ hx151_0)).trans hx151_0
                                               replace p151 := eq_true p151
                                               replace q151 := eq_true q151
                                               have p152 : 0 ≤ (x6_3 : Int) := of_decide_eq_true (by first | (with_reducible assumption) | assumption)
                                               have q152 : x6_3 < (l0_1.length : Int) := of_decide_eq_true (by first | (with_reducible assumption) | assumption)
                                               obtain ⟨ad152, A152_0, c152_0, e152, hx152_0, hl152_0, hi152_0⟩ := at_L1 HR0_1.out x6_3 p152 q152
                                               obtain rfl : ad144 = ad152 := (by injection e152)
                                               replace hx152_0 := (HB.out.cell (World.block_lt_of_cell? w _ hx152_0)).trans hx152_0
                                               have HR152_0 := Aside0.mk hi152_0
                                               have HC152_0 := Aside0.mk hl152_0
                                               clear hi152_0 hl152_0
                                               replace p152 := eq_true p152
                                               replace q152 := eq_true q152
                                               have ea_ := Option.some.inj (hx148_0.symm.trans hx152_0)
                                               injection ea_ with ea_ en_ ec_
                                               subst ea_
                                               subst ec_
                                               clear en_
                                               have p153 : 0 ≤ (x7_5 : Int) := of_decide_eq_true (by first | (with_reducible assumption) | assumption)
                                               have q153 : x7_5 < (l0_1.length : Int) := of_decide_eq_true (by first | (with_reducible assumption) | assumption)
                                               obtain ⟨ad153, A153_0, c153_0, e153, hx153_0, hl153_0, hi153_0⟩ := at_L1 HR0_1.out x7_5 p153 q153
                                               obtain rfl : ad144 = ad153 := (by injection e153)
                                               replace hx153_0 := (HB.out.cell (World.block_lt_of_cell? w _ hx153_0)).trans hx153_0
                                               have HR153_0 := Aside0.mk hi153_0
                                               have HC153_0 := Aside0.mk hl153_0
                                               clear hi153_0 hl153_0
                                               replace p153 := eq_true p153
                                               replace q153 := eq_true q153
                                               have p154 : 0 ≤ (x8_6 : Int) := of_decide_eq_true (by first | (with_reducible assumption) | assumption)
                                               have q154 : x8_6 < ((rd_L1 l0_1 x7_5).length : Int) := of_decide_eq_true (by first | (with_reducible assumption) | assumption)
                                               obtain ⟨ad154, e154, hx154_0⟩ := Kd.at_int HR153_0.out x8_6 p154 q154
                                               cases e154
                                               replace hx154_0 := (HB.out.cell (World.block_lt_of_cell? w _ hx154_0)).trans hx154_0
                                               replace p154 := eq_true p154
                                               replace q154 := eq_true q154
                                               have p155 : 0 ≤ ((rd (rd_L1 l0_1 x7_5) x8_6) : Int) := of_decide_eq_true (by first | (with_reducible assumption) | assumption)
                                               have q155 : (rd (rd_L1 l0_1 x7_5) x8_6) < ((rd_L1 l0_1 x6_3).length : Int) := of_decide_eq_true (by first | (with_reducible assumption) | assumption)
                                               obtain ⟨ad155, e155, hx155_0⟩ := Kd.at_int HR152_0.out (rd (rd_L1 l0_1 x7_5) x8_6) p155 q155
                                               cases e155
                                               replace hx155_0 := (HB.out.cell (World.block_lt_of_cell? w _ hx155_0)).trans hx155_0
                                               replace p155 := eq_true p155
                                               replace q155 := eq_true q155
                                               have p156 : 0 ≤ (x6_3 : Int) := of_decide_eq_true (by first | (with_reducible assumption) | assumption)
                                               have q156 : x6_3 < (l0_1.length : Int) := of_decide_eq_true (by first | (with_reducible assumption) | assumption)
                                               obtain ⟨ad156, A156_0, c156_0, e156, hx156_0, hl156_0, hi156_0⟩ := at_L1 HR0_1.out x6_3 p156 q156
                                               obtain rfl : ad144 = ad156 := (by injection e156)
                                               replace hx156_0 := (HB.out.cell (World.block_lt_of_cell? w _ hx156_0)).trans hx156_0
                                               have HR156_0 := Aside0.mk hi156_0
                                               have HC156_0 := Aside0.mk hl156_0
                                               clear hi156_0 hl156_0
                                               replace p156 := eq_true p156
                                               replace q156 := eq_true q156
                                               have ea_ := Option.some.inj (hx148_0.symm.trans hx156_0)
                                               injection ea_ with ea_ en_ ec_
                                               subst ea_
                                               subst ec_
                                               clear en_
                                               have p158 : 0 ≤ (t157 : Int) := of_decide_eq_true (by first | (with_reducible assumption) | assumption)
                                               have q158 : t157 < ((rd_L1 l0_1 x6_3).length : Int) := of_decide_eq_true (by first | (with_reducible assumption) | assumption)
                                               obtain ⟨ad158, e158, hx158_0⟩ := Kd.at_int HR156_0.out t157 p158 q158
                                               cases e158
                                               replace hx158_0 := (HB.out.cell (World.block_lt_of_cell? w _ hx158_0)).trans hx158_0
                                               replace p158 := eq_true p158
                                               replace q158 := eq_true q158
                                               have p159 : 0 ≤ (x6_3 : Int) := of_decide_eq_true (by first | (with_reducible assumption) | assumption)
                                               have q159 : x6_3 < (l0_1.length : Int) := of_decide_eq_true (by first | (with_reducible assumption) | assumption)
                                               obtain ⟨ad159, A159_0, c159_0, e159, hx159_0, hl159_0, hi159_0⟩ := at_L1 HR0_1.out x6_3 p159 q159
                                               obtain rfl : ad144 = ad159 := (by injection e159)
                                               replace hx159_0 := (HB.out.cell (World.block_lt_of_cell? w _ hx159_0)).trans hx159_0
                                               have HR159_0 := Aside0.mk hi159_0
                                               have HC159_0 := Aside0.mk hl159_0
                                               clear hi159_0 hl159_0
                                               replace p159 := eq_true p159
                                               replace q159 := eq_true q159
                                               have ea_ := Option.some.inj (hx148_0.symm.trans hx159_0)
                                               injection ea_ with ea_ en_ ec_
                                               subst ea_
                                               subst ec_
                                               clear en_
                                               have p160 : 0 ≤ (x7_5 : Int) := of_decide_eq_true (by first | (with_reducible assumption) | assumption)
                                               have q160 : x7_5 < ((rd_L1 l0_1 x6_3).length : Int) := of_decide_eq_true (by first | (with_reducible assumption) | assumption)
                                               obtain ⟨ad160, e160, hx160_0⟩ := Kd.at_int HR159_0.out x7_5 p160 q160
                                               cases e160
                                               replace hx160_0 := (HB.out.cell (World.block_lt_of_cell? w _ hx160_0)).trans hx160_0
                                               replace p160 := eq_true p160
                                               replace q160 := eq_true q160
                                               have p161 : 0 ≤ (x6_3 : Int) := of_decide_eq_true (by first | (with_reducible assumption) | assumption)
                                               have q161 : x6_3 < (l0_1.length : Int) := of_decide_eq_true (by first | (with_reducible assumption) | assumption)
                                               obtain ⟨ad161, A161_0, c161_0, e161, hx161_0, hl161_0, hi161_0⟩ := at_L1 HR0_1.out x6_3 p161 q161
                                               obtain rfl : ad144 = ad161 := (by injection e161)
                                               replace hx161_0 := (HB.out.cell (World.block_lt_of_cell? w _ hx161_0)).trans hx161_0
                                               have HR161_0 := Aside0.mk hi161_0
                                               have HC161_0 := Aside0.mk hl161_0
                                               clear hi161_0 hl161_0
                                               replace p161 := eq_true p161
                                               replace q161 := eq_true q161
                                               have ea_ := Option.some.inj (hx148_0.symm.trans hx161_0)
                                               have p162 : 0 ≤ (x8_6 : Int) := of_decide_eq_true (by first | (with_reducible assumption) | assumption)
                                               have q162 : x8_6 < ((rd_L1 l0_1 x6_3).length : Int) := of_decide_eq_true (by first | (with_reducible assumption) | assumption)
                                               obtain ⟨ad162, e162, hx162_0⟩ := Kd.at_int HR161_0.out x8_6 p162 q162
                                               cases e162
                                               replace hx162_0 := (HB.out.cell (World.block_lt_of_cell? w _ hx162_0)).trans hx162_0
                                               replace p162 := eq_true p162
                                               replace q162 := eq_true q162
                                               as_aux_lemma =>
                                                go_wp2_with (first | (go_at_call 60; (with_reducible refine (spec_join.calls k6 _ _ l0_0 x7_5 x8_6 t157 _ ?side1 ?side2 A60.out).mono ?_); (case side1 => repeat (first | exact (Kd.C_below HR0_0.out HB.out) | (with_reducible refine Kd.C_alloc ?_ _) | (with_reducible refine Kd.C_drewN ?_ _) | (with_reducible refine Kd.C_drew ?_))); (case side2 => exact HC0_0.out); rintro e w' ⟨rfl, ⟨nd, rfl⟩⟩; (try first | exact ⟨rfl, _, World.drewN_drewN _ _ _⟩ | exact ⟨rfl, _, Eq.trans (World.drewN_drewN _ _ _) (congrArg (World.drewN _) (Nat.add_assoc _ _ _))⟩)) | (go_at_call 60; (with_reducible refine (spec_join.calls k6 _ _ l0_0 (rd (rd_L1 l0_1 x6_3) x7_5) (rd (rd_L1 l0_1 x6_3) x8_6) t163 _ ?side1 ?side2 A64.out).mono ?_); (case side1 => repeat (first | exact (Kd.C_below HR0_0.out (by repeat (first | (with_reducible first | exact HB.out | apply below_alloc | apply pw_below_drewN | apply below_drew1 | refine below_set ?_ GE134.out) | exact HB.out))) | (with_reducible refine Kd.C_alloc ?_ _) | (with_reducible refine Kd.C_drewN ?_ _) | (with_reducible refine Kd.C_drew ?_))); (case side2 => exact HC0_0.out); rintro e w' ⟨rfl, ⟨nd, rfl⟩⟩; (try first | exact ⟨rfl, _, World.drewN_drewN _ _ _⟩ | exact ⟨rfl, _, Eq.trans (World.drewN_drewN _ _ _) (congrArg (World.drewN _) (Nat.add_assoc _ _ _))⟩)))
                                                repeat ((refine wp_region_quiet_lit ?_ ?_ ?_; kernel_rfl; kernel_rfl; (repeat (first | go_big_quiet_step (first | (go_at_call 60; (with_reducible refine (spec_join.calls k6 _ _ l0_0 x7_5 x8_6 t157 _ ?side1 ?side2 A60.out).mono ?_); (case side1 => repeat (first | exact (Kd.C_below HR0_0.out HB.out) | (with_reducible refine Kd.C_alloc ?_ _) | (with_reducible refine Kd.C_drewN ?_ _) | (with_reducible refine Kd.C_drew ?_))); (case side2 => exact HC0_0.out); rintro e w' ⟨rfl, ⟨nd, rfl⟩⟩; (try first | exact ⟨rfl, _, World.drewN_drewN _ _ _⟩ | exact ⟨rfl, _, Eq.trans (World.drewN_drewN _ _ _) (congrArg (World.drewN _) (Nat.add_assoc _ _ _))⟩)) | (go_at_call 60; (with_reducible refine (spec_join.calls k6 _ _ l0_0 (rd (rd_L1 l0_1 x6_3) x7_5) (rd (rd_L1 l0_1 x6_3) x8_6) t163 _ ?side1 ?side2 A64.out).mono ?_); (case side1 => repeat (first | exact (Kd.C_below HR0_0.out (by repeat (first | (with_reducible first | exact HB.out | apply below_alloc | apply pw_below_drewN | apply below_drew1 | refine below_set ?_ GE134.out) | exact HB.out))) | (with_reducible refine Kd.C_alloc ?_ _) | (with_reducible refine Kd.C_drewN ?_ _) | (with_reducible refine Kd.C_drew ?_))); (case side2 => exact HC0_0.out); rintro e w' ⟨rfl, ⟨nd, rfl⟩⟩; (try first | exact ⟨rfl, _, World.drewN_drewN _ _ _⟩ | exact ⟨rfl, _, Eq.trans (World.drewN_drewN _ _ _) (congrArg (World.drewN _) (Nat.add_assoc _ _ _))⟩))) | (refine wpQuiet_step (fun K hK => ?_); go_simp; refine hK _ ?_; clear hK K))); refine wpQuiet_nil ?_; intro _ hw'; obtain ⟨nq, hw''⟩ := hw'; subst hw''); try go_wp2_with (first | (go_at_call 60; (with_reducible refine (spec_join.calls k6 _ _ l0_0 x7_5 x8_6 t157 _ ?side1 ?side2 A60.out).mono ?_); (case side1 => repeat (first | exact (Kd.C_below HR0_0.out HB.out) | (with_reducible refine Kd.C_alloc ?_ _) | (with_reducible refine Kd.C_drewN ?_ _) | (with_reducible refine Kd.C_drew ?_))); (case side2 => exact HC0_0.out); rintro e w' ⟨rfl, ⟨nd, rfl⟩⟩; (try first | exact ⟨rfl, _, World.drewN_drewN _ _ _⟩ | exact ⟨rfl, _, Eq.trans (World.drewN_drewN _ _ _) (congrArg (World.drewN _) (Nat.add_assoc _ _ _))⟩)) | (go_at_call 60; (with_reducible refine (spec_join.calls k6 _ _ l0_0 (rd (rd_L1 l0_1 x6_3) x7_5) (rd (rd_L1 l0_1 x6_3) x8_6) t163 _ ?side1 ?side2 A64.out).mono ?_); (case side1 => repeat (first | exact (Kd.C_below HR0_0.out (by repeat (first | (with_reducible first | exact HB.out | apply below_alloc | apply pw_below_drewN | apply below_drew1 | refine below_set ?_ GE134.out) | exact HB.out))) | (with_reducible refine Kd.C_alloc ?_ _) | (with_reducible refine Kd.C_drewN ?_ _) | (with_reducible refine Kd.C_drew ?_))); (case side2 => exact HC0_0.out); rintro e w' ⟨rfl, ⟨nd, rfl⟩⟩; (try first | exact ⟨rfl, _, World.drewN_drewN _ _ _⟩ | exact ⟨rfl, _, Eq.trans (World.drewN_drewN _ _ _) (congrArg (World.drewN _) (Nat.add_assoc _ _ _))⟩))))
                                                go_ret
                                                exact ⟨by first | rfl | (simp [errW_none, errW_some] <;> rfl) | (simp [*, errW_none, errW_some] <;> rfl), by repeat (first | (with_reducible first | exact HB.out | apply below_alloc | apply pw_below_drewN | apply below_drew1 | refine below_set ?_ GE134.out) | exact HB.out)⟩
                                             ·rw [if_neg c63] at H
                                              exact absurd H (by simp)
                                            ·rw [if_neg c62] at H
                                             exact absurd H (by simp)
                                           ·rw [if_neg c61] at H
                                            exact absurd H (by simp)
                                          ·rw [if_neg c59] at H
                                           have c59b0 : ((rd (rd_L1 l0_1 (rd (rd_L1 l0_1 x6_3) x7_5)) x8_6) == (rd (rd_L1 l0_1 x6_3) (rd (rd_L1 l0_1 x7_5) x8_6))) = false := beq_eq_false_iff_ne.mpr c59
                                           have c59b1 : ((rd (rd_L1 l0_1 (rd (rd_L1 l0_1 x6_3) x7_5)) x8_6) != (rd (rd_L1 l0_1 x6_3) (rd (rd_L1 l0_1 x7_5) x8_6))) = true := bne_iff_ne.mpr c59
                                           obtain rfl := Option.some.inj H
                                           have hcz68_0 : wr.cell? ⟨gb134, 0, none⟩ = some (.slice A0_0 l0_0.length c0_0) := (blk_cell BK134.out 0).trans rfl
                                           have hcz68_1 : wr.cell? ⟨gb134, 1, none⟩ = some (.slice (some ad144) l0_1.length c0_1) := (blk_cell BK134.out 1).trans rfl
                                           have hfz68_0 := blk_frozen BK134.out 0
                                           have hfz68_1 := blk_frozen BK134.out 1
                                           have p148 : 0 ≤ (x6_3 : Int) := of_decide_eq_true (by first | (with_reducible assumption) | assumption)
                                           have q148 : x6_3 < (l0_1.length : Int) := of_decide_eq_true (by first | (with_reducible assumption) | assumption)
                                           obtain ⟨ad148, A148_0, c148_0, e148, hx148_0, hl148_0, hi148_0⟩ := at_L1 HR0_1.out x6_3 p148 q148
                                           obtain rfl : ad144 = ad148 := (by injection e148)
                                           replace hx148_0 := (HB.out.cell (World.block_lt_of_cell? w _ hx148_0)).trans hx148_0
                                           have HR148_0 := Aside0.mk hi148_0
                                           have HC148_0 := Aside0.mk hl148_0
                                           clear hi148_0 hl148_0
                                           replace p148 := eq_true p148
                                           replace q148 := eq_true q148
                                           have p149 : 0 ≤ (x7_5 : Int) := of_decide_eq_true (by first | (with_reducible assumption) | assumption)
                                           have q149 : x7_5 < ((rd_L1 l0_1 x6_3).length : Int) := of_decide_eq_true (by first | (with_reducible assumption) | assumption)
                                           obtain ⟨ad149, e149, hx149_0⟩ := Kd.at_int HR148_0.out x7_5 p149 q149
                                           cases e149
                                           replace hx149_0 := (HB.out.cell (World.block_lt_of_cell? w _ hx149_0)).trans hx149_0
                                           replace p149 := eq_true p149
                                           replace q149 := eq_true q149
                                           have p150 : 0 ≤ ((rd (rd_L1 l0_1 x6_3) x7_5) : Int) := of_decide_eq_true (by first | (with_reducible assumption) | assumption)
                                           have q150 : (rd (rd_L1 l0_1 x6_3) x7_5) < (l0_1.length : Int) := of_decide_eq_true (by first | (with_reducible assumption) | assumption)
                                           obtain ⟨ad150, A150_0, c150_0, e150, hx150_0, hl150_0, hi150_0⟩ := at_L1 HR0_1.out (rd (rd_L1 l0_1 x6_3) x7_5) p150 q150
                                           obtain rfl : ad144 = ad150 := (by injection e150)
                                           replace hx150_0 := (HB.out.cell (World.block_lt_of_cell? w _ hx150_0)).trans hx150_0
                                           have HR150_0 := Aside0.mk hi150_0
                                           have HC150_0 := Aside0.mk hl150_0
                                           clear hi150_0 hl150_0
                                           replace p150 := eq_true p150
                                           replace q150 := eq_true q150
                                           have p151 : 0 ≤ (x8_6 : Int) := of_decide_eq_true (by first | (with_reducible assumption) | assumption)
                                           have q151 : x8_6 < ((rd_L1 l0_1 (rd (rd_L1 l0_1 x6_3) x7_5)).length : Int) := of_decide_eq_true (by first | (with_reducible assumption) | assumption)
                                           obtain ⟨ad151, e151, hx151_0⟩ := Kd.at_int HR150_0.out x8_6 p151 q151
                                           cases e151
                                           replace hx151_0 := (HB.out.cell (World.block_lt_of_cell? w _ hx151_0)).trans hx151_0
                                           replace p151 := eq_true p151
                                           replace q151 := eq_true q151
                                           have p152 : 0 ≤ (x6_3 : Int) := of_decide_eq_true (by first | (with_reducible assumption) | assumption)
                                           have q152 : x6_3 < (l0_1.length : Int) := of_decide_eq_true (by first | (with_reducible assumption) | assumption)
                                           obtain ⟨ad152, A152_0, c152_0, e152, hx152_0, hl152_0, hi152_0⟩ := at_L1 HR0_1.out x6_3 p152 q152
                                           obtain rfl : ad144 = ad152 := (by injection e152)
                                           replace hx152_0 := (HB.out.cell (World.block_lt_of_cell? w _ hx152_0)).trans hx152_0
                                           have HR152_0 := Aside0.mk hi152_0
                                           have HC152_0 := Aside0.mk hl152_0
                                           clear hi152_0 hl152_0
                                           replace p152 := eq_true p152
                                           replace q152 := eq_true q152
                                           have ea_ := Option.some.inj (hx148_0.symm.trans hx152_0)
                                           injection ea_ with ea_ en_ ec_
                                           subst ea_
                                           subst ec_
                                           clear en_
                                           have p153 : 0 ≤ (x7_5 : Int) := of_decide_eq_true (by first | (with_reducible assumption) | assumption)
                                           have q153 : x7_5 < (l0_1.length : Int) := of_decide_eq_true (by first | (with_reducible assumption) | assumption)
                                           obtain ⟨ad153, A153_0, c153_0, e153, hx153_0, hl153_0, hi153_0⟩ := at_L1 HR0_1.out x7_5 p153 q153
                                           obtain rfl : ad144 = ad153 := (by injection e153)
                                           replace hx153_0 := (HB.out.cell (World.block_lt_of_cell? w _ hx153_0)).trans hx153_0
                                           have HR153_0 := Aside0.mk hi153_0
                                           have HC153_0 := Aside0.mk hl153_0
                                           clear hi153_0 hl153_0
                                           replace p153 := eq_true p153
                                           replace q153 := eq_true q153
                                           have p154 : 0 ≤ (x8_6 : Int) := of_decide_eq_true (by first | (with_reducible assumption) | assumption)
                                           have q154 : x8_6 < ((rd_L1 l0_1 x7_5).length : Int) := of_decide_eq_true (by first | (with_reducible assumption) | assumption)
                                           obtain ⟨ad154, e154, hx154_0⟩ := Kd.at_int HR153_0.out x8_6 p154 q154
                                           cases e154
                                           replace hx154_0 := (HB.out.cell (World.block_lt_of_cell? w _ hx154_0)).trans hx154_0
                                           replace p154 := eq_true p154
                                           replace q154 := eq_true q154
                                           have p155 : 0 ≤ ((rd (rd_L1 l0_1 x7_5) x8_6) : Int) := of_decide_eq_true (by first | (with_reducible assumption) | assumption)
                                           have q155 : (rd (rd_L1 l0_1 x7_5) x8_6) < ((rd_L1 l0_1 x6_3).length : Int) := of_decide_eq_true (by first | (with_reducible assumption) | assumption)
                                           obtain ⟨ad155, e155, hx155_0⟩ := Kd.at_int HR152_0.out (rd (rd_L1 l0_1 x7_5) x8_6) p155 q155
                                           cases e155
                                           replace hx155_0 := (HB.out.cell (World.block_lt_of_cell? w _ hx155_0)).trans hx155_0
                                           replace p155 := eq_true p155
                                           replace q155 := eq_true q155
                                           as_aux_lemma =>
                                            go_wp2
                                            repeat ((refine wp_region_quiet_lit ?_ ?_ ?_; kernel_rfl; kernel_rfl; (repeat (first | go_big_quiet_step (fail) | (refine wpQuiet_step (fun K hK => ?_); go_simp; refine hK _ ?_; clear hK K))); refine wpQuiet_nil ?_; intro _ hw'; obtain ⟨nq, hw''⟩ := hw'; subst hw''); try go_wp2)
                                            go_ret
                                            exact ⟨by first | rfl | (simp [errW_none, errW_some] <;> rfl) | (simp [*, errW_none, errW_some] <;> rfl), by repeat (first | (with_reducible first | exact HB.out | apply below_alloc | apply pw_below_drewN | apply below_drew1 | refine below_set ?_ GE134.out) | exact HB.out)⟩
                                         ·rw [if_neg c58] at H
                                          exact absurd H (by simp)
                                        ·rw [if_neg c57] at H
                                         exact absurd H (by simp)
                                       ·rw [if_neg c56] at H
                                        exact absurd H (by simp)
                                      ·rw [if_neg c55] at H
                                       exact absurd H (by simp)
                                     ·rw [if_neg c54] at H
                                      exact absurd H (by simp)
                                    ·rw [if_neg c53] at H
                                     exact absurd H (by simp)
                                   ·rw [if_neg c52] at H
                                    exact absurd H (by simp)
                                  ·rw [if_neg c51] at H
                                   exact absurd H (by simp)
                                 ·rw [if_neg c50] at H
                                  exact absurd H (by simp)
                                ·rw [if_neg c49] at H
                                 exact absurd H (by simp)
                               ·rw [if_neg c48] at H
                                exact absurd H (by simp)
                              ·rw [if_neg c47] at H
                               exact absurd H (by simp)
                             ·rw [if_neg c46] at H
                              have c46b0 : decide (x8_6 < (l0_0.length : Int)) = false := decide_eq_false c46
                              clear c46
                              have H' := Aside0.mk H
                              clear H
                              as_aux_lemma =>
                               go_wp2
                               repeat ((refine wp_region_quiet_lit ?_ ?_ ?_; kernel_rfl; kernel_rfl; (repeat (first | go_big_quiet_step (fail) | (refine wpQuiet_step (fun K hK => ?_); go_simp; refine hK _ ?_; clear hK K))); refine wpQuiet_nil ?_; intro _ hw'; obtain ⟨nq, hw''⟩ := hw'; subst hw''); try go_wp2)
                               go_roundg k6
                               case measure => have := HJ1.out; have := HK2.out; have := HK3.out; have := HJ25.out; have := HK5.out; have := HK6.out; omega
                               case rel => exact ⟨(wrap64 (x7_5 + 1)), (by first | rfl | (simp; done) | (simp [*]; done)), H', ⟨by have := HJ1.out; have := HK2.out; have := HK3.out; have := HJ25.out; have := HK5.out; have := HK6.out; omega⟩, ⟨by (with_reducible repeat (first | refine blk_drewN ?_ _ | refine blk_drew ?_ | refine blk_alloc ?_ _)); exact BK134.out⟩, ⟨by repeat (first | (with_reducible first | exact HB.out | apply below_alloc | apply pw_below_drewN | apply below_drew1 | refine below_set ?_ GE134.out) | exact HB.out)⟩⟩
                         ·rw [if_neg c44] at H
                          have c44b0 : ((rd (rd_L1 l0_1 x6_3) x7_5) == (rd (rd_L1 l0_1 x7_5) x6_3)) = false := beq_eq_false_iff_ne.mpr c44
                          have c44b1 : ((rd (rd_L1 l0_1 x6_3) x7_5) != (rd (rd_L1 l0_1 x7_5) x6_3)) = true := bne_iff_ne.mpr c44
                          obtain rfl := Option.some.inj H
                          have hcz69_0 : wr.cell? ⟨gb134, 0, none⟩ = some (.slice A0_0 l0_0.length c0_0) := (blk_cell BK134.out 0).trans rfl
                          have hcz69_1 : wr.cell? ⟨gb134, 1, none⟩ = some (.slice A0_1 l0_1.length c0_1) := (blk_cell BK134.out 1).trans rfl
                          have hfz69_0 := blk_frozen BK134.out 0
                          have hfz69_1 := blk_frozen BK134.out 1
                          have p144 : 0 ≤ (x6_3 : Int) := of_decide_eq_true (by first | (with_reducible assumption) | assumption)
                          have q144 : x6_3 < (l0_1.length : Int) := of_decide_eq_true (by first | (with_reducible assumption) | assumption)
                          obtain ⟨ad144, A144_0, c144_0, e144, hx144_0, hl144_0, hi144_0⟩ := at_L1 HR0_1.out x6_3 p144 q144
                          cases e144
                          replace hx144_0 := (HB.out.cell (World.block_lt_of_cell? w _ hx144_0)).trans hx144_0
                          have HR144_0 := Aside0.mk hi144_0
                          have HC144_0 := Aside0.mk hl144_0
                          clear hi144_0 hl144_0
                          replace p144 := eq_true p144
                          replace q144 := eq_true q144
                          have p145 : 0 ≤ (x7_5 : Int) := of_decide_eq_true (by first | (with_reducible assumption) | assumption)
                          have q145 : x7_5 < ((rd_L1 l0_1 x6_3).length : Int) := of_decide_eq_true (by first | (with_reducible assumption) | assumption)
                          obtain ⟨ad145, e145, hx145_0⟩ := Kd.at_int HR144_0.out x7_5 p145 q145
                          cases e145
                          replace hx145_0 := (HB.out.cell (World.block_lt_of_cell? w _ hx145_0)).trans hx145_0
                          replace p145 := eq_true p145
                          replace q145 := eq_true q145
                          have p146 : 0 ≤ (x7_5 : Int) := of_decide_eq_true (by first | (with_reducible assumption) | assumption)
                          have q146 : x7_5 < (l0_1.length : Int) := of_decide_eq_true (by first | (with_reducible assumption) | assumption)
                          obtain ⟨ad146, A146_0, c146_0, e146, hx146_0, hl146_0, hi146_0⟩ := at_L1 HR0_1.out x7_5 p146 q146
                          obtain rfl : ad144 = ad146 := (by injection e146)
                          replace hx146_0 := (HB.out.cell (World.block_lt_of_cell? w _ hx146_0)).trans hx146_0
                          have HR146_0 := Aside0.mk hi146_0
                          have HC146_0 := Aside0.mk hl146_0
                          clear hi146_0 hl146_0
                          replace p146 := eq_true p146
                          replace q146 := eq_true q146
                          have p147 : 0 ≤ (x6_3 : Int) := of_decide_eq_true (by first | (with_reducible assumption) | assumption)
                          have q147 : x6_3 < ((rd_L1 l0_1 x7_5).length : Int) := of_decide_eq_true (by first | (with_reducible assumption) | assumption)
                          obtain ⟨ad147, e147, hx147_0⟩ := Kd.at_int HR146_0.out x6_3 p147 q147
                          cases e147
                          replace hx147_0 := (HB.out.cell (World.block_lt_of_cell? w _ hx147_0)).trans hx147_0
                          replace p147 := eq_true p147
                          replace q147 := eq_true q147
                          as_aux_lemma =>
                           go_wp2
                           repeat ((refine wp_region_quiet_lit ?_ ?_ ?_; kernel_rfl; kernel_rfl; (repeat (first | go_big_quiet_step (fail) | (refine wpQuiet_step (fun K hK => ?_); go_simp; refine hK _ ?_; clear hK K))); refine wpQuiet_nil ?_; intro _ hw'; obtain ⟨nq, hw''⟩ := hw'; subst hw''); try go_wp2)
                           go_ret
                           exact ⟨by first | rfl | (simp [errW_none, errW_some] <;> rfl) | (simp [*, errW_none, errW_some] <;> rfl), by repeat (first | (with_reducible first | exact HB.out | apply below_alloc | apply pw_below_drewN | apply below_drew1 | refine below_set ?_ GE134.out) | exact HB.out)⟩
                        ·rw [if_neg c43] at H
                         exact absurd H (by simp)
                       ·rw [if_neg c42] at H
                        exact absurd H (by simp)
                      ·rw [if_neg c41] at H
                       exact absurd H (by simp)
                     ·rw [if_neg c40] at H
                      exact absurd H (by simp)
                    ·rw [if_neg c39] at H
                     exact absurd H (by simp)
                   ·rw [if_neg c38] at H
                    exact absurd H (by simp)
                  ·rw [if_neg c37] at H
                   have c37b0 : decide (x7_5 < (l0_0.length : Int)) = false := decide_eq_false c37
                   clear c37
                   have H' := Aside0.mk H
                   clear H
                   as_aux_lemma =>
                    go_wp2
                    repeat ((refine wp_region_quiet_lit ?_ ?_ ?_; kernel_rfl; kernel_rfl; (repeat (first | go_big_quiet_step (fail) | (refine wpQuiet_step (fun K hK => ?_); go_simp; refine hK _ ?_; clear hK K))); refine wpQuiet_nil ?_; intro _ hw'; obtain ⟨nq, hw''⟩ := hw'; subst hw''); try go_wp2)
                    go_roundg k5
                    case measure => have := HJ1.out; have := HK2.out; have := HK3.out; have := HJ25.out; have := HK5.out; omega
                    case rel => exact ⟨(wrap64 (x6_3 + 1)), (by first | rfl | (simp; done) | (simp [*]; done)), H', ⟨by have := HJ1.out; have := HK2.out; have := HK3.out; have := HJ25.out; have := HK5.out; omega⟩, ⟨by (with_reducible repeat (first | refine blk_drewN ?_ _ | refine blk_drew ?_ | refine blk_alloc ?_ _)); exact BK134.out⟩, ⟨by repeat (first | (with_reducible first | exact HB.out | apply below_alloc | apply pw_below_drewN | apply below_drew1 | refine below_set ?_ GE134.out) | exact HB.out)⟩⟩
           ·rw [if_neg c25] at H
            have c25b0 : decide (x6_3 < (l0_0.length : Int)) = false := decide_eq_false c25
            clear c25
            obtain rfl := Option.some.inj H
            as_aux_lemma =>
             go_wp2
             repeat ((refine wp_region_quiet_lit ?_ ?_ ?_; kernel_rfl; kernel_rfl; (repeat (first | go_big_quiet_step (fail) | (refine wpQuiet_step (fun K hK => ?_); go_simp; refine hK _ ?_; clear hK K))); refine wpQuiet_nil ?_; intro _ hw'; obtain ⟨nq, hw''⟩ := hw'; subst hw''); try go_wp2)
             go_ret
             exact ⟨by first | rfl | (simp [errW_none, errW_some] <;> rfl) | (simp [*, errW_none, errW_some] <;> rfl), by repeat (first | (with_reducible first | exact HB.out | apply below_alloc | apply pw_below_drewN | apply below_drew1 | refine below_set ?_ GE134.out) | exact HB.out)⟩

end Go.Proofs.Ytomapoenndlbiaa.P

-- shrunk
