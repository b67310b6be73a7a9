-- Printed by this session's wip/print2.py (the kit's print.py, widened) out of the translation. Lean checks it.
import Derived.Test.YtjidbgmkhapklaaP0
import Derived.Test.YtjidbgmkhapklaaP22
import Derived.Test.YtjidbgmkhapklaaP25
import Derived.Test.YtjidbgmkhapklaaP27
namespace Go.Proofs.Ytjidbgmkhapklaa.P
open Go.RowKit Go.Proofs.YtjidbgmkhapklaaW.PrintWords Go.Proofs.YtjidbgmkhapklaaW.PrintLast Go.Proofs.YtjidbgmkhapklaaW.PrintMore
attribute [local go_sem] max2_int min2_int max_two min_two max_three min_three max_four min_four   -- for this text's walks alone
set_option linter.unusedVariables false
set_option linter.unusedSimpArgs false

/-! ### impl_StackAlgebras: function 28 -/
def impl_StackAlgebras.j0 : Nat → Bool → List Int → List (List Int) → List Int → List (List Int) → Option (List Int × (List (List Int)) × Bool)
 | 0, _, _, _, _, _ => none
 | k + 1, x24, x333000, x333001, x334000, x334001 => if x24 = true then (some (([] : List Int), ([] : List (List Int)), false)) else ((impl_stack.f k x333000 x333001 x334000 x334001).bind fun bt337 => ((impl_algebraOr.f k bt337.1 bt337.2).bind fun bt343 => (some (bt343.1, bt343.2.1, bt343.2.2))))
def impl_StackAlgebras.f (k : Nat) (l0_0 : List Int) (l0_1 : List (List Int)) (l1_0 : List Int) (l1_1 : List (List Int)) : Option (List Int × (List (List Int)) × Bool) := (impl_ValidAlgebra.f k l0_0 l0_1).bind fun t335 => (if t335 = true then ((impl_ValidAlgebra.f k l1_0 l1_1).bind fun t336 => (if t336 = true then (impl_StackAlgebras.j0 k (decide ((wrap64 ((wrap64 ((l0_0.length : Int) - 1)) + (l1_0.length : Int))) > 6)) l0_0 l0_1 l1_0 l1_1) else (impl_StackAlgebras.j0 k true l0_0 l0_1 l1_0 l1_1))) else (impl_StackAlgebras.j0 k true l0_0 l0_1 l1_0 l1_1))
set_option maxHeartbeats 8000000 in
set_option maxRecDepth 100000 in
theorem impl_StackAlgebras.calls (k : Nat) (A0_0 : Option Addr) (c0_0 : Nat) (l0_0 : List Int) (A0_1 : Option Addr) (c0_1 : Nat) (l0_1 : List (List Int)) (A1_0 : Option Addr) (c1_0 : Nat) (l1_0 : List Int) (A1_1 : Option Addr) (c1_1 : Nat) (l1_1 : List (List Int)) (r1 : List Int) (r2 : List (List Int)) (r3 : Bool) (w : World) (hr0_0 : Kd.C (Kd.int .i64) w A0_0 l0_0.length l0_0) (hc0_0 : l0_0.length ≤ c0_0) (hr0_1 : Kd.C (Kd.slice 3 (Kd.int .i64)) w A0_1 l0_1.length l0_1) (hc0_1 : l0_1.length ≤ c0_1) (hr1_0 : Kd.C (Kd.int .i64) w A1_0 l1_0.length l1_0) (hc1_0 : l1_0.length ≤ c1_0) (hr1_1 : Kd.C (Kd.slice 3 (Kd.int .i64)) w A1_1 l1_1.length l1_1) (hc1_1 : l1_1.length ≤ c1_1) (h : impl_StackAlgebras.f k l0_0 l0_1 l1_0 l1_1 = some (r1, r2, r3)) :
  Calls Try.prog 28 #[.agg #[.slice A0_0 l0_0.length c0_0, .slice A0_1 l0_1.length c0_1], .agg #[.slice A1_0 l1_0.length c1_0, .slice A1_1 l1_1.length c1_1]] w fun e w' => ∃ v0_ v1_ : Value, e = .returned (.tuple #[.agg #[v0_, v1_], .bool r3]) ∧ Kd.R (Kd.int .i64) 3 w' w.heap.size (fun _ => True) v0_ r1 ∧ Kd.S (Kd.slice 3 (Kd.int .i64)) 22 w' w.heap.size (fun k_ => some k_ ≠ (v0_ : Value).ownBlock) v1_ r2 ∧ Below w.heap.size w w' := by
 have hu25 := Try.underlying25
 have HR0_0 := ak hr0_0
 have HC0_0 := ak hc0_0
 clear hr0_0 hc0_0
 have HR0_1 := ak hr0_1
 have HC0_1 := ak hc0_1
 clear hr0_1 hc0_1
 have HR1_0 := ak hr1_0
 have HC1_0 := ak hc1_0
 clear hr1_0 hc1_0
 have HR1_1 := ak hr1_1
 have HC1_1 := ak hc1_1
 clear hr1_1 hc1_1
 have HB := ak (Below.refl w.heap.size w)
 have H : ((impl_ValidAlgebra.f k l0_0 l0_1).bind fun t335 => (if t335 = true then ((impl_ValidAlgebra.f k l1_0 l1_1).bind fun t336 => (if t336 = true then (impl_StackAlgebras.j0 k (decide ((wrap64 ((wrap64 ((l0_0.length : Int) - 1)) + (l1_0.length : Int))) > 6)) l0_0 l0_1 l1_0 l1_1) else (impl_StackAlgebras.j0 k true l0_0 l0_1 l1_0 l1_1))) else (impl_StackAlgebras.j0 k true l0_0 l0_1 l1_0 l1_1))) = some (r1, r2, r3) := h
 clear h
 have HC3 := ak H
 clear H
 go_enter Try.func28, Try.ntmps28
 go_upto_region 1 with (first | ((with_reducible refine gate_dst (N := 2) rfl ?_); (try (refine gate_guard (by rfl) ?_; dsimp only)); refine box_event ?hg (N := 2) ?hd (cs := #[.slice A0_0 l0_0.length c0_0, .slice A0_1 l0_1.length c0_1]) (t := 25) ?hr ?_; (case hd => rfl); (case hg => rfl); (case hr => first | (go_simp; done) | (go_simp; rfl)); intro gb332 hg w4 hbox hb; have BK332 := ak (hbox); have GW332 := ak ((by rw [hg]; exact (below_size (bB HB.out)) : w.heap.size ≤ gb332)); have GE332 := ak ((by rw [hg]; exact (below_size (bB HB.out)) : w.heap.size ≤ gb332)); replace HB := ak (below_step (bB HB.out) hb); clear hb hbox hg) | ((with_reducible refine gate_dst (N := 3) rfl ?_); (try (refine gate_guard (by rfl) ?_; dsimp only)); refine box_event ?hg (N := 3) ?hd (cs := #[.slice A1_0 l1_0.length c1_0, .slice A1_1 l1_1.length c1_1]) (t := 25) ?hr ?_; (case hd => rfl); (case hg => rfl); (case hr => first | (go_simp; done) | (go_simp; rfl)); intro gb333 hg w5 hbox hb; have BK333 := ak (hbox); have GW333 := ak ((by rw [hg]; exact (below_size (bB HB.out)) : w.heap.size ≤ gb333)); have GE333 := ak ((by rw [hg]; exact (below_size (bB HB.out)) : w.heap.size ≤ gb333)); replace HB := ak (below_step (bB HB.out) hb); have NB332_333 := ak ((ne_box hg (kK BK332.out))); have NB333_332 := ak ((ne_box' hg (kK BK332.out))); replace BK332 := ak (blk_below (kK BK332.out) hb); clear hb hbox hg) | ((with_reducible refine gate_dst (N := 4) rfl ?_); (try (refine gate_guard (by rfl) ?_; dsimp only)); refine box_event ?hg (N := 4) ?hd (cs := #[.slice none 0 0, .slice none 0 0]) (t := 25) ?hr ?_; (case hd => rfl); (case hg => rfl); (case hr => first | (go_simp; done) | (go_simp; rfl)); intro gb334 hg w6 hbox hb; have BK334 := ak (hbox); have GW334 := ak ((by rw [hg]; exact (below_size (bB HB.out)) : w.heap.size ≤ gb334)); have GE334 := ak ((by rw [hg]; exact (below_size (bB HB.out)) : w.heap.size ≤ gb334)); replace HB := ak (below_step (bB HB.out) hb); have NB332_334 := ak ((ne_box hg (kK BK332.out))); have NB334_332 := ak ((ne_box' hg (kK BK332.out))); replace BK332 := ak (blk_below (kK BK332.out) hb); have NB333_334 := ak ((ne_box hg (kK BK333.out))); have NB334_333 := ak ((ne_box' hg (kK BK333.out))); replace BK333 := ak (blk_below (kK BK333.out) hb); clear hb hbox hg))
 (try simp only [Act.put, List.setIfInBounds_toArray, List.set_cons_zero, List.set_cons_succ])
 go_cut [24] (fun v24 wc => ∃ (kq : Nat) (x24_2 : Bool), v24 = .bool x24_2 ∧ Aside0 (impl_StackAlgebras.j0 kq x24_2 l0_0 l0_1 l1_0 l1_1 = some (r1, r2, r3)) ∧ Aside0 (kq ≤ k) ∧ Aside0 (wc.heap[gb332]? = some (.cells #[(.slice A0_0 l0_0.length c0_0), (.slice A0_1 l0_1.length c0_1)] 25 (0, 0))) ∧ Aside0 (wc.heap[gb333]? = some (.cells #[(.slice A1_0 l1_0.length c1_0), (.slice A1_1 l1_1.length c1_1)] 25 (0, 0))) ∧ Aside0 (wc.heap[gb334]? = some (.cells #[(.slice none 0 0), (.slice none 0 0)] 25 (0, 0))) ∧ Aside0 (Below w.heap.size w wc))
 case first =>
  have H := HC3.out
  clear HC3
  replace H := bi H
  obtain ⟨t335, A70, H⟩ := H
  try dsimp only at H
  have A7 := ak A70
  clear A70
  by_cases c8 : t335 = true
  rotate_left
  ·replace c8 := Bool.eq_false_iff.mpr c8
   subst c8
   rw [if_neg (show ¬ (false = true) by decide)] at H
   have H' := ak H
   clear H
   have hnb27 := NB332_333.out
   have hnc27 := NB333_332.out
   have hnb28 := NB332_334.out
   have hnc28 := NB334_332.out
   have hcz29_0 : w6.cell? ⟨gb332, 0, none⟩ = some (.slice A0_0 l0_0.length c0_0) := (blk_cell BK332.out 0).trans rfl
   have hcz29_1 : w6.cell? ⟨gb332, 1, none⟩ = some (.slice A0_1 l0_1.length c0_1) := (blk_cell BK332.out 1).trans rfl
   have hfz29_0 := blk_frozen BK332.out 0
   have hfz29_1 := blk_frozen BK332.out 1
   go_wp2_with (first | ((with_reducible refine gate_callee (f := 33) rfl ?_); refine goesL_ (some 7) rfl rfl Try.func33 (by kernel_rfl) rfl #[.agg #[.slice A0_0 l0_0.length c0_0, .slice A0_1 l0_1.length c0_1]] rfl (by (try simp only [List.map_toArray, List.map_cons, List.map_nil]); first | done | rfl | (simp only [List.length_drop, List.length_take]; rfl)) ?_; (with_reducible refine (impl_ValidAlgebra.calls k _ _ l0_0 _ _ l0_1 false _ ?side1 ?side2 ?side3 ?side4 A7.out).mono ?_); (case side1 => exact kC (Kd.C_below HR0_0.out HB.out)); (case side2 => exact HC0_0.out); (case side3 => exact kC (Kd.C_below HR0_1.out HB.out)); (case side4 => exact HC0_1.out); rintro e w30 ⟨rfl, hb⟩; refine ⟨_, rfl, ?_⟩; replace BK332 := ak (blk_below (kK BK332.out) hb); replace BK333 := ak (blk_below (kK BK333.out) hb); replace BK334 := ak (blk_below (kK BK334.out) hb); replace HB := ak (below_step (bB HB.out) hb); (try clear hb); (try clear hb2); (try clear hk); (try clear hi)))
   go_meet
   case rel => exact ⟨_, (true), (by first | rfl | (simp; done) | (simp [*]; done)), H', ⟨by first | omega | exact Nat.le_refl _⟩, ⟨by (with_reducible repeat (first | refine blk_drewN ?_ _ | refine blk_drew ?_ | refine blk_alloc ?_ _)); exact BK332.out⟩, ⟨by (with_reducible repeat (first | refine blk_drewN ?_ _ | refine blk_drew ?_ | refine blk_alloc ?_ _)); exact BK333.out⟩, ⟨by (with_reducible repeat (first | refine blk_drewN ?_ _ | refine blk_drew ?_ | refine blk_alloc ?_ _)); exact BK334.out⟩, ⟨by repeat (first | (with_reducible first | exact HB.out | apply below_alloc | apply pw_below_drewN | apply below_drew1 | refine below_set ?_ GE332.out | refine below_set ?_ GE333.out | refine below_set ?_ GE334.out) | exact HB.out)⟩⟩
  subst c8
  rw [if_pos rfl] at H
  replace H := bi H
  obtain ⟨t336, A90, H⟩ := H
  try dsimp only at H
  have A9 := ak A90
  clear A90
  by_cases c10 : t336 = true
  ·subst c10
   rw [if_pos rfl] at H
   have H' := ak H
   clear H
   have hnb11 := NB332_333.out
   have hnc11 := NB333_332.out
   have hnb12 := NB332_334.out
   have hnc12 := NB334_332.out
   have hcz13_0 : w6.cell? ⟨gb332, 0, none⟩ = some (.slice A0_0 l0_0.length c0_0) := (blk_cell BK332.out 0).trans rfl
   have hcz13_1 : w6.cell? ⟨gb332, 1, none⟩ = some (.slice A0_1 l0_1.length c0_1) := (blk_cell BK332.out 1).trans rfl
   have hfz13_0 := blk_frozen BK332.out 0
   have hfz13_1 := blk_frozen BK332.out 1
   go_wp2_with (first | ((with_reducible refine gate_callee (f := 33) rfl ?_); refine goesL_ (some 7) rfl rfl Try.func33 (by kernel_rfl) rfl #[.agg #[.slice A0_0 l0_0.length c0_0, .slice A0_1 l0_1.length c0_1]] rfl (by (try simp only [List.map_toArray, List.map_cons, List.map_nil]); first | done | rfl | (simp only [List.length_drop, List.length_take]; rfl)) ?_; (with_reducible refine (impl_ValidAlgebra.calls k _ _ l0_0 _ _ l0_1 true _ ?side1 ?side2 ?side3 ?side4 A7.out).mono ?_); (case side1 => exact kC (Kd.C_below HR0_0.out HB.out)); (case side2 => exact HC0_0.out); (case side3 => exact kC (Kd.C_below HR0_1.out HB.out)); (case side4 => exact HC0_1.out); rintro e w14 ⟨rfl, hb⟩; refine ⟨_, rfl, ?_⟩; replace BK332 := ak (blk_below (kK BK332.out) hb); replace BK333 := ak (blk_below (kK BK333.out) hb); replace BK334 := ak (blk_below (kK BK334.out) hb); replace HB := ak (below_step (bB HB.out) hb); (try clear hb); (try clear hb2); (try clear hk); (try clear hi); have hnb15 := NB333_334.out; have hnc15 := NB334_333.out; have hcz16_0 : w14.cell? ⟨gb333, 0, none⟩ = some (.slice A1_0 l1_0.length c1_0) := (blk_cell BK333.out 0).trans rfl; have hcz16_1 : w14.cell? ⟨gb333, 1, none⟩ = some (.slice A1_1 l1_1.length c1_1) := (blk_cell BK333.out 1).trans rfl; have hfz16_0 := blk_frozen BK333.out 0; have hfz16_1 := blk_frozen BK333.out 1) | (go_at_call 33; (with_reducible refine (impl_ValidAlgebra.calls k _ _ l1_0 _ _ l1_1 true _ ?side1 ?side2 ?side3 ?side4 A9.out).mono ?_); (case side1 => exact kC (Kd.C_below HR1_0.out HB.out)); (case side2 => exact HC1_0.out); (case side3 => exact kC (Kd.C_below HR1_1.out HB.out)); (case side4 => exact HC1_1.out); rintro e w17 ⟨rfl, hb⟩; replace BK332 := ak (blk_below (kK BK332.out) hb); replace BK333 := ak (blk_below (kK BK333.out) hb); replace BK334 := ak (blk_below (kK BK334.out) hb); replace HB := ak (below_step (bB HB.out) hb); (try clear hb); (try clear hb2); (try clear hk); (try clear hi); have hcz18_0 : w17.cell? ⟨gb332, 0, none⟩ = some (.slice A0_0 l0_0.length c0_0) := (blk_cell BK332.out 0).trans rfl; have hcz18_1 : w17.cell? ⟨gb332, 1, none⟩ = some (.slice A0_1 l0_1.length c0_1) := (blk_cell BK332.out 1).trans rfl; have hfz18_0 := blk_frozen BK332.out 0; have hfz18_1 := blk_frozen BK332.out 1; have hcz19_0 : w17.cell? ⟨gb333, 0, none⟩ = some (.slice A1_0 l1_0.length c1_0) := (blk_cell BK333.out 0).trans rfl; have hcz19_1 : w17.cell? ⟨gb333, 1, none⟩ = some (.slice A1_1 l1_1.length c1_1) := (blk_cell BK333.out 1).trans rfl; have hfz19_0 := blk_frozen BK333.out 0; have hfz19_1 := blk_frozen BK333.out 1))
   go_meet
   case rel => exact ⟨_, (decide ((wrap64 ((wrap64 ((l0_0.length : Int) - 1)) + (l1_0.length : Int))) > 6)), (by first | rfl | (simp; done) | (simp [*]; done)), H', ⟨by first | omega | exact Nat.le_refl _⟩, ⟨by (with_reducible repeat (first | refine blk_drewN ?_ _ | refine blk_drew ?_ | refine blk_alloc ?_ _)); exact BK332.out⟩, ⟨by (with_reducible repeat (first | refine blk_drewN ?_ _ | refine blk_drew ?_ | refine blk_alloc ?_ _)); exact BK333.out⟩, ⟨by (with_reducible repeat (first | refine blk_drewN ?_ _ | refine blk_drew ?_ | refine blk_alloc ?_ _)); exact BK334.out⟩, ⟨by repeat (first | (with_reducible first | exact HB.out | apply below_alloc | apply pw_below_drewN | apply below_drew1 | refine below_set ?_ GE332.out | refine below_set ?_ GE333.out | refine below_set ?_ GE334.out) | exact HB.out)⟩⟩
  replace c10 := Bool.eq_false_iff.mpr c10
  subst c10
  rw [if_neg (show ¬ (false = true) by decide)] at H
  have H' := ak H
  clear H
  have hnb20 := NB332_333.out
  have hnc20 := NB333_332.out
  have hnb21 := NB332_334.out
  have hnc21 := NB334_332.out
  have hcz22_0 : w6.cell? ⟨gb332, 0, none⟩ = some (.slice A0_0 l0_0.length c0_0) := (blk_cell BK332.out 0).trans rfl
  have hcz22_1 : w6.cell? ⟨gb332, 1, none⟩ = some (.slice A0_1 l0_1.length c0_1) := (blk_cell BK332.out 1).trans rfl
  have hfz22_0 := blk_frozen BK332.out 0
  have hfz22_1 := blk_frozen BK332.out 1
  go_wp2_with (first | ((with_reducible refine gate_callee (f := 33) rfl ?_); refine goesL_ (some 7) rfl rfl Try.func33 (by kernel_rfl) rfl #[.agg #[.slice A0_0 l0_0.length c0_0, .slice A0_1 l0_1.length c0_1]] rfl (by (try simp only [List.map_toArray, List.map_cons, List.map_nil]); first | done | rfl | (simp only [List.length_drop, List.length_take]; rfl)) ?_; (with_reducible refine (impl_ValidAlgebra.calls k _ _ l0_0 _ _ l0_1 true _ ?side1 ?side2 ?side3 ?side4 A7.out).mono ?_); (case side1 => exact kC (Kd.C_below HR0_0.out HB.out)); (case side2 => exact HC0_0.out); (case side3 => exact kC (Kd.C_below HR0_1.out HB.out)); (case side4 => exact HC0_1.out); rintro e w23 ⟨rfl, hb⟩; refine ⟨_, rfl, ?_⟩; replace BK332 := ak (blk_below (kK BK332.out) hb); replace BK333 := ak (blk_below (kK BK333.out) hb); replace BK334 := ak (blk_below (kK BK334.out) hb); replace HB := ak (below_step (bB HB.out) hb); (try clear hb); (try clear hb2); (try clear hk); (try clear hi); have hnb24 := NB333_334.out; have hnc24 := NB334_333.out; have hcz25_0 : w23.cell? ⟨gb333, 0, none⟩ = some (.slice A1_0 l1_0.length c1_0) := (blk_cell BK333.out 0).trans rfl; have hcz25_1 : w23.cell? ⟨gb333, 1, none⟩ = some (.slice A1_1 l1_1.length c1_1) := (blk_cell BK333.out 1).trans rfl; have hfz25_0 := blk_frozen BK333.out 0; have hfz25_1 := blk_frozen BK333.out 1) | (go_at_call 33; (with_reducible refine (impl_ValidAlgebra.calls k _ _ l1_0 _ _ l1_1 false _ ?side1 ?side2 ?side3 ?side4 A9.out).mono ?_); (case side1 => exact kC (Kd.C_below HR1_0.out HB.out)); (case side2 => exact HC1_0.out); (case side3 => exact kC (Kd.C_below HR1_1.out HB.out)); (case side4 => exact HC1_1.out); rintro e w26 ⟨rfl, hb⟩; replace BK332 := ak (blk_below (kK BK332.out) hb); replace BK333 := ak (blk_below (kK BK333.out) hb); replace BK334 := ak (blk_below (kK BK334.out) hb); replace HB := ak (below_step (bB HB.out) hb); (try clear hb); (try clear hb2); (try clear hk); (try clear hi)))
  go_meet
  case rel => exact ⟨_, (true), (by first | rfl | (simp; done) | (simp [*]; done)), H', ⟨by first | omega | exact Nat.le_refl _⟩, ⟨by (with_reducible repeat (first | refine blk_drewN ?_ _ | refine blk_drew ?_ | refine blk_alloc ?_ _)); exact BK332.out⟩, ⟨by (with_reducible repeat (first | refine blk_drewN ?_ _ | refine blk_drew ?_ | refine blk_alloc ?_ _)); exact BK333.out⟩, ⟨by (with_reducible repeat (first | refine blk_drewN ?_ _ | refine blk_drew ?_ | refine blk_alloc ?_ _)); exact BK334.out⟩, ⟨by repeat (first | (with_reducible first | exact HB.out | apply below_alloc | apply pw_below_drewN | apply below_drew1 | refine below_set ?_ GE332.out | refine below_set ?_ GE333.out | refine below_set ?_ GE334.out) | exact HB.out)⟩⟩
 case rest =>
  clear HC3
  try clear c1
  try clear c2
  try clear p2
  try clear c3
  try clear p6
  try clear c8
  try clear c10
  try clear c11
  try clear c12
  try clear c15
  try clear c20
  try clear c21
  try clear c24
  try clear c27
  try clear c28
  try clear hcz13_0
  try clear hcz13_1
  try clear hcz16_0
  try clear hcz16_1
  try clear hcz18_0
  try clear hcz18_1
  try clear hcz19_0
  try clear hcz19_1
  try clear hcz22_0
  try clear hcz22_1
  try clear hcz25_0
  try clear hcz25_1
  try clear hcz29_0
  try clear hcz29_1
  try clear hfz13_0
  try clear hfz13_1
  try clear hfz16_0
  try clear hfz16_1
  try clear hfz18_0
  try clear hfz18_1
  try clear hfz19_0
  try clear hfz19_1
  try clear hfz22_0
  try clear hfz22_1
  try clear hfz25_0
  try clear hfz25_1
  try clear hfz29_0
  try clear hfz29_1
  obtain ⟨kq, x24_2, rfl, HA, HJ2, BK332, BK333, BK334, HB⟩ := hcut
  cases kq with
  | zero => exact absurd HA.out (by simp [impl_StackAlgebras.j0])
  | succ kj2 =>
   have H := HA.out
   clear HA
   simp only [impl_StackAlgebras.j0] at H
   by_cases c31 : x24_2 = true
   ·subst c31
    rw [if_pos rfl] at H
    simp only [Option.some.injEq, Prod.mk.injEq] at H
    obtain ⟨rfl, rfl, rfl⟩ := H
    have hnb32 := NB334_332.out
    have hnc32 := NB332_334.out
    have hnb33 := NB334_333.out
    have hnc33 := NB333_334.out
    have hcz34_0 : wc.cell? ⟨gb334, 0, none⟩ = some (.slice none 0 0) := (blk_cell BK334.out 0).trans rfl
    have hcz34_1 : wc.cell? ⟨gb334, 1, none⟩ = some (.slice none 0 0) := (blk_cell BK334.out 1).trans rfl
    have hfz34_0 := blk_frozen BK334.out 0
    have hfz34_1 := blk_frozen BK334.out 1
    go_wp2
    refine bodyPost_ret (results_ct rfl _ _ gb334 25 #[.slice none 0 0, .slice none 0 0] (0, 0) _ rfl (by (with_reducible repeat (first | refine blk_drewN ?_ _ | refine blk_drew ?_ | refine blk_alloc ?_ _)); refine blk_put (cs := #[.slice none 0 0, .slice none 0 0]) ?_ 1 _ rfl; (with_reducible repeat (first | refine blk_drewN ?_ _ | refine blk_drew ?_ | refine blk_alloc ?_ _)); refine blk_put (cs := #[.slice none 0 0, .slice none 0 0]) ?_ 0 _ rfl; (with_reducible repeat (first | refine blk_drewN ?_ _ | refine blk_drew ?_ | refine blk_alloc ?_ _)); exact BK334.out) Try.underlying25 rfl (by kernel_rfl)) rfl ?_
    exact ⟨_, _, by first | rfl | (simp [errW_none, errW_some] <;> rfl) | (simp [*, errW_none, errW_some] <;> rfl), by first | exact Kd.R_nil _ _ _ _ _ | exact Kd.N_nil _ _ _ _ _ | exact Kd.V_nil _ _ _ _ _ | exact Kd.Q_nil _ _ _ _ _ | exact Kd.S_nil _ _ _ _ _, by first | exact Kd.S_nil _ _ _ _ _ | exact Kd.N_nil _ _ _ _ _ | exact Kd.V_nil _ _ _ _ _ | exact Kd.Q_nil _ _ _ _ _ | exact Kd.R_nil _ _ _ _ _, by repeat (first | (with_reducible first | exact HB.out | apply below_alloc | apply pw_below_drewN | apply below_drew1 | refine below_set ?_ GE332.out | refine below_set ?_ GE333.out | refine below_set ?_ GE334.out) | exact HB.out)⟩
   replace c31 := Bool.eq_false_iff.mpr c31
   subst c31
   rw [if_neg (show ¬ (false = true) by decide)] at H
   replace H := bi H
   obtain ⟨⟨t337, t340⟩, A350, H⟩ := H
   try dsimp only at H
   have A35 := ak A350
   clear A350
   replace H := bi H
   obtain ⟨⟨t343, t346, t349⟩, A360, H⟩ := H
   try dsimp only at H
   have A36 := ak A360
   clear A360
   simp only [Option.some.injEq, Prod.mk.injEq] at H
   obtain ⟨rfl, rfl, rfl⟩ := H
   have hnb37 := NB332_333.out
   have hnc37 := NB333_332.out
   have hnb38 := NB332_334.out
   have hnc38 := NB334_332.out
   have hcz39_0 : wc.cell? ⟨gb332, 0, none⟩ = some (.slice A0_0 l0_0.length c0_0) := (blk_cell BK332.out 0).trans rfl
   have hcz39_1 : wc.cell? ⟨gb332, 1, none⟩ = some (.slice A0_1 l0_1.length c0_1) := (blk_cell BK332.out 1).trans rfl
   have hfz39_0 := blk_frozen BK332.out 0
   have hfz39_1 := blk_frozen BK332.out 1
   have hnb40 := NB333_334.out
   have hnc40 := NB334_333.out
   have hcz41_0 : wc.cell? ⟨gb333, 0, none⟩ = some (.slice A1_0 l1_0.length c1_0) := (blk_cell BK333.out 0).trans rfl
   have hcz41_1 : wc.cell? ⟨gb333, 1, none⟩ = some (.slice A1_1 l1_1.length c1_1) := (blk_cell BK333.out 1).trans rfl
   have hfz41_0 := blk_frozen BK333.out 0
   have hfz41_1 := blk_frozen BK333.out 1
   go_wp2_with (first | ((with_reducible refine gate_callee (f := 76) rfl ?_); refine goesL_ (some 28) rfl rfl Try.func76 (by kernel_rfl) rfl #[.agg #[.slice A0_0 l0_0.length c0_0, .slice A0_1 l0_1.length c0_1], .agg #[.slice A1_0 l1_0.length c1_0, .slice A1_1 l1_1.length c1_1]] rfl (by (try simp only [List.map_toArray, List.map_cons, List.map_nil]); first | done | rfl | (simp only [List.length_drop, List.length_take]; rfl)) ?_; (with_reducible refine (impl_stack.calls kj2 _ _ l0_0 _ _ l0_1 _ _ l1_0 _ _ l1_1 t337 t340 _ ?side1 ?side2 ?side3 ?side4 ?side5 ?side6 ?side7 ?side8 A35.out).mono ?_); (case side1 => exact kC (Kd.C_below HR0_0.out HB.out)); (case side2 => exact HC0_0.out); (case side3 => exact kC (Kd.C_below HR0_1.out HB.out)); (case side4 => exact HC0_1.out); (case side5 => exact kC (Kd.C_below HR1_0.out HB.out)); (case side6 => exact HC1_0.out); (case side7 => exact kC (Kd.C_below HR1_1.out HB.out)); (case side8 => exact HC1_1.out); rintro e w42 ⟨v338, v341, rfl, ho0, ho1, hb⟩; refine ⟨_, rfl, ?_⟩; have HO339 := ak (Kd.R_lower ho0 (below_size (bB HB.out))); have HO342 := ak (Kd.S_lower ho1 (below_size (bB HB.out))); replace BK332 := ak (blk_below (kK BK332.out) hb); replace BK333 := ak (blk_below (kK BK333.out) hb); replace BK334 := ak (blk_below (kK BK334.out) hb); replace HB := ak (below_step (bB HB.out) hb); (try clear hb); (try clear hb2); (try clear hk); (try clear hi); (try clear ho0); (try clear ho1); obtain ⟨Ao43, co43, eo43⟩ := Kd.R_slice HO339.out; subst eo43; obtain ⟨Ao44, co44, eo44⟩ := Kd.S_slice HO342.out; subst eo44) | ((with_reducible refine gate_callee (f := 59) rfl ?_); refine goesL_ (some 29) rfl rfl Try.func59 (by kernel_rfl) rfl #[.agg #[.slice Ao43 t337.length co43, .slice Ao44 t340.length co44]] rfl (by (try simp only [List.map_toArray, List.map_cons, List.map_nil]); first | done | rfl | (simp only [List.length_drop, List.length_take]; rfl)) ?_; (with_reducible refine (impl_algebraOr.calls kj2 _ _ t337 _ _ t340 t343 t346 t349 _ ?side1 ?side2 ?side3 ?side4 A36.out).mono ?_); (case side1 => exact kC (Kd.R_reads' HO339.out).2.2); (case side2 => exact (Kd.R_reads' HO339.out).2.1); (case side3 => exact kC (Kd.S_reads' HO342.out).2.2); (case side4 => exact (Kd.S_reads' HO342.out).2.1); rintro e w45 ⟨v344, v347, rfl, ho0, ho1, hb⟩; refine ⟨_, rfl, ?_⟩; have HO345 := ak (Kd.R_lower (Kd.R_new' ho0 (Kd.R_lt (kR HO339.out))) (below_size (bB HB.out))); have HO348 := ak (Kd.S_lower (Kd.S_new' (Kd.S_new' ho1 (Kd.R_lt (kR HO339.out))) (Kd.S_lt (kS HO342.out))) (below_size (bB HB.out))); replace HO339 := ak (Kd.R_elder' (kR HO339.out) (Kd.R_base ho0) hb); replace HO342 := ak (Kd.S_mono (Kd.S_told (Kd.S_told (Kd.S_old (kS HO342.out) hb) (Kd.R_base ho0)) (Kd.S_base ho1)) (fun _ h_ => h_.1)); replace BK332 := ak (blk_below (kK BK332.out) hb); replace BK333 := ak (blk_below (kK BK333.out) hb); replace BK334 := ak (blk_below (kK BK334.out) hb); replace HB := ak (below_step (bB HB.out) hb); (try clear hb); (try clear hb2); (try clear hk); (try clear hi); (try clear ho0); (try clear ho1); obtain ⟨Ao46, co46, eo46⟩ := Kd.R_slice HO345.out; subst eo46; have hcz47_0 : w45.cell? ⟨gb334, 0, none⟩ = some (.slice none 0 0) := (blk_cell BK334.out 0).trans rfl; have hcz47_1 : w45.cell? ⟨gb334, 1, none⟩ = some (.slice none 0 0) := (blk_cell BK334.out 1).trans rfl; have hfz47_0 := blk_frozen BK334.out 0; have hfz47_1 := blk_frozen BK334.out 1; obtain ⟨Ao48, co48, eo48⟩ := Kd.S_slice HO348.out; subst eo48))
   refine bodyPost_ret (results_ct rfl _ _ gb334 25 #[.slice Ao46 t343.length co46, .slice Ao48 t346.length co48] (0, 0) _ rfl (by (with_reducible repeat (first | refine blk_drewN ?_ _ | refine blk_drew ?_ | refine blk_alloc ?_ _)); refine blk_put (cs := #[.slice Ao46 t343.length co46, .slice none 0 0]) ?_ 1 _ rfl; (with_reducible repeat (first | refine blk_drewN ?_ _ | refine blk_drew ?_ | refine blk_alloc ?_ _)); refine blk_put (cs := #[.slice none 0 0, .slice none 0 0]) ?_ 0 _ rfl; (with_reducible repeat (first | refine blk_drewN ?_ _ | refine blk_drew ?_ | refine blk_alloc ?_ _)); exact BK334.out) Try.underlying25 rfl (by kernel_rfl)) rfl ?_
   exact ⟨_, _, by first | rfl | (simp [errW_none, errW_some] <;> rfl) | (simp [*, errW_none, errW_some] <;> rfl), by (with_reducible repeat (first | apply Kd.R_alloc | apply Kd.R_drewN | apply Kd.R_drew)); exact Kd.R_mono (Kd.R_far (p := ⟨gb334, 1, none⟩) (Kd.R_far (p := ⟨gb334, 0, none⟩) (Kd.R_types HO345.out BK334.out (by decide)) (fun _ hk => hk.2) (.slice Ao46 t343.length co46)) (fun _ hk => hk.2) (.slice Ao48 t346.length co48)) (fun _ hk => trivial), by (with_reducible repeat (first | apply Kd.S_alloc | apply Kd.S_drewN | apply Kd.S_drew)); exact Kd.S_mono (Kd.S_far (p := ⟨gb334, 1, none⟩) (Kd.S_far (p := ⟨gb334, 0, none⟩) (Kd.S_types HO348.out BK334.out (by decide)) (fun _ hk => hk.2) (.slice Ao46 t343.length co46)) (fun _ hk => hk.2) (.slice Ao48 t346.length co48)) (fun _ hk => hk.1.1.1), by repeat (first | (with_reducible first | exact HB.out | apply below_alloc | apply pw_below_drewN | apply below_drew1 | refine below_set ?_ GE332.out | refine below_set ?_ GE333.out | refine below_set ?_ GE334.out) | exact HB.out)⟩
end Go.Proofs.Ytjidbgmkhapklaa.P

-- shrunk
