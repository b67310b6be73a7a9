-- Printed by this session's wip/print2.py (the kit's print.py, widened) out of the translation. Lean checks it.
import Derived.Test.YtkndndgladdmcaaP0
import Derived.Test.YtkndndgladdmcaaP12
import Derived.Test.YtkndndgladdmcaaP15
import Derived.Test.YtkndndgladdmcaaP16
namespace Go.Proofs.Ytkndndgladdmcaa.P
open Go.RowKit Go.Proofs.YtkndndgladdmcaaW.PrintWords Go.Proofs.YtkndndgladdmcaaW.PrintLast Go.Proofs.YtkndndgladdmcaaW.PrintMore
attribute [local go_sem] max2_int min2_int max_two min_two max_three min_three max_four min_four   -- for this text's walks alone
set_option linter.unusedVariables false
set_option linter.unusedSimpArgs false

/-! ### impl_ValidAlgebra: function 22 -/
mutual
def impl_ValidAlgebra.j0 : Nat → Bool → List Int → List (List Int) → Int → Option (Bool)
 | 0, _, _, _, _ => none
 | k + 1, x22, x210000, x210001, x211000 => if x22 = true then (some false) else (impl_ValidAlgebra.l0 k x210001 (x210001.length : Int) 0 x210000 x210001 x211000)
def impl_ValidAlgebra.l0 : Nat → List (List Int) → Int → Int → List Int → List (List Int) → Int → Option (Bool)
 | 0, _, _, _, _, _, _ => none
 | k + 1, x24, x25, x26, x210000, x210001, x211000 => if x26 < x25 then (if 0 ≤ x26 then (if x26 < (x24.length : Int) then (if ((rd_L1 x24 x26).length : Int) = x211000 then ((cf_ValidAlgebra_1.f (rd_L1 x24 x26) x211000).bind fun t213 => (if t213 = true then (some false) else (impl_ValidAlgebra.l0 k x24 x25 (wrap64 (x26 + 1)) x210000 x210001 x211000))) else (some false)) else (none)) else (none)) else (impl_ValidAlgebra.l1 k (x210000.length : Int) 0 x210000 x210001 x211000)
def impl_ValidAlgebra.l1 : Nat → Int → Int → List Int → List (List Int) → Int → Option (Bool)
 | 0, _, _, _, _, _ => none
 | k + 1, x42, x43, x210000, x210001, x211000 => if x43 < x42 then (if 0 ≤ x43 then (if x43 < (x210001.length : Int) then (if 0 ≤ (wrap64 (x211000 - 1)) then (if (wrap64 (x211000 - 1)) < ((rd_L1 x210001 x43).length : Int) then (if (rd (rd_L1 x210001 x43) (wrap64 (x211000 - 1))) = x43 then (if 0 < ((rd_L1 x210001 x43).length : Int) then (impl_ValidAlgebra.j3 k x43 x42 x43 ((rd (rd_L1 x210001 x43) 0) != 0) x210000 x210001 x211000) else (none)) else (impl_ValidAlgebra.j3 k x43 x42 x43 true x210000 x210001 x211000)) else (none)) else (none)) else (none)) else (none)) else (some true)
def impl_ValidAlgebra.j3 : Nat → Int → Int → Int → Bool → List Int → List (List Int) → Int → Option (Bool)
 | 0, _, _, _, _, _, _, _ => none
 | k + 1, x6, x42, x43, x66, x210000, x210001, x211000 => if x66 = true then (some false) else (impl_ValidAlgebra.l2 k x6 x42 x43 (x210000.length : Int) 0 x210000 x210001 x211000)
def impl_ValidAlgebra.l2 : Nat → Int → Int → Int → Int → Int → List Int → List (List Int) → Int → Option (Bool)
 | 0, _, _, _, _, _, _, _, _ => none
 | k + 1, x6, x42, x43, x69, x70, x210000, x210001, x211000 => if x70 < x69 then (if 0 ≤ x6 then (if x6 < (x210001.length : Int) then (if 0 ≤ x70 then (if x70 < ((rd_L1 x210001 x6).length : Int) then (if x70 < (x210001.length : Int) then (if x6 < ((rd_L1 x210001 x70).length : Int) then (if (rd (rd_L1 x210001 x6) x70) = (rd (rd_L1 x210001 x70) x6) then (impl_ValidAlgebra.l3 k x6 x70 x42 x43 x69 x70 (x210000.length : Int) 0 x210000 x210001 x211000) else (some false)) else (none)) else (none)) else (none)) else (none)) else (none)) else (none)) else (impl_ValidAlgebra.l1 k x42 (wrap64 (x43 + 1)) x210000 x210001 x211000)
def impl_ValidAlgebra.l3 : Nat → Int → Int → Int → Int → Int → Int → Int → Int → List Int → List (List Int) → Int → Option (Bool)
 | 0, _, _, _, _, _, _, _, _, _, _, _ => none
 | k + 1, x6, x7, x42, x43, x69, x70, x92, x93, x210000, x210001, x211000 => if x93 < x92 then (if 0 ≤ x6 then (if x6 < (x210001.length : Int) then (if 0 ≤ x7 then (if x7 < ((rd_L1 x210001 x6).length : Int) then (if 0 ≤ (rd (rd_L1 x210001 x6) x7) then (if (rd (rd_L1 x210001 x6) x7) < (x210001.length : Int) then (if 0 ≤ x93 then (if x93 < ((rd_L1 x210001 (rd (rd_L1 x210001 x6) x7)).length : Int) then (if x7 < (x210001.length : Int) then (if x93 < ((rd_L1 x210001 x7).length : Int) then (if 0 ≤ (rd (rd_L1 x210001 x7) x93) then (if (rd (rd_L1 x210001 x7) x93) < ((rd_L1 x210001 x6).length : Int) then (if (rd (rd_L1 x210001 (rd (rd_L1 x210001 x6) x7)) x93) = (rd (rd_L1 x210001 x6) (rd (rd_L1 x210001 x7) x93)) then ((impl_join.f k x210000 x7 x93).bind fun t231 => (if 0 ≤ t231 then (if t231 < ((rd_L1 x210001 x6).length : Int) then (if x93 < ((rd_L1 x210001 x6).length : Int) then ((impl_join.f k x210000 (rd (rd_L1 x210001 x6) x7) (rd (rd_L1 x210001 x6) x93)).bind fun t237 => (if (rd (rd_L1 x210001 x6) t231) = t237 then (impl_ValidAlgebra.l3 k x6 x7 x42 x43 x69 x70 x92 (wrap64 (x93 + 1)) x210000 x210001 x211000) else (some false))) else (none)) else (none)) else (none))) else (some false)) else (none)) else (none)) else (none)) else (none)) else (none)) else (none)) else (none)) else (none)) else (none)) else (none)) else (none)) else (none)) else (impl_ValidAlgebra.l2 k x6 x42 x43 x69 (wrap64 (x70 + 1)) x210000 x210001 x211000)
end
def impl_ValidAlgebra.f (k : Nat) (l0_0 : List Int) (l0_1 : List (List Int)) : Option (Bool) := (impl_ValidLattice.f k l0_0).bind fun t211 => (if t211 = true then (impl_ValidAlgebra.j0 k ((l0_1.length : Int) != (l0_0.length : Int)) l0_0 l0_1 (l0_0.length : Int)) else (impl_ValidAlgebra.j0 k true l0_0 l0_1 (l0_0.length : Int)))
set_option maxHeartbeats 8000000 in
set_option maxRecDepth 100000 in
theorem impl_ValidAlgebra.calls (k : Nat) (A0_0 : Option Addr) (c0_0 : Nat) (l0_0 : List Int) (A0_1 : Option Addr) (c0_1 : Nat) (l0_1 : List (List Int)) (r : Bool) (w : World) (hr0_0 : Kd.C (Kd.int .i64) w A0_0 l0_0.length l0_0) (hc0_0 : l0_0.length ≤ c0_0) (hr0_1 : Kd.C (Kd.slice 3 (Kd.int .i64)) w A0_1 l0_1.length l0_1) (hc0_1 : l0_1.length ≤ c0_1) (h : impl_ValidAlgebra.f k l0_0 l0_1 = some r) :
  Calls Try.prog 22 #[.agg #[.slice A0_0 l0_0.length c0_0, .slice A0_1 l0_1.length c0_1]] w fun e w' => e = .returned (.bool r) ∧ Below w.heap.size w w' := by
 have hu28 := Try.underlying28
 have HR0_0 := Aside0.mk hr0_0
 have HC0_0 := Aside0.mk hc0_0
 clear hr0_0 hc0_0
 have HR0_1 := Aside0.mk hr0_1
 have HC0_1 := Aside0.mk hc0_1
 clear hr0_1 hc0_1
 have HB := Aside0.mk (Below.refl w.heap.size w)
 have H : ((impl_ValidLattice.f k l0_0).bind fun t211 => (if t211 = true then (impl_ValidAlgebra.j0 k ((l0_1.length : Int) != (l0_0.length : Int)) l0_0 l0_1 (l0_0.length : Int)) else (impl_ValidAlgebra.j0 k true l0_0 l0_1 (l0_0.length : Int)))) = some r := h
 clear h
 have HC2 := Aside0.mk H
 clear H
 have hmf : ∀ (fn : Fn) (first cap : Array Value) (w : World), (Instr.makeFunc fn first cap).run Try.prog w = .ok (.func fn first cap) w := fun _ _ _ _ => rfl
 go_enter Try.func22, Try.ntmps22
 go_upto_region 2 with (first | ((with_reducible refine gate_dst (N := 1) rfl ?_); (try (refine gate_guard (by rfl) ?_; dsimp only)); refine box_event ?hg (N := 1) ?hd (cs := #[.slice A0_0 l0_0.length c0_0, .slice A0_1 l0_1.length c0_1]) (t := 28) ?hr ?_; (case hd => rfl); (case hg => rfl); (case hr => first | (go_simp; done) | (go_simp; rfl)); intro gb209 hg w3 hbox hb; have n0_ := Aside0.mk (below_step (by repeat (first | (with_reducible first | exact HB.out | apply below_alloc | apply pw_below_drewN | apply below_drew1) | exact HB.out)) hb); have n1_ := Aside0.mk (hbox); have n2_ := Aside0.mk ((by rw [hg]; exact (below_size (by repeat (first | (with_reducible first | exact HB.out | apply below_alloc | apply pw_below_drewN | apply below_drew1) | exact HB.out))) : w.heap.size ≤ gb209)); have n3_ := Aside0.mk ((by rw [hg]; exact (below_size (by repeat (first | (with_reducible first | exact HB.out | apply below_alloc | apply pw_below_drewN | apply below_drew1) | exact HB.out))) : w.heap.size ≤ gb209)); clear HB; have HB := n0_; have BK209 := n1_; have GW209 := n2_; have GE209 := n3_; clear n0_ n1_ n2_ n3_; clear hb hbox hg; have hcz4_0 : w3.cell? ⟨gb209, 0, none⟩ = some (.slice A0_0 l0_0.length c0_0) := (blk_cell BK209.out 0).trans rfl; have hcz4_1 : w3.cell? ⟨gb209, 1, none⟩ = some (.slice A0_1 l0_1.length c0_1) := (blk_cell BK209.out 1).trans rfl; have hfz4_0 := blk_frozen BK209.out 0; have hfz4_1 := blk_frozen BK209.out 1) | ((with_reducible refine gate_dst (N := 3) rfl ?_); (try (refine gate_guard (by rfl) ?_; dsimp only)); refine box_event ?hg (N := 3) ?hd (cs := #[.int .i64 0]) (t := 3) ?hr ?_; (case hd => rfl); (case hg => rfl); (case hr => first | (go_simp; done) | (go_simp; rfl)); intro gb210 hg w5 hbox hb; have n0_ := Aside0.mk (blk_below (g := gb209) (o := .cells #[.slice A0_0 l0_0.length c0_0, .slice A0_1 l0_1.length c0_1] 28 (0, 0)) (by (with_reducible repeat (first | refine blk_drewN ?_ _ | refine blk_drew ?_ | refine blk_alloc ?_ _)); exact BK209.out) hb); have n1_ := Aside0.mk (below_step (by repeat (first | (with_reducible first | exact HB.out | apply below_alloc | apply pw_below_drewN | apply below_drew1 | refine below_set ?_ GE209.out) | exact HB.out)) hb); have n2_ := Aside0.mk (hbox); have n3_ := Aside0.mk ((by rw [hg]; exact (below_size (by repeat (first | (with_reducible first | exact HB.out | apply below_alloc | apply pw_below_drewN | apply below_drew1 | refine below_set ?_ GE209.out) | exact HB.out))) : w.heap.size ≤ gb210)); have n4_ := Aside0.mk ((by rw [hg]; exact (below_size (by repeat (first | (with_reducible first | exact HB.out | apply below_alloc | apply pw_below_drewN | apply below_drew1 | refine below_set ?_ GE209.out) | exact HB.out))) : w.heap.size ≤ gb210)); have n5_ := Aside0.mk ((by rw [hg]; exact Nat.ne_of_lt (blk_lt (g := gb209) (o := .cells #[.slice A0_0 l0_0.length c0_0, .slice A0_1 l0_1.length c0_1] 28 (0, 0)) (by (with_reducible repeat (first | refine blk_drewN ?_ _ | refine blk_drew ?_ | refine blk_alloc ?_ _)); exact BK209.out)) : gb209 ≠ gb210)); have n6_ := Aside0.mk ((by rw [hg]; exact Nat.ne_of_gt (blk_lt (g := gb209) (o := .cells #[.slice A0_0 l0_0.length c0_0, .slice A0_1 l0_1.length c0_1] 28 (0, 0)) (by (with_reducible repeat (first | refine blk_drewN ?_ _ | refine blk_drew ?_ | refine blk_alloc ?_ _)); exact BK209.out)) : gb210 ≠ gb209)); clear BK209; clear HB; have BK209 := n0_; have HB := n1_; have BK210 := n2_; have GW210 := n3_; have GE210 := n4_; have NB209_210 := n5_; have NB210_209 := n6_; clear n0_ n1_ n2_ n3_ n4_ n5_ n6_; clear hb hbox hg; have hnb6 := NB210_209.out; have hnc6 := NB209_210.out; have hcz7_0 : w5.cell? ⟨gb210, 0, none⟩ = some (.int .i64 0) := (blk_cell BK210.out 0).trans rfl; have hfz7_0 := blk_frozen BK210.out 0))
 repeat (go_quiet (first | ((with_reducible refine gate_dst (N := 1) rfl ?_); (try (refine gate_guard (by rfl) ?_; dsimp only)); refine box_event ?hg (N := 1) ?hd (cs := #[.slice A0_0 l0_0.length c0_0, .slice A0_1 l0_1.length c0_1]) (t := 28) ?hr ?_; (case hd => rfl); (case hg => rfl); (case hr => first | (go_simp; done) | (go_simp; rfl)); intro gb209 hg w3 hbox hb; have n0_ := Aside0.mk (below_step (by repeat (first | (with_reducible first | exact HB.out | apply below_alloc | apply pw_below_drewN | apply below_drew1) | exact HB.out)) hb); have n1_ := Aside0.mk (hbox); have n2_ := Aside0.mk ((by rw [hg]; exact (below_size (by repeat (first | (with_reducible first | exact HB.out | apply below_alloc | apply pw_below_drewN | apply below_drew1) | exact HB.out))) : w.heap.size ≤ gb209)); have n3_ := Aside0.mk ((by rw [hg]; exact (below_size (by repeat (first | (with_reducible first | exact HB.out | apply below_alloc | apply pw_below_drewN | apply below_drew1) | exact HB.out))) : w.heap.size ≤ gb209)); clear HB; have HB := n0_; have BK209 := n1_; have GW209 := n2_; have GE209 := n3_; clear n0_ n1_ n2_ n3_; clear hb hbox hg; have hcz4_0 : w3.cell? ⟨gb209, 0, none⟩ = some (.slice A0_0 l0_0.length c0_0) := (blk_cell BK209.out 0).trans rfl; have hcz4_1 : w3.cell? ⟨gb209, 1, none⟩ = some (.slice A0_1 l0_1.length c0_1) := (blk_cell BK209.out 1).trans rfl; have hfz4_0 := blk_frozen BK209.out 0; have hfz4_1 := blk_frozen BK209.out 1) | ((with_reducible refine gate_dst (N := 3) rfl ?_); (try (refine gate_guard (by rfl) ?_; dsimp only)); refine box_event ?hg (N := 3) ?hd (cs := #[.int .i64 0]) (t := 3) ?hr ?_; (case hd => rfl); (case hg => rfl); (case hr => first | (go_simp; done) | (go_simp; rfl)); intro gb210 hg w5 hbox hb; have n0_ := Aside0.mk (blk_below (g := gb209) (o := .cells #[.slice A0_0 l0_0.length c0_0, .slice A0_1 l0_1.length c0_1] 28 (0, 0)) (by (with_reducible repeat (first | refine blk_drewN ?_ _ | refine blk_drew ?_ | refine blk_alloc ?_ _)); exact BK209.out) hb); have n1_ := Aside0.mk (below_step (by repeat (first | (with_reducible first | exact HB.out | apply below_alloc | apply pw_below_drewN | apply below_drew1 | refine below_set ?_ GE209.out) | exact HB.out)) hb); have n2_ := Aside0.mk (hbox); have n3_ := Aside0.mk ((by rw [hg]; exact (below_size (by repeat (first | (with_reducible first | exact HB.out | apply below_alloc | apply pw_below_drewN | apply below_drew1 | refine below_set ?_ GE209.out) | exact HB.out))) : w.heap.size ≤ gb210)); have n4_ := Aside0.mk ((by rw [hg]; exact (below_size (by repeat (first | (with_reducible first | exact HB.out | apply below_alloc | apply pw_below_drewN | apply below_drew1 | refine below_set ?_ GE209.out) | exact HB.out))) : w.heap.size ≤ gb210)); have n5_ := Aside0.mk ((by rw [hg]; exact Nat.ne_of_lt (blk_lt (g := gb209) (o := .cells #[.slice A0_0 l0_0.length c0_0, .slice A0_1 l0_1.length c0_1] 28 (0, 0)) (by (with_reducible repeat (first | refine blk_drewN ?_ _ | refine blk_drew ?_ | refine blk_alloc ?_ _)); exact BK209.out)) : gb209 ≠ gb210)); have n6_ := Aside0.mk ((by rw [hg]; exact Nat.ne_of_gt (blk_lt (g := gb209) (o := .cells #[.slice A0_0 l0_0.length c0_0, .slice A0_1 l0_1.length c0_1] 28 (0, 0)) (by (with_reducible repeat (first | refine blk_drewN ?_ _ | refine blk_drew ?_ | refine blk_alloc ?_ _)); exact BK209.out)) : gb210 ≠ gb209)); clear BK209; clear HB; have BK209 := n0_; have HB := n1_; have BK210 := n2_; have GW210 := n3_; have GE210 := n4_; have NB209_210 := n5_; have NB210_209 := n6_; clear n0_ n1_ n2_ n3_ n4_ n5_ n6_; clear hb hbox hg; have hnb6 := NB210_209.out; have hnc6 := NB209_210.out; have hcz7_0 : w5.cell? ⟨gb210, 0, none⟩ = some (.int .i64 0) := (blk_cell BK210.out 0).trans rfl; have hfz7_0 := blk_frozen BK210.out 0)); go_upto_region 2 with (first | ((with_reducible refine gate_dst (N := 1) rfl ?_); (try (refine gate_guard (by rfl) ?_; dsimp only)); refine box_event ?hg (N := 1) ?hd (cs := #[.slice A0_0 l0_0.length c0_0, .slice A0_1 l0_1.length c0_1]) (t := 28) ?hr ?_; (case hd => rfl); (case hg => rfl); (case hr => first | (go_simp; done) | (go_simp; rfl)); intro gb209 hg w3 hbox hb; have n0_ := Aside0.mk (below_step (by repeat (first | (with_reducible first | exact HB.out | apply below_alloc | apply pw_below_drewN | apply below_drew1) | exact HB.out)) hb); have n1_ := Aside0.mk (hbox); have n2_ := Aside0.mk ((by rw [hg]; exact (below_size (by repeat (first | (with_reducible first | exact HB.out | apply below_alloc | apply pw_below_drewN | apply below_drew1) | exact HB.out))) : w.heap.size ≤ gb209)); have n3_ := Aside0.mk ((by rw [hg]; exact (below_size (by repeat (first | (with_reducible first | exact HB.out | apply below_alloc | apply pw_below_drewN | apply below_drew1) | exact HB.out))) : w.heap.size ≤ gb209)); clear HB; have HB := n0_; have BK209 := n1_; have GW209 := n2_; have GE209 := n3_; clear n0_ n1_ n2_ n3_; clear hb hbox hg; have hcz4_0 : w3.cell? ⟨gb209, 0, none⟩ = some (.slice A0_0 l0_0.length c0_0) := (blk_cell BK209.out 0).trans rfl; have hcz4_1 : w3.cell? ⟨gb209, 1, none⟩ = some (.slice A0_1 l0_1.length c0_1) := (blk_cell BK209.out 1).trans rfl; have hfz4_0 := blk_frozen BK209.out 0; have hfz4_1 := blk_frozen BK209.out 1) | ((with_reducible refine gate_dst (N := 3) rfl ?_); (try (refine gate_guard (by rfl) ?_; dsimp only)); refine box_event ?hg (N := 3) ?hd (cs := #[.int .i64 0]) (t := 3) ?hr ?_; (case hd => rfl); (case hg => rfl); (case hr => first | (go_simp; done) | (go_simp; rfl)); intro gb210 hg w5 hbox hb; have n0_ := Aside0.mk (blk_below (g := gb209) (o := .cells #[.slice A0_0 l0_0.length c0_0, .slice A0_1 l0_1.length c0_1] 28 (0, 0)) (by (with_reducible repeat (first | refine blk_drewN ?_ _ | refine blk_drew ?_ | refine blk_alloc ?_ _)); exact BK209.out) hb); have n1_ := Aside0.mk (below_step (by repeat (first | (with_reducible first | exact HB.out | apply below_alloc | apply pw_below_drewN | apply below_drew1 | refine below_set ?_ GE209.out) | exact HB.out)) hb); have n2_ := Aside0.mk (hbox); have n3_ := Aside0.mk ((by rw [hg]; exact (below_size (by repeat (first | (with_reducible first | exact HB.out | apply below_alloc | apply pw_below_drewN | apply below_drew1 | refine below_set ?_ GE209.out) | exact HB.out))) : w.heap.size ≤ gb210)); have n4_ := Aside0.mk ((by rw [hg]; exact (below_size (by repeat (first | (with_reducible first | exact HB.out | apply below_alloc | apply pw_below_drewN | apply below_drew1 | refine below_set ?_ GE209.out) | exact HB.out))) : w.heap.size ≤ gb210)); have n5_ := Aside0.mk ((by rw [hg]; exact Nat.ne_of_lt (blk_lt (g := gb209) (o := .cells #[.slice A0_0 l0_0.length c0_0, .slice A0_1 l0_1.length c0_1] 28 (0, 0)) (by (with_reducible repeat (first | refine blk_drewN ?_ _ | refine blk_drew ?_ | refine blk_alloc ?_ _)); exact BK209.out)) : gb209 ≠ gb210)); have n6_ := Aside0.mk ((by rw [hg]; exact Nat.ne_of_gt (blk_lt (g := gb209) (o := .cells #[.slice A0_0 l0_0.length c0_0, .slice A0_1 l0_1.length c0_1] 28 (0, 0)) (by (with_reducible repeat (first | refine blk_drewN ?_ _ | refine blk_drew ?_ | refine blk_alloc ?_ _)); exact BK209.out)) : gb210 ≠ gb209)); clear BK209; clear HB; have BK209 := n0_; have HB := n1_; have BK210 := n2_; have GW210 := n3_; have GE210 := n4_; have NB209_210 := n5_; have NB210_209 := n6_; clear n0_ n1_ n2_ n3_ n4_ n5_ n6_; clear hb hbox hg; have hnb6 := NB210_209.out; have hnc6 := NB209_210.out; have hcz7_0 : w5.cell? ⟨gb210, 0, none⟩ = some (.int .i64 0) := (blk_cell BK210.out 0).trans rfl; have hfz7_0 := blk_frozen BK210.out 0)))
 (try simp only [Act.put, List.setIfInBounds_toArray, List.set_cons_zero, List.set_cons_succ])
 go_cut [22] (fun v22 wc => ∃ (kq : Nat) (x22_1 : Bool), v22 = .bool x22_1 ∧ Aside0 (impl_ValidAlgebra.j0 kq x22_1 l0_0 l0_1 (l0_0.length : Int) = some r) ∧ Aside0 (kq ≤ k) ∧ Aside0 (wc.heap[gb209]? = some (.cells #[(.slice A0_0 l0_0.length c0_0), (.slice A0_1 l0_1.length c0_1)] 28 (0, 0))) ∧ Aside0 (wc.heap[gb210]? = some (.cells #[.int .i64 (l0_0.length : Int)] 3 (0, 0))) ∧ Aside0 (Below w.heap.size w wc))
 case first =>
  have H := HC2.out
  clear HC2
  replace H := Option.bind_eq_some_iff.mp H
  obtain ⟨t211, A80, H⟩ := H
  replace H : (if t211 = true then (impl_ValidAlgebra.j0 k ((l0_1.length : Int) != (l0_0.length : Int)) l0_0 l0_1 (l0_0.length : Int)) else (impl_ValidAlgebra.j0 k true l0_0 l0_1 (l0_0.length : Int))) = some r := H
  have A8 := Aside0.mk A80
  clear A80
  by_cases c9 : t211 = true
  ·subst c9
   have H1 : (impl_ValidAlgebra.j0 k ((l0_1.length : Int) != (l0_0.length : Int)) l0_0 l0_1 (l0_0.length : Int)) = some r := by rw [if_pos rfl] at H; exact H
   clear H
   have H := H1
   clear H1
   have H' := Aside0.mk H
   clear H
   have hnb10 := NB209_210.out
   have hnc10 := NB210_209.out
   have hcz11_0 : w5.cell? ⟨gb209, 0, none⟩ = some (.slice A0_0 l0_0.length c0_0) := (blk_cell BK209.out 0).trans rfl
   have hcz11_1 : w5.cell? ⟨gb209, 1, none⟩ = some (.slice A0_1 l0_1.length c0_1) := (blk_cell BK209.out 1).trans rfl
   have hfz11_0 := blk_frozen BK209.out 0
   have hfz11_1 := blk_frozen BK209.out 1
   as_aux_lemma =>
    go_wp2_with (first | (go_at_call 63; (with_reducible refine (impl_ValidLattice.calls k _ _ l0_0 true _ ?side1 ?side2 A8.out).mono ?_); (case side1 => exact Kd.C_below HR0_0.out (by repeat (first | (with_reducible first | exact HB.out | apply below_alloc | apply pw_below_drewN | apply below_drew1 | refine below_set ?_ GE209.out | refine below_set ?_ GE210.out) | exact HB.out))); (case side2 => exact HC0_0.out); rintro e w' ⟨rfl, ⟨nd, rfl⟩⟩; (try first | exact ⟨rfl, _, World.drewN_drewN _ _ _⟩ | exact ⟨rfl, _, Eq.trans (World.drewN_drewN _ _ _) (congrArg (World.drewN _) (Nat.add_assoc _ _ _))⟩); have hcz12_0 : w5.cell? ⟨gb210, 0, none⟩ = some (.int .i64 0) := (blk_cell BK210.out 0).trans rfl; have hfz12_0 := blk_frozen BK210.out 0))
    repeat (go_quiet (first | (go_at_call 63; (with_reducible refine (impl_ValidLattice.calls k _ _ l0_0 true _ ?side1 ?side2 A8.out).mono ?_); (case side1 => exact Kd.C_below HR0_0.out (by repeat (first | (with_reducible first | exact HB.out | apply below_alloc | apply pw_below_drewN | apply below_drew1 | refine below_set ?_ GE209.out | refine below_set ?_ GE210.out) | exact HB.out))); (case side2 => exact HC0_0.out); rintro e w' ⟨rfl, ⟨nd, rfl⟩⟩; (try first | exact ⟨rfl, _, World.drewN_drewN _ _ _⟩ | exact ⟨rfl, _, Eq.trans (World.drewN_drewN _ _ _) (congrArg (World.drewN _) (Nat.add_assoc _ _ _))⟩); have hcz12_0 : w5.cell? ⟨gb210, 0, none⟩ = some (.int .i64 0) := (blk_cell BK210.out 0).trans rfl; have hfz12_0 := blk_frozen BK210.out 0)); try go_wp2_with (first | (go_at_call 63; (with_reducible refine (impl_ValidLattice.calls k _ _ l0_0 true _ ?side1 ?side2 A8.out).mono ?_); (case side1 => exact Kd.C_below HR0_0.out (by repeat (first | (with_reducible first | exact HB.out | apply below_alloc | apply pw_below_drewN | apply below_drew1 | refine below_set ?_ GE209.out | refine below_set ?_ GE210.out) | exact HB.out))); (case side2 => exact HC0_0.out); rintro e w' ⟨rfl, ⟨nd, rfl⟩⟩; (try first | exact ⟨rfl, _, World.drewN_drewN _ _ _⟩ | exact ⟨rfl, _, Eq.trans (World.drewN_drewN _ _ _) (congrArg (World.drewN _) (Nat.add_assoc _ _ _))⟩); have hcz12_0 : w5.cell? ⟨gb210, 0, none⟩ = some (.int .i64 0) := (blk_cell BK210.out 0).trans rfl; have hfz12_0 := blk_frozen BK210.out 0)))
    go_meet
    case rel => exact ⟨_, (((l0_1.length : Int) != (l0_0.length : Int))), (by first | rfl | (simp; done) | (simp [*]; done)), H', ⟨by first | omega | exact Nat.le_refl _⟩, ⟨by (with_reducible repeat (first | refine blk_drewN ?_ _ | refine blk_drew ?_ | refine blk_alloc ?_ _)); refine blk_far ?_ NB209_210.out _; (with_reducible repeat (first | refine blk_drewN ?_ _ | refine blk_drew ?_ | refine blk_alloc ?_ _)); exact BK209.out⟩, ⟨by (with_reducible repeat (first | refine blk_drewN ?_ _ | refine blk_drew ?_ | refine blk_alloc ?_ _)); refine blk_put (cs := #[.int .i64 0]) ?_ 0 _ rfl; (with_reducible repeat (first | refine blk_drewN ?_ _ | refine blk_drew ?_ | refine blk_alloc ?_ _)); exact BK210.out⟩, ⟨by repeat (first | (with_reducible first | exact HB.out | apply below_alloc | apply pw_below_drewN | apply below_drew1 | refine below_set ?_ GE209.out | refine below_set ?_ GE210.out) | exact HB.out)⟩⟩
  ·replace c9 := Bool.eq_false_iff.mpr c9
   subst c9
   have H1 : (impl_ValidAlgebra.j0 k true l0_0 l0_1 (l0_0.length : Int)) = some r := by rw [if_neg (show ¬ (false = true) by decide)] at H; exact H
   clear H
   have H := H1
   clear H1
   have H' := Aside0.mk H
   clear H
   have hnb13 := NB209_210.out
   have hnc13 := NB210_209.out
   have hcz14_0 : w5.cell? ⟨gb209, 0, none⟩ = some (.slice A0_0 l0_0.length c0_0) := (blk_cell BK209.out 0).trans rfl
   have hcz14_1 : w5.cell? ⟨gb209, 1, none⟩ = some (.slice A0_1 l0_1.length c0_1) := (blk_cell BK209.out 1).trans rfl
   have hfz14_0 := blk_frozen BK209.out 0
   have hfz14_1 := blk_frozen BK209.out 1
   as_aux_lemma =>
    go_wp2_with (first | (go_at_call 63; (with_reducible refine (impl_ValidLattice.calls k _ _ l0_0 false _ ?side1 ?side2 A8.out).mono ?_); (case side1 => exact Kd.C_below HR0_0.out (by repeat (first | (with_reducible first | exact HB.out | apply below_alloc | apply pw_below_drewN | apply below_drew1 | refine below_set ?_ GE209.out | refine below_set ?_ GE210.out) | exact HB.out))); (case side2 => exact HC0_0.out); rintro e w' ⟨rfl, ⟨nd, rfl⟩⟩; (try first | exact ⟨rfl, _, World.drewN_drewN _ _ _⟩ | exact ⟨rfl, _, Eq.trans (World.drewN_drewN _ _ _) (congrArg (World.drewN _) (Nat.add_assoc _ _ _))⟩)))
    repeat (go_quiet (first | (go_at_call 63; (with_reducible refine (impl_ValidLattice.calls k _ _ l0_0 false _ ?side1 ?side2 A8.out).mono ?_); (case side1 => exact Kd.C_below HR0_0.out (by repeat (first | (with_reducible first | exact HB.out | apply below_alloc | apply pw_below_drewN | apply below_drew1 | refine below_set ?_ GE209.out | refine below_set ?_ GE210.out) | exact HB.out))); (case side2 => exact HC0_0.out); rintro e w' ⟨rfl, ⟨nd, rfl⟩⟩; (try first | exact ⟨rfl, _, World.drewN_drewN _ _ _⟩ | exact ⟨rfl, _, Eq.trans (World.drewN_drewN _ _ _) (congrArg (World.drewN _) (Nat.add_assoc _ _ _))⟩))); try go_wp2_with (first | (go_at_call 63; (with_reducible refine (impl_ValidLattice.calls k _ _ l0_0 false _ ?side1 ?side2 A8.out).mono ?_); (case side1 => exact Kd.C_below HR0_0.out (by repeat (first | (with_reducible first | exact HB.out | apply below_alloc | apply pw_below_drewN | apply below_drew1 | refine below_set ?_ GE209.out | refine below_set ?_ GE210.out) | exact HB.out))); (case side2 => exact HC0_0.out); rintro e w' ⟨rfl, ⟨nd, rfl⟩⟩; (try first | exact ⟨rfl, _, World.drewN_drewN _ _ _⟩ | exact ⟨rfl, _, Eq.trans (World.drewN_drewN _ _ _) (congrArg (World.drewN _) (Nat.add_assoc _ _ _))⟩))))
    go_meet
    case rel => exact ⟨_, (true), (by first | rfl | (simp; done) | (simp [*]; done)), H', ⟨by first | omega | exact Nat.le_refl _⟩, ⟨by (with_reducible repeat (first | refine blk_drewN ?_ _ | refine blk_drew ?_ | refine blk_alloc ?_ _)); refine blk_far ?_ NB209_210.out _; (with_reducible repeat (first | refine blk_drewN ?_ _ | refine blk_drew ?_ | refine blk_alloc ?_ _)); exact BK209.out⟩, ⟨by (with_reducible repeat (first | refine blk_drewN ?_ _ | refine blk_drew ?_ | refine blk_alloc ?_ _)); refine blk_put (cs := #[.int .i64 0]) ?_ 0 _ rfl; (with_reducible repeat (first | refine blk_drewN ?_ _ | refine blk_drew ?_ | refine blk_alloc ?_ _)); exact BK210.out⟩, ⟨by repeat (first | (with_reducible first | exact HB.out | apply below_alloc | apply pw_below_drewN | apply below_drew1 | refine below_set ?_ GE209.out | refine below_set ?_ GE210.out) | exact HB.out)⟩⟩
 case rest =>
  clear HC2
  try clear c1
  try clear c2
  try clear p2
  try clear c6
  try clear c9
  try clear c10
  try clear c13
  try clear hcz11_0
  try clear hcz11_1
  try clear hcz12_0
  try clear hcz14_0
  try clear hcz14_1
  try clear hcz4_0
  try clear hcz4_1
  try clear hcz7_0
  try clear hfz11_0
  try clear hfz11_1
  try clear hfz12_0
  try clear hfz14_0
  try clear hfz14_1
  try clear hfz4_0
  try clear hfz4_1
  try clear hfz7_0
  obtain ⟨kq, x22_1, rfl, HA, HJ1, BK209, BK210, HB⟩ := hcut
  cases kq with
  | zero => exact absurd HA.out (by simp [impl_ValidAlgebra.j0])
  | succ kj1 =>
   have H := HA.out
   clear HA
   simp only [impl_ValidAlgebra.j0] at H
   by_cases c15 : x22_1 = true
   ·subst c15
    have H1 : (some false) = some r := by rw [if_pos rfl] at H; exact H
    clear H
    have H := H1
    clear H1
    obtain rfl := Option.some.inj H
    as_aux_lemma =>
     go_wp2
     repeat (go_quiet (fail); try go_wp2)
     go_ret
     exact ⟨by first | rfl | (simp [errW_none, errW_some] <;> rfl) | (simp [*, errW_none, errW_some] <;> rfl), by repeat (first | (with_reducible first | exact HB.out | apply below_alloc | apply pw_below_drewN | apply below_drew1 | refine below_set ?_ GE209.out | refine below_set ?_ GE210.out) | exact HB.out)⟩
   ·replace c15 := Bool.eq_false_iff.mpr c15
    subst c15
    have H1 : (impl_ValidAlgebra.l0 kj1 l0_1 (l0_1.length : Int) 0 l0_0 l0_1 (l0_0.length : Int)) = some r := by rw [if_neg (show ¬ (false = true) by decide)] at H; exact H
    clear H
    have H := H1
    clear H1
    have H' := Aside0.mk H
    clear H
    have hnb16 := NB209_210.out
    have hnc16 := NB210_209.out
    have hcz17_0 : wc.cell? ⟨gb209, 0, none⟩ = some (.slice A0_0 l0_0.length c0_0) := (blk_cell BK209.out 0).trans rfl
    have hcz17_1 : wc.cell? ⟨gb209, 1, none⟩ = some (.slice A0_1 l0_1.length c0_1) := (blk_cell BK209.out 1).trans rfl
    have hfz17_0 := blk_frozen BK209.out 0
    have hfz17_1 := blk_frozen BK209.out 1
    as_aux_lemma =>
     go_wp2
     repeat (go_quiet (fail); try go_wp2)
     go_loopg [26] kj1 (fun kq v26 w' => ∃ (x26_2 : Int), v26 = .int .i64 x26_2 ∧ Aside0 (impl_ValidAlgebra.l0 kq l0_1 (l0_1.length : Int) x26_2 l0_0 l0_1 (l0_0.length : Int) = some r) ∧ Aside0 (kq ≤ kj1) ∧ Aside0 (w'.heap[gb209]? = some (.cells #[(.slice A0_0 l0_0.length c0_0), (.slice A0_1 l0_1.length c0_1)] 28 (0, 0))) ∧ Aside0 (w'.heap[gb210]? = some (.cells #[.int .i64 (l0_0.length : Int)] 3 (0, 0))) ∧ Aside0 (Below w.heap.size w w'))
     case atStart => exact ⟨(0), (by first | rfl | (simp; done) | (simp [*]; done)), H', ⟨Nat.le_refl _⟩, ⟨by (with_reducible repeat (first | refine blk_drewN ?_ _ | refine blk_drew ?_ | refine blk_alloc ?_ _)); exact BK209.out⟩, ⟨by (with_reducible repeat (first | refine blk_drewN ?_ _ | refine blk_drew ?_ | refine blk_alloc ?_ _)); exact BK210.out⟩, ⟨by repeat (first | (with_reducible first | exact HB.out | apply below_alloc | apply pw_below_drewN | apply below_drew1 | refine below_set ?_ GE209.out | refine below_set ?_ GE210.out) | exact HB.out)⟩⟩
     case round =>
      clear H'
      try clear c1
      try clear c2
      try clear p2
      try clear c6
      try clear c9
      try clear c10
      try clear c13
      try clear c15
      try clear c16
      try clear hcz11_0
      try clear hcz11_1
      try clear hcz12_0
      try clear hcz14_0
      try clear hcz14_1
      try clear hcz17_0
      try clear hcz17_1
      try clear hcz4_0
      try clear hcz4_1
      try clear hcz7_0
      try clear hfz11_0
      try clear hfz11_1
      try clear hfz12_0
      try clear hfz14_0
      try clear hfz14_1
      try clear hfz17_0
      try clear hfz17_1
      try clear hfz4_0
      try clear hfz4_1
      try clear hfz7_0
      try clear p2
      obtain ⟨x26_2, rfl, HA, HK2, BK209, BK210, HB⟩ := hrel
      cases gk with
      | zero => exact absurd HA.out (by simp [impl_ValidAlgebra.l0])
      | succ k2 =>
       have H := HA.out
       clear HA
       simp only [impl_ValidAlgebra.l0] at H
       by_cases c18 : x26_2 < (l0_1.length : Int)
       ·rw [if_pos c18] at H
        have c18b0 : decide (x26_2 < (l0_1.length : Int)) = true := decide_eq_true c18
        clear c18
        by_cases c19 : 0 ≤ x26_2
        ·rw [if_pos c19] at H
         have c19b0 : decide (0 ≤ x26_2) = true := decide_eq_true c19
         clear c19
         by_cases c20 : x26_2 < (l0_1.length : Int)
         ·rw [if_pos c20] at H
          have c20b0 : decide (x26_2 < (l0_1.length : Int)) = true := decide_eq_true c20
          clear c20
          by_cases c21 : ((rd_L1 l0_1 x26_2).length : Int) = (l0_0.length : Int)
          ·rw [if_pos c21] at H
           have c21b0 : (((rd_L1 l0_1 x26_2).length : Int) == (l0_0.length : Int)) = true := beq_iff_eq.mpr c21
           have c21b1 : (((rd_L1 l0_1 x26_2).length : Int) != (l0_0.length : Int)) = false := bne_eq_false_iff_eq.mpr c21
           have c21b2 : ((rd_L1 l0_1 x26_2).length == l0_0.length) = true := by first | simpa using c21 | (simp at c21 ⊢; omega)
           clear c21
           replace H := Option.bind_eq_some_iff.mp H
           obtain ⟨t213, A220, H⟩ := H
           replace H : (if t213 = true then (some false) else (impl_ValidAlgebra.l0 k2 l0_1 (l0_1.length : Int) (wrap64 (x26_2 + 1)) l0_0 l0_1 (l0_0.length : Int))) = some r := H
           have A22 := Aside0.mk A220
           clear A220
           by_cases c23 : t213 = true
           ·subst c23
            have H1 : (some false) = some r := by rw [if_pos rfl] at H; exact H
            clear H
            have H := H1
            clear H1
            obtain rfl := Option.some.inj H
            have p212 : 0 ≤ (x26_2 : Int) := of_decide_eq_true (by first | (with_reducible assumption) | assumption)
            have q212 : x26_2 < (l0_1.length : Int) := of_decide_eq_true (by first | (with_reducible assumption) | assumption)
            obtain ⟨ad212, A212_0, c212_0, e212, hx212_0, hl212_0, hi212_0⟩ := at_L1 HR0_1.out x26_2 p212 q212
            cases e212
            replace hx212_0 := (HB.out.cell (World.block_lt_of_cell? w _ hx212_0)).trans hx212_0
            have HR212_0 := Aside0.mk hi212_0
            have HC212_0 := Aside0.mk hl212_0
            clear hi212_0 hl212_0
            replace p212 := eq_true p212
            replace q212 := eq_true q212
            have hnb24 := NB210_209.out
            have hnc24 := NB209_210.out
            have hcz25_0 : wr.cell? ⟨gb210, 0, none⟩ = some (.int .i64 (l0_0.length : Int)) := (blk_cell BK210.out 0).trans rfl
            have hfz25_0 := blk_frozen BK210.out 0
            as_aux_lemma =>
             go_wp2_with (first | (go_at_call 64; (with_reducible refine (cf_ValidAlgebra_1.calls _ _ (rd_L1 l0_1 x26_2) gb210 (l0_0.length : Int) true _ ?side1 ?side2 ?side3 A22.out).mono ?_); (case side1 => repeat (first | exact (Kd.C_below HR212_0.out HB.out) | (with_reducible refine Kd.C_alloc ?_ _) | (with_reducible refine Kd.C_drewN ?_ _) | (with_reducible refine Kd.C_drew ?_))); (case side2 => exact HC212_0.out); (case side3 => exact (show _ from by (with_reducible repeat (first | refine blk_drewN ?_ _ | refine blk_drew ?_ | refine blk_alloc ?_ _)); exact BK210.out)); rintro e w' ⟨rfl, ⟨nd, rfl⟩⟩; (try first | exact ⟨rfl, _, World.drewN_drewN _ _ _⟩ | exact ⟨rfl, _, Eq.trans (World.drewN_drewN _ _ _) (congrArg (World.drewN _) (Nat.add_assoc _ _ _))⟩)))
             repeat (go_quiet (first | (go_at_call 64; (with_reducible refine (cf_ValidAlgebra_1.calls _ _ (rd_L1 l0_1 x26_2) gb210 (l0_0.length : Int) true _ ?side1 ?side2 ?side3 A22.out).mono ?_); (case side1 => repeat (first | exact (Kd.C_below HR212_0.out HB.out) | (with_reducible refine Kd.C_alloc ?_ _) | (with_reducible refine Kd.C_drewN ?_ _) | (with_reducible refine Kd.C_drew ?_))); (case side2 => exact HC212_0.out); (case side3 => exact (show _ from by (with_reducible repeat (first | refine blk_drewN ?_ _ | refine blk_drew ?_ | refine blk_alloc ?_ _)); exact BK210.out)); rintro e w' ⟨rfl, ⟨nd, rfl⟩⟩; (try first | exact ⟨rfl, _, World.drewN_drewN _ _ _⟩ | exact ⟨rfl, _, Eq.trans (World.drewN_drewN _ _ _) (congrArg (World.drewN _) (Nat.add_assoc _ _ _))⟩))); try go_wp2_with (first | (go_at_call 64; (with_reducible refine (cf_ValidAlgebra_1.calls _ _ (rd_L1 l0_1 x26_2) gb210 (l0_0.length : Int) true _ ?side1 ?side2 ?side3 A22.out).mono ?_); (case side1 => repeat (first | exact (Kd.C_below HR212_0.out HB.out) | (with_reducible refine Kd.C_alloc ?_ _) | (with_reducible refine Kd.C_drewN ?_ _) | (with_reducible refine Kd.C_drew ?_))); (case side2 => exact HC212_0.out); (case side3 => exact (show _ from by (with_reducible repeat (first | refine blk_drewN ?_ _ | refine blk_drew ?_ | refine blk_alloc ?_ _)); exact BK210.out)); rintro e w' ⟨rfl, ⟨nd, rfl⟩⟩; (try first | exact ⟨rfl, _, World.drewN_drewN _ _ _⟩ | exact ⟨rfl, _, Eq.trans (World.drewN_drewN _ _ _) (congrArg (World.drewN _) (Nat.add_assoc _ _ _))⟩))))
             go_ret
             exact ⟨by first | rfl | (simp [errW_none, errW_some] <;> rfl) | (simp [*, errW_none, errW_some] <;> rfl), by repeat (first | (with_reducible first | exact HB.out | apply below_alloc | apply pw_below_drewN | apply below_drew1 | refine below_set ?_ GE209.out | refine below_set ?_ GE210.out) | exact HB.out)⟩
           ·replace c23 := Bool.eq_false_iff.mpr c23
            subst c23
            have H1 : (impl_ValidAlgebra.l0 k2 l0_1 (l0_1.length : Int) (wrap64 (x26_2 + 1)) l0_0 l0_1 (l0_0.length : Int)) = some r := by rw [if_neg (show ¬ (false = true) by decide)] at H; exact H
            clear H
            have H := H1
            clear H1
            have H' := Aside0.mk H
            clear H
            have p212 : 0 ≤ (x26_2 : Int) := of_decide_eq_true (by first | (with_reducible assumption) | assumption)
            have q212 : x26_2 < (l0_1.length : Int) := of_decide_eq_true (by first | (with_reducible assumption) | assumption)
            obtain ⟨ad212, A212_0, c212_0, e212, hx212_0, hl212_0, hi212_0⟩ := at_L1 HR0_1.out x26_2 p212 q212
            cases e212
            replace hx212_0 := (HB.out.cell (World.block_lt_of_cell? w _ hx212_0)).trans hx212_0
            have HR212_0 := Aside0.mk hi212_0
            have HC212_0 := Aside0.mk hl212_0
            clear hi212_0 hl212_0
            replace p212 := eq_true p212
            replace q212 := eq_true q212
            have hnb26 := NB210_209.out
            have hnc26 := NB209_210.out
            have hcz27_0 : wr.cell? ⟨gb210, 0, none⟩ = some (.int .i64 (l0_0.length : Int)) := (blk_cell BK210.out 0).trans rfl
            have hfz27_0 := blk_frozen BK210.out 0
            as_aux_lemma =>
             go_wp2_with (first | (go_at_call 64; (with_reducible refine (cf_ValidAlgebra_1.calls _ _ (rd_L1 l0_1 x26_2) gb210 (l0_0.length : Int) false _ ?side1 ?side2 ?side3 A22.out).mono ?_); (case side1 => repeat (first | exact (Kd.C_below HR212_0.out HB.out) | (with_reducible refine Kd.C_alloc ?_ _) | (with_reducible refine Kd.C_drewN ?_ _) | (with_reducible refine Kd.C_drew ?_))); (case side2 => exact HC212_0.out); (case side3 => exact (show _ from by (with_reducible repeat (first | refine blk_drewN ?_ _ | refine blk_drew ?_ | refine blk_alloc ?_ _)); exact BK210.out)); rintro e w' ⟨rfl, ⟨nd, rfl⟩⟩; (try first | exact ⟨rfl, _, World.drewN_drewN _ _ _⟩ | exact ⟨rfl, _, Eq.trans (World.drewN_drewN _ _ _) (congrArg (World.drewN _) (Nat.add_assoc _ _ _))⟩)))
             repeat (go_quiet (first | (go_at_call 64; (with_reducible refine (cf_ValidAlgebra_1.calls _ _ (rd_L1 l0_1 x26_2) gb210 (l0_0.length : Int) false _ ?side1 ?side2 ?side3 A22.out).mono ?_); (case side1 => repeat (first | exact (Kd.C_below HR212_0.out HB.out) | (with_reducible refine Kd.C_alloc ?_ _) | (with_reducible refine Kd.C_drewN ?_ _) | (with_reducible refine Kd.C_drew ?_))); (case side2 => exact HC212_0.out); (case side3 => exact (show _ from by (with_reducible repeat (first | refine blk_drewN ?_ _ | refine blk_drew ?_ | refine blk_alloc ?_ _)); exact BK210.out)); rintro e w' ⟨rfl, ⟨nd, rfl⟩⟩; (try first | exact ⟨rfl, _, World.drewN_drewN _ _ _⟩ | exact ⟨rfl, _, Eq.trans (World.drewN_drewN _ _ _) (congrArg (World.drewN _) (Nat.add_assoc _ _ _))⟩))); try go_wp2_with (first | (go_at_call 64; (with_reducible refine (cf_ValidAlgebra_1.calls _ _ (rd_L1 l0_1 x26_2) gb210 (l0_0.length : Int) false _ ?side1 ?side2 ?side3 A22.out).mono ?_); (case side1 => repeat (first | exact (Kd.C_below HR212_0.out HB.out) | (with_reducible refine Kd.C_alloc ?_ _) | (with_reducible refine Kd.C_drewN ?_ _) | (with_reducible refine Kd.C_drew ?_))); (case side2 => exact HC212_0.out); (case side3 => exact (show _ from by (with_reducible repeat (first | refine blk_drewN ?_ _ | refine blk_drew ?_ | refine blk_alloc ?_ _)); exact BK210.out)); rintro e w' ⟨rfl, ⟨nd, rfl⟩⟩; (try first | exact ⟨rfl, _, World.drewN_drewN _ _ _⟩ | exact ⟨rfl, _, Eq.trans (World.drewN_drewN _ _ _) (congrArg (World.drewN _) (Nat.add_assoc _ _ _))⟩))))
             go_roundg k2
             case measure => have := HJ1.out; have := HK2.out; omega
             case rel => exact ⟨(wrap64 (x26_2 + 1)), (by first | rfl | (simp; done) | (simp [*]; done)), H', ⟨by have := HJ1.out; have := HK2.out; omega⟩, ⟨by (with_reducible repeat (first | refine blk_drewN ?_ _ | refine blk_drew ?_ | refine blk_alloc ?_ _)); exact BK209.out⟩, ⟨by (with_reducible repeat (first | refine blk_drewN ?_ _ | refine blk_drew ?_ | refine blk_alloc ?_ _)); exact BK210.out⟩, ⟨by repeat (first | (with_reducible first | exact HB.out | apply below_alloc | apply pw_below_drewN | apply below_drew1 | refine below_set ?_ GE209.out | refine below_set ?_ GE210.out) | exact HB.out)⟩⟩
          ·rw [if_neg c21] at H
           have c21b0 : (((rd_L1 l0_1 x26_2).length : Int) == (l0_0.length : Int)) = false := beq_eq_false_iff_ne.mpr c21
           have c21b1 : (((rd_L1 l0_1 x26_2).length : Int) != (l0_0.length : Int)) = true := bne_iff_ne.mpr c21
           have c21b2 : ((rd_L1 l0_1 x26_2).length == l0_0.length) = false := by first | simpa using c21 | (simp at c21 ⊢; omega)
           obtain rfl := Option.some.inj H
           have p212 : 0 ≤ (x26_2 : Int) := of_decide_eq_true (by first | (with_reducible assumption) | assumption)
           have q212 : x26_2 < (l0_1.length : Int) := of_decide_eq_true (by first | (with_reducible assumption) | assumption)
           obtain ⟨ad212, A212_0, c212_0, e212, hx212_0, hl212_0, hi212_0⟩ := at_L1 HR0_1.out x26_2 p212 q212
           cases e212
           replace hx212_0 := (HB.out.cell (World.block_lt_of_cell? w _ hx212_0)).trans hx212_0
           have HR212_0 := Aside0.mk hi212_0
           have HC212_0 := Aside0.mk hl212_0
           clear hi212_0 hl212_0
           replace p212 := eq_true p212
           replace q212 := eq_true q212
           have hnb28 := NB210_209.out
           have hnc28 := NB209_210.out
           have hcz29_0 : wr.cell? ⟨gb210, 0, none⟩ = some (.int .i64 (l0_0.length : Int)) := (blk_cell BK210.out 0).trans rfl
           have hfz29_0 := blk_frozen BK210.out 0
           as_aux_lemma =>
            go_wp2
            repeat (go_quiet (fail); try go_wp2)
            go_ret
            exact ⟨by first | rfl | (simp [errW_none, errW_some] <;> rfl) | (simp [*, errW_none, errW_some] <;> rfl), by repeat (first | (with_reducible first | exact HB.out | apply below_alloc | apply pw_below_drewN | apply below_drew1 | refine below_set ?_ GE209.out | refine below_set ?_ GE210.out) | exact HB.out)⟩
         ·rw [if_neg c20] at H
          exact absurd H (by simp)
        ·rw [if_neg c19] at H
         exact absurd H (by simp)
       ·rw [if_neg c18] at H
        have c18b0 : decide (x26_2 < (l0_1.length : Int)) = false := decide_eq_false c18
        clear c18
        have H' := Aside0.mk H
        clear H
        have hnb30 := NB209_210.out
        have hnc30 := NB210_209.out
        have hcz31_0 : wr.cell? ⟨gb209, 0, none⟩ = some (.slice A0_0 l0_0.length c0_0) := (blk_cell BK209.out 0).trans rfl
        have hcz31_1 : wr.cell? ⟨gb209, 1, none⟩ = some (.slice A0_1 l0_1.length c0_1) := (blk_cell BK209.out 1).trans rfl
        have hfz31_0 := blk_frozen BK209.out 0
        have hfz31_1 := blk_frozen BK209.out 1
        as_aux_lemma =>
         go_wp2
         repeat (go_quiet (fail); try go_wp2)
         go_loopg [43] k2 (fun kq v43 w' => ∃ (x43_3 : Int), v43 = .int .i64 x43_3 ∧ Aside0 (impl_ValidAlgebra.l1 kq (l0_0.length : Int) x43_3 l0_0 l0_1 (l0_0.length : Int) = some r) ∧ Aside0 (kq ≤ k2) ∧ Aside0 (w'.heap[gb209]? = some (.cells #[(.slice A0_0 l0_0.length c0_0), (.slice A0_1 l0_1.length c0_1)] 28 (0, 0))) ∧ Aside0 (w'.heap[gb210]? = some (.cells #[.int .i64 (l0_0.length : Int)] 3 (0, 0))) ∧ Aside0 (Below w.heap.size w w'))
         case atStart => exact ⟨(0), (by first | rfl | (simp; done) | (simp [*]; done)), H', ⟨Nat.le_refl _⟩, ⟨by (with_reducible repeat (first | refine blk_drewN ?_ _ | refine blk_drew ?_ | refine blk_alloc ?_ _)); exact BK209.out⟩, ⟨by (with_reducible repeat (first | refine blk_drewN ?_ _ | refine blk_drew ?_ | refine blk_alloc ?_ _)); exact BK210.out⟩, ⟨by repeat (first | (with_reducible first | exact HB.out | apply below_alloc | apply pw_below_drewN | apply below_drew1 | refine below_set ?_ GE209.out | refine below_set ?_ GE210.out) | exact HB.out)⟩⟩
         case round =>
          clear H'
          try clear c1
          try clear c2
          try clear p2
          try clear q2
          try clear hx2
          try clear c3
          try clear c6
          try clear p6
          try clear c9
          try clear c10
          try clear c13
          try clear c15
          try clear c16
          try clear c18
          try clear c18b0
          try clear c19
          try clear c19b0
          try clear c20
          try clear c20b0
          try clear c21
          try clear c21b0
          try clear c21b1
          try clear c21b2
          try clear p21
          try clear q21
          try clear hx21
          try clear c22
          try clear c23
          try clear c24
          try clear c26
          try clear c28
          try clear c30
          try clear hcz11_0
          try clear hcz11_1
          try clear hcz12_0
          try clear hcz14_0
          try clear hcz14_1
          try clear hcz17_0
          try clear hcz17_1
          try clear hcz25_0
          try clear hcz27_0
          try clear hcz29_0
          try clear hcz31_0
          try clear hcz31_1
          try clear hcz4_0
          try clear hcz4_1
          try clear hcz7_0
          try clear hfz11_0
          try clear hfz11_1
          try clear hfz12_0
          try clear hfz14_0
          try clear hfz14_1
          try clear hfz17_0
          try clear hfz17_1
          try clear hfz25_0
          try clear hfz27_0
          try clear hfz29_0
          try clear hfz31_0
          try clear hfz31_1
          try clear hfz4_0
          try clear hfz4_1
          try clear hfz7_0
          try clear hx212_0
          try clear p2
          try clear p212
          try clear q212
          obtain ⟨x43_3, rfl, HA, HK3, BK209, BK210, HB⟩ := hrel
          cases gk with
          | zero => exact absurd HA.out (by simp [impl_ValidAlgebra.l1])
          | succ k3 =>
           have H := HA.out
           clear HA
           simp only [impl_ValidAlgebra.l1] at H
           by_cases c32 : x43_3 < (l0_0.length : Int)
           ·rw [if_pos c32] at H
            have c32b0 : decide (x43_3 < (l0_0.length : Int)) = true := decide_eq_true c32
            clear c32
            have HC33 := Aside0.mk H
            clear H
            go_upto_region 13 with (fail)
            repeat (go_quiet (fail); go_upto_region 13 with (fail))
            go_cut [66] (fun v66 wc => ∃ (kq : Nat) (x66_32 : Bool), v66 = .bool x66_32 ∧ Aside0 (impl_ValidAlgebra.j3 kq x43_3 (l0_0.length : Int) x43_3 x66_32 l0_0 l0_1 (l0_0.length : Int) = some r) ∧ Aside0 (kq ≤ k3) ∧ Aside0 (wc.heap[gb209]? = some (.cells #[(.slice A0_0 l0_0.length c0_0), (.slice A0_1 l0_1.length c0_1)] 28 (0, 0))) ∧ Aside0 (wc.heap[gb210]? = some (.cells #[.int .i64 (l0_0.length : Int)] 3 (0, 0))) ∧ Aside0 (Below w.heap.size w wc))
            case first =>
             have H := HC33.out
             clear HC33
             by_cases c34 : 0 ≤ x43_3
             ·rw [if_pos c34] at H
              have c34b0 : decide (0 ≤ x43_3) = true := decide_eq_true c34
              clear c34
              (first | rw [c34b0] | (simp only [i64_w, i32_w]; rw [c34b0]) | skip)
              by_cases c35 : x43_3 < (l0_1.length : Int)
              ·rw [if_pos c35] at H
               have c35b0 : decide (x43_3 < (l0_1.length : Int)) = true := decide_eq_true c35
               clear c35
               obtain ⟨ji36, hji36⟩ : ∃ j_ : Int, (wrap64 ((l0_0.length : Int) - 1)) = j_ := ⟨_, rfl⟩
               replace H : (if 0 ≤ (ji36) then (if (ji36) < ((rd_L1 l0_1 x43_3).length : Int) then (if (rd (rd_L1 l0_1 x43_3) (ji36)) = x43_3 then (if 0 < ((rd_L1 l0_1 x43_3).length : Int) then (impl_ValidAlgebra.j3 k3 x43_3 (l0_0.length : Int) x43_3 ((rd (rd_L1 l0_1 x43_3) 0) != 0) l0_0 l0_1 (l0_0.length : Int)) else (none)) else (impl_ValidAlgebra.j3 k3 x43_3 (l0_0.length : Int) x43_3 true l0_0 l0_1 (l0_0.length : Int))) else (none)) else (none)) = some r := by first | (rw [hji36] at H; exact H) | (simp only [hji36] at H ⊢; exact H)
               have hji36w : (IntKind.i64.wrap ((l0_0.length : Int) - 1)) = ji36 := (i64_w _).trans hji36
               by_cases c37 : 0 ≤ (ji36)
               ·rw [if_pos c37] at H
                have c37b0 : decide (0 ≤ (ji36)) = true := decide_eq_true c37
                clear c37
                by_cases c38 : (ji36) < ((rd_L1 l0_1 x43_3).length : Int)
                ·rw [if_pos c38] at H
                 have c38b0 : decide ((ji36) < ((rd_L1 l0_1 x43_3).length : Int)) = true := decide_eq_true c38
                 clear c38
                 by_cases c39 : (rd (rd_L1 l0_1 x43_3) (ji36)) = x43_3
                 ·rw [if_pos c39] at H
                  have c39b0 : ((rd (rd_L1 l0_1 x43_3) (ji36)) == x43_3) = true := beq_iff_eq.mpr c39
                  have c39b1 : ((rd (rd_L1 l0_1 x43_3) (ji36)) != x43_3) = false := bne_eq_false_iff_eq.mpr c39
                  clear c39
                  by_cases c40 : 0 < ((rd_L1 l0_1 x43_3).length : Int)
                  ·rw [if_pos c40] at H
                   have c40b0 : decide (0 < ((rd_L1 l0_1 x43_3).length : Int)) = true := decide_eq_true c40
                   have c40b1 : decide (0 < (rd_L1 l0_1 x43_3).length) = true := decide_eq_true (by omega)
                   clear c40
                   have H' := Aside0.mk H
                   clear H
                   have hnb41 := NB209_210.out
                   have hnc41 := NB210_209.out
                   have hcz42_0 : wr.cell? ⟨gb209, 0, none⟩ = some (.slice A0_0 l0_0.length c0_0) := (blk_cell BK209.out 0).trans rfl
                   have hcz42_1 : wr.cell? ⟨gb209, 1, none⟩ = some (.slice A0_1 l0_1.length c0_1) := (blk_cell BK209.out 1).trans rfl
                   have hfz42_0 := blk_frozen BK209.out 0
                   have hfz42_1 := blk_frozen BK209.out 1
                   have p214 : 0 ≤ (x43_3 : Int) := of_decide_eq_true (by first | (with_reducible assumption) | assumption)
                   have q214 : x43_3 < (l0_1.length : Int) := of_decide_eq_true (by first | (with_reducible assumption) | assumption)
                   obtain ⟨ad214, A214_0, c214_0, e214, hx214_0, hl214_0, hi214_0⟩ := at_L1 HR0_1.out x43_3 p214 q214
                   cases e214
                   replace hx214_0 := (HB.out.cell (World.block_lt_of_cell? w _ hx214_0)).trans hx214_0
                   have HR214_0 := Aside0.mk hi214_0
                   have HC214_0 := Aside0.mk hl214_0
                   clear hi214_0 hl214_0
                   replace p214 := eq_true p214
                   replace q214 := eq_true q214
                   have hcz43_0 : wr.cell? ⟨gb210, 0, none⟩ = some (.int .i64 (l0_0.length : Int)) := (blk_cell BK210.out 0).trans rfl
                   have hfz43_0 := blk_frozen BK210.out 0
                   have p215 : 0 ≤ ((ji36) : Int) := of_decide_eq_true (by first | (with_reducible assumption) | assumption)
                   have q215 : (ji36) < ((rd_L1 l0_1 x43_3).length : Int) := of_decide_eq_true (by first | (with_reducible assumption) | assumption)
                   obtain ⟨ad215, e215, hx215_0⟩ := Kd.at_int HR214_0.out (ji36) p215 q215
                   cases e215
                   replace hx215_0 := (HB.out.cell (World.block_lt_of_cell? w _ hx215_0)).trans hx215_0
                   replace p215 := eq_true p215
                   replace q215 := eq_true q215
                   have p216 : 0 ≤ (x43_3 : Int) := of_decide_eq_true (by first | (with_reducible assumption) | assumption)
                   have q216 : x43_3 < (l0_1.length : Int) := of_decide_eq_true (by first | (with_reducible assumption) | assumption)
                   obtain ⟨ad216, A216_0, c216_0, e216, hx216_0, hl216_0, hi216_0⟩ := at_L1 HR0_1.out x43_3 p216 q216
                   obtain rfl : ad214 = ad216 := (by injection e216)
                   replace hx216_0 := (HB.out.cell (World.block_lt_of_cell? w _ hx216_0)).trans hx216_0
                   have HR216_0 := Aside0.mk hi216_0
                   have HC216_0 := Aside0.mk hl216_0
                   clear hi216_0 hl216_0
                   replace p216 := eq_true p216
                   replace q216 := eq_true q216
                   have ea_ := Option.some.inj (hx214_0.symm.trans hx216_0)
                   injection ea_ with ea_ en_ ec_
                   subst ea_
                   subst ec_
                   clear en_
                   have p217 : 0 ≤ (0 : Int) := (by omega)
                   have q217 : 0 < ((rd_L1 l0_1 x43_3).length : Int) := of_decide_eq_true (by first | (with_reducible assumption) | assumption)
                   obtain ⟨ad217, e217, hx217_0⟩ := Kd.at_int HR216_0.out 0 p217 q217
                   cases e217
                   have qi217 : (0 < (rd_L1 l0_1 x43_3).length) = True := eq_true (by omega)
                   (try rw [show ((0 : Int)).toNat = 0 from rfl] at hx217_0)
                   (try rw [Addr.add_zero'] at hx217_0)
                   replace hx217_0 := (HB.out.cell (World.block_lt_of_cell? w _ hx217_0)).trans hx217_0
                   replace p217 := eq_true p217
                   replace q217 := eq_true q217
                   as_aux_lemma =>
                    go_wp2
                    repeat (go_quiet (fail); try go_wp2)
                    go_meet
                    case rel => exact ⟨_, (((rd (rd_L1 l0_1 x43_3) 0) != 0)), (by first | rfl | (simp; done) | (simp [*]; done)), H', ⟨by have := HJ1.out; have := HK2.out; have := HK3.out; first | omega | exact Nat.le_refl _⟩, ⟨by (with_reducible repeat (first | refine blk_drewN ?_ _ | refine blk_drew ?_ | refine blk_alloc ?_ _)); exact BK209.out⟩, ⟨by (with_reducible repeat (first | refine blk_drewN ?_ _ | refine blk_drew ?_ | refine blk_alloc ?_ _)); exact BK210.out⟩, ⟨by repeat (first | (with_reducible first | exact HB.out | apply below_alloc | apply pw_below_drewN | apply below_drew1 | refine below_set ?_ GE209.out | refine below_set ?_ GE210.out) | exact HB.out)⟩⟩
                  ·rw [if_neg c40] at H
                   exact absurd H (by simp)
                 ·rw [if_neg c39] at H
                  have c39b0 : ((rd (rd_L1 l0_1 x43_3) (ji36)) == x43_3) = false := beq_eq_false_iff_ne.mpr c39
                  have c39b1 : ((rd (rd_L1 l0_1 x43_3) (ji36)) != x43_3) = true := bne_iff_ne.mpr c39
                  have H' := Aside0.mk H
                  clear H
                  have hnb44 := NB209_210.out
                  have hnc44 := NB210_209.out
                  have hcz45_0 : wr.cell? ⟨gb209, 0, none⟩ = some (.slice A0_0 l0_0.length c0_0) := (blk_cell BK209.out 0).trans rfl
                  have hcz45_1 : wr.cell? ⟨gb209, 1, none⟩ = some (.slice A0_1 l0_1.length c0_1) := (blk_cell BK209.out 1).trans rfl
                  have hfz45_0 := blk_frozen BK209.out 0
                  have hfz45_1 := blk_frozen BK209.out 1
                  have p214 : 0 ≤ (x43_3 : Int) := of_decide_eq_true (by first | (with_reducible assumption) | assumption)
                  have q214 : x43_3 < (l0_1.length : Int) := of_decide_eq_true (by first | (with_reducible assumption) | assumption)
                  obtain ⟨ad214, A214_0, c214_0, e214, hx214_0, hl214_0, hi214_0⟩ := at_L1 HR0_1.out x43_3 p214 q214
                  cases e214
                  replace hx214_0 := (HB.out.cell (World.block_lt_of_cell? w _ hx214_0)).trans hx214_0
                  have HR214_0 := Aside0.mk hi214_0
                  have HC214_0 := Aside0.mk hl214_0
                  clear hi214_0 hl214_0
                  replace p214 := eq_true p214
                  replace q214 := eq_true q214
                  have hcz46_0 : wr.cell? ⟨gb210, 0, none⟩ = some (.int .i64 (l0_0.length : Int)) := (blk_cell BK210.out 0).trans rfl
                  have hfz46_0 := blk_frozen BK210.out 0
                  have p215 : 0 ≤ ((ji36) : Int) := of_decide_eq_true (by first | (with_reducible assumption) | assumption)
                  have q215 : (ji36) < ((rd_L1 l0_1 x43_3).length : Int) := of_decide_eq_true (by first | (with_reducible assumption) | assumption)
                  obtain ⟨ad215, e215, hx215_0⟩ := Kd.at_int HR214_0.out (ji36) p215 q215
                  cases e215
                  replace hx215_0 := (HB.out.cell (World.block_lt_of_cell? w _ hx215_0)).trans hx215_0
                  replace p215 := eq_true p215
                  replace q215 := eq_true q215
                  as_aux_lemma =>
                   go_wp2
                   repeat (go_quiet (fail); try go_wp2)
                   go_meet
                   case rel => exact ⟨_, (true), (by first | rfl | (simp; done) | (simp [*]; done)), H', ⟨by have := HJ1.out; have := HK2.out; have := HK3.out; first | omega | exact Nat.le_refl _⟩, ⟨by (with_reducible repeat (first | refine blk_drewN ?_ _ | refine blk_drew ?_ | refine blk_alloc ?_ _)); exact BK209.out⟩, ⟨by (with_reducible repeat (first | refine blk_drewN ?_ _ | refine blk_drew ?_ | refine blk_alloc ?_ _)); exact BK210.out⟩, ⟨by repeat (first | (with_reducible first | exact HB.out | apply below_alloc | apply pw_below_drewN | apply below_drew1 | refine below_set ?_ GE209.out | refine below_set ?_ GE210.out) | exact HB.out)⟩⟩
                ·rw [if_neg c38] at H
                 exact absurd H (by simp)
               ·rw [if_neg c37] at H
                exact absurd H (by simp)
              ·rw [if_neg c35] at H
               exact absurd H (by simp)
             ·rw [if_neg c34] at H
              exact absurd H (by simp)
            case rest =>
             clear HC33
             try clear c1
             try clear c2
             try clear p2
             try clear q2
             try clear hx2
             try clear qi2
             try clear c3
             try clear c4
             try clear c6
             try clear p6
             try clear c9
             try clear c10
             try clear c13
             try clear c15
             try clear c16
             try clear c18
             try clear c18b0
             try clear c19
             try clear c19b0
             try clear c20
             try clear c20b0
             try clear c21
             try clear c21b0
             try clear c21b1
             try clear c21b2
             try clear p21
             try clear q21
             try clear hx21
             try clear qi21
             try clear c22
             try clear c23
             try clear c24
             try clear c26
             try clear c28
             try clear c30
             try clear c32
             try clear c32b0
             try clear c34
             try clear c34b0
             try clear c35
             try clear c35b0
             try clear c37
             try clear c37b0
             try clear c38
             try clear c38b0
             try clear c39
             try clear c39b0
             try clear c39b1
             try clear c40
             try clear c40b0
             try clear c40b1
             try clear c41
             try clear c44
             try clear hcz11_0
             try clear hcz11_1
             try clear hcz12_0
             try clear hcz14_0
             try clear hcz14_1
             try clear hcz17_0
             try clear hcz17_1
             try clear hcz25_0
             try clear hcz27_0
             try clear hcz29_0
             try clear hcz31_0
             try clear hcz31_1
             try clear hcz42_0
             try clear hcz42_1
             try clear hcz43_0
             try clear hcz45_0
             try clear hcz45_1
             try clear hcz46_0
             try clear hcz4_0
             try clear hcz4_1
             try clear hcz7_0
             try clear hfz11_0
             try clear hfz11_1
             try clear hfz12_0
             try clear hfz14_0
             try clear hfz14_1
             try clear hfz17_0
             try clear hfz17_1
             try clear hfz25_0
             try clear hfz27_0
             try clear hfz29_0
             try clear hfz31_0
             try clear hfz31_1
             try clear hfz42_0
             try clear hfz42_1
             try clear hfz43_0
             try clear hfz45_0
             try clear hfz45_1
             try clear hfz46_0
             try clear hfz4_0
             try clear hfz4_1
             try clear hfz7_0
             try clear hx212_0
             try clear hx214_0
             try clear hx215_0
             try clear hx216_0
             try clear hx217_0
             try clear p2
             try clear p21
             try clear p212
             try clear p214
             try clear p215
             try clear p216
             try clear p217
             try clear p6
             try clear q2
             try clear q21
             try clear q212
             try clear q214
             try clear q215
             try clear q216
             try clear q217
             obtain ⟨kq, x66_32, rfl, HA, HJ32, BK209, BK210, HB⟩ := hcut
             cases kq with
             | zero => exact absurd HA.out (by simp [impl_ValidAlgebra.j3])
             | succ kj32 =>
              have H := HA.out
              clear HA
              simp only [impl_ValidAlgebra.j3] at H
              by_cases c47 : x66_32 = true
              ·subst c47
               have H1 : (some false) = some r := by rw [if_pos rfl] at H; exact H
               clear H
               have H := H1
               clear H1
               obtain rfl := Option.some.inj H
               as_aux_lemma =>
                go_wp2
                repeat (go_quiet (fail); try go_wp2)
                go_ret
                exact ⟨by first | rfl | (simp [errW_none, errW_some] <;> rfl) | (simp [*, errW_none, errW_some] <;> rfl), by repeat (first | (with_reducible first | exact HB.out | apply below_alloc | apply pw_below_drewN | apply below_drew1 | refine below_set ?_ GE209.out | refine below_set ?_ GE210.out) | exact HB.out)⟩
              ·replace c47 := Bool.eq_false_iff.mpr c47
               subst c47
               have H1 : (impl_ValidAlgebra.l2 kj32 x43_3 (l0_0.length : Int) x43_3 (l0_0.length : Int) 0 l0_0 l0_1 (l0_0.length : Int)) = some r := by rw [if_neg (show ¬ (false = true) by decide)] at H; exact H
               clear H
               have H := H1
               clear H1
               have H' := Aside0.mk H
               clear H
               have hnb48 := NB209_210.out
               have hnc48 := NB210_209.out
               have hcz49_0 : wc.cell? ⟨gb209, 0, none⟩ = some (.slice A0_0 l0_0.length c0_0) := (blk_cell BK209.out 0).trans rfl
               have hcz49_1 : wc.cell? ⟨gb209, 1, none⟩ = some (.slice A0_1 l0_1.length c0_1) := (blk_cell BK209.out 1).trans rfl
               have hfz49_0 := blk_frozen BK209.out 0
               have hfz49_1 := blk_frozen BK209.out 1
               as_aux_lemma =>
                go_wp2
                repeat (go_quiet (fail); try go_wp2)
                go_loopg [70] kj32 (fun kq v70 w' => ∃ (x70_5 : Int), v70 = .int .i64 x70_5 ∧ Aside0 (impl_ValidAlgebra.l2 kq x43_3 (l0_0.length : Int) x43_3 (l0_0.length : Int) x70_5 l0_0 l0_1 (l0_0.length : Int) = some r) ∧ Aside0 (kq ≤ kj32) ∧ Aside0 (w'.heap[gb209]? = some (.cells #[(.slice A0_0 l0_0.length c0_0), (.slice A0_1 l0_1.length c0_1)] 28 (0, 0))) ∧ Aside0 (w'.heap[gb210]? = some (.cells #[.int .i64 (l0_0.length : Int)] 3 (0, 0))) ∧ Aside0 (Below w.heap.size w w'))
                case atStart => exact ⟨(0), (by first | rfl | (simp; done) | (simp [*]; done)), H', ⟨Nat.le_refl _⟩, ⟨by (with_reducible repeat (first | refine blk_drewN ?_ _ | refine blk_drew ?_ | refine blk_alloc ?_ _)); exact BK209.out⟩, ⟨by (with_reducible repeat (first | refine blk_drewN ?_ _ | refine blk_drew ?_ | refine blk_alloc ?_ _)); exact BK210.out⟩, ⟨by repeat (first | (with_reducible first | exact HB.out | apply below_alloc | apply pw_below_drewN | apply below_drew1 | refine below_set ?_ GE209.out | refine below_set ?_ GE210.out) | exact HB.out)⟩⟩
                case round =>
                 clear H'
                 try clear c1
                 try clear c2
                 try clear p2
                 try clear q2
                 try clear hx2
                 try clear qi2
                 try clear c3
                 try clear c4
                 try clear c6
                 try clear p6
                 try clear c9
                 try clear c10
                 try clear c13
                 try clear c15
                 try clear c16
                 try clear c18
                 try clear c18b0
                 try clear c19
                 try clear c19b0
                 try clear c20
                 try clear c20b0
                 try clear c21
                 try clear c21b0
                 try clear c21b1
                 try clear c21b2
                 try clear p21
                 try clear q21
                 try clear hx21
                 try clear qi21
                 try clear c22
                 try clear c23
                 try clear c24
                 try clear c26
                 try clear c28
                 try clear c30
                 try clear c32
                 try clear c32b0
                 try clear c34
                 try clear c34b0
                 try clear c35
                 try clear c35b0
                 try clear c37
                 try clear c37b0
                 try clear c38
                 try clear c38b0
                 try clear c39
                 try clear c39b0
                 try clear c39b1
                 try clear c40
                 try clear c40b0
                 try clear c40b1
                 try clear c41
                 try clear c44
                 try clear c47
                 try clear c48
                 try clear hcz11_0
                 try clear hcz11_1
                 try clear hcz12_0
                 try clear hcz14_0
                 try clear hcz14_1
                 try clear hcz17_0
                 try clear hcz17_1
                 try clear hcz25_0
                 try clear hcz27_0
                 try clear hcz29_0
                 try clear hcz31_0
                 try clear hcz31_1
                 try clear hcz42_0
                 try clear hcz42_1
                 try clear hcz43_0
                 try clear hcz45_0
                 try clear hcz45_1
                 try clear hcz46_0
                 try clear hcz49_0
                 try clear hcz49_1
                 try clear hcz4_0
                 try clear hcz4_1
                 try clear hcz7_0
                 try clear hfz11_0
                 try clear hfz11_1
                 try clear hfz12_0
                 try clear hfz14_0
                 try clear hfz14_1
                 try clear hfz17_0
                 try clear hfz17_1
                 try clear hfz25_0
                 try clear hfz27_0
                 try clear hfz29_0
                 try clear hfz31_0
                 try clear hfz31_1
                 try clear hfz42_0
                 try clear hfz42_1
                 try clear hfz43_0
                 try clear hfz45_0
                 try clear hfz45_1
                 try clear hfz46_0
                 try clear hfz49_0
                 try clear hfz49_1
                 try clear hfz4_0
                 try clear hfz4_1
                 try clear hfz7_0
                 try clear hx212_0
                 try clear hx214_0
                 try clear hx215_0
                 try clear hx216_0
                 try clear hx217_0
                 try clear p2
                 try clear p21
                 try clear p212
                 try clear p214
                 try clear p215
                 try clear p216
                 try clear p217
                 try clear p6
                 try clear q2
                 try clear q21
                 try clear q212
                 try clear q214
                 try clear q215
                 try clear q216
                 try clear q217
                 obtain ⟨x70_5, rfl, HA, HK5, BK209, BK210, HB⟩ := hrel
                 cases gk with
                 | zero => exact absurd HA.out (by simp [impl_ValidAlgebra.l2])
                 | succ k5 =>
                  have H := HA.out
                  clear HA
                  simp only [impl_ValidAlgebra.l2] at H
                  by_cases c50 : x70_5 < (l0_0.length : Int)
                  ·rw [if_pos c50] at H
                   have c50b0 : decide (x70_5 < (l0_0.length : Int)) = true := decide_eq_true c50
                   clear c50
                   by_cases c51 : 0 ≤ x43_3
                   ·rw [if_pos c51] at H
                    have c51b0 : decide (0 ≤ x43_3) = true := decide_eq_true c51
                    clear c51
                    by_cases c52 : x43_3 < (l0_1.length : Int)
                    ·rw [if_pos c52] at H
                     have c52b0 : decide (x43_3 < (l0_1.length : Int)) = true := decide_eq_true c52
                     clear c52
                     by_cases c53 : 0 ≤ x70_5
                     ·rw [if_pos c53] at H
                      have c53b0 : decide (0 ≤ x70_5) = true := decide_eq_true c53
                      clear c53
                      by_cases c54 : x70_5 < ((rd_L1 l0_1 x43_3).length : Int)
                      ·rw [if_pos c54] at H
                       have c54b0 : decide (x70_5 < ((rd_L1 l0_1 x43_3).length : Int)) = true := decide_eq_true c54
                       clear c54
                       by_cases c55 : x70_5 < (l0_1.length : Int)
                       ·rw [if_pos c55] at H
                        have c55b0 : decide (x70_5 < (l0_1.length : Int)) = true := decide_eq_true c55
                        clear c55
                        by_cases c56 : x43_3 < ((rd_L1 l0_1 x70_5).length : Int)
                        ·rw [if_pos c56] at H
                         have c56b0 : decide (x43_3 < ((rd_L1 l0_1 x70_5).length : Int)) = true := decide_eq_true c56
                         clear c56
                         by_cases c57 : (rd (rd_L1 l0_1 x43_3) x70_5) = (rd (rd_L1 l0_1 x70_5) x43_3)
                         ·rw [if_pos c57] at H
                          have c57b0 : ((rd (rd_L1 l0_1 x43_3) x70_5) == (rd (rd_L1 l0_1 x70_5) x43_3)) = true := beq_iff_eq.mpr c57
                          have c57b1 : ((rd (rd_L1 l0_1 x43_3) x70_5) != (rd (rd_L1 l0_1 x70_5) x43_3)) = false := bne_eq_false_iff_eq.mpr c57
                          clear c57
                          have H' := Aside0.mk H
                          clear H
                          have hnb58 := NB209_210.out
                          have hnc58 := NB210_209.out
                          have hcz59_0 : wr.cell? ⟨gb209, 0, none⟩ = some (.slice A0_0 l0_0.length c0_0) := (blk_cell BK209.out 0).trans rfl
                          have hcz59_1 : wr.cell? ⟨gb209, 1, none⟩ = some (.slice A0_1 l0_1.length c0_1) := (blk_cell BK209.out 1).trans rfl
                          have hfz59_0 := blk_frozen BK209.out 0
                          have hfz59_1 := blk_frozen BK209.out 1
                          have p218 : 0 ≤ (x43_3 : Int) := of_decide_eq_true (by first | (with_reducible assumption) | assumption)
                          have q218 : x43_3 < (l0_1.length : Int) := of_decide_eq_true (by first | (with_reducible assumption) | assumption)
                          obtain ⟨ad218, A218_0, c218_0, e218, hx218_0, hl218_0, hi218_0⟩ := at_L1 HR0_1.out x43_3 p218 q218
                          cases e218
                          replace hx218_0 := (HB.out.cell (World.block_lt_of_cell? w _ hx218_0)).trans hx218_0
                          have HR218_0 := Aside0.mk hi218_0
                          have HC218_0 := Aside0.mk hl218_0
                          clear hi218_0 hl218_0
                          replace p218 := eq_true p218
                          replace q218 := eq_true q218
                          have p219 : 0 ≤ (x70_5 : Int) := of_decide_eq_true (by first | (with_reducible assumption) | assumption)
                          have q219 : x70_5 < ((rd_L1 l0_1 x43_3).length : Int) := of_decide_eq_true (by first | (with_reducible assumption) | assumption)
                          obtain ⟨ad219, e219, hx219_0⟩ := Kd.at_int HR218_0.out x70_5 p219 q219
                          cases e219
                          replace hx219_0 := (HB.out.cell (World.block_lt_of_cell? w _ hx219_0)).trans hx219_0
                          replace p219 := eq_true p219
                          replace q219 := eq_true q219
                          have p220 : 0 ≤ (x70_5 : Int) := of_decide_eq_true (by first | (with_reducible assumption) | assumption)
                          have q220 : x70_5 < (l0_1.length : Int) := of_decide_eq_true (by first | (with_reducible assumption) | assumption)
                          obtain ⟨ad220, A220_0, c220_0, e220, hx220_0, hl220_0, hi220_0⟩ := at_L1 HR0_1.out x70_5 p220 q220
                          obtain rfl : ad218 = ad220 := (by injection e220)
                          replace hx220_0 := (HB.out.cell (World.block_lt_of_cell? w _ hx220_0)).trans hx220_0
                          have HR220_0 := Aside0.mk hi220_0
                          have HC220_0 := Aside0.mk hl220_0
                          clear hi220_0 hl220_0
                          replace p220 := eq_true p220
                          replace q220 := eq_true q220
                          have p221 : 0 ≤ (x43_3 : Int) := of_decide_eq_true (by first | (with_reducible assumption) | assumption)
                          have q221 : x43_3 < ((rd_L1 l0_1 x70_5).length : Int) := of_decide_eq_true (by first | (with_reducible assumption) | assumption)
                          obtain ⟨ad221, e221, hx221_0⟩ := Kd.at_int HR220_0.out x43_3 p221 q221
                          cases e221
                          replace hx221_0 := (HB.out.cell (World.block_lt_of_cell? w _ hx221_0)).trans hx221_0
                          replace p221 := eq_true p221
                          replace q221 := eq_true q221
                          as_aux_lemma =>
                           go_wp2
                           repeat (go_quiet (fail); try go_wp2)
                           go_loopg [93] k5 (fun kq v93 w' => ∃ (x93_6 : Int), v93 = .int .i64 x93_6 ∧ Aside0 (impl_ValidAlgebra.l3 kq x43_3 x70_5 (l0_0.length : Int) x43_3 (l0_0.length : Int) x70_5 (l0_0.length : Int) x93_6 l0_0 l0_1 (l0_0.length : Int) = some r) ∧ Aside0 (kq ≤ k5) ∧ Aside0 (w'.heap[gb209]? = some (.cells #[(.slice A0_0 l0_0.length c0_0), (.slice (some ad218) l0_1.length c0_1)] 28 (0, 0))) ∧ Aside0 (w'.heap[gb210]? = some (.cells #[.int .i64 (l0_0.length : Int)] 3 (0, 0))) ∧ Aside0 (Below w.heap.size w w'))
                           case atStart => exact ⟨(0), (by first | rfl | (simp; done) | (simp [*]; done)), H', ⟨Nat.le_refl _⟩, ⟨by (with_reducible repeat (first | refine blk_drewN ?_ _ | refine blk_drew ?_ | refine blk_alloc ?_ _)); exact BK209.out⟩, ⟨by (with_reducible repeat (first | refine blk_drewN ?_ _ | refine blk_drew ?_ | refine blk_alloc ?_ _)); exact BK210.out⟩, ⟨by repeat (first | (with_reducible first | exact HB.out | apply below_alloc | apply pw_below_drewN | apply below_drew1 | refine below_set ?_ GE209.out | refine below_set ?_ GE210.out) | exact HB.out)⟩⟩
                           case round =>
                            clear H'
                            try clear c1
                            try clear c2
                            try clear p2
                            try clear q2
                            try clear hx2
                            try clear qi2
                            try clear c3
                            try clear c4
                            try clear c5
                            try clear c6
                            try clear p6
                            try clear c9
                            try clear c10
                            try clear c13
                            try clear c15
                            try clear c16
                            try clear c18
                            try clear c18b0
                            try clear c19
                            try clear c19b0
                            try clear c20
                            try clear c20b0
                            try clear c21
                            try clear c21b0
                            try clear c21b1
                            try clear c21b2
                            try clear p21
                            try clear q21
                            try clear hx21
                            try clear qi21
                            try clear c22
                            try clear p22
                            try clear q22
                            try clear hx22
                            try clear c23
                            try clear c24
                            try clear c26
                            try clear c28
                            try clear c30
                            try clear c32
                            try clear c32b0
                            try clear c34
                            try clear c34b0
                            try clear c35
                            try clear c35b0
                            try clear c37
                            try clear c37b0
                            try clear c38
                            try clear c38b0
                            try clear c39
                            try clear c39b0
                            try clear c39b1
                            try clear c40
                            try clear c40b0
                            try clear c40b1
                            try clear c41
                            try clear c44
                            try clear c47
                            try clear c48
                            try clear c50
                            try clear c50b0
                            try clear c51
                            try clear c51b0
                            try clear c52
                            try clear c52b0
                            try clear c53
                            try clear c53b0
                            try clear c54
                            try clear c54b0
                            try clear c55
                            try clear c55b0
                            try clear c56
                            try clear c56b0
                            try clear c57
                            try clear c57b0
                            try clear c57b1
                            try clear c58
                            try clear hcz11_0
                            try clear hcz11_1
                            try clear hcz12_0
                            try clear hcz14_0
                            try clear hcz14_1
                            try clear hcz17_0
                            try clear hcz17_1
                            try clear hcz25_0
                            try clear hcz27_0
                            try clear hcz29_0
                            try clear hcz31_0
                            try clear hcz31_1
                            try clear hcz42_0
                            try clear hcz42_1
                            try clear hcz43_0
                            try clear hcz45_0
                            try clear hcz45_1
                            try clear hcz46_0
                            try clear hcz49_0
                            try clear hcz49_1
                            try clear hcz4_0
                            try clear hcz4_1
                            try clear hcz59_0
                            try clear hcz59_1
                            try clear hcz7_0
                            try clear hfz11_0
                            try clear hfz11_1
                            try clear hfz12_0
                            try clear hfz14_0
                            try clear hfz14_1
                            try clear hfz17_0
                            try clear hfz17_1
                            try clear hfz25_0
                            try clear hfz27_0
                            try clear hfz29_0
                            try clear hfz31_0
                            try clear hfz31_1
                            try clear hfz42_0
                            try clear hfz42_1
                            try clear hfz43_0
                            try clear hfz45_0
                            try clear hfz45_1
                            try clear hfz46_0
                            try clear hfz49_0
                            try clear hfz49_1
                            try clear hfz4_0
                            try clear hfz4_1
                            try clear hfz59_0
                            try clear hfz59_1
                            try clear hfz7_0
                            try clear hx212_0
                            try clear hx214_0
                            try clear hx215_0
                            try clear hx216_0
                            try clear hx217_0
                            try clear hx218_0
                            try clear hx219_0
                            try clear hx220_0
                            try clear hx221_0
                            try clear p2
                            try clear p21
                            try clear p212
                            try clear p214
                            try clear p215
                            try clear p216
                            try clear p217
                            try clear p218
                            try clear p219
                            try clear p220
                            try clear p221
                            try clear p6
                            try clear q2
                            try clear q21
                            try clear q212
                            try clear q214
                            try clear q215
                            try clear q216
                            try clear q217
                            try clear q218
                            try clear q219
                            try clear q220
                            try clear q221
                            obtain ⟨x93_6, rfl, HA, HK6, BK209, BK210, HB⟩ := hrel
                            cases gk with
                            | zero => exact absurd HA.out (by simp [impl_ValidAlgebra.l3])
                            | succ k6 =>
                             have H := HA.out
                             clear HA
                             simp only [impl_ValidAlgebra.l3] at H
                             by_cases c60 : x93_6 < (l0_0.length : Int)
                             ·rw [if_pos c60] at H
                              have c60b0 : decide (x93_6 < (l0_0.length : Int)) = true := decide_eq_true c60
                              clear c60
                              by_cases c61 : 0 ≤ x43_3
                              ·rw [if_pos c61] at H
                               have c61b0 : decide (0 ≤ x43_3) = true := decide_eq_true c61
                               clear c61
                               by_cases c62 : x43_3 < (l0_1.length : Int)
                               ·rw [if_pos c62] at H
                                have c62b0 : decide (x43_3 < (l0_1.length : Int)) = true := decide_eq_true c62
                                clear c62
                                by_cases c63 : 0 ≤ x70_5
                                ·rw [if_pos c63] at H
                                 have c63b0 : decide (0 ≤ x70_5) = true := decide_eq_true c63
                                 clear c63
                                 by_cases c64 : x70_5 < ((rd_L1 l0_1 x43_3).length : Int)
                                 ·rw [if_pos c64] at H
                                  have c64b0 : decide (x70_5 < ((rd_L1 l0_1 x43_3).length : Int)) = true := decide_eq_true c64
                                  clear c64
                                  by_cases c65 : 0 ≤ (rd (rd_L1 l0_1 x43_3) x70_5)
                                  ·rw [if_pos c65] at H
                                   have c65b0 : decide (0 ≤ (rd (rd_L1 l0_1 x43_3) x70_5)) = true := decide_eq_true c65
                                   clear c65
                                   by_cases c66 : (rd (rd_L1 l0_1 x43_3) x70_5) < (l0_1.length : Int)
                                   ·rw [if_pos c66] at H
                                    have c66b0 : decide ((rd (rd_L1 l0_1 x43_3) x70_5) < (l0_1.length : Int)) = true := decide_eq_true c66
                                    clear c66
                                    by_cases c67 : 0 ≤ x93_6
                                    ·rw [if_pos c67] at H
                                     have c67b0 : decide (0 ≤ x93_6) = true := decide_eq_true c67
                                     clear c67
                                     by_cases c68 : x93_6 < ((rd_L1 l0_1 (rd (rd_L1 l0_1 x43_3) x70_5)).length : Int)
                                     ·rw [if_pos c68] at H
                                      have c68b0 : decide (x93_6 < ((rd_L1 l0_1 (rd (rd_L1 l0_1 x43_3) x70_5)).length : Int)) = true := decide_eq_true c68
                                      clear c68
                                      by_cases c69 : x70_5 < (l0_1.length : Int)
                                      ·rw [if_pos c69] at H
                                       have c69b0 : decide (x70_5 < (l0_1.length : Int)) = true := decide_eq_true c69
                                       clear c69
                                       by_cases c70 : x93_6 < ((rd_L1 l0_1 x70_5).length : Int)
                                       ·rw [if_pos c70] at H
                                        have c70b0 : decide (x93_6 < ((rd_L1 l0_1 x70_5).length : Int)) = true := decide_eq_true c70
                                        clear c70
                                        by_cases c71 : 0 ≤ (rd (rd_L1 l0_1 x70_5) x93_6)
                                        ·rw [if_pos c71] at H
                                         have c71b0 : decide (0 ≤ (rd (rd_L1 l0_1 x70_5) x93_6)) = true := decide_eq_true c71
                                         clear c71
                                         by_cases c72 : (rd (rd_L1 l0_1 x70_5) x93_6) < ((rd_L1 l0_1 x43_3).length : Int)
                                         ·rw [if_pos c72] at H
                                          have c72b0 : decide ((rd (rd_L1 l0_1 x70_5) x93_6) < ((rd_L1 l0_1 x43_3).length : Int)) = true := decide_eq_true c72
                                          clear c72
                                          by_cases c73 : (rd (rd_L1 l0_1 (rd (rd_L1 l0_1 x43_3) x70_5)) x93_6) = (rd (rd_L1 l0_1 x43_3) (rd (rd_L1 l0_1 x70_5) x93_6))
                                          ·rw [if_pos c73] at H
                                           have c73b0 : ((rd (rd_L1 l0_1 (rd (rd_L1 l0_1 x43_3) x70_5)) x93_6) == (rd (rd_L1 l0_1 x43_3) (rd (rd_L1 l0_1 x70_5) x93_6))) = true := beq_iff_eq.mpr c73
                                           have c73b1 : ((rd (rd_L1 l0_1 (rd (rd_L1 l0_1 x43_3) x70_5)) x93_6) != (rd (rd_L1 l0_1 x43_3) (rd (rd_L1 l0_1 x70_5) x93_6))) = false := bne_eq_false_iff_eq.mpr c73
                                           clear c73
                                           replace H := Option.bind_eq_some_iff.mp H
                                           obtain ⟨t231, A740, H⟩ := H
                                           replace H : (if 0 ≤ t231 then (if t231 < ((rd_L1 l0_1 x43_3).length : Int) then (if x93_6 < ((rd_L1 l0_1 x43_3).length : Int) then ((impl_join.f k6 l0_0 (rd (rd_L1 l0_1 x43_3) x70_5) (rd (rd_L1 l0_1 x43_3) x93_6)).bind fun t237 => (if (rd (rd_L1 l0_1 x43_3) t231) = t237 then (impl_ValidAlgebra.l3 k6 x43_3 x70_5 (l0_0.length : Int) x43_3 (l0_0.length : Int) x70_5 (l0_0.length : Int) (wrap64 (x93_6 + 1)) l0_0 l0_1 (l0_0.length : Int)) else (some false))) else (none)) else (none)) else (none)) = some r := H
                                           have A74 := Aside0.mk A740
                                           clear A740
                                           by_cases c75 : 0 ≤ t231
                                           ·rw [if_pos c75] at H
                                            have c75b0 : decide (0 ≤ t231) = true := decide_eq_true c75
                                            clear c75
                                            by_cases c76 : t231 < ((rd_L1 l0_1 x43_3).length : Int)
                                            ·rw [if_pos c76] at H
                                             have c76b0 : decide (t231 < ((rd_L1 l0_1 x43_3).length : Int)) = true := decide_eq_true c76
                                             clear c76
                                             by_cases c77 : x93_6 < ((rd_L1 l0_1 x43_3).length : Int)
                                             ·rw [if_pos c77] at H
                                              have c77b0 : decide (x93_6 < ((rd_L1 l0_1 x43_3).length : Int)) = true := decide_eq_true c77
                                              clear c77
                                              replace H := Option.bind_eq_some_iff.mp H
                                              obtain ⟨t237, A780, H⟩ := H
                                              replace H : (if (rd (rd_L1 l0_1 x43_3) t231) = t237 then (impl_ValidAlgebra.l3 k6 x43_3 x70_5 (l0_0.length : Int) x43_3 (l0_0.length : Int) x70_5 (l0_0.length : Int) (wrap64 (x93_6 + 1)) l0_0 l0_1 (l0_0.length : Int)) else (some false)) = some r := H
                                              have A78 := Aside0.mk A780
                                              clear A780
                                              by_cases c79 : (rd (rd_L1 l0_1 x43_3) t231) = t237
                                              ·rw [if_pos c79] at H
                                               have c79b0 : ((rd (rd_L1 l0_1 x43_3) t231) == t237) = true := beq_iff_eq.mpr c79
                                               have c79b1 : ((rd (rd_L1 l0_1 x43_3) t231) != t237) = false := bne_eq_false_iff_eq.mpr c79
                                               clear c79
                                               have H' := Aside0.mk H
                                               clear H
                                               have hnb80 := NB209_210.out
                                               have hnc80 := NB210_209.out
                                               have hcz81_0 : wr.cell? ⟨gb209, 0, none⟩ = some (.slice A0_0 l0_0.length c0_0) := (blk_cell BK209.out 0).trans rfl
                                               have hcz81_1 : wr.cell? ⟨gb209, 1, none⟩ = some (.slice (some ad218) l0_1.length c0_1) := (blk_cell BK209.out 1).trans rfl
                                               have hfz81_0 := blk_frozen BK209.out 0
                                               have hfz81_1 := blk_frozen BK209.out 1
                                               have p222 : 0 ≤ (x43_3 : Int) := of_decide_eq_true (by first | (with_reducible assumption) | assumption)
                                               have q222 : x43_3 < (l0_1.length : Int) := of_decide_eq_true (by first | (with_reducible assumption) | assumption)
                                               obtain ⟨ad222, A222_0, c222_0, e222, hx222_0, hl222_0, hi222_0⟩ := at_L1 HR0_1.out x43_3 p222 q222
                                               obtain rfl : ad218 = ad222 := (by injection e222)
                                               replace hx222_0 := (HB.out.cell (World.block_lt_of_cell? w _ hx222_0)).trans hx222_0
                                               have HR222_0 := Aside0.mk hi222_0
                                               have HC222_0 := Aside0.mk hl222_0
                                               clear hi222_0 hl222_0
                                               replace p222 := eq_true p222
                                               replace q222 := eq_true q222
                                               have p223 : 0 ≤ (x70_5 : Int) := of_decide_eq_true (by first | (with_reducible assumption) | assumption)
                                               have q223 : x70_5 < ((rd_L1 l0_1 x43_3).length : Int) := of_decide_eq_true (by first | (with_reducible assumption) | assumption)
                                               obtain ⟨ad223, e223, hx223_0⟩ := Kd.at_int HR222_0.out x70_5 p223 q223
                                               cases e223
                                               replace hx223_0 := (HB.out.cell (World.block_lt_of_cell? w _ hx223_0)).trans hx223_0
                                               replace p223 := eq_true p223
                                               replace q223 := eq_true q223
                                               have p224 : 0 ≤ ((rd (rd_L1 l0_1 x43_3) x70_5) : Int) := of_decide_eq_true (by first | (with_reducible assumption) | assumption)
                                               have q224 : (rd (rd_L1 l0_1 x43_3) x70_5) < (l0_1.length : Int) := of_decide_eq_true (by first | (with_reducible assumption) | assumption)
                                               obtain ⟨ad224, A224_0, c224_0, e224, hx224_0, hl224_0, hi224_0⟩ := at_L1 HR0_1.out (rd (rd_L1 l0_1 x43_3) x70_5) p224 q224
                                               obtain rfl : ad218 = ad224 := (by injection e224)
                                               replace hx224_0 := (HB.out.cell (World.block_lt_of_cell? w _ hx224_0)).trans hx224_0
                                               have HR224_0 := Aside0.mk hi224_0
                                               have HC224_0 := Aside0.mk hl224_0
                                               clear hi224_0 hl224_0
                                               replace p224 := eq_true p224
                                               replace q224 := eq_true q224
                                               have p225 : 0 ≤ (x93_6 : Int) := of_decide_eq_true (by first | (with_reducible assumption) | assumption)
                                               have q225 : x93_6 < ((rd_L1 l0_1 (rd (rd_L1 l0_1 x43_3) x70_5)).length : Int) := of_decide_eq_true (by first | (with_reducible assumption) | assumption)
                                               obtain ⟨ad225, e225, hx225_0⟩ := Kd.at_int HR224_0.out x93_6 p225 q225
                                               cases e225
                                               replace hx225_0 := (HB.out.cell (World.block_lt_of_cell? w _ hx225_0)).trans hx225_0
                                               replace p225 := eq_true p225
                                               replace q225 := eq_true q225
                                               have p226 : 0 ≤ (x43_3 : Int) := of_decide_eq_true (by first | (with_reducible assumption) | assumption)
                                               have q226 : x43_3 < (l0_1.length : Int) := of_decide_eq_true (by first | (with_reducible assumption) | assumption)
                                               obtain ⟨ad226, A226_0, c226_0, e226, hx226_0, hl226_0, hi226_0⟩ := at_L1 HR0_1.out x43_3 p226 q226
                                               obtain rfl : ad218 = ad226 := (by injection e226)
                                               replace hx226_0 := (HB.out.cell (World.block_lt_of_cell? w _ hx226_0)).trans hx226_0
                                               have HR226_0 := Aside0.mk hi226_0
                                               have HC226_0 := Aside0.mk hl226_0
                                               clear hi226_0 hl226_0
                                               replace p226 := eq_true p226
                                               replace q226 := eq_true q226
                                               have ea_ := Option.some.inj (hx222_0.symm.trans hx226_0)
                                               injection ea_ with ea_ en_ ec_
                                               subst ea_
                                               subst ec_
                                               clear en_
                                               have p227 : 0 ≤ (x70_5 : Int) := of_decide_eq_true (by first | (with_reducible assumption) | assumption)
                                               have q227 : x70_5 < (l0_1.length : Int) := of_decide_eq_true (by first | (with_reducible assumption) | assumption)
                                               obtain ⟨ad227, A227_0, c227_0, e227, hx227_0, hl227_0, hi227_0⟩ := at_L1 HR0_1.out x70_5 p227 q227
                                               obtain rfl : ad218 = ad227 := (by injection e227)
                                               replace hx227_0 := (HB.out.cell (World.block_lt_of_cell? w _ hx227_0)).trans hx227_0
                                               have HR227_0 := Aside0.mk hi227_0
                                               have HC227_0 := Aside0.mk hl227_0
                                               clear hi227_0 hl227_0
                                               replace p227 := eq_true p227
                                               replace q227 := eq_true q227
                                               have p228 : 0 ≤ (x93_6 : Int) := of_decide_eq_true (by first | (with_reducible assumption) | assumption)
                                               have q228 : x93_6 < ((rd_L1 l0_1 x70_5).length : Int) := of_decide_eq_true (by first | (with_reducible assumption) | assumption)
                                               obtain ⟨ad228, e228, hx228_0⟩ := Kd.at_int HR227_0.out x93_6 p228 q228
                                               cases e228
                                               replace hx228_0 := (HB.out.cell (World.block_lt_of_cell? w _ hx228_0)).trans hx228_0
                                               replace p228 := eq_true p228
                                               replace q228 := eq_true q228
                                               have p229 : 0 ≤ ((rd (rd_L1 l0_1 x70_5) x93_6) : Int) := of_decide_eq_true (by first | (with_reducible assumption) | assumption)
                                               have q229 : (rd (rd_L1 l0_1 x70_5) x93_6) < ((rd_L1 l0_1 x43_3).length : Int) := of_decide_eq_true (by first | (with_reducible assumption) | assumption)
                                               obtain ⟨ad229, e229, hx229_0⟩ := Kd.at_int HR226_0.out (rd (rd_L1 l0_1 x70_5) x93_6) p229 q229
                                               cases e229
                                               replace hx229_0 := (HB.out.cell (World.block_lt_of_cell? w _ hx229_0)).trans hx229_0
                                               replace p229 := eq_true p229
                                               replace q229 := eq_true q229
                                               have p230 : 0 ≤ (x43_3 : Int) := of_decide_eq_true (by first | (with_reducible assumption) | assumption)
                                               have q230 : x43_3 < (l0_1.length : Int) := of_decide_eq_true (by first | (with_reducible assumption) | assumption)
                                               obtain ⟨ad230, A230_0, c230_0, e230, hx230_0, hl230_0, hi230_0⟩ := at_L1 HR0_1.out x43_3 p230 q230
                                               obtain rfl : ad218 = ad230 := (by injection e230)
                                               replace hx230_0 := (HB.out.cell (World.block_lt_of_cell? w _ hx230_0)).trans hx230_0
                                               have HR230_0 := Aside0.mk hi230_0
                                               have HC230_0 := Aside0.mk hl230_0
                                               clear hi230_0 hl230_0
                                               replace p230 := eq_true p230
                                               replace q230 := eq_true q230
                                               have ea_ := Option.some.inj (hx222_0.symm.trans hx230_0)
                                               injection ea_ with ea_ en_ ec_
                                               subst ea_
                                               subst ec_
                                               clear en_
                                               as_aux_lemma =>
                                                go_wp2_with (first | (go_at_call 67; (with_reducible refine (impl_join.calls k6 _ _ l0_0 x70_5 x93_6 t231 _ ?side1 ?side2 A74.out).mono ?_); (case side1 => repeat (first | exact (Kd.C_below HR0_0.out HB.out) | (with_reducible refine Kd.C_alloc ?_ _) | (with_reducible refine Kd.C_drewN ?_ _) | (with_reducible refine Kd.C_drew ?_))); (case side2 => exact HC0_0.out); rintro e w' ⟨rfl, ⟨nd, rfl⟩⟩; (try first | exact ⟨rfl, _, World.drewN_drewN _ _ _⟩ | exact ⟨rfl, _, Eq.trans (World.drewN_drewN _ _ _) (congrArg (World.drewN _) (Nat.add_assoc _ _ _))⟩); have p232 : 0 ≤ (t231 : Int) := of_decide_eq_true (by first | (with_reducible assumption) | assumption); have q232 : t231 < ((rd_L1 l0_1 x43_3).length : Int) := of_decide_eq_true (by first | (with_reducible assumption) | assumption); obtain ⟨ad232, e232, hx232_0⟩ := Kd.at_int HR230_0.out t231 p232 q232; cases e232; replace hx232_0 := (HB.out.cell (World.block_lt_of_cell? w _ hx232_0)).trans hx232_0; replace p232 := eq_true p232; replace q232 := eq_true q232; have p233 : 0 ≤ (x43_3 : Int) := of_decide_eq_true (by first | (with_reducible assumption) | assumption); have q233 : x43_3 < (l0_1.length : Int) := of_decide_eq_true (by first | (with_reducible assumption) | assumption); obtain ⟨ad233, A233_0, c233_0, e233, hx233_0, hl233_0, hi233_0⟩ := at_L1 HR0_1.out x43_3 p233 q233; obtain rfl : ad218 = ad233 := (by injection e233); replace hx233_0 := (HB.out.cell (World.block_lt_of_cell? w _ hx233_0)).trans hx233_0; have HR233_0 := Aside0.mk hi233_0; have HC233_0 := Aside0.mk hl233_0; clear hi233_0 hl233_0; replace p233 := eq_true p233; replace q233 := eq_true q233; have ea_ := Option.some.inj (hx222_0.symm.trans hx233_0); injection ea_ with ea_ en_ ec_; subst ea_; subst ec_; clear en_; have p234 : 0 ≤ (x70_5 : Int) := of_decide_eq_true (by first | (with_reducible assumption) | assumption); have q234 : x70_5 < ((rd_L1 l0_1 x43_3).length : Int) := of_decide_eq_true (by first | (with_reducible assumption) | assumption); obtain ⟨ad234, e234, hx234_0⟩ := Kd.at_int HR233_0.out x70_5 p234 q234; cases e234; replace hx234_0 := (HB.out.cell (World.block_lt_of_cell? w _ hx234_0)).trans hx234_0; replace p234 := eq_true p234; replace q234 := eq_true q234; have p235 : 0 ≤ (x43_3 : Int) := of_decide_eq_true (by first | (with_reducible assumption) | assumption); have q235 : x43_3 < (l0_1.length : Int) := of_decide_eq_true (by first | (with_reducible assumption) | assumption); obtain ⟨ad235, A235_0, c235_0, e235, hx235_0, hl235_0, hi235_0⟩ := at_L1 HR0_1.out x43_3 p235 q235; obtain rfl : ad218 = ad235 := (by injection e235); replace hx235_0 := (HB.out.cell (World.block_lt_of_cell? w _ hx235_0)).trans hx235_0; have HR235_0 := Aside0.mk hi235_0; have HC235_0 := Aside0.mk hl235_0; clear hi235_0 hl235_0; replace p235 := eq_true p235; replace q235 := eq_true q235; have ea_ := Option.some.inj (hx222_0.symm.trans hx235_0); injection ea_ with ea_ en_ ec_; subst ea_; subst ec_; clear en_; have p236 : 0 ≤ (x93_6 : Int) := of_decide_eq_true (by first | (with_reducible assumption) | assumption); have q236 : x93_6 < ((rd_L1 l0_1 x43_3).length : Int) := of_decide_eq_true (by first | (with_reducible assumption) | assumption); obtain ⟨ad236, e236, hx236_0⟩ := Kd.at_int HR235_0.out x93_6 p236 q236; cases e236; replace hx236_0 := (HB.out.cell (World.block_lt_of_cell? w _ hx236_0)).trans hx236_0; replace p236 := eq_true p236; replace q236 := eq_true q236) | (go_at_call 67; (with_reducible refine (impl_join.calls k6 _ _ l0_0 (rd (rd_L1 l0_1 x43_3) x70_5) (rd (rd_L1 l0_1 x43_3) x93_6) t237 _ ?side1 ?side2 A78.out).mono ?_); (case side1 => repeat (first | exact (Kd.C_below HR0_0.out (by repeat (first | (with_reducible first | exact HB.out | apply below_alloc | apply pw_below_drewN | apply below_drew1 | refine below_set ?_ GE209.out | refine below_set ?_ GE210.out) | exact HB.out))) | (with_reducible refine Kd.C_alloc ?_ _) | (with_reducible refine Kd.C_drewN ?_ _) | (with_reducible refine Kd.C_drew ?_))); (case side2 => exact HC0_0.out); rintro e w' ⟨rfl, ⟨nd, rfl⟩⟩; (try first | exact ⟨rfl, _, World.drewN_drewN _ _ _⟩ | exact ⟨rfl, _, Eq.trans (World.drewN_drewN _ _ _) (congrArg (World.drewN _) (Nat.add_assoc _ _ _))⟩)))
                                                repeat (go_quiet (first | (go_at_call 67; (with_reducible refine (impl_join.calls k6 _ _ l0_0 x70_5 x93_6 t231 _ ?side1 ?side2 A74.out).mono ?_); (case side1 => repeat (first | exact (Kd.C_below HR0_0.out HB.out) | (with_reducible refine Kd.C_alloc ?_ _) | (with_reducible refine Kd.C_drewN ?_ _) | (with_reducible refine Kd.C_drew ?_))); (case side2 => exact HC0_0.out); rintro e w' ⟨rfl, ⟨nd, rfl⟩⟩; (try first | exact ⟨rfl, _, World.drewN_drewN _ _ _⟩ | exact ⟨rfl, _, Eq.trans (World.drewN_drewN _ _ _) (congrArg (World.drewN _) (Nat.add_assoc _ _ _))⟩); have p232 : 0 ≤ (t231 : Int) := of_decide_eq_true (by first | (with_reducible assumption) | assumption); have q232 : t231 < ((rd_L1 l0_1 x43_3).length : Int) := of_decide_eq_true (by first | (with_reducible assumption) | assumption); obtain ⟨ad232, e232, hx232_0⟩ := Kd.at_int HR230_0.out t231 p232 q232; cases e232; replace hx232_0 := (HB.out.cell (World.block_lt_of_cell? w _ hx232_0)).trans hx232_0; replace p232 := eq_true p232; replace q232 := eq_true q232; have p233 : 0 ≤ (x43_3 : Int) := of_decide_eq_true (by first | (with_reducible assumption) | assumption); have q233 : x43_3 < (l0_1.length : Int) := of_decide_eq_true (by first | (with_reducible assumption) | assumption); obtain ⟨ad233, A233_0, c233_0, e233, hx233_0, hl233_0, hi233_0⟩ := at_L1 HR0_1.out x43_3 p233 q233; obtain rfl : ad218 = ad233 := (by injection e233); replace hx233_0 := (HB.out.cell (World.block_lt_of_cell? w _ hx233_0)).trans hx233_0; have HR233_0 := Aside0.mk hi233_0; have HC233_0 := Aside0.mk hl233_0; clear hi233_0 hl233_0; replace p233 := eq_true p233; replace q233 := eq_true q233; have ea_ := Option.some.inj (hx222_0.symm.trans hx233_0); injection ea_ with ea_ en_ ec_; subst ea_; subst ec_; clear en_; have p234 : 0 ≤ (x70_5 : Int) := of_decide_eq_true (by first | (with_reducible assumption) | assumption); have q234 : x70_5 < ((rd_L1 l0_1 x43_3).length : Int) := of_decide_eq_true (by first | (with_reducible assumption) | assumption); obtain ⟨ad234, e234, hx234_0⟩ := Kd.at_int HR233_0.out x70_5 p234 q234; cases e234; replace hx234_0 := (HB.out.cell (World.block_lt_of_cell? w _ hx234_0)).trans hx234_0; replace p234 := eq_true p234; replace q234 := eq_true q234; have p235 : 0 ≤ (x43_3 : Int) := of_decide_eq_true (by first | (with_reducible assumption) | assumption); have q235 : x43_3 < (l0_1.length : Int) := of_decide_eq_true (by first | (with_reducible assumption) | assumption); obtain ⟨ad235, A235_0, c235_0, e235, hx235_0, hl235_0, hi235_0⟩ := at_L1 HR0_1.out x43_3 p235 q235; obtain rfl : ad218 = ad235 := (by injection e235); replace hx235_0 := (HB.out.cell (World.block_lt_of_cell? w _ hx235_0)).trans hx235_0; have HR235_0 := Aside0.mk hi235_0; have HC235_0 := Aside0.mk hl235_0; clear hi235_0 hl235_0; replace p235 := eq_true p235; replace q235 := eq_true q235; have ea_ := Option.some.inj (hx222_0.symm.trans hx235_0); injection ea_ with ea_ en_ ec_; subst ea_; subst ec_; clear en_; have p236 : 0 ≤ (x93_6 : Int) := of_decide_eq_true (by first | (with_reducible assumption) | assumption); have q236 : x93_6 < ((rd_L1 l0_1 x43_3).length : Int) := of_decide_eq_true (by first | (with_reducible assumption) | assumption); obtain ⟨ad236, e236, hx236_0⟩ := Kd.at_int HR235_0.out x93_6 p236 q236; cases e236; replace hx236_0 := (HB.out.cell (World.block_lt_of_cell? w _ hx236_0)).trans hx236_0; replace p236 := eq_true p236; replace q236 := eq_true q236) | (go_at_call 67; (with_reducible refine (impl_join.calls k6 _ _ l0_0 (rd (rd_L1 l0_1 x43_3) x70_5) (rd (rd_L1 l0_1 x43_3) x93_6) t237 _ ?side1 ?side2 A78.out).mono ?_); (case side1 => repeat (first | exact (Kd.C_below HR0_0.out (by repeat (first | (with_reducible first | exact HB.out | apply below_alloc | apply pw_below_drewN | apply below_drew1 | refine below_set ?_ GE209.out | refine below_set ?_ GE210.out) | exact HB.out))) | (with_reducible refine Kd.C_alloc ?_ _) | (with_reducible refine Kd.C_drewN ?_ _) | (with_reducible refine Kd.C_drew ?_))); (case side2 => exact HC0_0.out); rintro e w' ⟨rfl, ⟨nd, rfl⟩⟩; (try first | exact ⟨rfl, _, World.drewN_drewN _ _ _⟩ | exact ⟨rfl, _, Eq.trans (World.drewN_drewN _ _ _) (congrArg (World.drewN _) (Nat.add_assoc _ _ _))⟩))); try go_wp2_with (first | (go_at_call 67; (with_reducible refine (impl_join.calls k6 _ _ l0_0 x70_5 x93_6 t231 _ ?side1 ?side2 A74.out).mono ?_); (case side1 => repeat (first | exact (Kd.C_below HR0_0.out HB.out) | (with_reducible refine Kd.C_alloc ?_ _) | (with_reducible refine Kd.C_drewN ?_ _) | (with_reducible refine Kd.C_drew ?_))); (case side2 => exact HC0_0.out); rintro e w' ⟨rfl, ⟨nd, rfl⟩⟩; (try first | exact ⟨rfl, _, World.drewN_drewN _ _ _⟩ | exact ⟨rfl, _, Eq.trans (World.drewN_drewN _ _ _) (congrArg (World.drewN _) (Nat.add_assoc _ _ _))⟩); have p232 : 0 ≤ (t231 : Int) := of_decide_eq_true (by first | (with_reducible assumption) | assumption); have q232 : t231 < ((rd_L1 l0_1 x43_3).length : Int) := of_decide_eq_true (by first | (with_reducible assumption) | assumption); obtain ⟨ad232, e232, hx232_0⟩ := Kd.at_int HR230_0.out t231 p232 q232; cases e232; replace hx232_0 := (HB.out.cell (World.block_lt_of_cell? w _ hx232_0)).trans hx232_0; replace p232 := eq_true p232; replace q232 := eq_true q232; have p233 : 0 ≤ (x43_3 : Int) := of_decide_eq_true (by first | (with_reducible assumption) | assumption); have q233 : x43_3 < (l0_1.length : Int) := of_decide_eq_true (by first | (with_reducible assumption) | assumption); obtain ⟨ad233, A233_0, c233_0, e233, hx233_0, hl233_0, hi233_0⟩ := at_L1 HR0_1.out x43_3 p233 q233; obtain rfl : ad218 = ad233 := (by injection e233); replace hx233_0 := (HB.out.cell (World.block_lt_of_cell? w _ hx233_0)).trans hx233_0; have HR233_0 := Aside0.mk hi233_0; have HC233_0 := Aside0.mk hl233_0; clear hi233_0 hl233_0; replace p233 := eq_true p233; replace q233 := eq_true q233; have ea_ := Option.some.inj (hx222_0.symm.trans hx233_0); injection ea_ with ea_ en_ ec_; subst ea_; subst ec_; clear en_; have p234 : 0 ≤ (x70_5 : Int) := of_decide_eq_true (by first | (with_reducible assumption) | assumption); have q234 : x70_5 < ((rd_L1 l0_1 x43_3).length : Int) := of_decide_eq_true (by first | (with_reducible assumption) | assumption); obtain ⟨ad234, e234, hx234_0⟩ := Kd.at_int HR233_0.out x70_5 p234 q234; cases e234; replace hx234_0 := (HB.out.cell (World.block_lt_of_cell? w _ hx234_0)).trans hx234_0; replace p234 := eq_true p234; replace q234 := eq_true q234; have p235 : 0 ≤ (x43_3 : Int) := of_decide_eq_true (by first | (with_reducible assumption) | assumption); have q235 : x43_3 < (l0_1.length : Int) := of_decide_eq_true (by first | (with_reducible assumption) | assumption); obtain ⟨ad235, A235_0, c235_0, e235, hx235_0, hl235_0, hi235_0⟩ := at_L1 HR0_1.out x43_3 p235 q235; obtain rfl : ad218 = ad235 := (by injection e235); replace hx235_0 := (HB.out.cell (World.block_lt_of_cell? w _ hx235_0)).trans hx235_0; have HR235_0 := Aside0.mk hi235_0; have HC235_0 := Aside0.mk hl235_0; clear hi235_0 hl235_0; replace p235 := eq_true p235; replace q235 := eq_true q235; have ea_ := Option.some.inj (hx222_0.symm.trans hx235_0); injection ea_ with ea_ en_ ec_; subst ea_; subst ec_; clear en_; have p236 : 0 ≤ (x93_6 : Int) := of_decide_eq_true (by first | (with_reducible assumption) | assumption); have q236 : x93_6 < ((rd_L1 l0_1 x43_3).length : Int) := of_decide_eq_true (by first | (with_reducible assumption) | assumption); obtain ⟨ad236, e236, hx236_0⟩ := Kd.at_int HR235_0.out x93_6 p236 q236; cases e236; replace hx236_0 := (HB.out.cell (World.block_lt_of_cell? w _ hx236_0)).trans hx236_0; replace p236 := eq_true p236; replace q236 := eq_true q236) | (go_at_call 67; (with_reducible refine (impl_join.calls k6 _ _ l0_0 (rd (rd_L1 l0_1 x43_3) x70_5) (rd (rd_L1 l0_1 x43_3) x93_6) t237 _ ?side1 ?side2 A78.out).mono ?_); (case side1 => repeat (first | exact (Kd.C_below HR0_0.out (by repeat (first | (with_reducible first | exact HB.out | apply below_alloc | apply pw_below_drewN | apply below_drew1 | refine below_set ?_ GE209.out | refine below_set ?_ GE210.out) | exact HB.out))) | (with_reducible refine Kd.C_alloc ?_ _) | (with_reducible refine Kd.C_drewN ?_ _) | (with_reducible refine Kd.C_drew ?_))); (case side2 => exact HC0_0.out); rintro e w' ⟨rfl, ⟨nd, rfl⟩⟩; (try first | exact ⟨rfl, _, World.drewN_drewN _ _ _⟩ | exact ⟨rfl, _, Eq.trans (World.drewN_drewN _ _ _) (congrArg (World.drewN _) (Nat.add_assoc _ _ _))⟩))))
                                                go_roundg k6
                                                case measure => have := HJ1.out; have := HK2.out; have := HK3.out; have := HJ32.out; have := HK5.out; have := HK6.out; omega
                                                case rel => exact ⟨(wrap64 (x93_6 + 1)), (by first | rfl | (simp; done) | (simp [*]; done)), H', ⟨by have := HJ1.out; have := HK2.out; have := HK3.out; have := HJ32.out; have := HK5.out; have := HK6.out; omega⟩, ⟨by (with_reducible repeat (first | refine blk_drewN ?_ _ | refine blk_drew ?_ | refine blk_alloc ?_ _)); exact BK209.out⟩, ⟨by (with_reducible repeat (first | refine blk_drewN ?_ _ | refine blk_drew ?_ | refine blk_alloc ?_ _)); exact BK210.out⟩, ⟨by repeat (first | (with_reducible first | exact HB.out | apply below_alloc | apply pw_below_drewN | apply below_drew1 | refine below_set ?_ GE209.out | refine below_set ?_ GE210.out) | exact HB.out)⟩⟩
                                              ·rw [if_neg c79] at H
                                               have c79b0 : ((rd (rd_L1 l0_1 x43_3) t231) == t237) = false := beq_eq_false_iff_ne.mpr c79
                                               have c79b1 : ((rd (rd_L1 l0_1 x43_3) t231) != t237) = true := bne_iff_ne.mpr c79
                                               obtain rfl := Option.some.inj H
                                               have hnb82 := NB209_210.out
                                               have hnc82 := NB210_209.out
                                               have hcz83_0 : wr.cell? ⟨gb209, 0, none⟩ = some (.slice A0_0 l0_0.length c0_0) := (blk_cell BK209.out 0).trans rfl
                                               have hcz83_1 : wr.cell? ⟨gb209, 1, none⟩ = some (.slice (some ad218) l0_1.length c0_1) := (blk_cell BK209.out 1).trans rfl
                                               have hfz83_0 := blk_frozen BK209.out 0
                                               have hfz83_1 := blk_frozen BK209.out 1
                                               have p222 : 0 ≤ (x43_3 : Int) := of_decide_eq_true (by first | (with_reducible assumption) | assumption)
                                               have q222 : x43_3 < (l0_1.length : Int) := of_decide_eq_true (by first | (with_reducible assumption) | assumption)
                                               obtain ⟨ad222, A222_0, c222_0, e222, hx222_0, hl222_0, hi222_0⟩ := at_L1 HR0_1.out x43_3 p222 q222
                                               obtain rfl : ad218 = ad222 := (by injection e222)
                                               replace hx222_0 := (HB.out.cell (World.block_lt_of_cell? w _ hx222_0)).trans hx222_0
                                               have HR222_0 := Aside0.mk hi222_0
                                               have HC222_0 := Aside0.mk hl222_0
                                               clear hi222_0 hl222_0
                                               replace p222 := eq_true p222
                                               replace q222 := eq_true q222
                                               have p223 : 0 ≤ (x70_5 : Int) := of_decide_eq_true (by first | (with_reducible assumption) | assumption)
                                               have q223 : x70_5 < ((rd_L1 l0_1 x43_3).length : Int) := of_decide_eq_true (by first | (with_reducible assumption) | assumption)
                                               obtain ⟨ad223, e223, hx223_0⟩ := Kd.at_int HR222_0.out x70_5 p223 q223
                                               cases e223
                                               replace hx223_0 := (HB.out.cell (World.block_lt_of_cell? w _ hx223_0)).trans hx223_0
                                               replace p223 := eq_true p223
                                               replace q223 := eq_true q223
                                               have p224 : 0 ≤ ((rd (rd_L1 l0_1 x43_3) x70_5) : Int) := of_decide_eq_true (by first | (with_reducible assumption) | assumption)
                                               have q224 : (rd (rd_L1 l0_1 x43_3) x70_5) < (l0_1.length : Int) := of_decide_eq_true (by first | (with_reducible assumption) | assumption)
                                               obtain ⟨ad224, A224_0, c224_0, e224, hx224_0, hl224_0, hi224_0⟩ := at_L1 HR0_1.out (rd (rd_L1 l0_1 x43_3) x70_5) p224 q224
                                               obtain rfl : ad218 = ad224 := (by injection e224)
                                               replace hx224_0 := (HB.out.cell (World.block_lt_of_cell? w _ hx224_0)).trans hx224_0
                                               have HR224_0 := Aside0.mk hi224_0
                                               have HC224_0 := Aside0.mk hl224_0
                                               clear hi224_0 hl224_0
                                               replace p224 := eq_true p224
                                               replace q224 := eq_true q224
                                               have p225 : 0 ≤ (x93_6 : Int) := of_decide_eq_true (by first | (with_reducible assumption) | assumption)
                                               have q225 : x93_6 < ((rd_L1 l0_1 (rd (rd_L1 l0_1 x43_3) x70_5)).length : Int) := of_decide_eq_true (by first | (with_reducible assumption) | assumption)
                                               obtain ⟨ad225, e225, hx225_0⟩ := Kd.at_int HR224_0.out x93_6 p225 q225
                                               cases e225
                                               replace hx225_0 := (HB.out.cell (World.block_lt_of_cell? w _ hx225_0)).trans hx225_0
                                               replace p225 := eq_true p225
                                               replace q225 := eq_true q225
                                               have p226 : 0 ≤ (x43_3 : Int) := of_decide_eq_true (by first | (with_reducible assumption) | assumption)
                                               have q226 : x43_3 < (l0_1.length : Int) := of_decide_eq_true (by first | (with_reducible assumption) | assumption)
                                               obtain ⟨ad226, A226_0, c226_0, e226, hx226_0, hl226_0, hi226_0⟩ := at_L1 HR0_1.out x43_3 p226 q226
                                               obtain rfl : ad218 = ad226 := (by injection e226)
                                               replace hx226_0 := (HB.out.cell (World.block_lt_of_cell? w _ hx226_0)).trans hx226_0
                                               have HR226_0 := Aside0.mk hi226_0
                                               have HC226_0 := Aside0.mk hl226_0
                                               clear hi226_0 hl226_0
                                               replace p226 := eq_true p226
                                               replace q226 := eq_true q226
                                               have ea_ := Option.some.inj (hx222_0.symm.trans hx226_0)
                                               injection ea_ with ea_ en_ ec_
                                               subst ea_
                                               subst ec_
                                               clear en_
                                               have p227 : 0 ≤ (x70_5 : Int) := of_decide_eq_true (by first | (with_reducible assumption) | assumption)
                                               have q227 : x70_5 < (l0_1.length : Int) := of_decide_eq_true (by first | (with_reducible assumption) | assumption)
                                               obtain ⟨ad227, A227_0, c227_0, e227, hx227_0, hl227_0, hi227_0⟩ := at_L1 HR0_1.out x70_5 p227 q227
                                               obtain rfl : ad218 = ad227 := (by injection e227)
                                               replace hx227_0 := (HB.out.cell (World.block_lt_of_cell? w _ hx227_0)).trans hx227_0
                                               have HR227_0 := Aside0.mk hi227_0
                                               have HC227_0 := Aside0.mk hl227_0
                                               clear hi227_0 hl227_0
                                               replace p227 := eq_true p227
                                               replace q227 := eq_true q227
                                               have p228 : 0 ≤ (x93_6 : Int) := of_decide_eq_true (by first | (with_reducible assumption) | assumption)
                                               have q228 : x93_6 < ((rd_L1 l0_1 x70_5).length : Int) := of_decide_eq_true (by first | (with_reducible assumption) | assumption)
                                               obtain ⟨ad228, e228, hx228_0⟩ := Kd.at_int HR227_0.out x93_6 p228 q228
                                               cases e228
                                               replace hx228_0 := (HB.out.cell (World.block_lt_of_cell? w _ hx228_0)).trans hx228_0
                                               replace p228 := eq_true p228
                                               replace q228 := eq_true q228
                                               have p229 : 0 ≤ ((rd (rd_L1 l0_1 x70_5) x93_6) : Int) := of_decide_eq_true (by first | (with_reducible assumption) | assumption)
                                               have q229 : (rd (rd_L1 l0_1 x70_5) x93_6) < ((rd_L1 l0_1 x43_3).length : Int) := of_decide_eq_true (by first | (with_reducible assumption) | assumption)
                                               obtain ⟨ad229, e229, hx229_0⟩ := Kd.at_int HR226_0.out (rd (rd_L1 l0_1 x70_5) x93_6) p229 q229
                                               cases e229
                                               replace hx229_0 := (HB.out.cell (World.block_lt_of_cell? w _ hx229_0)).trans hx229_0
                                               replace p229 := eq_true p229
                                               replace q229 := eq_true q229
                                               have p230 : 0 ≤ (x43_3 : Int) := of_decide_eq_true (by first | (with_reducible assumption) | assumption)
                                               have q230 : x43_3 < (l0_1.length : Int) := of_decide_eq_true (by first | (with_reducible assumption) | assumption)
                                               obtain ⟨ad230, A230_0, c230_0, e230, hx230_0, hl230_0, hi230_0⟩ := at_L1 HR0_1.out x43_3 p230 q230
                                               obtain rfl : ad218 = ad230 := (by injection e230)
                                               replace hx230_0 := (HB.out.cell (World.block_lt_of_cell? w _ hx230_0)).trans hx230_0
                                               have HR230_0 := Aside0.mk hi230_0
                                               have HC230_0 := Aside0.mk hl230_0
                                               clear hi230_0 hl230_0
                                               replace p230 := eq_true p230
                                               replace q230 := eq_true q230
                                               have ea_ := Option.some.inj (hx222_0.symm.trans hx230_0)
                                               injection ea_ with ea_ en_ ec_
                                               subst ea_
                                               subst ec_
                                               clear en_
                                               as_aux_lemma =>
                                                go_wp2_with (first | (go_at_call 67; (with_reducible refine (impl_join.calls k6 _ _ l0_0 x70_5 x93_6 t231 _ ?side1 ?side2 A74.out).mono ?_); (case side1 => repeat (first | exact (Kd.C_below HR0_0.out HB.out) | (with_reducible refine Kd.C_alloc ?_ _) | (with_reducible refine Kd.C_drewN ?_ _) | (with_reducible refine Kd.C_drew ?_))); (case side2 => exact HC0_0.out); rintro e w' ⟨rfl, ⟨nd, rfl⟩⟩; (try first | exact ⟨rfl, _, World.drewN_drewN _ _ _⟩ | exact ⟨rfl, _, Eq.trans (World.drewN_drewN _ _ _) (congrArg (World.drewN _) (Nat.add_assoc _ _ _))⟩); have p232 : 0 ≤ (t231 : Int) := of_decide_eq_true (by first | (with_reducible assumption) | assumption); have q232 : t231 < ((rd_L1 l0_1 x43_3).length : Int) := of_decide_eq_true (by first | (with_reducible assumption) | assumption); obtain ⟨ad232, e232, hx232_0⟩ := Kd.at_int HR230_0.out t231 p232 q232; cases e232; replace hx232_0 := (HB.out.cell (World.block_lt_of_cell? w _ hx232_0)).trans hx232_0; replace p232 := eq_true p232; replace q232 := eq_true q232; have p233 : 0 ≤ (x43_3 : Int) := of_decide_eq_true (by first | (with_reducible assumption) | assumption); have q233 : x43_3 < (l0_1.length : Int) := of_decide_eq_true (by first | (with_reducible assumption) | assumption); obtain ⟨ad233, A233_0, c233_0, e233, hx233_0, hl233_0, hi233_0⟩ := at_L1 HR0_1.out x43_3 p233 q233; obtain rfl : ad218 = ad233 := (by injection e233); replace hx233_0 := (HB.out.cell (World.block_lt_of_cell? w _ hx233_0)).trans hx233_0; have HR233_0 := Aside0.mk hi233_0; have HC233_0 := Aside0.mk hl233_0; clear hi233_0 hl233_0; replace p233 := eq_true p233; replace q233 := eq_true q233; have ea_ := Option.some.inj (hx222_0.symm.trans hx233_0); injection ea_ with ea_ en_ ec_; subst ea_; subst ec_; clear en_; have p234 : 0 ≤ (x70_5 : Int) := of_decide_eq_true (by first | (with_reducible assumption) | assumption); have q234 : x70_5 < ((rd_L1 l0_1 x43_3).length : Int) := of_decide_eq_true (by first | (with_reducible assumption) | assumption); obtain ⟨ad234, e234, hx234_0⟩ := Kd.at_int HR233_0.out x70_5 p234 q234; cases e234; replace hx234_0 := (HB.out.cell (World.block_lt_of_cell? w _ hx234_0)).trans hx234_0; replace p234 := eq_true p234; replace q234 := eq_true q234; have p235 : 0 ≤ (x43_3 : Int) := of_decide_eq_true (by first | (with_reducible assumption) | assumption); have q235 : x43_3 < (l0_1.length : Int) := of_decide_eq_true (by first | (with_reducible assumption) | assumption); obtain ⟨ad235, A235_0, c235_0, e235, hx235_0, hl235_0, hi235_0⟩ := at_L1 HR0_1.out x43_3 p235 q235; obtain rfl : ad218 = ad235 := (by injection e235); replace hx235_0 := (HB.out.cell (World.block_lt_of_cell? w _ hx235_0)).trans hx235_0; have HR235_0 := Aside0.mk hi235_0; have HC235_0 := Aside0.mk hl235_0; clear hi235_0 hl235_0; replace p235 := eq_true p235; replace q235 := eq_true q235; have ea_ := Option.some.inj (hx222_0.symm.trans hx235_0); injection ea_ with ea_ en_ ec_; subst ea_; subst ec_; clear en_; have p236 : 0 ≤ (x93_6 : Int) := of_decide_eq_true (by first | (with_reducible assumption) | assumption); have q236 : x93_6 < ((rd_L1 l0_1 x43_3).length : Int) := of_decide_eq_true (by first | (with_reducible assumption) | assumption); obtain ⟨ad236, e236, hx236_0⟩ := Kd.at_int HR235_0.out x93_6 p236 q236; cases e236; replace hx236_0 := (HB.out.cell (World.block_lt_of_cell? w _ hx236_0)).trans hx236_0; replace p236 := eq_true p236; replace q236 := eq_true q236) | (go_at_call 67; (with_reducible refine (impl_join.calls k6 _ _ l0_0 (rd (rd_L1 l0_1 x43_3) x70_5) (rd (rd_L1 l0_1 x43_3) x93_6) t237 _ ?side1 ?side2 A78.out).mono ?_); (case side1 => repeat (first | exact (Kd.C_below HR0_0.out (by repeat (first | (with_reducible first | exact HB.out | apply below_alloc | apply pw_below_drewN | apply below_drew1 | refine below_set ?_ GE209.out | refine below_set ?_ GE210.out) | exact HB.out))) | (with_reducible refine Kd.C_alloc ?_ _) | (with_reducible refine Kd.C_drewN ?_ _) | (with_reducible refine Kd.C_drew ?_))); (case side2 => exact HC0_0.out); rintro e w' ⟨rfl, ⟨nd, rfl⟩⟩; (try first | exact ⟨rfl, _, World.drewN_drewN _ _ _⟩ | exact ⟨rfl, _, Eq.trans (World.drewN_drewN _ _ _) (congrArg (World.drewN _) (Nat.add_assoc _ _ _))⟩)))
                                                repeat (go_quiet (first | (go_at_call 67; (with_reducible refine (impl_join.calls k6 _ _ l0_0 x70_5 x93_6 t231 _ ?side1 ?side2 A74.out).mono ?_); (case side1 => repeat (first | exact (Kd.C_below HR0_0.out HB.out) | (with_reducible refine Kd.C_alloc ?_ _) | (with_reducible refine Kd.C_drewN ?_ _) | (with_reducible refine Kd.C_drew ?_))); (case side2 => exact HC0_0.out); rintro e w' ⟨rfl, ⟨nd, rfl⟩⟩; (try first | exact ⟨rfl, _, World.drewN_drewN _ _ _⟩ | exact ⟨rfl, _, Eq.trans (World.drewN_drewN _ _ _) (congrArg (World.drewN _) (Nat.add_assoc _ _ _))⟩); have p232 : 0 ≤ (t231 : Int) := of_decide_eq_true (by first | (with_reducible assumption) | assumption); have q232 : t231 < ((rd_L1 l0_1 x43_3).length : Int) := of_decide_eq_true (by first | (with_reducible assumption) | assumption); obtain ⟨ad232, e232, hx232_0⟩ := Kd.at_int HR230_0.out t231 p232 q232; cases e232; replace hx232_0 := (HB.out.cell (World.block_lt_of_cell? w _ hx232_0)).trans hx232_0; replace p232 := eq_true p232; replace q232 := eq_true q232; have p233 : 0 ≤ (x43_3 : Int) := of_decide_eq_true (by first | (with_reducible assumption) | assumption); have q233 : x43_3 < (l0_1.length : Int) := of_decide_eq_true (by first | (with_reducible assumption) | assumption); obtain ⟨ad233, A233_0, c233_0, e233, hx233_0, hl233_0, hi233_0⟩ := at_L1 HR0_1.out x43_3 p233 q233; obtain rfl : ad218 = ad233 := (by injection e233); replace hx233_0 := (HB.out.cell (World.block_lt_of_cell? w _ hx233_0)).trans hx233_0; have HR233_0 := Aside0.mk hi233_0; have HC233_0 := Aside0.mk hl233_0; clear hi233_0 hl233_0; replace p233 := eq_true p233; replace q233 := eq_true q233; have ea_ := Option.some.inj (hx222_0.symm.trans hx233_0); injection ea_ with ea_ en_ ec_; subst ea_; subst ec_; clear en_; have p234 : 0 ≤ (x70_5 : Int) := of_decide_eq_true (by first | (with_reducible assumption) | assumption); have q234 : x70_5 < ((rd_L1 l0_1 x43_3).length : Int) := of_decide_eq_true (by first | (with_reducible assumption) | assumption); obtain ⟨ad234, e234, hx234_0⟩ := Kd.at_int HR233_0.out x70_5 p234 q234; cases e234; replace hx234_0 := (HB.out.cell (World.block_lt_of_cell? w _ hx234_0)).trans hx234_0; replace p234 := eq_true p234; replace q234 := eq_true q234; have p235 : 0 ≤ (x43_3 : Int) := of_decide_eq_true (by first | (with_reducible assumption) | assumption); have q235 : x43_3 < (l0_1.length : Int) := of_decide_eq_true (by first | (with_reducible assumption) | assumption); obtain ⟨ad235, A235_0, c235_0, e235, hx235_0, hl235_0, hi235_0⟩ := at_L1 HR0_1.out x43_3 p235 q235; obtain rfl : ad218 = ad235 := (by injection e235); replace hx235_0 := (HB.out.cell (World.block_lt_of_cell? w _ hx235_0)).trans hx235_0; have HR235_0 := Aside0.mk hi235_0; have HC235_0 := Aside0.mk hl235_0; clear hi235_0 hl235_0; replace p235 := eq_true p235; replace q235 := eq_true q235; have ea_ := Option.some.inj (hx222_0.symm.trans hx235_0); injection ea_ with ea_ en_ ec_; subst ea_; subst ec_; clear en_; have p236 : 0 ≤ (x93_6 : Int) := of_decide_eq_true (by first | (with_reducible assumption) | assumption); have q236 : x93_6 < ((rd_L1 l0_1 x43_3).length : Int) := of_decide_eq_true (by first | (with_reducible assumption) | assumption); obtain ⟨ad236, e236, hx236_0⟩ := Kd.at_int HR235_0.out x93_6 p236 q236; cases e236; replace hx236_0 := (HB.out.cell (World.block_lt_of_cell? w _ hx236_0)).trans hx236_0; replace p236 := eq_true p236; replace q236 := eq_true q236) | (go_at_call 67; (with_reducible refine (impl_join.calls k6 _ _ l0_0 (rd (rd_L1 l0_1 x43_3) x70_5) (rd (rd_L1 l0_1 x43_3) x93_6) t237 _ ?side1 ?side2 A78.out).mono ?_); (case side1 => repeat (first | exact (Kd.C_below HR0_0.out (by repeat (first | (with_reducible first | exact HB.out | apply below_alloc | apply pw_below_drewN | apply below_drew1 | refine below_set ?_ GE209.out | refine below_set ?_ GE210.out) | exact HB.out))) | (with_reducible refine Kd.C_alloc ?_ _) | (with_reducible refine Kd.C_drewN ?_ _) | (with_reducible refine Kd.C_drew ?_))); (case side2 => exact HC0_0.out); rintro e w' ⟨rfl, ⟨nd, rfl⟩⟩; (try first | exact ⟨rfl, _, World.drewN_drewN _ _ _⟩ | exact ⟨rfl, _, Eq.trans (World.drewN_drewN _ _ _) (congrArg (World.drewN _) (Nat.add_assoc _ _ _))⟩))); try go_wp2_with (first | (go_at_call 67; (with_reducible refine (impl_join.calls k6 _ _ l0_0 x70_5 x93_6 t231 _ ?side1 ?side2 A74.out).mono ?_); (case side1 => repeat (first | exact (Kd.C_below HR0_0.out HB.out) | (with_reducible refine Kd.C_alloc ?_ _) | (with_reducible refine Kd.C_drewN ?_ _) | (with_reducible refine Kd.C_drew ?_))); (case side2 => exact HC0_0.out); rintro e w' ⟨rfl, ⟨nd, rfl⟩⟩; (try first | exact ⟨rfl, _, World.drewN_drewN _ _ _⟩ | exact ⟨rfl, _, Eq.trans (World.drewN_drewN _ _ _) (congrArg (World.drewN _) (Nat.add_assoc _ _ _))⟩); have p232 : 0 ≤ (t231 : Int) := of_decide_eq_true (by first | (with_reducible assumption) | assumption); have q232 : t231 < ((rd_L1 l0_1 x43_3).length : Int) := of_decide_eq_true (by first | (with_reducible assumption) | assumption); obtain ⟨ad232, e232, hx232_0⟩ := Kd.at_int HR230_0.out t231 p232 q232; cases e232; replace hx232_0 := (HB.out.cell (World.block_lt_of_cell? w _ hx232_0)).trans hx232_0; replace p232 := eq_true p232; replace q232 := eq_true q232; have p233 : 0 ≤ (x43_3 : Int) := of_decide_eq_true (by first | (with_reducible assumption) | assumption); have q233 : x43_3 < (l0_1.length : Int) := of_decide_eq_true (by first | (with_reducible assumption) | assumption); obtain ⟨ad233, A233_0, c233_0, e233, hx233_0, hl233_0, hi233_0⟩ := at_L1 HR0_1.out x43_3 p233 q233; obtain rfl : ad218 = ad233 := (by injection e233); replace hx233_0 := (HB.out.cell (World.block_lt_of_cell? w _ hx233_0)).trans hx233_0; have HR233_0 := Aside0.mk hi233_0; have HC233_0 := Aside0.mk hl233_0; clear hi233_0 hl233_0; replace p233 := eq_true p233; replace q233 := eq_true q233; have ea_ := Option.some.inj (hx222_0.symm.trans hx233_0); injection ea_ with ea_ en_ ec_; subst ea_; subst ec_; clear en_; have p234 : 0 ≤ (x70_5 : Int) := of_decide_eq_true (by first | (with_reducible assumption) | assumption); have q234 : x70_5 < ((rd_L1 l0_1 x43_3).length : Int) := of_decide_eq_true (by first | (with_reducible assumption) | assumption); obtain ⟨ad234, e234, hx234_0⟩ := Kd.at_int HR233_0.out x70_5 p234 q234; cases e234; replace hx234_0 := (HB.out.cell (World.block_lt_of_cell? w _ hx234_0)).trans hx234_0; replace p234 := eq_true p234; replace q234 := eq_true q234; have p235 : 0 ≤ (x43_3 : Int) := of_decide_eq_true (by first | (with_reducible assumption) | assumption); have q235 : x43_3 < (l0_1.length : Int) := of_decide_eq_true (by first | (with_reducible assumption) | assumption); obtain ⟨ad235, A235_0, c235_0, e235, hx235_0, hl235_0, hi235_0⟩ := at_L1 HR0_1.out x43_3 p235 q235; obtain rfl : ad218 = ad235 := (by injection e235); replace hx235_0 := (HB.out.cell (World.block_lt_of_cell? w _ hx235_0)).trans hx235_0; have HR235_0 := Aside0.mk hi235_0; have HC235_0 := Aside0.mk hl235_0; clear hi235_0 hl235_0; replace p235 := eq_true p235; replace q235 := eq_true q235; have ea_ := Option.some.inj (hx222_0.symm.trans hx235_0); injection ea_ with ea_ en_ ec_; subst ea_; subst ec_; clear en_; have p236 : 0 ≤ (x93_6 : Int) := of_decide_eq_true (by first | (with_reducible assumption) | assumption); have q236 : x93_6 < ((rd_L1 l0_1 x43_3).length : Int) := of_decide_eq_true (by first | (with_reducible assumption) | assumption); obtain ⟨ad236, e236, hx236_0⟩ := Kd.at_int HR235_0.out x93_6 p236 q236; cases e236; replace hx236_0 := (HB.out.cell (World.block_lt_of_cell? w _ hx236_0)).trans hx236_0; replace p236 := eq_true p236; replace q236 := eq_true q236) | (go_at_call 67; (with_reducible refine (impl_join.calls k6 _ _ l0_0 (rd (rd_L1 l0_1 x43_3) x70_5) (rd (rd_L1 l0_1 x43_3) x93_6) t237 _ ?side1 ?side2 A78.out).mono ?_); (case side1 => repeat (first | exact (Kd.C_below HR0_0.out (by repeat (first | (with_reducible first | exact HB.out | apply below_alloc | apply pw_below_drewN | apply below_drew1 | refine below_set ?_ GE209.out | refine below_set ?_ GE210.out) | exact HB.out))) | (with_reducible refine Kd.C_alloc ?_ _) | (with_reducible refine Kd.C_drewN ?_ _) | (with_reducible refine Kd.C_drew ?_))); (case side2 => exact HC0_0.out); rintro e w' ⟨rfl, ⟨nd, rfl⟩⟩; (try first | exact ⟨rfl, _, World.drewN_drewN _ _ _⟩ | exact ⟨rfl, _, Eq.trans (World.drewN_drewN _ _ _) (congrArg (World.drewN _) (Nat.add_assoc _ _ _))⟩))))
                                                go_ret
                                                exact ⟨by first | rfl | (simp [errW_none, errW_some] <;> rfl) | (simp [*, errW_none, errW_some] <;> rfl), by repeat (first | (with_reducible first | exact HB.out | apply below_alloc | apply pw_below_drewN | apply below_drew1 | refine below_set ?_ GE209.out | refine below_set ?_ GE210.out) | exact HB.out)⟩
                                             ·rw [if_neg c77] at H
                                              exact absurd H (by simp)
                                            ·rw [if_neg c76] at H
                                             exact absurd H (by simp)
                                           ·rw [if_neg c75] at H
                                            exact absurd H (by simp)
                                          ·rw [if_neg c73] at H
                                           have c73b0 : ((rd (rd_L1 l0_1 (rd (rd_L1 l0_1 x43_3) x70_5)) x93_6) == (rd (rd_L1 l0_1 x43_3) (rd (rd_L1 l0_1 x70_5) x93_6))) = false := beq_eq_false_iff_ne.mpr c73
                                           have c73b1 : ((rd (rd_L1 l0_1 (rd (rd_L1 l0_1 x43_3) x70_5)) x93_6) != (rd (rd_L1 l0_1 x43_3) (rd (rd_L1 l0_1 x70_5) x93_6))) = true := bne_iff_ne.mpr c73
                                           obtain rfl := Option.some.inj H
                                           have hnb84 := NB209_210.out
                                           have hnc84 := NB210_209.out
                                           have hcz85_0 : wr.cell? ⟨gb209, 0, none⟩ = some (.slice A0_0 l0_0.length c0_0) := (blk_cell BK209.out 0).trans rfl
                                           have hcz85_1 : wr.cell? ⟨gb209, 1, none⟩ = some (.slice (some ad218) l0_1.length c0_1) := (blk_cell BK209.out 1).trans rfl
                                           have hfz85_0 := blk_frozen BK209.out 0
                                           have hfz85_1 := blk_frozen BK209.out 1
                                           have p222 : 0 ≤ (x43_3 : Int) := of_decide_eq_true (by first | (with_reducible assumption) | assumption)
                                           have q222 : x43_3 < (l0_1.length : Int) := of_decide_eq_true (by first | (with_reducible assumption) | assumption)
                                           obtain ⟨ad222, A222_0, c222_0, e222, hx222_0, hl222_0, hi222_0⟩ := at_L1 HR0_1.out x43_3 p222 q222
                                           obtain rfl : ad218 = ad222 := (by injection e222)
                                           replace hx222_0 := (HB.out.cell (World.block_lt_of_cell? w _ hx222_0)).trans hx222_0
                                           have HR222_0 := Aside0.mk hi222_0
                                           have HC222_0 := Aside0.mk hl222_0
                                           clear hi222_0 hl222_0
                                           replace p222 := eq_true p222
                                           replace q222 := eq_true q222
                                           have p223 : 0 ≤ (x70_5 : Int) := of_decide_eq_true (by first | (with_reducible assumption) | assumption)
                                           have q223 : x70_5 < ((rd_L1 l0_1 x43_3).length : Int) := of_decide_eq_true (by first | (with_reducible assumption) | assumption)
                                           obtain ⟨ad223, e223, hx223_0⟩ := Kd.at_int HR222_0.out x70_5 p223 q223
                                           cases e223
                                           replace hx223_0 := (HB.out.cell (World.block_lt_of_cell? w _ hx223_0)).trans hx223_0
                                           replace p223 := eq_true p223
                                           replace q223 := eq_true q223
                                           have p224 : 0 ≤ ((rd (rd_L1 l0_1 x43_3) x70_5) : Int) := of_decide_eq_true (by first | (with_reducible assumption) | assumption)
                                           have q224 : (rd (rd_L1 l0_1 x43_3) x70_5) < (l0_1.length : Int) := of_decide_eq_true (by first | (with_reducible assumption) | assumption)
                                           obtain ⟨ad224, A224_0, c224_0, e224, hx224_0, hl224_0, hi224_0⟩ := at_L1 HR0_1.out (rd (rd_L1 l0_1 x43_3) x70_5) p224 q224
                                           obtain rfl : ad218 = ad224 := (by injection e224)
                                           replace hx224_0 := (HB.out.cell (World.block_lt_of_cell? w _ hx224_0)).trans hx224_0
                                           have HR224_0 := Aside0.mk hi224_0
                                           have HC224_0 := Aside0.mk hl224_0
                                           clear hi224_0 hl224_0
                                           replace p224 := eq_true p224
                                           replace q224 := eq_true q224
                                           have p225 : 0 ≤ (x93_6 : Int) := of_decide_eq_true (by first | (with_reducible assumption) | assumption)
                                           have q225 : x93_6 < ((rd_L1 l0_1 (rd (rd_L1 l0_1 x43_3) x70_5)).length : Int) := of_decide_eq_true (by first | (with_reducible assumption) | assumption)
                                           obtain ⟨ad225, e225, hx225_0⟩ := Kd.at_int HR224_0.out x93_6 p225 q225
                                           cases e225
                                           replace hx225_0 := (HB.out.cell (World.block_lt_of_cell? w _ hx225_0)).trans hx225_0
                                           replace p225 := eq_true p225
                                           replace q225 := eq_true q225
                                           have p226 : 0 ≤ (x43_3 : Int) := of_decide_eq_true (by first | (with_reducible assumption) | assumption)
                                           have q226 : x43_3 < (l0_1.length : Int) := of_decide_eq_true (by first | (with_reducible assumption) | assumption)
                                           obtain ⟨ad226, A226_0, c226_0, e226, hx226_0, hl226_0, hi226_0⟩ := at_L1 HR0_1.out x43_3 p226 q226
                                           obtain rfl : ad218 = ad226 := (by injection e226)
                                           replace hx226_0 := (HB.out.cell (World.block_lt_of_cell? w _ hx226_0)).trans hx226_0
                                           have HR226_0 := Aside0.mk hi226_0
                                           have HC226_0 := Aside0.mk hl226_0
                                           clear hi226_0 hl226_0
                                           replace p226 := eq_true p226
                                           replace q226 := eq_true q226
                                           have ea_ := Option.some.inj (hx222_0.symm.trans hx226_0)
                                           injection ea_ with ea_ en_ ec_
                                           subst ea_
                                           subst ec_
                                           clear en_
                                           have p227 : 0 ≤ (x70_5 : Int) := of_decide_eq_true (by first | (with_reducible assumption) | assumption)
                                           have q227 : x70_5 < (l0_1.length : Int) := of_decide_eq_true (by first | (with_reducible assumption) | assumption)
                                           obtain ⟨ad227, A227_0, c227_0, e227, hx227_0, hl227_0, hi227_0⟩ := at_L1 HR0_1.out x70_5 p227 q227
                                           obtain rfl : ad218 = ad227 := (by injection e227)
                                           replace hx227_0 := (HB.out.cell (World.block_lt_of_cell? w _ hx227_0)).trans hx227_0
                                           have HR227_0 := Aside0.mk hi227_0
                                           have HC227_0 := Aside0.mk hl227_0
                                           clear hi227_0 hl227_0
                                           replace p227 := eq_true p227
                                           replace q227 := eq_true q227
                                           have p228 : 0 ≤ (x93_6 : Int) := of_decide_eq_true (by first | (with_reducible assumption) | assumption)
                                           have q228 : x93_6 < ((rd_L1 l0_1 x70_5).length : Int) := of_decide_eq_true (by first | (with_reducible assumption) | assumption)
                                           obtain ⟨ad228, e228, hx228_0⟩ := Kd.at_int HR227_0.out x93_6 p228 q228
                                           cases e228
                                           replace hx228_0 := (HB.out.cell (World.block_lt_of_cell? w _ hx228_0)).trans hx228_0
                                           replace p228 := eq_true p228
                                           replace q228 := eq_true q228
                                           have p229 : 0 ≤ ((rd (rd_L1 l0_1 x70_5) x93_6) : Int) := of_decide_eq_true (by first | (with_reducible assumption) | assumption)
                                           have q229 : (rd (rd_L1 l0_1 x70_5) x93_6) < ((rd_L1 l0_1 x43_3).length : Int) := of_decide_eq_true (by first | (with_reducible assumption) | assumption)
                                           obtain ⟨ad229, e229, hx229_0⟩ := Kd.at_int HR226_0.out (rd (rd_L1 l0_1 x70_5) x93_6) p229 q229
                                           cases e229
                                           replace hx229_0 := (HB.out.cell (World.block_lt_of_cell? w _ hx229_0)).trans hx229_0
                                           replace p229 := eq_true p229
                                           replace q229 := eq_true q229
                                           as_aux_lemma =>
                                            go_wp2
                                            repeat (go_quiet (fail); try go_wp2)
                                            go_ret
                                            exact ⟨by first | rfl | (simp [errW_none, errW_some] <;> rfl) | (simp [*, errW_none, errW_some] <;> rfl), by repeat (first | (with_reducible first | exact HB.out | apply below_alloc | apply pw_below_drewN | apply below_drew1 | refine below_set ?_ GE209.out | refine below_set ?_ GE210.out) | exact HB.out)⟩
                                         ·rw [if_neg c72] at H
                                          exact absurd H (by simp)
                                        ·rw [if_neg c71] at H
                                         exact absurd H (by simp)
                                       ·rw [if_neg c70] at H
                                        exact absurd H (by simp)
                                      ·rw [if_neg c69] at H
                                       exact absurd H (by simp)
                                     ·rw [if_neg c68] at H
                                      exact absurd H (by simp)
                                    ·rw [if_neg c67] at H
                                     exact absurd H (by simp)
                                   ·rw [if_neg c66] at H
                                    exact absurd H (by simp)
                                  ·rw [if_neg c65] at H
                                   exact absurd H (by simp)
                                 ·rw [if_neg c64] at H
                                  exact absurd H (by simp)
                                ·rw [if_neg c63] at H
                                 exact absurd H (by simp)
                               ·rw [if_neg c62] at H
                                exact absurd H (by simp)
                              ·rw [if_neg c61] at H
                               exact absurd H (by simp)
                             ·rw [if_neg c60] at H
                              have c60b0 : decide (x93_6 < (l0_0.length : Int)) = false := decide_eq_false c60
                              clear c60
                              have H' := Aside0.mk H
                              clear H
                              as_aux_lemma =>
                               go_wp2
                               repeat (go_quiet (fail); try go_wp2)
                               go_roundg k6
                               case measure => have := HJ1.out; have := HK2.out; have := HK3.out; have := HJ32.out; have := HK5.out; have := HK6.out; omega
                               case rel => exact ⟨(wrap64 (x70_5 + 1)), (by first | rfl | (simp; done) | (simp [*]; done)), H', ⟨by have := HJ1.out; have := HK2.out; have := HK3.out; have := HJ32.out; have := HK5.out; have := HK6.out; omega⟩, ⟨by (with_reducible repeat (first | refine blk_drewN ?_ _ | refine blk_drew ?_ | refine blk_alloc ?_ _)); exact BK209.out⟩, ⟨by (with_reducible repeat (first | refine blk_drewN ?_ _ | refine blk_drew ?_ | refine blk_alloc ?_ _)); exact BK210.out⟩, ⟨by repeat (first | (with_reducible first | exact HB.out | apply below_alloc | apply pw_below_drewN | apply below_drew1 | refine below_set ?_ GE209.out | refine below_set ?_ GE210.out) | exact HB.out)⟩⟩
                         ·rw [if_neg c57] at H
                          have c57b0 : ((rd (rd_L1 l0_1 x43_3) x70_5) == (rd (rd_L1 l0_1 x70_5) x43_3)) = false := beq_eq_false_iff_ne.mpr c57
                          have c57b1 : ((rd (rd_L1 l0_1 x43_3) x70_5) != (rd (rd_L1 l0_1 x70_5) x43_3)) = true := bne_iff_ne.mpr c57
                          obtain rfl := Option.some.inj H
                          have hnb86 := NB209_210.out
                          have hnc86 := NB210_209.out
                          have hcz87_0 : wr.cell? ⟨gb209, 0, none⟩ = some (.slice A0_0 l0_0.length c0_0) := (blk_cell BK209.out 0).trans rfl
                          have hcz87_1 : wr.cell? ⟨gb209, 1, none⟩ = some (.slice A0_1 l0_1.length c0_1) := (blk_cell BK209.out 1).trans rfl
                          have hfz87_0 := blk_frozen BK209.out 0
                          have hfz87_1 := blk_frozen BK209.out 1
                          have p218 : 0 ≤ (x43_3 : Int) := of_decide_eq_true (by first | (with_reducible assumption) | assumption)
                          have q218 : x43_3 < (l0_1.length : Int) := of_decide_eq_true (by first | (with_reducible assumption) | assumption)
                          obtain ⟨ad218, A218_0, c218_0, e218, hx218_0, hl218_0, hi218_0⟩ := at_L1 HR0_1.out x43_3 p218 q218
                          cases e218
                          replace hx218_0 := (HB.out.cell (World.block_lt_of_cell? w _ hx218_0)).trans hx218_0
                          have HR218_0 := Aside0.mk hi218_0
                          have HC218_0 := Aside0.mk hl218_0
                          clear hi218_0 hl218_0
                          replace p218 := eq_true p218
                          replace q218 := eq_true q218
                          have p219 : 0 ≤ (x70_5 : Int) := of_decide_eq_true (by first | (with_reducible assumption) | assumption)
                          have q219 : x70_5 < ((rd_L1 l0_1 x43_3).length : Int) := of_decide_eq_true (by first | (with_reducible assumption) | assumption)
                          obtain ⟨ad219, e219, hx219_0⟩ := Kd.at_int HR218_0.out x70_5 p219 q219
                          cases e219
                          replace hx219_0 := (HB.out.cell (World.block_lt_of_cell? w _ hx219_0)).trans hx219_0
                          replace p219 := eq_true p219
                          replace q219 := eq_true q219
                          have p220 : 0 ≤ (x70_5 : Int) := of_decide_eq_true (by first | (with_reducible assumption) | assumption)
                          have q220 : x70_5 < (l0_1.length : Int) := of_decide_eq_true (by first | (with_reducible assumption) | assumption)
                          obtain ⟨ad220, A220_0, c220_0, e220, hx220_0, hl220_0, hi220_0⟩ := at_L1 HR0_1.out x70_5 p220 q220
                          obtain rfl : ad218 = ad220 := (by injection e220)
                          replace hx220_0 := (HB.out.cell (World.block_lt_of_cell? w _ hx220_0)).trans hx220_0
                          have HR220_0 := Aside0.mk hi220_0
                          have HC220_0 := Aside0.mk hl220_0
                          clear hi220_0 hl220_0
                          replace p220 := eq_true p220
                          replace q220 := eq_true q220
                          have p221 : 0 ≤ (x43_3 : Int) := of_decide_eq_true (by first | (with_reducible assumption) | assumption)
                          have q221 : x43_3 < ((rd_L1 l0_1 x70_5).length : Int) := of_decide_eq_true (by first | (with_reducible assumption) | assumption)
                          obtain ⟨ad221, e221, hx221_0⟩ := Kd.at_int HR220_0.out x43_3 p221 q221
                          cases e221
                          replace hx221_0 := (HB.out.cell (World.block_lt_of_cell? w _ hx221_0)).trans hx221_0
                          replace p221 := eq_true p221
                          replace q221 := eq_true q221
                          as_aux_lemma =>
                           go_wp2
                           repeat (go_quiet (fail); try go_wp2)
                           go_ret
                           exact ⟨by first | rfl | (simp [errW_none, errW_some] <;> rfl) | (simp [*, errW_none, errW_some] <;> rfl), by repeat (first | (with_reducible first | exact HB.out | apply below_alloc | apply pw_below_drewN | apply below_drew1 | refine below_set ?_ GE209.out | refine below_set ?_ GE210.out) | exact HB.out)⟩
                        ·rw [if_neg c56] at H
                         exact absurd H (by simp)
                       ·rw [if_neg c55] at H
                        exact absurd H (by simp)
                      ·rw [if_neg c54] at H
                       exact absurd H (by simp)
                     ·rw [if_neg c53] at H
                      exact absurd H (by simp)
                    ·rw [if_neg c52] at H
                     exact absurd H (by simp)
                   ·rw [if_neg c51] at H
                    exact absurd H (by simp)
                  ·rw [if_neg c50] at H
                   have c50b0 : decide (x70_5 < (l0_0.length : Int)) = false := decide_eq_false c50
                   clear c50
                   have H' := Aside0.mk H
                   clear H
                   as_aux_lemma =>
                    go_wp2
                    repeat (go_quiet (fail); try go_wp2)
                    go_roundg k5
                    case measure => have := HJ1.out; have := HK2.out; have := HK3.out; have := HJ32.out; have := HK5.out; omega
                    case rel => exact ⟨(wrap64 (x43_3 + 1)), (by first | rfl | (simp; done) | (simp [*]; done)), H', ⟨by have := HJ1.out; have := HK2.out; have := HK3.out; have := HJ32.out; have := HK5.out; omega⟩, ⟨by (with_reducible repeat (first | refine blk_drewN ?_ _ | refine blk_drew ?_ | refine blk_alloc ?_ _)); exact BK209.out⟩, ⟨by (with_reducible repeat (first | refine blk_drewN ?_ _ | refine blk_drew ?_ | refine blk_alloc ?_ _)); exact BK210.out⟩, ⟨by repeat (first | (with_reducible first | exact HB.out | apply below_alloc | apply pw_below_drewN | apply below_drew1 | refine below_set ?_ GE209.out | refine below_set ?_ GE210.out) | exact HB.out)⟩⟩
           ·rw [if_neg c32] at H
            have c32b0 : decide (x43_3 < (l0_0.length : Int)) = false := decide_eq_false c32
            clear c32
            obtain rfl := Option.some.inj H
            as_aux_lemma =>
             go_wp2
             repeat (go_quiet (fail); try go_wp2)
             go_ret
             exact ⟨by first | rfl | (simp [errW_none, errW_some] <;> rfl) | (simp [*, errW_none, errW_some] <;> rfl), by repeat (first | (with_reducible first | exact HB.out | apply below_alloc | apply pw_below_drewN | apply below_drew1 | refine below_set ?_ GE209.out | refine below_set ?_ GE210.out) | exact HB.out)⟩

end Go.Proofs.Ytkndndgladdmcaa.P

-- shrunk
