-- Printed by this session's wip/print2.py (the kit's print.py, widened) out of the translation. Lean checks it.
import Derived.Test.YtomapoenndlbiaaP0
import Derived.Test.YtomapoenndlbiaaP14
import Derived.Test.YtomapoenndlbiaaP17
import Derived.Test.YtomapoenndlbiaaP18
namespace Go.Proofs.Ytomapoenndlbiaa.P
open Go.RowKit Go.Proofs.YtomapoenndlbiaaW.PrintWords Go.Proofs.YtomapoenndlbiaaW.PrintLast Go.Proofs.YtomapoenndlbiaaW.PrintMore
attribute [local go_sem] max2_int min2_int max_two min_two max_three min_three max_four min_four   -- for this text's walks alone
set_option linter.unusedVariables false
set_option linter.unusedSimpArgs false

/-! ### impl_ValidAlgebra: function 40 -/
mutual
def impl_ValidAlgebra.j0 : Nat → Bool → List Int → List (List Int) → Int → Option (Bool)
 | 0, _, _, _, _ => none
 | k + 1, x22, x239000, x239001, x240000 => if x22 = true then (some false) else (impl_ValidAlgebra.l0 k x239001 (x239001.length : Int) 0 x239000 x239001 x240000)
def impl_ValidAlgebra.l0 : Nat → List (List Int) → Int → Int → List Int → List (List Int) → Int → Option (Bool)
 | 0, _, _, _, _, _, _ => none
 | k + 1, x24, x25, x26, x239000, x239001, x240000 => if x26 < x25 then (if 0 ≤ x26 then (if x26 < (x24.length : Int) then (if ((rd_L1 x24 x26).length : Int) = x240000 then ((cf_ValidAlgebra_1.f (rd_L1 x24 x26) x240000).bind fun t242 => (if t242 = true then (some false) else (impl_ValidAlgebra.l0 k x24 x25 (wrap64 (x26 + 1)) x239000 x239001 x240000))) else (some false)) else (none)) else (none)) else (impl_ValidAlgebra.l1 k (x239000.length : Int) 0 x239000 x239001 x240000)
def impl_ValidAlgebra.l1 : Nat → Int → Int → List Int → List (List Int) → Int → Option (Bool)
 | 0, _, _, _, _, _ => none
 | k + 1, x42, x43, x239000, x239001, x240000 => if x43 < x42 then (if 0 ≤ x43 then (if x43 < (x239001.length : Int) then (if 0 ≤ (wrap64 (x240000 - 1)) then (if (wrap64 (x240000 - 1)) < ((rd_L1 x239001 x43).length : Int) then (if (rd (rd_L1 x239001 x43) (wrap64 (x240000 - 1))) = x43 then (if 0 < ((rd_L1 x239001 x43).length : Int) then (impl_ValidAlgebra.j3 k x43 x42 x43 ((rd (rd_L1 x239001 x43) 0) != 0) x239000 x239001 x240000) else (none)) else (impl_ValidAlgebra.j3 k x43 x42 x43 true x239000 x239001 x240000)) else (none)) else (none)) else (none)) else (none)) else (some true)
def impl_ValidAlgebra.j3 : Nat → Int → Int → Int → Bool → List Int → List (List Int) → Int → Option (Bool)
 | 0, _, _, _, _, _, _, _ => none
 | k + 1, x6, x42, x43, x66, x239000, x239001, x240000 => if x66 = true then (some false) else (impl_ValidAlgebra.l2 k x6 x42 x43 (x239000.length : Int) 0 x239000 x239001 x240000)
def impl_ValidAlgebra.l2 : Nat → Int → Int → Int → Int → Int → List Int → List (List Int) → Int → Option (Bool)
 | 0, _, _, _, _, _, _, _, _ => none
 | k + 1, x6, x42, x43, x69, x70, x239000, x239001, x240000 => if x70 < x69 then (if 0 ≤ x6 then (if x6 < (x239001.length : Int) then (if 0 ≤ x70 then (if x70 < ((rd_L1 x239001 x6).length : Int) then (if x70 < (x239001.length : Int) then (if x6 < ((rd_L1 x239001 x70).length : Int) then (if (rd (rd_L1 x239001 x6) x70) = (rd (rd_L1 x239001 x70) x6) then (impl_ValidAlgebra.l3 k x6 x70 x42 x43 x69 x70 (x239000.length : Int) 0 x239000 x239001 x240000) else (some false)) else (none)) else (none)) else (none)) else (none)) else (none)) else (none)) else (impl_ValidAlgebra.l1 k x42 (wrap64 (x43 + 1)) x239000 x239001 x240000)
def impl_ValidAlgebra.l3 : Nat → Int → Int → Int → Int → Int → Int → Int → Int → List Int → List (List Int) → Int → Option (Bool)
 | 0, _, _, _, _, _, _, _, _, _, _, _ => none
 | k + 1, x6, x7, x42, x43, x69, x70, x92, x93, x239000, x239001, x240000 => if x93 < x92 then (if 0 ≤ x6 then (if x6 < (x239001.length : Int) then (if 0 ≤ x7 then (if x7 < ((rd_L1 x239001 x6).length : Int) then (if 0 ≤ (rd (rd_L1 x239001 x6) x7) then (if (rd (rd_L1 x239001 x6) x7) < (x239001.length : Int) then (if 0 ≤ x93 then (if x93 < ((rd_L1 x239001 (rd (rd_L1 x239001 x6) x7)).length : Int) then (if x7 < (x239001.length : Int) then (if x93 < ((rd_L1 x239001 x7).length : Int) then (if 0 ≤ (rd (rd_L1 x239001 x7) x93) then (if (rd (rd_L1 x239001 x7) x93) < ((rd_L1 x239001 x6).length : Int) then (if (rd (rd_L1 x239001 (rd (rd_L1 x239001 x6) x7)) x93) = (rd (rd_L1 x239001 x6) (rd (rd_L1 x239001 x7) x93)) then ((impl_join.f k x239000 x7 x93).bind fun t260 => (if 0 ≤ t260 then (if t260 < ((rd_L1 x239001 x6).length : Int) then (if x93 < ((rd_L1 x239001 x6).length : Int) then ((impl_join.f k x239000 (rd (rd_L1 x239001 x6) x7) (rd (rd_L1 x239001 x6) x93)).bind fun t266 => (if (rd (rd_L1 x239001 x6) t260) = t266 then (impl_ValidAlgebra.l3 k x6 x7 x42 x43 x69 x70 x92 (wrap64 (x93 + 1)) x239000 x239001 x240000) else (some false))) else (none)) else (none)) else (none))) else (some false)) else (none)) else (none)) else (none)) else (none)) else (none)) else (none)) else (none)) else (none)) else (none)) else (none)) else (none)) else (none)) else (impl_ValidAlgebra.l2 k x6 x42 x43 x69 (wrap64 (x70 + 1)) x239000 x239001 x240000)
end
def impl_ValidAlgebra.f (k : Nat) (l0_0 : List Int) (l0_1 : List (List Int)) : Option (Bool) := (impl_ValidLattice.f k l0_0).bind fun t240 => (if t240 = true then (impl_ValidAlgebra.j0 k ((l0_1.length : Int) != (l0_0.length : Int)) l0_0 l0_1 (l0_0.length : Int)) else (impl_ValidAlgebra.j0 k true l0_0 l0_1 (l0_0.length : Int)))
set_option maxHeartbeats 8000000 in
set_option maxRecDepth 100000 in
theorem impl_ValidAlgebra.calls (k : Nat) (A0_0 : Option Addr) (c0_0 : Nat) (l0_0 : List Int) (A0_1 : Option Addr) (c0_1 : Nat) (l0_1 : List (List Int)) (r : Bool) (w : World) (hr0_0 : Kd.C (Kd.int .i64) w A0_0 l0_0.length l0_0) (hc0_0 : l0_0.length ≤ c0_0) (hr0_1 : Kd.C (Kd.slice 3 (Kd.int .i64)) w A0_1 l0_1.length l0_1) (hc0_1 : l0_1.length ≤ c0_1) (h : impl_ValidAlgebra.f k l0_0 l0_1 = some r) :
  Calls Try.prog 40 #[.agg #[.slice A0_0 l0_0.length c0_0, .slice A0_1 l0_1.length c0_1]] w fun e w' => e = .returned (.bool r) ∧ Below w.heap.size w w' := by
 have hu28 := Try.underlying28
 have HR0_0 := Aside0.mk hr0_0
 have HC0_0 := Aside0.mk hc0_0
 clear hr0_0 hc0_0
 have HR0_1 := Aside0.mk hr0_1
 have HC0_1 := Aside0.mk hc0_1
 clear hr0_1 hc0_1
 have HB := Aside0.mk (Below.refl w.heap.size w)
 have H : ((impl_ValidLattice.f k l0_0).bind fun t240 => (if t240 = true then (impl_ValidAlgebra.j0 k ((l0_1.length : Int) != (l0_0.length : Int)) l0_0 l0_1 (l0_0.length : Int)) else (impl_ValidAlgebra.j0 k true l0_0 l0_1 (l0_0.length : Int)))) = some r := h
 clear h
 have HC2 := Aside0.mk H
 clear H
 have hmf : ∀ (fn : Fn) (first cap : Array Value) (w : World), (Instr.makeFunc fn first cap).run Try.prog w = .ok (.func fn first cap) w := fun _ _ _ _ => rfl
 go_enter Try.func40, Try.ntmps40
 go_upto_region 2 with (first | ((with_reducible refine gate_dst (N := 1) rfl ?_); (try (refine gate_guard (by rfl) ?_; dsimp only)); refine box_event ?hg (N := 1) ?hd (cs := #[.slice A0_0 l0_0.length c0_0, .slice A0_1 l0_1.length c0_1]) (t := 28) ?hr ?_; (case hd => rfl); (case hg => rfl); (case hr => first | (go_simp; done) | (go_simp; rfl)); intro gb238 hg w3 hbox hb; have n0_ := Aside0.mk (below_step (by repeat (first | (with_reducible first | exact HB.out | apply below_alloc | apply pw_below_drewN | apply below_drew1) | exact HB.out)) hb); have n1_ := Aside0.mk (hbox); have n2_ := Aside0.mk ((by rw [hg]; exact (below_size (by repeat (first | (with_reducible first | exact HB.out | apply below_alloc | apply pw_below_drewN | apply below_drew1) | exact HB.out))) : w.heap.size ≤ gb238)); have n3_ := Aside0.mk ((by rw [hg]; exact (below_size (by repeat (first | (with_reducible first | exact HB.out | apply below_alloc | apply pw_below_drewN | apply below_drew1) | exact HB.out))) : w.heap.size ≤ gb238)); clear HB; have HB := n0_; have BK238 := n1_; have GW238 := n2_; have GE238 := n3_; clear n0_ n1_ n2_ n3_; clear hb hbox hg; have hcz4_0 : w3.cell? ⟨gb238, 0, none⟩ = some (.slice A0_0 l0_0.length c0_0) := (blk_cell BK238.out 0).trans rfl; have hcz4_1 : w3.cell? ⟨gb238, 1, none⟩ = some (.slice A0_1 l0_1.length c0_1) := (blk_cell BK238.out 1).trans rfl; have hfz4_0 := blk_frozen BK238.out 0; have hfz4_1 := blk_frozen BK238.out 1) | ((with_reducible refine gate_dst (N := 3) rfl ?_); (try (refine gate_guard (by rfl) ?_; dsimp only)); refine box_event ?hg (N := 3) ?hd (cs := #[.int .i64 0]) (t := 3) ?hr ?_; (case hd => rfl); (case hg => rfl); (case hr => first | (go_simp; done) | (go_simp; rfl)); intro gb239 hg w5 hbox hb; have n0_ := Aside0.mk (blk_below (g := gb238) (o := .cells #[.slice A0_0 l0_0.length c0_0, .slice A0_1 l0_1.length c0_1] 28 (0, 0)) (by (with_reducible repeat (first | refine blk_drewN ?_ _ | refine blk_drew ?_ | refine blk_alloc ?_ _)); exact BK238.out) hb); have n1_ := Aside0.mk (below_step (by repeat (first | (with_reducible first | exact HB.out | apply below_alloc | apply pw_below_drewN | apply below_drew1 | refine below_set ?_ GE238.out) | exact HB.out)) hb); have n2_ := Aside0.mk (hbox); have n3_ := Aside0.mk ((by rw [hg]; exact (below_size (by repeat (first | (with_reducible first | exact HB.out | apply below_alloc | apply pw_below_drewN | apply below_drew1 | refine below_set ?_ GE238.out) | exact HB.out))) : w.heap.size ≤ gb239)); have n4_ := Aside0.mk ((by rw [hg]; exact (below_size (by repeat (first | (with_reducible first | exact HB.out | apply below_alloc | apply pw_below_drewN | apply below_drew1 | refine below_set ?_ GE238.out) | exact HB.out))) : w.heap.size ≤ gb239)); have n5_ := Aside0.mk ((by rw [hg]; exact Nat.ne_of_lt (blk_lt (g := gb238) (o := .cells #[.slice A0_0 l0_0.length c0_0, .slice A0_1 l0_1.length c0_1] 28 (0, 0)) (by (with_reducible repeat (first | refine blk_drewN ?_ _ | refine blk_drew ?_ | refine blk_alloc ?_ _)); exact BK238.out)) : gb238 ≠ gb239)); have n6_ := Aside0.mk ((by rw [hg]; exact Nat.ne_of_gt (blk_lt (g := gb238) (o := .cells #[.slice A0_0 l0_0.length c0_0, .slice A0_1 l0_1.length c0_1] 28 (0, 0)) (by (with_reducible repeat (first | refine blk_drewN ?_ _ | refine blk_drew ?_ | refine blk_alloc ?_ _)); exact BK238.out)) : gb239 ≠ gb238)); clear BK238; clear HB; have BK238 := n0_; have HB := n1_; have BK239 := n2_; have GW239 := n3_; have GE239 := n4_; have NB238_239 := n5_; have NB239_238 := n6_; clear n0_ n1_ n2_ n3_ n4_ n5_ n6_; clear hb hbox hg; have hnb6 := NB239_238.out; have hnc6 := NB238_239.out; have hcz7_0 : w5.cell? ⟨gb239, 0, none⟩ = some (.int .i64 0) := (blk_cell BK239.out 0).trans rfl; have hfz7_0 := blk_frozen BK239.out 0))
 repeat ((refine wp_region_quiet_lit ?_ ?_ ?_; kernel_rfl; kernel_rfl; (repeat (first | go_big_quiet_step (first | ((with_reducible refine gate_dst (N := 1) rfl ?_); (try (refine gate_guard (by rfl) ?_; dsimp only)); refine box_event ?hg (N := 1) ?hd (cs := #[.slice A0_0 l0_0.length c0_0, .slice A0_1 l0_1.length c0_1]) (t := 28) ?hr ?_; (case hd => rfl); (case hg => rfl); (case hr => first | (go_simp; done) | (go_simp; rfl)); intro gb238 hg w3 hbox hb; have n0_ := Aside0.mk (below_step (by repeat (first | (with_reducible first | exact HB.out | apply below_alloc | apply pw_below_drewN | apply below_drew1) | exact HB.out)) hb); have n1_ := Aside0.mk (hbox); have n2_ := Aside0.mk ((by rw [hg]; exact (below_size (by repeat (first | (with_reducible first | exact HB.out | apply below_alloc | apply pw_below_drewN | apply below_drew1) | exact HB.out))) : w.heap.size ≤ gb238)); have n3_ := Aside0.mk ((by rw [hg]; exact (below_size (by repeat (first | (with_reducible first | exact HB.out | apply below_alloc | apply pw_below_drewN | apply below_drew1) | exact HB.out))) : w.heap.size ≤ gb238)); clear HB; have HB := n0_; have BK238 := n1_; have GW238 := n2_; have GE238 := n3_; clear n0_ n1_ n2_ n3_; clear hb hbox hg; have hcz4_0 : w3.cell? ⟨gb238, 0, none⟩ = some (.slice A0_0 l0_0.length c0_0) := (blk_cell BK238.out 0).trans rfl; have hcz4_1 : w3.cell? ⟨gb238, 1, none⟩ = some (.slice A0_1 l0_1.length c0_1) := (blk_cell BK238.out 1).trans rfl; have hfz4_0 := blk_frozen BK238.out 0; have hfz4_1 := blk_frozen BK238.out 1) | ((with_reducible refine gate_dst (N := 3) rfl ?_); (try (refine gate_guard (by rfl) ?_; dsimp only)); refine box_event ?hg (N := 3) ?hd (cs := #[.int .i64 0]) (t := 3) ?hr ?_; (case hd => rfl); (case hg => rfl); (case hr => first | (go_simp; done) | (go_simp; rfl)); intro gb239 hg w5 hbox hb; have n0_ := Aside0.mk (blk_below (g := gb238) (o := .cells #[.slice A0_0 l0_0.length c0_0, .slice A0_1 l0_1.length c0_1] 28 (0, 0)) (by (with_reducible repeat (first | refine blk_drewN ?_ _ | refine blk_drew ?_ | refine blk_alloc ?_ _)); exact BK238.out) hb); have n1_ := Aside0.mk (below_step (by repeat (first | (with_reducible first | exact HB.out | apply below_alloc | apply pw_below_drewN | apply below_drew1 | refine below_set ?_ GE238.out) | exact HB.out)) hb); have n2_ := Aside0.mk (hbox); have n3_ := Aside0.mk ((by rw [hg]; exact (below_size (by repeat (first | (with_reducible first | exact HB.out | apply below_alloc | apply pw_below_drewN | apply below_drew1 | refine below_set ?_ GE238.out) | exact HB.out))) : w.heap.size ≤ gb239)); have n4_ := Aside0.mk ((by rw [hg]; exact (below_size (by repeat (first | (with_reducible first | exact HB.out | apply below_alloc | apply pw_below_drewN | apply below_drew1 | refine below_set ?_ GE238.out) | exact HB.out))) : w.heap.size ≤ gb239)); have n5_ := Aside0.mk ((by rw [hg]; exact Nat.ne_of_lt (blk_lt (g := gb238) (o := .cells #[.slice A0_0 l0_0.length c0_0, .slice A0_1 l0_1.length c0_1] 28 (0, 0)) (by (with_reducible repeat (first | refine blk_drewN ?_ _ | refine blk_drew ?_ | refine blk_alloc ?_ _)); exact BK238.out)) : gb238 ≠ gb239)); have n6_ := Aside0.mk ((by rw [hg]; exact Nat.ne_of_gt (blk_lt (g := gb238) (o := .cells #[.slice A0_0 l0_0.length c0_0, .slice A0_1 l0_1.length c0_1] 28 (0, 0)) (by (with_reducible repeat (first | refine blk_drewN ?_ _ | refine blk_drew ?_ | refine blk_alloc ?_ _)); exact BK238.out)) : gb239 ≠ gb238)); clear BK238; clear HB; have BK238 := n0_; have HB := n1_; have BK239 := n2_; have GW239 := n3_; have GE239 := n4_; have NB238_239 := n5_; have NB239_238 := n6_; clear n0_ n1_ n2_ n3_ n4_ n5_ n6_; clear hb hbox hg; have hnb6 := NB239_238.out; have hnc6 := NB238_239.out; have hcz7_0 : w5.cell? ⟨gb239, 0, none⟩ = some (.int .i64 0) := (blk_cell BK239.out 0).trans rfl; have hfz7_0 := blk_frozen BK239.out 0)) | (refine wpQuiet_step (fun K hK => ?_); go_simp; refine hK _ ?_; clear hK K))); refine wpQuiet_nil ?_; intro _ hw'; obtain ⟨nq, hw''⟩ := hw'; subst hw''); go_upto_region 2 with (first | ((with_reducible refine gate_dst (N := 1) rfl ?_); (try (refine gate_guard (by rfl) ?_; dsimp only)); refine box_event ?hg (N := 1) ?hd (cs := #[.slice A0_0 l0_0.length c0_0, .slice A0_1 l0_1.length c0_1]) (t := 28) ?hr ?_; (case hd => rfl); (case hg => rfl); (case hr => first | (go_simp; done) | (go_simp; rfl)); intro gb238 hg w3 hbox hb; have n0_ := Aside0.mk (below_step (by repeat (first | (with_reducible first | exact HB.out | apply below_alloc | apply pw_below_drewN | apply below_drew1) | exact HB.out)) hb); have n1_ := Aside0.mk (hbox); have n2_ := Aside0.mk ((by rw [hg]; exact (below_size (by repeat (first | (with_reducible first | exact HB.out | apply below_alloc | apply pw_below_drewN | apply below_drew1) | exact HB.out))) : w.heap.size ≤ gb238)); have n3_ := Aside0.mk ((by rw [hg]; exact (below_size (by repeat (first | (with_reducible first | exact HB.out | apply below_alloc | apply pw_below_drewN | apply below_drew1) | exact HB.out))) : w.heap.size ≤ gb238)); clear HB; have HB := n0_; have BK238 := n1_; have GW238 := n2_; have GE238 := n3_; clear n0_ n1_ n2_ n3_; clear hb hbox hg; have hcz4_0 : w3.cell? ⟨gb238, 0, none⟩ = some (.slice A0_0 l0_0.length c0_0) := (blk_cell BK238.out 0).trans rfl; have hcz4_1 : w3.cell? ⟨gb238, 1, none⟩ = some (.slice A0_1 l0_1.length c0_1) := (blk_cell BK238.out 1).trans rfl; have hfz4_0 := blk_frozen BK238.out 0; have hfz4_1 := blk_frozen BK238.out 1) | ((with_reducible refine gate_dst (N := 3) rfl ?_); (try (refine gate_guard (by rfl) ?_; dsimp only)); refine box_event ?hg (N := 3) ?hd (cs := #[.int .i64 0]) (t := 3) ?hr ?_; (case hd => rfl); (case hg => rfl); (case hr => first | (go_simp; done) | (go_simp; rfl)); intro gb239 hg w5 hbox hb; have n0_ := Aside0.mk (blk_below (g := gb238) (o := .cells #[.slice A0_0 l0_0.length c0_0, .slice A0_1 l0_1.length c0_1] 28 (0, 0)) (by (with_reducible repeat (first | refine blk_drewN ?_ _ | refine blk_drew ?_ | refine blk_alloc ?_ _)); exact BK238.out) hb); have n1_ := Aside0.mk (below_step (by repeat (first | (with_reducible first | exact HB.out | apply below_alloc | apply pw_below_drewN | apply below_drew1 | refine below_set ?_ GE238.out) | exact HB.out)) hb); have n2_ := Aside0.mk (hbox); have n3_ := Aside0.mk ((by rw [hg]; exact (below_size (by repeat (first | (with_reducible first | exact HB.out | apply below_alloc | apply pw_below_drewN | apply below_drew1 | refine below_set ?_ GE238.out) | exact HB.out))) : w.heap.size ≤ gb239)); have n4_ := Aside0.mk ((by rw [hg]; exact (below_size (by repeat (first | (with_reducible first | exact HB.out | apply below_alloc | apply pw_below_drewN | apply below_drew1 | refine below_set ?_ GE238.out) | exact HB.out))) : w.heap.size ≤ gb239)); have n5_ := Aside0.mk ((by rw [hg]; exact Nat.ne_of_lt (blk_lt (g := gb238) (o := .cells #[.slice A0_0 l0_0.length c0_0, .slice A0_1 l0_1.length c0_1] 28 (0, 0)) (by (with_reducible repeat (first | refine blk_drewN ?_ _ | refine blk_drew ?_ | refine blk_alloc ?_ _)); exact BK238.out)) : gb238 ≠ gb239)); have n6_ := Aside0.mk ((by rw [hg]; exact Nat.ne_of_gt (blk_lt (g := gb238) (o := .cells #[.slice A0_0 l0_0.length c0_0, .slice A0_1 l0_1.length c0_1] 28 (0, 0)) (by (with_reducible repeat (first | refine blk_drewN ?_ _ | refine blk_drew ?_ | refine blk_alloc ?_ _)); exact BK238.out)) : gb239 ≠ gb238)); clear BK238; clear HB; have BK238 := n0_; have HB := n1_; have BK239 := n2_; have GW239 := n3_; have GE239 := n4_; have NB238_239 := n5_; have NB239_238 := n6_; clear n0_ n1_ n2_ n3_ n4_ n5_ n6_; clear hb hbox hg; have hnb6 := NB239_238.out; have hnc6 := NB238_239.out; have hcz7_0 : w5.cell? ⟨gb239, 0, none⟩ = some (.int .i64 0) := (blk_cell BK239.out 0).trans rfl; have hfz7_0 := blk_frozen BK239.out 0)))
 (try simp only [Act.put, List.setIfInBounds_toArray, List.set_cons_zero, List.set_cons_succ])
 go_cut [22] (fun v22 wc => ∃ (kq : Nat) (x22_1 : Bool), v22 = .bool x22_1 ∧ Aside0 (impl_ValidAlgebra.j0 kq x22_1 l0_0 l0_1 (l0_0.length : Int) = some r) ∧ Aside0 (kq ≤ k) ∧ Aside0 (wc.heap[gb238]? = some (.cells #[(.slice A0_0 l0_0.length c0_0), (.slice A0_1 l0_1.length c0_1)] 28 (0, 0))) ∧ Aside0 (wc.heap[gb239]? = some (.cells #[.int .i64 (l0_0.length : Int)] 3 (0, 0))) ∧ Aside0 (Below w.heap.size w wc))
 case first =>
  have H := HC2.out
  clear HC2
  replace H := Option.bind_eq_some_iff.mp H
  obtain ⟨t240, A80, H⟩ := H
  replace H : (if t240 = true then (impl_ValidAlgebra.j0 k ((l0_1.length : Int) != (l0_0.length : Int)) l0_0 l0_1 (l0_0.length : Int)) else (impl_ValidAlgebra.j0 k true l0_0 l0_1 (l0_0.length : Int))) = some r := H
  have A8 := Aside0.mk A80
  clear A80
  by_cases c9 : t240 = true
  ·subst c9
   have H1 : (impl_ValidAlgebra.j0 k ((l0_1.length : Int) != (l0_0.length : Int)) l0_0 l0_1 (l0_0.length : Int)) = some r := by rw [if_pos rfl] at H; exact H
   clear H
   have H := H1
   clear H1
   have H' := Aside0.mk H
   clear H
   have hnb10 := NB238_239.out
   have hnc10 := NB239_238.out
   have hcz11_0 : w5.cell? ⟨gb238, 0, none⟩ = some (.slice A0_0 l0_0.length c0_0) := (blk_cell BK238.out 0).trans rfl
   have hcz11_1 : w5.cell? ⟨gb238, 1, none⟩ = some (.slice A0_1 l0_1.length c0_1) := (blk_cell BK238.out 1).trans rfl
   have hfz11_0 := blk_frozen BK238.out 0
   have hfz11_1 := blk_frozen BK238.out 1
   have hcz12_0 : w5.cell? ⟨gb239, 0, none⟩ = some (.int .i64 0) := (blk_cell BK239.out 0).trans rfl
   have hfz12_0 := blk_frozen BK239.out 0
   as_aux_lemma =>
    go_wp2_with (first | (go_at_call 62; (with_reducible refine (impl_ValidLattice.calls k _ _ l0_0 true _ ?side1 ?side2 A8.out).mono ?_); (case side1 => exact Kd.C_below HR0_0.out (by repeat (first | (with_reducible first | exact HB.out | apply below_alloc | apply pw_below_drewN | apply below_drew1 | refine below_set ?_ GE238.out | refine below_set ?_ GE239.out) | exact HB.out))); (case side2 => exact HC0_0.out); rintro e w' ⟨rfl, ⟨nd, rfl⟩⟩; (try first | exact ⟨rfl, _, World.drewN_drewN _ _ _⟩ | exact ⟨rfl, _, Eq.trans (World.drewN_drewN _ _ _) (congrArg (World.drewN _) (Nat.add_assoc _ _ _))⟩)))
    repeat ((refine wp_region_quiet_lit ?_ ?_ ?_; kernel_rfl; kernel_rfl; (repeat (first | go_big_quiet_step (first | (go_at_call 62; (with_reducible refine (impl_ValidLattice.calls k _ _ l0_0 true _ ?side1 ?side2 A8.out).mono ?_); (case side1 => exact Kd.C_below HR0_0.out (by repeat (first | (with_reducible first | exact HB.out | apply below_alloc | apply pw_below_drewN | apply below_drew1 | refine below_set ?_ GE238.out | refine below_set ?_ GE239.out) | exact HB.out))); (case side2 => exact HC0_0.out); rintro e w' ⟨rfl, ⟨nd, rfl⟩⟩; (try first | exact ⟨rfl, _, World.drewN_drewN _ _ _⟩ | exact ⟨rfl, _, Eq.trans (World.drewN_drewN _ _ _) (congrArg (World.drewN _) (Nat.add_assoc _ _ _))⟩))) | (refine wpQuiet_step (fun K hK => ?_); go_simp; refine hK _ ?_; clear hK K))); refine wpQuiet_nil ?_; intro _ hw'; obtain ⟨nq, hw''⟩ := hw'; subst hw''); try go_wp2_with (first | (go_at_call 62; (with_reducible refine (impl_ValidLattice.calls k _ _ l0_0 true _ ?side1 ?side2 A8.out).mono ?_); (case side1 => exact Kd.C_below HR0_0.out (by repeat (first | (with_reducible first | exact HB.out | apply below_alloc | apply pw_below_drewN | apply below_drew1 | refine below_set ?_ GE238.out | refine below_set ?_ GE239.out) | exact HB.out))); (case side2 => exact HC0_0.out); rintro e w' ⟨rfl, ⟨nd, rfl⟩⟩; (try first | exact ⟨rfl, _, World.drewN_drewN _ _ _⟩ | exact ⟨rfl, _, Eq.trans (World.drewN_drewN _ _ _) (congrArg (World.drewN _) (Nat.add_assoc _ _ _))⟩))))
    go_meet
    case rel => exact ⟨_, (((l0_1.length : Int) != (l0_0.length : Int))), (by first | rfl | (simp; done) | (simp [*]; done)), H', ⟨by first | omega | exact Nat.le_refl _⟩, ⟨by (with_reducible repeat (first | refine blk_drewN ?_ _ | refine blk_drew ?_ | refine blk_alloc ?_ _)); refine blk_far ?_ NB238_239.out _; (with_reducible repeat (first | refine blk_drewN ?_ _ | refine blk_drew ?_ | refine blk_alloc ?_ _)); exact BK238.out⟩, ⟨by (with_reducible repeat (first | refine blk_drewN ?_ _ | refine blk_drew ?_ | refine blk_alloc ?_ _)); refine blk_put (cs := #[.int .i64 0]) ?_ 0 _ rfl; (with_reducible repeat (first | refine blk_drewN ?_ _ | refine blk_drew ?_ | refine blk_alloc ?_ _)); exact BK239.out⟩, ⟨by repeat (first | (with_reducible first | exact HB.out | apply below_alloc | apply pw_below_drewN | apply below_drew1 | refine below_set ?_ GE238.out | refine below_set ?_ GE239.out) | exact HB.out)⟩⟩
  ·replace c9 := Bool.eq_false_iff.mpr c9
   subst c9
   have H1 : (impl_ValidAlgebra.j0 k true l0_0 l0_1 (l0_0.length : Int)) = some r := by rw [if_neg (show ¬ (false = true) by decide)] at H; exact H
   clear H
   have H := H1
   clear H1
   have H' := Aside0.mk H
   clear H
   have hnb13 := NB238_239.out
   have hnc13 := NB239_238.out
   have hcz14_0 : w5.cell? ⟨gb238, 0, none⟩ = some (.slice A0_0 l0_0.length c0_0) := (blk_cell BK238.out 0).trans rfl
   have hcz14_1 : w5.cell? ⟨gb238, 1, none⟩ = some (.slice A0_1 l0_1.length c0_1) := (blk_cell BK238.out 1).trans rfl
   have hfz14_0 := blk_frozen BK238.out 0
   have hfz14_1 := blk_frozen BK238.out 1
   as_aux_lemma =>
    go_wp2_with (first | (go_at_call 62; (with_reducible refine (impl_ValidLattice.calls k _ _ l0_0 false _ ?side1 ?side2 A8.out).mono ?_); (case side1 => exact Kd.C_below HR0_0.out (by repeat (first | (with_reducible first | exact HB.out | apply below_alloc | apply pw_below_drewN | apply below_drew1 | refine below_set ?_ GE238.out | refine below_set ?_ GE239.out) | exact HB.out))); (case side2 => exact HC0_0.out); rintro e w' ⟨rfl, ⟨nd, rfl⟩⟩; (try first | exact ⟨rfl, _, World.drewN_drewN _ _ _⟩ | exact ⟨rfl, _, Eq.trans (World.drewN_drewN _ _ _) (congrArg (World.drewN _) (Nat.add_assoc _ _ _))⟩)))
    repeat ((refine wp_region_quiet_lit ?_ ?_ ?_; kernel_rfl; kernel_rfl; (repeat (first | go_big_quiet_step (first | (go_at_call 62; (with_reducible refine (impl_ValidLattice.calls k _ _ l0_0 false _ ?side1 ?side2 A8.out).mono ?_); (case side1 => exact Kd.C_below HR0_0.out (by repeat (first | (with_reducible first | exact HB.out | apply below_alloc | apply pw_below_drewN | apply below_drew1 | refine below_set ?_ GE238.out | refine below_set ?_ GE239.out) | exact HB.out))); (case side2 => exact HC0_0.out); rintro e w' ⟨rfl, ⟨nd, rfl⟩⟩; (try first | exact ⟨rfl, _, World.drewN_drewN _ _ _⟩ | exact ⟨rfl, _, Eq.trans (World.drewN_drewN _ _ _) (congrArg (World.drewN _) (Nat.add_assoc _ _ _))⟩))) | (refine wpQuiet_step (fun K hK => ?_); go_simp; refine hK _ ?_; clear hK K))); refine wpQuiet_nil ?_; intro _ hw'; obtain ⟨nq, hw''⟩ := hw'; subst hw''); try go_wp2_with (first | (go_at_call 62; (with_reducible refine (impl_ValidLattice.calls k _ _ l0_0 false _ ?side1 ?side2 A8.out).mono ?_); (case side1 => exact Kd.C_below HR0_0.out (by repeat (first | (with_reducible first | exact HB.out | apply below_alloc | apply pw_below_drewN | apply below_drew1 | refine below_set ?_ GE238.out | refine below_set ?_ GE239.out) | exact HB.out))); (case side2 => exact HC0_0.out); rintro e w' ⟨rfl, ⟨nd, rfl⟩⟩; (try first | exact ⟨rfl, _, World.drewN_drewN _ _ _⟩ | exact ⟨rfl, _, Eq.trans (World.drewN_drewN _ _ _) (congrArg (World.drewN _) (Nat.add_assoc _ _ _))⟩))))
    go_meet
    case rel => exact ⟨_, (true), (by first | rfl | (simp; done) | (simp [*]; done)), H', ⟨by first | omega | exact Nat.le_refl _⟩, ⟨by (with_reducible repeat (first | refine blk_drewN ?_ _ | refine blk_drew ?_ | refine blk_alloc ?_ _)); refine blk_far ?_ NB238_239.out _; (with_reducible repeat (first | refine blk_drewN ?_ _ | refine blk_drew ?_ | refine blk_alloc ?_ _)); exact BK238.out⟩, ⟨by (with_reducible repeat (first | refine blk_drewN ?_ _ | refine blk_drew ?_ | refine blk_alloc ?_ _)); refine blk_put (cs := #[.int .i64 0]) ?_ 0 _ rfl; (with_reducible repeat (first | refine blk_drewN ?_ _ | refine blk_drew ?_ | refine blk_alloc ?_ _)); exact BK239.out⟩, ⟨by repeat (first | (with_reducible first | exact HB.out | apply below_alloc | apply pw_below_drewN | apply below_drew1 | refine below_set ?_ GE238.out | refine below_set ?_ GE239.out) | exact HB.out)⟩⟩
 case rest =>
  clear HC2
  try clear c1
  try clear p2
  try clear c4
  try clear c6
  try clear c9
  try clear c10
  try clear c13
  try clear hcz11_0
  try clear hcz11_1
  try clear hcz12_0
  try clear hcz14_0
  try clear hcz14_1
  try clear hcz4_0
  try clear hcz4_1
  try clear hcz7_0
  try clear hfz11_0
  try clear hfz11_1
  try clear hfz12_0
  try clear hfz14_0
  try clear hfz14_1
  try clear hfz4_0
  try clear hfz4_1
  try clear hfz7_0
  obtain ⟨kq, x22_1, rfl, HA, HJ1, BK238, BK239, HB⟩ := hcut
  cases kq with
  | zero => exact absurd HA.out (by simp [impl_ValidAlgebra.j0])
  | succ kj1 =>
   have H := HA.out
   clear HA
   simp only [impl_ValidAlgebra.j0] at H
   by_cases c15 : x22_1 = true
   ·subst c15
    have H1 : (some false) = some r := by rw [if_pos rfl] at H; exact H
    clear H
    have H := H1
    clear H1
    obtain rfl := Option.some.inj H
    as_aux_lemma =>
     go_wp2
     repeat ((refine wp_region_quiet_lit ?_ ?_ ?_; kernel_rfl; kernel_rfl; (repeat (first | go_big_quiet_step (fail) | (refine wpQuiet_step (fun K hK => ?_); go_simp; refine hK _ ?_; clear hK K))); refine wpQuiet_nil ?_; intro _ hw'; obtain ⟨nq, hw''⟩ := hw'; subst hw''); try go_wp2)
     go_ret
     exact ⟨by first | rfl | (simp [errW_none, errW_some] <;> rfl) | (simp [*, errW_none, errW_some] <;> rfl), by repeat (first | (with_reducible first | exact HB.out | apply below_alloc | apply pw_below_drewN | apply below_drew1 | refine below_set ?_ GE238.out | refine below_set ?_ GE239.out) | exact HB.out)⟩
   ·replace c15 := Bool.eq_false_iff.mpr c15
    subst c15
    have H1 : (impl_ValidAlgebra.l0 kj1 l0_1 (l0_1.length : Int) 0 l0_0 l0_1 (l0_0.length : Int)) = some r := by rw [if_neg (show ¬ (false = true) by decide)] at H; exact H
    clear H
    have H := H1
    clear H1
    have H' := Aside0.mk H
    clear H
    have hnb16 := NB238_239.out
    have hnc16 := NB239_238.out
    have hcz17_0 : wc.cell? ⟨gb238, 0, none⟩ = some (.slice A0_0 l0_0.length c0_0) := (blk_cell BK238.out 0).trans rfl
    have hcz17_1 : wc.cell? ⟨gb238, 1, none⟩ = some (.slice A0_1 l0_1.length c0_1) := (blk_cell BK238.out 1).trans rfl
    have hfz17_0 := blk_frozen BK238.out 0
    have hfz17_1 := blk_frozen BK238.out 1
    as_aux_lemma =>
     go_wp2
     repeat ((refine wp_region_quiet_lit ?_ ?_ ?_; kernel_rfl; kernel_rfl; (repeat (first | go_big_quiet_step (fail) | (refine wpQuiet_step (fun K hK => ?_); go_simp; refine hK _ ?_; clear hK K))); refine wpQuiet_nil ?_; intro _ hw'; obtain ⟨nq, hw''⟩ := hw'; subst hw''); try go_wp2)
     go_loopg [26] kj1 (fun kq v26 w' => ∃ (x26_2 : Int), v26 = .int .i64 x26_2 ∧ Aside0 (impl_ValidAlgebra.l0 kq l0_1 (l0_1.length : Int) x26_2 l0_0 l0_1 (l0_0.length : Int) = some r) ∧ Aside0 (kq ≤ kj1) ∧ Aside0 (w'.heap[gb238]? = some (.cells #[(.slice A0_0 l0_0.length c0_0), (.slice A0_1 l0_1.length c0_1)] 28 (0, 0))) ∧ Aside0 (w'.heap[gb239]? = some (.cells #[.int .i64 (l0_0.length : Int)] 3 (0, 0))) ∧ Aside0 (Below w.heap.size w w'))
     case atStart => exact ⟨(0), (by first | rfl | (simp; done) | (simp [*]; done)), H', ⟨Nat.le_refl _⟩, ⟨by (with_reducible repeat (first | refine blk_drewN ?_ _ | refine blk_drew ?_ | refine blk_alloc ?_ _)); exact BK238.out⟩, ⟨by (with_reducible repeat (first | refine blk_drewN ?_ _ | refine blk_drew ?_ | refine blk_alloc ?_ _)); exact BK239.out⟩, ⟨by repeat (first | (with_reducible first | exact HB.out | apply below_alloc | apply pw_below_drewN | apply below_drew1 | refine below_set ?_ GE238.out | refine below_set ?_ GE239.out) | exact HB.out)⟩⟩
     case round =>
      clear H'
      try clear c1
      try clear p2
      try clear c4
      try clear c6
      try clear c9
      try clear c10
      try clear c13
      try clear c15
      try clear c16
      try clear hcz11_0
      try clear hcz11_1
      try clear hcz12_0
      try clear hcz14_0
      try clear hcz14_1
      try clear hcz17_0
      try clear hcz17_1
      try clear hcz4_0
      try clear hcz4_1
      try clear hcz7_0
      try clear hfz11_0
      try clear hfz11_1
      try clear hfz12_0
      try clear hfz14_0
      try clear hfz14_1
      try clear hfz17_0
      try clear hfz17_1
      try clear hfz4_0
      try clear hfz4_1
      try clear hfz7_0
      try clear p2
      obtain ⟨x26_2, rfl, HA, HK2, BK238, BK239, HB⟩ := hrel
      cases gk with
      | zero => exact absurd HA.out (by simp [impl_ValidAlgebra.l0])
      | succ k2 =>
       have H := HA.out
       clear HA
       simp only [impl_ValidAlgebra.l0] at H
       by_cases c18 : x26_2 < (l0_1.length : Int)
       ·rw [if_pos c18] at H
        have c18b0 : decide (x26_2 < (l0_1.length : Int)) = true := decide_eq_true c18
        clear c18
        by_cases c19 : 0 ≤ x26_2
        ·rw [if_pos c19] at H
         have c19b0 : decide (0 ≤ x26_2) = true := decide_eq_true c19
         clear c19
         by_cases c20 : x26_2 < (l0_1.length : Int)
         ·rw [if_pos c20] at H
          have c20b0 : decide (x26_2 < (l0_1.length : Int)) = true := decide_eq_true c20
          clear c20
          by_cases c21 : ((rd_L1 l0_1 x26_2).length : Int) = (l0_0.length : Int)
          ·rw [if_pos c21] at H
           have c21b0 : (((rd_L1 l0_1 x26_2).length : Int) == (l0_0.length : Int)) = true := beq_iff_eq.mpr c21
           have c21b1 : (((rd_L1 l0_1 x26_2).length : Int) != (l0_0.length : Int)) = false := bne_eq_false_iff_eq.mpr c21
           have c21b2 : ((rd_L1 l0_1 x26_2).length == l0_0.length) = true := by first | simpa using c21 | (simp at c21 ⊢; omega)
           clear c21
           replace H := Option.bind_eq_some_iff.mp H
           obtain ⟨t242, A220, H⟩ := H
           replace H : (if t242 = true then (some false) else (impl_ValidAlgebra.l0 k2 l0_1 (l0_1.length : Int) (wrap64 (x26_2 + 1)) l0_0 l0_1 (l0_0.length : Int))) = some r := H
           have A22 := Aside0.mk A220
           clear A220
           by_cases c23 : t242 = true
           ·subst c23
            have H1 : (some false) = some r := by rw [if_pos rfl] at H; exact H
            clear H
            have H := H1
            clear H1
            obtain rfl := Option.some.inj H
            have p241 : 0 ≤ (x26_2 : Int) := of_decide_eq_true (by first | (with_reducible assumption) | assumption)
            have q241 : x26_2 < (l0_1.length : Int) := of_decide_eq_true (by first | (with_reducible assumption) | assumption)
            obtain ⟨ad241, A241_0, c241_0, e241, hx241_0, hl241_0, hi241_0⟩ := at_L1 HR0_1.out x26_2 p241 q241
            cases e241
            replace hx241_0 := (HB.out.cell (World.block_lt_of_cell? w _ hx241_0)).trans hx241_0
            have HR241_0 := Aside0.mk hi241_0
            have HC241_0 := Aside0.mk hl241_0
            clear hi241_0 hl241_0
            replace p241 := eq_true p241
            replace q241 := eq_true q241
            have hnb24 := NB239_238.out
            have hnc24 := NB238_239.out
            have hcz25_0 : wr.cell? ⟨gb239, 0, none⟩ = some (.int .i64 (l0_0.length : Int)) := (blk_cell BK239.out 0).trans rfl
            have hfz25_0 := blk_frozen BK239.out 0
            as_aux_lemma =>
             go_wp2_with (first | (go_at_call 56; (with_reducible refine (cf_ValidAlgebra_1.calls _ _ (rd_L1 l0_1 x26_2) gb239 (l0_0.length : Int) true _ ?side1 ?side2 ?side3 A22.out).mono ?_); (case side1 => repeat (first | exact (Kd.C_below HR241_0.out HB.out) | (with_reducible refine Kd.C_alloc ?_ _) | (with_reducible refine Kd.C_drewN ?_ _) | (with_reducible refine Kd.C_drew ?_))); (case side2 => exact HC241_0.out); (case side3 => exact (show _ from by (with_reducible repeat (first | refine blk_drewN ?_ _ | refine blk_drew ?_ | refine blk_alloc ?_ _)); exact BK239.out)); rintro e w' ⟨rfl, ⟨nd, rfl⟩⟩; (try first | exact ⟨rfl, _, World.drewN_drewN _ _ _⟩ | exact ⟨rfl, _, Eq.trans (World.drewN_drewN _ _ _) (congrArg (World.drewN _) (Nat.add_assoc _ _ _))⟩)))
             repeat ((refine wp_region_quiet_lit ?_ ?_ ?_; kernel_rfl; kernel_rfl; (repeat (first | go_big_quiet_step (first | (go_at_call 56; (with_reducible refine (cf_ValidAlgebra_1.calls _ _ (rd_L1 l0_1 x26_2) gb239 (l0_0.length : Int) true _ ?side1 ?side2 ?side3 A22.out).mono ?_); (case side1 => repeat (first | exact (Kd.C_below HR241_0.out HB.out) | (with_reducible refine Kd.C_alloc ?_ _) | (with_reducible refine Kd.C_drewN ?_ _) | (with_reducible refine Kd.C_drew ?_))); (case side2 => exact HC241_0.out); (case side3 => exact (show _ from by (with_reducible repeat (first | refine blk_drewN ?_ _ | refine blk_drew ?_ | refine blk_alloc ?_ _)); exact BK239.out)); rintro e w' ⟨rfl, ⟨nd, rfl⟩⟩; (try first | exact ⟨rfl, _, World.drewN_drewN _ _ _⟩ | exact ⟨rfl, _, Eq.trans (World.drewN_drewN _ _ _) (congrArg (World.drewN _) (Nat.add_assoc _ _ _))⟩))) | (refine wpQuiet_step (fun K hK => ?_); go_simp; refine hK _ ?_; clear hK K))); refine wpQuiet_nil ?_; intro _ hw'; obtain ⟨nq, hw''⟩ := hw'; subst hw''); try go_wp2_with (first | (go_at_call 56; (with_reducible refine (cf_ValidAlgebra_1.calls _ _ (rd_L1 l0_1 x26_2) gb239 (l0_0.length : Int) true _ ?side1 ?side2 ?side3 A22.out).mono ?_); (case side1 => repeat (first | exact (Kd.C_below HR241_0.out HB.out) | (with_reducible refine Kd.C_alloc ?_ _) | (with_reducible refine Kd.C_drewN ?_ _) | (with_reducible refine Kd.C_drew ?_))); (case side2 => exact HC241_0.out); (case side3 => exact (show _ from by (with_reducible repeat (first | refine blk_drewN ?_ _ | refine blk_drew ?_ | refine blk_alloc ?_ _)); exact BK239.out)); rintro e w' ⟨rfl, ⟨nd, rfl⟩⟩; (try first | exact ⟨rfl, _, World.drewN_drewN _ _ _⟩ | exact ⟨rfl, _, Eq.trans (World.drewN_drewN _ _ _) (congrArg (World.drewN _) (Nat.add_assoc _ _ _))⟩))))
             go_ret
             exact ⟨by first | rfl | (simp [errW_none, errW_some] <;> rfl) | (simp [*, errW_none, errW_some] <;> rfl), by repeat (first | (with_reducible first | exact HB.out | apply below_alloc | apply pw_below_drewN | apply below_drew1 | refine below_set ?_ GE238.out | refine below_set ?_ GE239.out) | exact HB.out)⟩
           ·replace c23 := Bool.eq_false_iff.mpr c23
            subst c23
            have H1 : (impl_ValidAlgebra.l0 k2 l0_1 (l0_1.length : Int) (wrap64 (x26_2 + 1)) l0_0 l0_1 (l0_0.length : Int)) = some r := by rw [if_neg (show ¬ (false = true) by decide)] at H; exact H
            clear H
            have H := H1
            clear H1
            have H' := Aside0.mk H
            clear H
            have p241 : 0 ≤ (x26_2 : Int) := of_decide_eq_true (by first | (with_reducible assumption) | assumption)
            have q241 : x26_2 < (l0_1.length : Int) := of_decide_eq_true (by first | (with_reducible assumption) | assumption)
            obtain ⟨ad241, A241_0, c241_0, e241, hx241_0, hl241_0, hi241_0⟩ := at_L1 HR0_1.out x26_2 p241 q241
            cases e241
            replace hx241_0 := (HB.out.cell (World.block_lt_of_cell? w _ hx241_0)).trans hx241_0
            have HR241_0 := Aside0.mk hi241_0
            have HC241_0 := Aside0.mk hl241_0
            clear hi241_0 hl241_0
            replace p241 := eq_true p241
            replace q241 := eq_true q241
            have hnb26 := NB239_238.out
            have hnc26 := NB238_239.out
            have hcz27_0 : wr.cell? ⟨gb239, 0, none⟩ = some (.int .i64 (l0_0.length : Int)) := (blk_cell BK239.out 0).trans rfl
            have hfz27_0 := blk_frozen BK239.out 0
            as_aux_lemma =>
             go_wp2_with (first | (go_at_call 56; (with_reducible refine (cf_ValidAlgebra_1.calls _ _ (rd_L1 l0_1 x26_2) gb239 (l0_0.length : Int) false _ ?side1 ?side2 ?side3 A22.out).mono ?_); (case side1 => repeat (first | exact (Kd.C_below HR241_0.out HB.out) | (with_reducible refine Kd.C_alloc ?_ _) | (with_reducible refine Kd.C_drewN ?_ _) | (with_reducible refine Kd.C_drew ?_))); (case side2 => exact HC241_0.out); (case side3 => exact (show _ from by (with_reducible repeat (first | refine blk_drewN ?_ _ | refine blk_drew ?_ | refine blk_alloc ?_ _)); exact BK239.out)); rintro e w' ⟨rfl, ⟨nd, rfl⟩⟩; (try first | exact ⟨rfl, _, World.drewN_drewN _ _ _⟩ | exact ⟨rfl, _, Eq.trans (World.drewN_drewN _ _ _) (congrArg (World.drewN _) (Nat.add_assoc _ _ _))⟩)))
             repeat ((refine wp_region_quiet_lit ?_ ?_ ?_; kernel_rfl; kernel_rfl; (repeat (first | go_big_quiet_step (first | (go_at_call 56; (with_reducible refine (cf_ValidAlgebra_1.calls _ _ (rd_L1 l0_1 x26_2) gb239 (l0_0.length : Int) false _ ?side1 ?side2 ?side3 A22.out).mono ?_); (case side1 => repeat (first | exact (Kd.C_below HR241_0.out HB.out) | (with_reducible refine Kd.C_alloc ?_ _) | (with_reducible refine Kd.C_drewN ?_ _) | (with_reducible refine Kd.C_drew ?_))); (case side2 => exact HC241_0.out); (case side3 => exact (show _ from by (with_reducible repeat (first | refine blk_drewN ?_ _ | refine blk_drew ?_ | refine blk_alloc ?_ _)); exact BK239.out)); rintro e w' ⟨rfl, ⟨nd, rfl⟩⟩; (try first | exact ⟨rfl, _, World.drewN_drewN _ _ _⟩ | exact ⟨rfl, _, Eq.trans (World.drewN_drewN _ _ _) (congrArg (World.drewN _) (Nat.add_assoc _ _ _))⟩))) | (refine wpQuiet_step (fun K hK => ?_); go_simp; refine hK _ ?_; clear hK K))); refine wpQuiet_nil ?_; intro _ hw'; obtain ⟨nq, hw''⟩ := hw'; subst hw''); try go_wp2_with (first | (go_at_call 56; (with_reducible refine (cf_ValidAlgebra_1.calls _ _ (rd_L1 l0_1 x26_2) gb239 (l0_0.length : Int) false _ ?side1 ?side2 ?side3 A22.out).mono ?_); (case side1 => repeat (first | exact (Kd.C_below HR241_0.out HB.out) | (with_reducible refine Kd.C_alloc ?_ _) | (with_reducible refine Kd.C_drewN ?_ _) | (with_reducible refine Kd.C_drew ?_))); (case side2 => exact HC241_0.out); (case side3 => exact (show _ from by (with_reducible repeat (first | refine blk_drewN ?_ _ | refine blk_drew ?_ | refine blk_alloc ?_ _)); exact BK239.out)); rintro e w' ⟨rfl, ⟨nd, rfl⟩⟩; (try first | exact ⟨rfl, _, World.drewN_drewN _ _ _⟩ | exact ⟨rfl, _, Eq.trans (World.drewN_drewN _ _ _) (congrArg (World.drewN _) (Nat.add_assoc _ _ _))⟩))))
             go_roundg k2
             case measure => have := HJ1.out; have := HK2.out; omega
             case rel => exact ⟨(wrap64 (x26_2 + 1)), (by first | rfl | (simp; done) | (simp [*]; done)), H', ⟨by have := HJ1.out; have := HK2.out; omega⟩, ⟨by (with_reducible repeat (first | refine blk_drewN ?_ _ | refine blk_drew ?_ | refine blk_alloc ?_ _)); exact BK238.out⟩, ⟨by (with_reducible repeat (first | refine blk_drewN ?_ _ | refine blk_drew ?_ | refine blk_alloc ?_ _)); exact BK239.out⟩, ⟨by repeat (first | (with_reducible first | exact HB.out | apply below_alloc | apply pw_below_drewN | apply below_drew1 | refine below_set ?_ GE238.out | refine below_set ?_ GE239.out) | exact HB.out)⟩⟩
          ·rw [if_neg c21] at H
           have c21b0 : (((rd_L1 l0_1 x26_2).length : Int) == (l0_0.length : Int)) = false := beq_eq_false_iff_ne.mpr c21
           have c21b1 : (((rd_L1 l0_1 x26_2).length : Int) != (l0_0.length : Int)) = true := bne_iff_ne.mpr c21
           have c21b2 : ((rd_L1 l0_1 x26_2).length == l0_0.length) = false := by first | simpa using c21 | (simp at c21 ⊢; omega)
           obtain rfl := Option.some.inj H
           have p241 : 0 ≤ (x26_2 : Int) := of_decide_eq_true (by first | (with_reducible assumption) | assumption)
           have q241 : x26_2 < (l0_1.length : Int) := of_decide_eq_true (by first | (with_reducible assumption) | assumption)
           obtain ⟨ad241, A241_0, c241_0, e241, hx241_0, hl241_0, hi241_0⟩ := at_L1 HR0_1.out x26_2 p241 q241
           cases e241
           replace hx241_0 := (HB.out.cell (World.block_lt_of_cell? w _ hx241_0)).trans hx241_0
           have HR241_0 := Aside0.mk hi241_0
           have HC241_0 := Aside0.mk hl241_0
           clear hi241_0 hl241_0
           replace p241 := eq_true p241
           replace q241 := eq_true q241
           have hnb28 := NB239_238.out
           have hnc28 := NB238_239.out
           have hcz29_0 : wr.cell? ⟨gb239, 0, none⟩ = some (.int .i64 (l0_0.length : Int)) := (blk_cell BK239.out 0).trans rfl
           have hfz29_0 := blk_frozen BK239.out 0
           as_aux_lemma =>
            go_wp2
            repeat ((refine wp_region_quiet_lit ?_ ?_ ?_; kernel_rfl; kernel_rfl; (repeat (first | go_big_quiet_step (fail) | (refine wpQuiet_step (fun K hK => ?_); go_simp; refine hK _ ?_; clear hK K))); refine wpQuiet_nil ?_; intro _ hw'; obtain ⟨nq, hw''⟩ := hw'; subst hw''); try go_wp2)
            go_ret
            exact ⟨by first | rfl | (simp [errW_none, errW_some] <;> rfl) | (simp [*, errW_none, errW_some] <;> rfl), by repeat (first | (with_reducible first | exact HB.out | apply below_alloc | apply pw_below_drewN | apply below_drew1 | refine below_set ?_ GE238.out | refine below_set ?_ GE239.out) | exact HB.out)⟩
         ·rw [if_neg c20] at H
          exact absurd H (by simp)
        ·rw [if_neg c19] at H
         exact absurd H (by simp)
       ·rw [if_neg c18] at H
        have c18b0 : decide (x26_2 < (l0_1.length : Int)) = false := decide_eq_false c18
        clear c18
        have H' := Aside0.mk H
        clear H
        have hnb30 := NB238_239.out
        have hnc30 := NB239_238.out
        have hcz31_0 : wr.cell? ⟨gb238, 0, none⟩ = some (.slice A0_0 l0_0.length c0_0) := (blk_cell BK238.out 0).trans rfl
        have hcz31_1 : wr.cell? ⟨gb238, 1, none⟩ = some (.slice A0_1 l0_1.length c0_1) := (blk_cell BK238.out 1).trans rfl
        have hfz31_0 := blk_frozen BK238.out 0
        have hfz31_1 := blk_frozen BK238.out 1
        as_aux_lemma =>
         go_wp2
         repeat ((refine wp_region_quiet_lit ?_ ?_ ?_; kernel_rfl; kernel_rfl; (repeat (first | go_big_quiet_step (fail) | (refine wpQuiet_step (fun K hK => ?_); go_simp; refine hK _ ?_; clear hK K))); refine wpQuiet_nil ?_; intro _ hw'; obtain ⟨nq, hw''⟩ := hw'; subst hw''); try go_wp2)
         go_loopg [43] k2 (fun kq v43 w' => ∃ (x43_3 : Int), v43 = .int .i64 x43_3 ∧ Aside0 (impl_ValidAlgebra.l1 kq (l0_0.length : Int) x43_3 l0_0 l0_1 (l0_0.length : Int) = some r) ∧ Aside0 (kq ≤ k2) ∧ Aside0 (w'.heap[gb238]? = some (.cells #[(.slice A0_0 l0_0.length c0_0), (.slice A0_1 l0_1.length c0_1)] 28 (0, 0))) ∧ Aside0 (w'.heap[gb239]? = some (.cells #[.int .i64 (l0_0.length : Int)] 3 (0, 0))) ∧ Aside0 (Below w.heap.size w w'))
         case atStart => exact ⟨(0), (by first | rfl | (simp; done) | (simp [*]; done)), H', ⟨Nat.le_refl _⟩, ⟨by (with_reducible repeat (first | refine blk_drewN ?_ _ | refine blk_drew ?_ | refine blk_alloc ?_ _)); exact BK238.out⟩, ⟨by (with_reducible repeat (first | refine blk_drewN ?_ _ | refine blk_drew ?_ | refine blk_alloc ?_ _)); exact BK239.out⟩, ⟨by repeat (first | (with_reducible first | exact HB.out | apply below_alloc | apply pw_below_drewN | apply below_drew1 | refine below_set ?_ GE238.out | refine below_set ?_ GE239.out) | exact HB.out)⟩⟩
         case round =>
          clear H'
          try clear c1
          try clear c2
          try clear p2
          try clear q2
          try clear hx2
          try clear c3
          try clear c4
          try clear c6
          try clear p6
          try clear c9
          try clear c10
          try clear c13
          try clear c15
          try clear c16
          try clear c18
          try clear c18b0
          try clear c19
          try clear c19b0
          try clear c20
          try clear c20b0
          try clear c21
          try clear c21b0
          try clear c21b1
          try clear c21b2
          try clear c23
          try clear c24
          try clear p24
          try clear q24
          try clear hx24
          try clear c26
          try clear c28
          try clear c30
          try clear hcz11_0
          try clear hcz11_1
          try clear hcz12_0
          try clear hcz14_0
          try clear hcz14_1
          try clear hcz17_0
          try clear hcz17_1
          try clear hcz25_0
          try clear hcz27_0
          try clear hcz29_0
          try clear hcz31_0
          try clear hcz31_1
          try clear hcz4_0
          try clear hcz4_1
          try clear hcz7_0
          try clear hfz11_0
          try clear hfz11_1
          try clear hfz12_0
          try clear hfz14_0
          try clear hfz14_1
          try clear hfz17_0
          try clear hfz17_1
          try clear hfz25_0
          try clear hfz27_0
          try clear hfz29_0
          try clear hfz31_0
          try clear hfz31_1
          try clear hfz4_0
          try clear hfz4_1
          try clear hfz7_0
          try clear hx241_0
          try clear p2
          try clear p241
          try clear q241
          obtain ⟨x43_3, rfl, HA, HK3, BK238, BK239, HB⟩ := hrel
          cases gk with
          | zero => exact absurd HA.out (by simp [impl_ValidAlgebra.l1])
          | succ k3 =>
           have H := HA.out
           clear HA
           simp only [impl_ValidAlgebra.l1] at H
           by_cases c32 : x43_3 < (l0_0.length : Int)
           ·rw [if_pos c32] at H
            have c32b0 : decide (x43_3 < (l0_0.length : Int)) = true := decide_eq_true c32
            clear c32
            have HC33 := Aside0.mk H
            clear H
            go_upto_region 13 with (fail)
            repeat ((refine wp_region_quiet_lit ?_ ?_ ?_; kernel_rfl; kernel_rfl; (repeat (first | go_big_quiet_step (fail) | (refine wpQuiet_step (fun K hK => ?_); go_simp; refine hK _ ?_; clear hK K))); refine wpQuiet_nil ?_; intro _ hw'; obtain ⟨nq, hw''⟩ := hw'; subst hw''); go_upto_region 13 with (fail))
            go_cut [66] (fun v66 wc => ∃ (kq : Nat) (x66_32 : Bool), v66 = .bool x66_32 ∧ Aside0 (impl_ValidAlgebra.j3 kq x43_3 (l0_0.length : Int) x43_3 x66_32 l0_0 l0_1 (l0_0.length : Int) = some r) ∧ Aside0 (kq ≤ k3) ∧ Aside0 (wc.heap[gb238]? = some (.cells #[(.slice A0_0 l0_0.length c0_0), (.slice A0_1 l0_1.length c0_1)] 28 (0, 0))) ∧ Aside0 (wc.heap[gb239]? = some (.cells #[.int .i64 (l0_0.length : Int)] 3 (0, 0))) ∧ Aside0 (Below w.heap.size w wc))
            case first =>
             have H := HC33.out
             clear HC33
             by_cases c34 : 0 ≤ x43_3
             ·rw [if_pos c34] at H
              have c34b0 : decide (0 ≤ x43_3) = true := decide_eq_true c34
              clear c34
              (first | rw [c34b0] | (simp only [i64_w, i32_w]; rw [c34b0]) | skip)
              by_cases c35 : x43_3 < (l0_1.length : Int)
              ·rw [if_pos c35] at H
               have c35b0 : decide (x43_3 < (l0_1.length : Int)) = true := decide_eq_true c35
               clear c35
               obtain ⟨ji36, hji36⟩ : ∃ j_ : Int, (wrap64 ((l0_0.length : Int) - 1)) = j_ := ⟨_, rfl⟩
               replace H : (if 0 ≤ (ji36) then (if (ji36) < ((rd_L1 l0_1 x43_3).length : Int) then (if (rd (rd_L1 l0_1 x43_3) (ji36)) = x43_3 then (if 0 < ((rd_L1 l0_1 x43_3).length : Int) then (impl_ValidAlgebra.j3 k3 x43_3 (l0_0.length : Int) x43_3 ((rd (rd_L1 l0_1 x43_3) 0) != 0) l0_0 l0_1 (l0_0.length : Int)) else (none)) else (impl_ValidAlgebra.j3 k3 x43_3 (l0_0.length : Int) x43_3 true l0_0 l0_1 (l0_0.length : Int))) else (none)) else (none)) = some r := by first | (rw [hji36] at H; exact H) | (simp only [hji36] at H ⊢; exact H)
               have hji36w : (IntKind.i64.wrap ((l0_0.length : Int) - 1)) = ji36 := (i64_w _).trans hji36
               by_cases c37 : 0 ≤ (ji36)
               ·rw [if_pos c37] at H
                have c37b0 : decide (0 ≤ (ji36)) = true := decide_eq_true c37
                clear c37
                by_cases c38 : (ji36) < ((rd_L1 l0_1 x43_3).length : Int)
                ·rw [if_pos c38] at H
                 have c38b0 : decide ((ji36) < ((rd_L1 l0_1 x43_3).length : Int)) = true := decide_eq_true c38
                 clear c38
                 by_cases c39 : (rd (rd_L1 l0_1 x43_3) (ji36)) = x43_3
                 ·rw [if_pos c39] at H
                  have c39b0 : ((rd (rd_L1 l0_1 x43_3) (ji36)) == x43_3) = true := beq_iff_eq.mpr c39
                  have c39b1 : ((rd (rd_L1 l0_1 x43_3) (ji36)) != x43_3) = false := bne_eq_false_iff_eq.mpr c39
                  clear c39
                  by_cases c40 : 0 < ((rd_L1 l0_1 x43_3).length : Int)
                  ·rw [if_pos c40] at H
                   have c40b0 : decide (0 < ((rd_L1 l0_1 x43_3).length : Int)) = true := decide_eq_true c40
                   have c40b1 : decide (0 < (rd_L1 l0_1 x43_3).length) = true := decide_eq_true (by omega)
                   clear c40
                   have H' := Aside0.mk H
                   clear H
                   have hnb41 := NB238_239.out
                   have hnc41 := NB239_238.out
                   have hcz42_0 : wr.cell? ⟨gb238, 0, none⟩ = some (.slice A0_0 l0_0.length c0_0) := (blk_cell BK238.out 0).trans rfl
                   have hcz42_1 : wr.cell? ⟨gb238, 1, none⟩ = some (.slice A0_1 l0_1.length c0_1) := (blk_cell BK238.out 1).trans rfl
                   have hfz42_0 := blk_frozen BK238.out 0
                   have hfz42_1 := blk_frozen BK238.out 1
                   have p243 : 0 ≤ (x43_3 : Int) := of_decide_eq_true (by first | (with_reducible assumption) | assumption)
                   have q243 : x43_3 < (l0_1.length : Int) := of_decide_eq_true (by first | (with_reducible assumption) | assumption)
                   obtain ⟨ad243, A243_0, c243_0, e243, hx243_0, hl243_0, hi243_0⟩ := at_L1 HR0_1.out x43_3 p243 q243
                   cases e243
                   replace hx243_0 := (HB.out.cell (World.block_lt_of_cell? w _ hx243_0)).trans hx243_0
                   have HR243_0 := Aside0.mk hi243_0
                   have HC243_0 := Aside0.mk hl243_0
                   clear hi243_0 hl243_0
                   replace p243 := eq_true p243
                   replace q243 := eq_true q243
                   have hcz43_0 : wr.cell? ⟨gb239, 0, none⟩ = some (.int .i64 (l0_0.length : Int)) := (blk_cell BK239.out 0).trans rfl
                   have hfz43_0 := blk_frozen BK239.out 0
                   have p244 : 0 ≤ ((ji36) : Int) := of_decide_eq_true (by first | (with_reducible assumption) | assumption)
                   have q244 : (ji36) < ((rd_L1 l0_1 x43_3).length : Int) := of_decide_eq_true (by first | (with_reducible assumption) | assumption)
                   obtain ⟨ad244, e244, hx244_0⟩ := Kd.at_int HR243_0.out (ji36) p244 q244
                   cases e244
                   replace hx244_0 := (HB.out.cell (World.block_lt_of_cell? w _ hx244_0)).trans hx244_0
                   replace p244 := eq_true p244
                   replace q244 := eq_true q244
                   have p245 : 0 ≤ (x43_3 : Int) := of_decide_eq_true (by first | (with_reducible assumption) | assumption)
                   have q245 : x43_3 < (l0_1.length : Int) := of_decide_eq_true (by first | (with_reducible assumption) | assumption)
                   obtain ⟨ad245, A245_0, c245_0, e245, hx245_0, hl245_0, hi245_0⟩ := at_L1 HR0_1.out x43_3 p245 q245
                   obtain rfl : ad243 = ad245 := (by injection e245)
                   replace hx245_0 := (HB.out.cell (World.block_lt_of_cell? w _ hx245_0)).trans hx245_0
                   have HR245_0 := Aside0.mk hi245_0
                   have HC245_0 := Aside0.mk hl245_0
                   clear hi245_0 hl245_0
                   replace p245 := eq_true p245
                   replace q245 := eq_true q245
                   have ea_ := Option.some.inj (hx243_0.symm.trans hx245_0)
                   injection ea_ with ea_ en_ ec_
                   subst ea_
                   subst ec_
                   clear en_
                   have p246 : 0 ≤ (0 : Int) := (by omega)
                   have q246 : 0 < ((rd_L1 l0_1 x43_3).length : Int) := of_decide_eq_true (by first | (with_reducible assumption) | assumption)
                   obtain ⟨ad246, e246, hx246_0⟩ := Kd.at_int HR245_0.out 0 p246 q246
                   cases e246
                   have qi246 : (0 < (rd_L1 l0_1 x43_3).length) = True := eq_true (by omega)
                   (try rw [show ((0 : Int)).toNat = 0 from rfl] at hx246_0)
                   (try rw [Addr.add_zero'] at hx246_0)
                   replace hx246_0 := (HB.out.cell (World.block_lt_of_cell? w _ hx246_0)).trans hx246_0
                   replace p246 := eq_true p246
                   replace q246 := eq_true q246
                   as_aux_lemma =>
                    go_wp2
                    repeat ((refine wp_region_quiet_lit ?_ ?_ ?_; kernel_rfl; kernel_rfl; (repeat (first | go_big_quiet_step (fail) | (refine wpQuiet_step (fun K hK => ?_); go_simp; refine hK _ ?_; clear hK K))); refine wpQuiet_nil ?_; intro _ hw'; obtain ⟨nq, hw''⟩ := hw'; subst hw''); try go_wp2)
                    go_meet
                    case rel => exact ⟨_, (((rd (rd_L1 l0_1 x43_3) 0) != 0)), (by first | rfl | (simp; done) | (simp [*]; done)), H', ⟨by have := HJ1.out; have := HK2.out; have := HK3.out; first | omega | exact Nat.le_refl _⟩, ⟨by (with_reducible repeat (first | refine blk_drewN ?_ _ | refine blk_drew ?_ | refine blk_alloc ?_ _)); exact BK238.out⟩, ⟨by (with_reducible repeat (first | refine blk_drewN ?_ _ | refine blk_drew ?_ | refine blk_alloc ?_ _)); exact BK239.out⟩, ⟨by repeat (first | (with_reducible first | exact HB.out | apply below_alloc | apply pw_below_drewN | apply below_drew1 | refine below_set ?_ GE238.out | refine below_set ?_ GE239.out) | exact HB.out)⟩⟩
                  ·rw [if_neg c40] at H
                   exact absurd H (by simp)
                 ·rw [if_neg c39] at H
                  have c39b0 : ((rd (rd_L1 l0_1 x43_3) (ji36)) == x43_3) = false := beq_eq_false_iff_ne.mpr c39
                  have c39b1 : ((rd (rd_L1 l0_1 x43_3) (ji36)) != x43_3) = true := bne_iff_ne.mpr c39
                  have H' := Aside0.mk H
                  clear H
                  have hnb44 := NB238_239.out
                  have hnc44 := NB239_238.out
                  have hcz45_0 : wr.cell? ⟨gb238, 0, none⟩ = some (.slice A0_0 l0_0.length c0_0) := (blk_cell BK238.out 0).trans rfl
                  have hcz45_1 : wr.cell? ⟨gb238, 1, none⟩ = some (.slice A0_1 l0_1.length c0_1) := (blk_cell BK238.out 1).trans rfl
                  have hfz45_0 := blk_frozen BK238.out 0
                  have hfz45_1 := blk_frozen BK238.out 1
                  have p243 : 0 ≤ (x43_3 : Int) := of_decide_eq_true (by first | (with_reducible assumption) | assumption)
                  have q243 : x43_3 < (l0_1.length : Int) := of_decide_eq_true (by first | (with_reducible assumption) | assumption)
                  obtain ⟨ad243, A243_0, c243_0, e243, hx243_0, hl243_0, hi243_0⟩ := at_L1 HR0_1.out x43_3 p243 q243
                  cases e243
                  replace hx243_0 := (HB.out.cell (World.block_lt_of_cell? w _ hx243_0)).trans hx243_0
                  have HR243_0 := Aside0.mk hi243_0
                  have HC243_0 := Aside0.mk hl243_0
                  clear hi243_0 hl243_0
                  replace p243 := eq_true p243
                  replace q243 := eq_true q243
                  have hcz46_0 : wr.cell? ⟨gb239, 0, none⟩ = some (.int .i64 (l0_0.length : Int)) := (blk_cell BK239.out 0).trans rfl
                  have hfz46_0 := blk_frozen BK239.out 0
                  have p244 : 0 ≤ ((ji36) : Int) := of_decide_eq_true (by first | (with_reducible assumption) | assumption)
                  have q244 : (ji36) < ((rd_L1 l0_1 x43_3).length : Int) := of_decide_eq_true (by first | (with_reducible assumption) | assumption)
                  obtain ⟨ad244, e244, hx244_0⟩ := Kd.at_int HR243_0.out (ji36) p244 q244
                  cases e244
                  replace hx244_0 := (HB.out.cell (World.block_lt_of_cell? w _ hx244_0)).trans hx244_0
                  replace p244 := eq_true p244
                  replace q244 := eq_true q244
                  as_aux_lemma =>
                   go_wp2
                   repeat ((refine wp_region_quiet_lit ?_ ?_ ?_; kernel_rfl; kernel_rfl; (repeat (first | go_big_quiet_step (fail) | (refine wpQuiet_step (fun K hK => ?_); go_simp; refine hK _ ?_; clear hK K))); refine wpQuiet_nil ?_; intro _ hw'; obtain ⟨nq, hw''⟩ := hw'; subst hw''); try go_wp2)
                   go_meet
                   case rel => exact ⟨_, (true), (by first | rfl | (simp; done) | (simp [*]; done)), H', ⟨by have := HJ1.out; have := HK2.out; have := HK3.out; first | omega | exact Nat.le_refl _⟩, ⟨by (with_reducible repeat (first | refine blk_drewN ?_ _ | refine blk_drew ?_ | refine blk_alloc ?_ _)); exact BK238.out⟩, ⟨by (with_reducible repeat (first | refine blk_drewN ?_ _ | refine blk_drew ?_ | refine blk_alloc ?_ _)); exact BK239.out⟩, ⟨by repeat (first | (with_reducible first | exact HB.out | apply below_alloc | apply pw_below_drewN | apply below_drew1 | refine below_set ?_ GE238.out | refine below_set ?_ GE239.out) | exact HB.out)⟩⟩
                ·rw [if_neg c38] at H
                 exact absurd H (by simp)
               ·rw [if_neg c37] at H
                exact absurd H (by simp)
              ·rw [if_neg c35] at H
               exact absurd H (by simp)
             ·rw [if_neg c34] at H
              exact absurd H (by simp)
            case rest =>
             clear HC33
             try clear c1
             try clear c2
             try clear p2
             try clear q2
             try clear hx2
             try clear qi2
             try clear c3
             try clear c4
             try clear c6
             try clear p6
             try clear c9
             try clear c10
             try clear c13
             try clear c15
             try clear c16
             try clear c18
             try clear c18b0
             try clear c19
             try clear c19b0
             try clear c20
             try clear c20b0
             try clear c21
             try clear c21b0
             try clear c21b1
             try clear c21b2
             try clear c23
             try clear c24
             try clear p24
             try clear q24
             try clear hx24
             try clear qi24
             try clear c26
             try clear c28
             try clear c30
             try clear c32
             try clear c32b0
             try clear c34
             try clear c34b0
             try clear c35
             try clear c35b0
             try clear c37
             try clear c37b0
             try clear c38
             try clear c38b0
             try clear c39
             try clear c39b0
             try clear c39b1
             try clear c40
             try clear c40b0
             try clear c40b1
             try clear c41
             try clear c44
             try clear hcz11_0
             try clear hcz11_1
             try clear hcz12_0
             try clear hcz14_0
             try clear hcz14_1
             try clear hcz17_0
             try clear hcz17_1
             try clear hcz25_0
             try clear hcz27_0
             try clear hcz29_0
             try clear hcz31_0
             try clear hcz31_1
             try clear hcz42_0
             try clear hcz42_1
             try clear hcz43_0
             try clear hcz45_0
             try clear hcz45_1
             try clear hcz46_0
             try clear hcz4_0
             try clear hcz4_1
             try clear hcz7_0
             try clear hfz11_0
             try clear hfz11_1
             try clear hfz12_0
             try clear hfz14_0
             try clear hfz14_1
             try clear hfz17_0
             try clear hfz17_1
             try clear hfz25_0
             try clear hfz27_0
             try clear hfz29_0
             try clear hfz31_0
             try clear hfz31_1
             try clear hfz42_0
             try clear hfz42_1
             try clear hfz43_0
             try clear hfz45_0
             try clear hfz45_1
             try clear hfz46_0
             try clear hfz4_0
             try clear hfz4_1
             try clear hfz7_0
             try clear hx241_0
             try clear hx243_0
             try clear hx244_0
             try clear hx245_0
             try clear hx246_0
             try clear p2
             try clear p24
             try clear p241
             try clear p243
             try clear p244
             try clear p245
             try clear p246
             try clear p6
             try clear q2
             try clear q24
             try clear q241
             try clear q243
             try clear q244
             try clear q245
             try clear q246
             obtain ⟨kq, x66_32, rfl, HA, HJ32, BK238, BK239, HB⟩ := hcut
             cases kq with
             | zero => exact absurd HA.out (by simp [impl_ValidAlgebra.j3])
             | succ kj32 =>
              have H := HA.out
              clear HA
              simp only [impl_ValidAlgebra.j3] at H
              by_cases c47 : x66_32 = true
              ·subst c47
               have H1 : (some false) = some r := by rw [if_pos rfl] at H; exact H
               clear H
               have H := H1
               clear H1
               obtain rfl := Option.some.inj H
               as_aux_lemma =>
                go_wp2
                repeat ((refine wp_region_quiet_lit ?_ ?_ ?_; kernel_rfl; kernel_rfl; (repeat (first | go_big_quiet_step (fail) | (refine wpQuiet_step (fun K hK => ?_); go_simp; refine hK _ ?_; clear hK K))); refine wpQuiet_nil ?_; intro _ hw'; obtain ⟨nq, hw''⟩ := hw'; subst hw''); try go_wp2)
                go_ret
                exact ⟨by first | rfl | (simp [errW_none, errW_some] <;> rfl) | (simp [*, errW_none, errW_some] <;> rfl), by repeat (first | (with_reducible first | exact HB.out | apply below_alloc | apply pw_below_drewN | apply below_drew1 | refine below_set ?_ GE238.out | refine below_set ?_ GE239.out) | exact HB.out)⟩
              ·replace c47 := Bool.eq_false_iff.mpr c47
               subst c47
               have H1 : (impl_ValidAlgebra.l2 kj32 x43_3 (l0_0.length : Int) x43_3 (l0_0.length : Int) 0 l0_0 l0_1 (l0_0.length : Int)) = some r := by rw [if_neg (show ¬ (false = true) by decide)] at H; exact H
               clear H
               have H := H1
               clear H1
               have H' := Aside0.mk H
               clear H
               have hnb48 := NB238_239.out
               have hnc48 := NB239_238.out
               have hcz49_0 : wc.cell? ⟨gb238, 0, none⟩ = some (.slice A0_0 l0_0.length c0_0) := (blk_cell BK238.out 0).trans rfl
               have hcz49_1 : wc.cell? ⟨gb238, 1, none⟩ = some (.slice A0_1 l0_1.length c0_1) := (blk_cell BK238.out 1).trans rfl
               have hfz49_0 := blk_frozen BK238.out 0
               have hfz49_1 := blk_frozen BK238.out 1
               as_aux_lemma =>
                go_wp2
                repeat ((refine wp_region_quiet_lit ?_ ?_ ?_; kernel_rfl; kernel_rfl; (repeat (first | go_big_quiet_step (fail) | (refine wpQuiet_step (fun K hK => ?_); go_simp; refine hK _ ?_; clear hK K))); refine wpQuiet_nil ?_; intro _ hw'; obtain ⟨nq, hw''⟩ := hw'; subst hw''); try go_wp2)
                go_loopg [70] kj32 (fun kq v70 w' => ∃ (x70_5 : Int), v70 = .int .i64 x70_5 ∧ Aside0 (impl_ValidAlgebra.l2 kq x43_3 (l0_0.length : Int) x43_3 (l0_0.length : Int) x70_5 l0_0 l0_1 (l0_0.length : Int) = some r) ∧ Aside0 (kq ≤ kj32) ∧ Aside0 (w'.heap[gb238]? = some (.cells #[(.slice A0_0 l0_0.length c0_0), (.slice A0_1 l0_1.length c0_1)] 28 (0, 0))) ∧ Aside0 (w'.heap[gb239]? = some (.cells #[.int .i64 (l0_0.length : Int)] 3 (0, 0))) ∧ Aside0 (Below w.heap.size w w'))
                case atStart => exact ⟨(0), (by first | rfl | (simp; done) | (simp [*]; done)), H', ⟨Nat.le_refl _⟩, ⟨by (with_reducible repeat (first | refine blk_drewN ?_ _ | refine blk_drew ?_ | refine blk_alloc ?_ _)); exact BK238.out⟩, ⟨by (with_reducible repeat (first | refine blk_drewN ?_ _ | refine blk_drew ?_ | refine blk_alloc ?_ _)); exact BK239.out⟩, ⟨by repeat (first | (with_reducible first | exact HB.out | apply below_alloc | apply pw_below_drewN | apply below_drew1 | refine below_set ?_ GE238.out | refine below_set ?_ GE239.out) | exact HB.out)⟩⟩
                case round =>
                 clear H'
                 try clear c1
                 try clear c2
                 try clear p2
                 try clear q2
                 try clear hx2
                 try clear qi2
                 try clear c3
                 try clear c4
                 try clear c6
                 try clear p6
                 try clear c9
                 try clear c10
                 try clear c13
                 try clear c15
                 try clear c16
                 try clear c18
                 try clear c18b0
                 try clear c19
                 try clear c19b0
                 try clear c20
                 try clear c20b0
                 try clear c21
                 try clear c21b0
                 try clear c21b1
                 try clear c21b2
                 try clear c23
                 try clear c24
                 try clear p24
                 try clear q24
                 try clear hx24
                 try clear qi24
                 try clear c26
                 try clear c28
                 try clear c30
                 try clear c32
                 try clear c32b0
                 try clear c34
                 try clear c34b0
                 try clear c35
                 try clear c35b0
                 try clear c37
                 try clear c37b0
                 try clear c38
                 try clear c38b0
                 try clear c39
                 try clear c39b0
                 try clear c39b1
                 try clear c40
                 try clear c40b0
                 try clear c40b1
                 try clear c41
                 try clear c44
                 try clear c47
                 try clear c48
                 try clear hcz11_0
                 try clear hcz11_1
                 try clear hcz12_0
                 try clear hcz14_0
                 try clear hcz14_1
                 try clear hcz17_0
                 try clear hcz17_1
                 try clear hcz25_0
                 try clear hcz27_0
                 try clear hcz29_0
                 try clear hcz31_0
                 try clear hcz31_1
                 try clear hcz42_0
                 try clear hcz42_1
                 try clear hcz43_0
                 try clear hcz45_0
                 try clear hcz45_1
                 try clear hcz46_0
                 try clear hcz49_0
                 try clear hcz49_1
                 try clear hcz4_0
                 try clear hcz4_1
                 try clear hcz7_0
                 try clear hfz11_0
                 try clear hfz11_1
                 try clear hfz12_0
                 try clear hfz14_0
                 try clear hfz14_1
                 try clear hfz17_0
                 try clear hfz17_1
                 try clear hfz25_0
                 try clear hfz27_0
                 try clear hfz29_0
                 try clear hfz31_0
                 try clear hfz31_1
                 try clear hfz42_0
                 try clear hfz42_1
                 try clear hfz43_0
                 try clear hfz45_0
                 try clear hfz45_1
                 try clear hfz46_0
                 try clear hfz49_0
                 try clear hfz49_1
                 try clear hfz4_0
                 try clear hfz4_1
                 try clear hfz7_0
                 try clear hx241_0
                 try clear hx243_0
                 try clear hx244_0
                 try clear hx245_0
                 try clear hx246_0
                 try clear p2
                 try clear p24
                 try clear p241
                 try clear p243
                 try clear p244
                 try clear p245
                 try clear p246
                 try clear p6
                 try clear q2
                 try clear q24
                 try clear q241
                 try clear q243
                 try clear q244
                 try clear q245
                 try clear q246
                 obtain ⟨x70_5, rfl, HA, HK5, BK238, BK239, HB⟩ := hrel
                 cases gk with
                 | zero => exact absurd HA.out (by simp [impl_ValidAlgebra.l2])
                 | succ k5 =>
                  have H := HA.out
                  clear HA
                  simp only [impl_ValidAlgebra.l2] at H
                  by_cases c50 : x70_5 < (l0_0.length : Int)
                  ·rw [if_pos c50] at H
                   have c50b0 : decide (x70_5 < (l0_0.length : Int)) = true := decide_eq_true c50
                   clear c50
                   by_cases c51 : 0 ≤ x43_3
                   ·rw [if_pos c51] at H
                    have c51b0 : decide (0 ≤ x43_3) = true := decide_eq_true c51
                    clear c51
                    by_cases c52 : x43_3 < (l0_1.length : Int)
                    ·rw [if_pos c52] at H
                     have c52b0 : decide (x43_3 < (l0_1.length : Int)) = true := decide_eq_true c52
                     clear c52
                     by_cases c53 : 0 ≤ x70_5
                     ·rw [if_pos c53] at H
                      have c53b0 : decide (0 ≤ x70_5) = true := decide_eq_true c53
                      clear c53
                      by_cases c54 : x70_5 < ((rd_L1 l0_1 x43_3).length : Int)
                      ·rw [if_pos c54] at H
                       have c54b0 : decide (x70_5 < ((rd_L1 l0_1 x43_3).length : Int)) = true := decide_eq_true c54
                       clear c54
                       by_cases c55 : x70_5 < (l0_1.length : Int)
                       ·rw [if_pos c55] at H
                        have c55b0 : decide (x70_5 < (l0_1.length : Int)) = true := decide_eq_true c55
                        clear c55
                        by_cases c56 : x43_3 < ((rd_L1 l0_1 x70_5).length : Int)
                        ·rw [if_pos c56] at H
                         have c56b0 : decide (x43_3 < ((rd_L1 l0_1 x70_5).length : Int)) = true := decide_eq_true c56
                         clear c56
                         by_cases c57 : (rd (rd_L1 l0_1 x43_3) x70_5) = (rd (rd_L1 l0_1 x70_5) x43_3)
                         ·rw [if_pos c57] at H
                          have c57b0 : ((rd (rd_L1 l0_1 x43_3) x70_5) == (rd (rd_L1 l0_1 x70_5) x43_3)) = true := beq_iff_eq.mpr c57
                          have c57b1 : ((rd (rd_L1 l0_1 x43_3) x70_5) != (rd (rd_L1 l0_1 x70_5) x43_3)) = false := bne_eq_false_iff_eq.mpr c57
                          clear c57
                          have H' := Aside0.mk H
                          clear H
                          have hnb58 := NB238_239.out
                          have hnc58 := NB239_238.out
                          have hcz59_0 : wr.cell? ⟨gb238, 0, none⟩ = some (.slice A0_0 l0_0.length c0_0) := (blk_cell BK238.out 0).trans rfl
                          have hcz59_1 : wr.cell? ⟨gb238, 1, none⟩ = some (.slice A0_1 l0_1.length c0_1) := (blk_cell BK238.out 1).trans rfl
                          have hfz59_0 := blk_frozen BK238.out 0
                          have hfz59_1 := blk_frozen BK238.out 1
                          have p247 : 0 ≤ (x43_3 : Int) := of_decide_eq_true (by first | (with_reducible assumption) | assumption)
                          have q247 : x43_3 < (l0_1.length : Int) := of_decide_eq_true (by first | (with_reducible assumption) | assumption)
                          obtain ⟨ad247, A247_0, c247_0, e247, hx247_0, hl247_0, hi247_0⟩ := at_L1 HR0_1.out x43_3 p247 q247
                          cases e247
                          replace hx247_0 := (HB.out.cell (World.block_lt_of_cell? w _ hx247_0)).trans hx247_0
                          have HR247_0 := Aside0.mk hi247_0
                          have HC247_0 := Aside0.mk hl247_0
                          clear hi247_0 hl247_0
                          replace p247 := eq_true p247
                          replace q247 := eq_true q247
                          have p248 : 0 ≤ (x70_5 : Int) := of_decide_eq_true (by first | (with_reducible assumption) | assumption)
                          have q248 : x70_5 < ((rd_L1 l0_1 x43_3).length : Int) := of_decide_eq_true (by first | (with_reducible assumption) | assumption)
                          obtain ⟨ad248, e248, hx248_0⟩ := Kd.at_int HR247_0.out x70_5 p248 q248
                          cases e248
                          replace hx248_0 := (HB.out.cell (World.block_lt_of_cell? w _ hx248_0)).trans hx248_0
                          replace p248 := eq_true p248
                          replace q248 := eq_true q248
                          have p249 : 0 ≤ (x70_5 : Int) := of_decide_eq_true (by first | (with_reducible assumption) | assumption)
                          have q249 : x70_5 < (l0_1.length : Int) := of_decide_eq_true (by first | (with_reducible assumption) | assumption)
                          obtain ⟨ad249, A249_0, c249_0, e249, hx249_0, hl249_0, hi249_0⟩ := at_L1 HR0_1.out x70_5 p249 q249
                          obtain rfl : ad247 = ad249 := (by injection e249)
                          replace hx249_0 := (HB.out.cell (World.block_lt_of_cell? w _ hx249_0)).trans hx249_0
                          have HR249_0 := Aside0.mk hi249_0
                          have HC249_0 := Aside0.mk hl249_0
                          clear hi249_0 hl249_0
                          replace p249 := eq_true p249
                          replace q249 := eq_true q249
                          have p250 : 0 ≤ (x43_3 : Int) := of_decide_eq_true (by first | (with_reducible assumption) | assumption)
                          have q250 : x43_3 < ((rd_L1 l0_1 x70_5).length : Int) := of_decide_eq_true (by first | (with_reducible assumption) | assumption)
                          obtain ⟨ad250, e250, hx250_0⟩ := Kd.at_int HR249_0.out x43_3 p250 q250
                          cases e250
                          replace hx250_0 := (HB.out.cell (World.block_lt_of_cell? w _ hx250_0)).trans hx250_0
                          replace p250 := eq_true p250
                          replace q250 := eq_true q250
                          as_aux_lemma =>
                           go_wp2
                           repeat ((refine wp_region_quiet_lit ?_ ?_ ?_; kernel_rfl; kernel_rfl; (repeat (first | go_big_quiet_step (fail) | (refine wpQuiet_step (fun K hK => ?_); go_simp; refine hK _ ?_; clear hK K))); refine wpQuiet_nil ?_; intro _ hw'; obtain ⟨nq, hw''⟩ := hw'; subst hw''); try go_wp2)
                           go_loopg [93] k5 (fun kq v93 w' => ∃ (x93_6 : Int), v93 = .int .i64 x93_6 ∧ Aside0 (impl_ValidAlgebra.l3 kq x43_3 x70_5 (l0_0.length : Int) x43_3 (l0_0.length : Int) x70_5 (l0_0.length : Int) x93_6 l0_0 l0_1 (l0_0.length : Int) = some r) ∧ Aside0 (kq ≤ k5) ∧ Aside0 (w'.heap[gb238]? = some (.cells #[(.slice A0_0 l0_0.length c0_0), (.slice (some ad247) l0_1.length c0_1)] 28 (0, 0))) ∧ Aside0 (w'.heap[gb239]? = some (.cells #[.int .i64 (l0_0.length : Int)] 3 (0, 0))) ∧ Aside0 (Below w.heap.size w w'))
                           case atStart => exact ⟨(0), (by first | rfl | (simp; done) | (simp [*]; done)), H', ⟨Nat.le_refl _⟩, ⟨by (with_reducible repeat (first | refine blk_drewN ?_ _ | refine blk_drew ?_ | refine blk_alloc ?_ _)); exact BK238.out⟩, ⟨by (with_reducible repeat (first | refine blk_drewN ?_ _ | refine blk_drew ?_ | refine blk_alloc ?_ _)); exact BK239.out⟩, ⟨by repeat (first | (with_reducible first | exact HB.out | apply below_alloc | apply pw_below_drewN | apply below_drew1 | refine below_set ?_ GE238.out | refine below_set ?_ GE239.out) | exact HB.out)⟩⟩
                           case round =>
                            clear H'
                            try clear c1
                            try clear c2
                            try clear p2
                            try clear q2
                            try clear hx2
                            try clear qi2
                            try clear c3
                            try clear c4
                            try clear c5
                            try clear c6
                            try clear p6
                            try clear c9
                            try clear c10
                            try clear c13
                            try clear c15
                            try clear c16
                            try clear c18
                            try clear c18b0
                            try clear c19
                            try clear c19b0
                            try clear c20
                            try clear c20b0
                            try clear c21
                            try clear c21b0
                            try clear c21b1
                            try clear c21b2
                            try clear c23
                            try clear c24
                            try clear p24
                            try clear q24
                            try clear hx24
                            try clear qi24
                            try clear p25
                            try clear q25
                            try clear hx25
                            try clear c26
                            try clear c28
                            try clear c30
                            try clear c32
                            try clear c32b0
                            try clear c34
                            try clear c34b0
                            try clear c35
                            try clear c35b0
                            try clear c37
                            try clear c37b0
                            try clear c38
                            try clear c38b0
                            try clear c39
                            try clear c39b0
                            try clear c39b1
                            try clear c40
                            try clear c40b0
                            try clear c40b1
                            try clear c41
                            try clear c44
                            try clear c47
                            try clear c48
                            try clear c50
                            try clear c50b0
                            try clear c51
                            try clear c51b0
                            try clear c52
                            try clear c52b0
                            try clear c53
                            try clear c53b0
                            try clear c54
                            try clear c54b0
                            try clear c55
                            try clear c55b0
                            try clear c56
                            try clear c56b0
                            try clear c57
                            try clear c57b0
                            try clear c57b1
                            try clear c58
                            try clear hcz11_0
                            try clear hcz11_1
                            try clear hcz12_0
                            try clear hcz14_0
                            try clear hcz14_1
                            try clear hcz17_0
                            try clear hcz17_1
                            try clear hcz25_0
                            try clear hcz27_0
                            try clear hcz29_0
                            try clear hcz31_0
                            try clear hcz31_1
                            try clear hcz42_0
                            try clear hcz42_1
                            try clear hcz43_0
                            try clear hcz45_0
                            try clear hcz45_1
                            try clear hcz46_0
                            try clear hcz49_0
                            try clear hcz49_1
                            try clear hcz4_0
                            try clear hcz4_1
                            try clear hcz59_0
                            try clear hcz59_1
                            try clear hcz7_0
                            try clear hfz11_0
                            try clear hfz11_1
                            try clear hfz12_0
                            try clear hfz14_0
                            try clear hfz14_1
                            try clear hfz17_0
                            try clear hfz17_1
                            try clear hfz25_0
                            try clear hfz27_0
                            try clear hfz29_0
                            try clear hfz31_0
                            try clear hfz31_1
                            try clear hfz42_0
                            try clear hfz42_1
                            try clear hfz43_0
                            try clear hfz45_0
                            try clear hfz45_1
                            try clear hfz46_0
                            try clear hfz49_0
                            try clear hfz49_1
                            try clear hfz4_0
                            try clear hfz4_1
                            try clear hfz59_0
                            try clear hfz59_1
                            try clear hfz7_0
                            try clear hx241_0
                            try clear hx243_0
                            try clear hx244_0
                            try clear hx245_0
                            try clear hx246_0
                            try clear hx247_0
                            try clear hx248_0
                            try clear hx249_0
                            try clear hx250_0
                            try clear p2
                            try clear p24
                            try clear p241
                            try clear p243
                            try clear p244
                            try clear p245
                            try clear p246
                            try clear p247
                            try clear p248
                            try clear p249
                            try clear p250
                            try clear p6
                            try clear q2
                            try clear q24
                            try clear q241
                            try clear q243
                            try clear q244
                            try clear q245
                            try clear q246
                            try clear q247
                            try clear q248
                            try clear q249
                            try clear q250
                            obtain ⟨x93_6, rfl, HA, HK6, BK238, BK239, HB⟩ := hrel
                            cases gk with
                            | zero => exact absurd HA.out (by simp [impl_ValidAlgebra.l3])
                            | succ k6 =>
                             have H := HA.out
                             clear HA
                             simp only [impl_ValidAlgebra.l3] at H
                             by_cases c60 : x93_6 < (l0_0.length : Int)
                             ·rw [if_pos c60] at H
                              have c60b0 : decide (x93_6 < (l0_0.length : Int)) = true := decide_eq_true c60
                              clear c60
                              by_cases c61 : 0 ≤ x43_3
                              ·rw [if_pos c61] at H
                               have c61b0 : decide (0 ≤ x43_3) = true := decide_eq_true c61
                               clear c61
                               by_cases c62 : x43_3 < (l0_1.length : Int)
                               ·rw [if_pos c62] at H
                                have c62b0 : decide (x43_3 < (l0_1.length : Int)) = true := decide_eq_true c62
                                clear c62
                                by_cases c63 : 0 ≤ x70_5
                                ·rw [if_pos c63] at H
                                 have c63b0 : decide (0 ≤ x70_5) = true := decide_eq_true c63
                                 clear c63
                                 by_cases c64 : x70_5 < ((rd_L1 l0_1 x43_3).length : Int)
                                 ·rw [if_pos c64] at H
                                  have c64b0 : decide (x70_5 < ((rd_L1 l0_1 x43_3).length : Int)) = true := decide_eq_true c64
                                  clear c64
                                  by_cases c65 : 0 ≤ (rd (rd_L1 l0_1 x43_3) x70_5)
                                  ·rw [if_pos c65] at H
                                   have c65b0 : decide (0 ≤ (rd (rd_L1 l0_1 x43_3) x70_5)) = true := decide_eq_true c65
                                   clear c65
                                   by_cases c66 : (rd (rd_L1 l0_1 x43_3) x70_5) < (l0_1.length : Int)
                                   ·rw [if_pos c66] at H
                                    have c66b0 : decide ((rd (rd_L1 l0_1 x43_3) x70_5) < (l0_1.length : Int)) = true := decide_eq_true c66
                                    clear c66
                                    by_cases c67 : 0 ≤ x93_6
                                    ·rw [if_pos c67] at H
                                     have c67b0 : decide (0 ≤ x93_6) = true := decide_eq_true c67
                                     clear c67
                                     by_cases c68 : x93_6 < ((rd_L1 l0_1 (rd (rd_L1 l0_1 x43_3) x70_5)).length : Int)
                                     ·rw [if_pos c68] at H
                                      have c68b0 : decide (x93_6 < ((rd_L1 l0_1 (rd (rd_L1 l0_1 x43_3) x70_5)).length : Int)) = true := decide_eq_true c68
                                      clear c68
                                      by_cases c69 : x70_5 < (l0_1.length : Int)
                                      ·rw [if_pos c69] at H
                                       have c69b0 : decide (x70_5 < (l0_1.length : Int)) = true := decide_eq_true c69
                                       clear c69
                                       by_cases c70 : x93_6 < ((rd_L1 l0_1 x70_5).length : Int)
                                       ·rw [if_pos c70] at H
                                        have c70b0 : decide (x93_6 < ((rd_L1 l0_1 x70_5).length : Int)) = true := decide_eq_true c70
                                        clear c70
                                        by_cases c71 : 0 ≤ (rd (rd_L1 l0_1 x70_5) x93_6)
                                        ·rw [if_pos c71] at H
                                         have c71b0 : decide (0 ≤ (rd (rd_L1 l0_1 x70_5) x93_6)) = true := decide_eq_true c71
                                         clear c71
                                         by_cases c72 : (rd (rd_L1 l0_1 x70_5) x93_6) < ((rd_L1 l0_1 x43_3).length : Int)
                                         ·rw [if_pos c72] at H
                                          have c72b0 : decide ((rd (rd_L1 l0_1 x70_5) x93_6) < ((rd_L1 l0_1 x43_3).length : Int)) = true := decide_eq_true c72
                                          clear c72
                                          by_cases c73 : (rd (rd_L1 l0_1 (rd (rd_L1 l0_1 x43_3) x70_5)) x93_6) = (rd (rd_L1 l0_1 x43_3) (rd (rd_L1 l0_1 x70_5) x93_6))
                                          ·rw [if_pos c73] at H
                                           have c73b0 : ((rd (rd_L1 l0_1 (rd (rd_L1 l0_1 x43_3) x70_5)) x93_6) == (rd (rd_L1 l0_1 x43_3) (rd (rd_L1 l0_1 x70_5) x93_6))) = true := beq_iff_eq.mpr c73
                                           have c73b1 : ((rd (rd_L1 l0_1 (rd (rd_L1 l0_1 x43_3) x70_5)) x93_6) != (rd (rd_L1 l0_1 x43_3) (rd (rd_L1 l0_1 x70_5) x93_6))) = false := bne_eq_false_iff_eq.mpr c73
                                           clear c73
                                           replace H := Option.bind_eq_some_iff.mp H
                                           obtain ⟨t260, A740, H⟩ := H
                                           replace H : (if 0 ≤ t260 then (if t260 < ((rd_L1 l0_1 x43_3).length : Int) then (if x93_6 < ((rd_L1 l0_1 x43_3).length : Int) then ((impl_join.f k6 l0_0 (rd (rd_L1 l0_1 x43_3) x70_5) (rd (rd_L1 l0_1 x43_3) x93_6)).bind fun t266 => (if (rd (rd_L1 l0_1 x43_3) t260) = t266 then (impl_ValidAlgebra.l3 k6 x43_3 x70_5 (l0_0.length : Int) x43_3 (l0_0.length : Int) x70_5 (l0_0.length : Int) (wrap64 (x93_6 + 1)) l0_0 l0_1 (l0_0.length : Int)) else (some false))) else (none)) else (none)) else (none)) = some r := H
                                           have A74 := Aside0.mk A740
                                           clear A740
                                           by_cases c75 : 0 ≤ t260
                                           ·rw [if_pos c75] at H
                                            have c75b0 : decide (0 ≤ t260) = true := decide_eq_true c75
                                            clear c75
                                            by_cases c76 : t260 < ((rd_L1 l0_1 x43_3).length : Int)
                                            ·rw [if_pos c76] at H
                                             have c76b0 : decide (t260 < ((rd_L1 l0_1 x43_3).length : Int)) = true := decide_eq_true c76
                                             clear c76
                                             by_cases c77 : x93_6 < ((rd_L1 l0_1 x43_3).length : Int)
                                             ·rw [if_pos c77] at H
                                              have c77b0 : decide (x93_6 < ((rd_L1 l0_1 x43_3).length : Int)) = true := decide_eq_true c77
                                              clear c77
                                              replace H := Option.bind_eq_some_iff.mp H
                                              obtain ⟨t266, A780, H⟩ := H
                                              replace H : (if (rd (rd_L1 l0_1 x43_3) t260) = t266 then (impl_ValidAlgebra.l3 k6 x43_3 x70_5 (l0_0.length : Int) x43_3 (l0_0.length : Int) x70_5 (l0_0.length : Int) (wrap64 (x93_6 + 1)) l0_0 l0_1 (l0_0.length : Int)) else (some false)) = some r := H
                                              have A78 := Aside0.mk A780
                                              clear A780
                                              by_cases c79 : (rd (rd_L1 l0_1 x43_3) t260) = t266
                                              ·rw [if_pos c79] at H
                                               have c79b0 : ((rd (rd_L1 l0_1 x43_3) t260) == t266) = true := beq_iff_eq.mpr c79
                                               have c79b1 : ((rd (rd_L1 l0_1 x43_3) t260) != t266) = false := bne_eq_false_iff_eq.mpr c79
                                               clear c79
                                               have H' := Aside0.mk H
                                               clear H
                                               have hnb80 := NB238_239.out
                                               have hnc80 := NB239_238.out
                                               have hcz81_0 : wr.cell? ⟨gb238, 0, none⟩ = some (.slice A0_0 l0_0.length c0_0) := (blk_cell BK238.out 0).trans rfl
                                               have hcz81_1 : wr.cell? ⟨gb238, 1, none⟩ = some (.slice (some ad247) l0_1.length c0_1) := (blk_cell BK238.out 1).trans rfl
                                               have hfz81_0 := blk_frozen BK238.out 0
                                               have hfz81_1 := blk_frozen BK238.out 1
                                               have p251 : 0 ≤ (x43_3 : Int) := of_decide_eq_true (by first | (with_reducible assumption) | assumption)
                                               have q251 : x43_3 < (l0_1.length : Int) := of_decide_eq_true (by first | (with_reducible assumption) | assumption)
                                               obtain ⟨ad251, A251_0, c251_0, e251, hx251_0, hl251_0, hi251_0⟩ := at_L1 HR0_1.out x43_3 p251 q251
                                               obtain rfl : ad247 = ad251 := (by injection e251)
                                               replace hx251_0 := (HB.out.cell (World.block_lt_of_cell? w _ hx251_0)).trans hx251_0
                                               have HR251_0 := Aside0.mk hi251_0
                                               have HC251_0 := Aside0.mk hl251_0
                                               clear hi251_0 hl251_0
                                               replace p251 := eq_true p251
                                               replace q251 := eq_true q251
                                               have p252 : 0 ≤ (x70_5 : Int) := of_decide_eq_true (by first | (with_reducible assumption) | assumption)
                                               have q252 : x70_5 < ((rd_L1 l0_1 x43_3).length : Int) := of_decide_eq_true (by first | (with_reducible assumption) | assumption)
                                               obtain ⟨ad252, e252, hx252_0⟩ := Kd.at_int HR251_0.out x70_5 p252 q252
                                               cases e252
                                               replace hx252_0 := (HB.out.cell (World.block_lt_of_cell? w _ hx252_0)).trans hx252_0
                                               replace p252 := eq_true p252
                                               replace q252 := eq_true q252
                                               have p253 : 0 ≤ ((rd (rd_L1 l0_1 x43_3) x70_5) : Int) := of_decide_eq_true (by first | (with_reducible assumption) | assumption)
                                               have q253 : (rd (rd_L1 l0_1 x43_3) x70_5) < (l0_1.length : Int) := of_decide_eq_true (by first | (with_reducible assumption) | assumption)
                                               obtain ⟨ad253, A253_0, c253_0, e253, hx253_0, hl253_0, hi253_0⟩ := at_L1 HR0_1.out (rd (rd_L1 l0_1 x43_3) x70_5) p253 q253
                                               obtain rfl : ad247 = ad253 := (by injection e253)
                                               replace hx253_0 := (HB.out.cell (World.block_lt_of_cell? w _ hx253_0)).trans hx253_0
                                               have HR253_0 := Aside0.mk hi253_0
                                               have HC253_0 := Aside0.mk hl253_0
                                               clear hi253_0 hl253_0
                                               replace p253 := eq_true p253
                                               replace q253 := eq_true q253
                                               have p254 : 0 ≤ (x93_6 : Int) := of_decide_eq_true (by first | (with_reducible assumption) | assumption)
                                               have q254 : x93_6 < ((rd_L1 l0_1 (rd (rd_L1 l0_1 x43_3) x70_5)).length : Int) := of_decide_eq_true (by first | (with_reducible assumption) | assumption)
                                               obtain ⟨ad254, e254, hx254_0⟩ := Kd.at_int HR253_0.out x93_6 p254 q254
                                               cases e254
                                               replace hx254_0 := (HB.out.cell (World.block_lt_of_cell? w _ hx254_0)).trans hx254_0
                                               replace p254 := eq_true p254
                                               replace q254 := eq_true q254
                                               have p255 : 0 ≤ (x43_3 : Int) := of_decide_eq_true (by first | (with_reducible assumption) | assumption)
                                               have q255 : x43_3 < (l0_1.length : Int) := of_decide_eq_true (by first | (with_reducible assumption) | assumption)
                                               obtain ⟨ad255, A255_0, c255_0, e255, hx255_0, hl255_0, hi255_0⟩ := at_L1 HR0_1.out x43_3 p255 q255
                                               obtain rfl : ad247 = ad255 := (by injection e255)
                                               replace hx255_0 := (HB.out.cell (World.block_lt_of_cell? w _ hx255_0)).trans hx255_0
                                               have HR255_0 := Aside0.mk hi255_0
                                               have HC255_0 := Aside0.mk hl255_0
                                               clear hi255_0 hl255_0
                                               replace p255 := eq_true p255
                                               replace q255 := eq_true q255
                                               have ea_ := Option.some.inj (hx251_0.symm.trans hx255_0)
                                               injection ea_ with ea_ en_ ec_
                                               subst ea_
                                               subst ec_
                                               clear en_
                                               have p256 : 0 ≤ (x70_5 : Int) := of_decide_eq_true (by first | (with_reducible assumption) | assumption)
                                               have q256 : x70_5 < (l0_1.length : Int) := of_decide_eq_true (by first | (with_reducible assumption) | assumption)
                                               obtain ⟨ad256, A256_0, c256_0, e256, hx256_0, hl256_0, hi256_0⟩ := at_L1 HR0_1.out x70_5 p256 q256
                                               obtain rfl : ad247 = ad256 := (by injection e256)
                                               replace hx256_0 := (HB.out.cell (World.block_lt_of_cell? w _ hx256_0)).trans hx256_0
                                               have HR256_0 := Aside0.mk hi256_0
                                               have HC256_0 := Aside0.mk hl256_0
                                               clear hi256_0 hl256_0
                                               replace p256 := eq_true p256
                                               replace q256 := eq_true q256
                                               have p257 : 0 ≤ (x93_6 : Int) := of_decide_eq_true (by first | (with_reducible assumption) | assumption)
                                               have q257 : x93_6 < ((rd_L1 l0_1 x70_5).length : Int) := of_decide_eq_true (by first | (with_reducible assumption) | assumption)
                                               obtain ⟨ad257, e257, hx257_0⟩ := Kd.at_int HR256_0.out x93_6 p257 q257
                                               cases e257
                                               replace hx257_0 := (HB.out.cell (World.block_lt_of_cell? w _ hx257_0)).trans hx257_0
                                               replace p257 := eq_true p257
                                               replace q257 := eq_true q257
                                               have p258 : 0 ≤ ((rd (rd_L1 l0_1 x70_5) x93_6) : Int) := of_decide_eq_true (by first | (with_reducible assumption) | assumption)
                                               have q258 : (rd (rd_L1 l0_1 x70_5) x93_6) < ((rd_L1 l0_1 x43_3).length : Int) := of_decide_eq_true (by first | (with_reducible assumption) | assumption)
                                               obtain ⟨ad258, e258, hx258_0⟩ := Kd.at_int HR255_0.out (rd (rd_L1 l0_1 x70_5) x93_6) p258 q258
                                               cases e258
                                               replace hx258_0 := (HB.out.cell (World.block_lt_of_cell? w _ hx258_0)).trans hx258_0
                                               replace p258 := eq_true p258
                                               replace q258 := eq_true q258
                                               have p259 : 0 ≤ (x43_3 : Int) := of_decide_eq_true (by first | (with_reducible assumption) | assumption)
                                               have q259 : x43_3 < (l0_1.length : Int) := of_decide_eq_true (by first | (with_reducible assumption) | assumption)
                                               obtain ⟨ad259, A259_0, c259_0, e259, hx259_0, hl259_0, hi259_0⟩ := at_L1 HR0_1.out x43_3 p259 q259
                                               obtain rfl : ad247 = ad259 := (by injection e259)
                                               replace hx259_0 := (HB.out.cell (World.block_lt_of_cell? w _ hx259_0)).trans hx259_0
                                               have HR259_0 := Aside0.mk hi259_0
                                               have HC259_0 := Aside0.mk hl259_0
                                               clear hi259_0 hl259_0
                                               replace p259 := eq_true p259
                                               replace q259 := eq_true q259
                                               have ea_ := Option.some.inj (hx251_0.symm.trans hx259_0)
                                               injection ea_ with ea_ en_ ec_
                                               subst ea_
                                               subst ec_
                                               clear en_
                                               have p261 : 0 ≤ (t260 : Int) := of_decide_eq_true (by first | (with_reducible assumption) | assumption)
                                               have q261 : t260 < ((rd_L1 l0_1 x43_3).length : Int) := of_decide_eq_true (by first | (with_reducible assumption) | assumption)
                                               obtain ⟨ad261, e261, hx261_0⟩ := Kd.at_int HR259_0.out t260 p261 q261
                                               cases e261
                                               replace hx261_0 := (HB.out.cell (World.block_lt_of_cell? w _ hx261_0)).trans hx261_0
                                               replace p261 := eq_true p261
                                               replace q261 := eq_true q261
                                               have p262 : 0 ≤ (x43_3 : Int) := of_decide_eq_true (by first | (with_reducible assumption) | assumption)
                                               have q262 : x43_3 < (l0_1.length : Int) := of_decide_eq_true (by first | (with_reducible assumption) | assumption)
                                               obtain ⟨ad262, A262_0, c262_0, e262, hx262_0, hl262_0, hi262_0⟩ := at_L1 HR0_1.out x43_3 p262 q262
                                               obtain rfl : ad247 = ad262 := (by injection e262)
                                               replace hx262_0 := (HB.out.cell (World.block_lt_of_cell? w _ hx262_0)).trans hx262_0
                                               have HR262_0 := Aside0.mk hi262_0
                                               have HC262_0 := Aside0.mk hl262_0
                                               clear hi262_0 hl262_0
                                               replace p262 := eq_true p262
                                               replace q262 := eq_true q262
                                               have ea_ := Option.some.inj (hx251_0.symm.trans hx262_0)
                                               injection ea_ with ea_ en_ ec_
                                               subst ea_
                                               subst ec_
                                               clear en_
                                               have p263 : 0 ≤ (x70_5 : Int) := of_decide_eq_true (by first | (with_reducible assumption) | assumption)
                                               have q263 : x70_5 < ((rd_L1 l0_1 x43_3).length : Int) := of_decide_eq_true (by first | (with_reducible assumption) | assumption)
                                               obtain ⟨ad263, e263, hx263_0⟩ := Kd.at_int HR262_0.out x70_5 p263 q263
                                               cases e263
                                               replace hx263_0 := (HB.out.cell (World.block_lt_of_cell? w _ hx263_0)).trans hx263_0
                                               replace p263 := eq_true p263
                                               replace q263 := eq_true q263
                                               have p264 : 0 ≤ (x43_3 : Int) := of_decide_eq_true (by first | (with_reducible assumption) | assumption)
                                               have q264 : x43_3 < (l0_1.length : Int) := of_decide_eq_true (by first | (with_reducible assumption) | assumption)
                                               obtain ⟨ad264, A264_0, c264_0, e264, hx264_0, hl264_0, hi264_0⟩ := at_L1 HR0_1.out x43_3 p264 q264
                                               obtain rfl : ad247 = ad264 := (by injection e264)
                                               replace hx264_0 := (HB.out.cell (World.block_lt_of_cell? w _ hx264_0)).trans hx264_0
                                               have HR264_0 := Aside0.mk hi264_0
                                               have HC264_0 := Aside0.mk hl264_0
                                               clear hi264_0 hl264_0
                                               replace p264 := eq_true p264
                                               replace q264 := eq_true q264
                                               have ea_ := Option.some.inj (hx251_0.symm.trans hx264_0)
                                               have p265 : 0 ≤ (x93_6 : Int) := of_decide_eq_true (by first | (with_reducible assumption) | assumption)
                                               have q265 : x93_6 < ((rd_L1 l0_1 x43_3).length : Int) := of_decide_eq_true (by first | (with_reducible assumption) | assumption)
                                               obtain ⟨ad265, e265, hx265_0⟩ := Kd.at_int HR264_0.out x93_6 p265 q265
                                               cases e265
                                               replace hx265_0 := (HB.out.cell (World.block_lt_of_cell? w _ hx265_0)).trans hx265_0
                                               replace p265 := eq_true p265
                                               replace q265 := eq_true q265
                                               as_aux_lemma =>
                                                go_wp2_with (first | (go_at_call 65; (with_reducible refine (impl_join.calls k6 _ _ l0_0 x70_5 x93_6 t260 _ ?side1 ?side2 A74.out).mono ?_); (case side1 => repeat (first | exact (Kd.C_below HR0_0.out HB.out) | (with_reducible refine Kd.C_alloc ?_ _) | (with_reducible refine Kd.C_drewN ?_ _) | (with_reducible refine Kd.C_drew ?_))); (case side2 => exact HC0_0.out); rintro e w' ⟨rfl, ⟨nd, rfl⟩⟩; (try first | exact ⟨rfl, _, World.drewN_drewN _ _ _⟩ | exact ⟨rfl, _, Eq.trans (World.drewN_drewN _ _ _) (congrArg (World.drewN _) (Nat.add_assoc _ _ _))⟩)) | (go_at_call 65; (with_reducible refine (impl_join.calls k6 _ _ l0_0 (rd (rd_L1 l0_1 x43_3) x70_5) (rd (rd_L1 l0_1 x43_3) x93_6) t266 _ ?side1 ?side2 A78.out).mono ?_); (case side1 => repeat (first | exact (Kd.C_below HR0_0.out (by repeat (first | (with_reducible first | exact HB.out | apply below_alloc | apply pw_below_drewN | apply below_drew1 | refine below_set ?_ GE238.out | refine below_set ?_ GE239.out) | exact HB.out))) | (with_reducible refine Kd.C_alloc ?_ _) | (with_reducible refine Kd.C_drewN ?_ _) | (with_reducible refine Kd.C_drew ?_))); (case side2 => exact HC0_0.out); rintro e w' ⟨rfl, ⟨nd, rfl⟩⟩; (try first | exact ⟨rfl, _, World.drewN_drewN _ _ _⟩ | exact ⟨rfl, _, Eq.trans (World.drewN_drewN _ _ _) (congrArg (World.drewN _) (Nat.add_assoc _ _ _))⟩)))
                                                repeat ((refine wp_region_quiet_lit ?_ ?_ ?_; kernel_rfl; kernel_rfl; (repeat (first | go_big_quiet_step (first | (go_at_call 65; (with_reducible refine (impl_join.calls k6 _ _ l0_0 x70_5 x93_6 t260 _ ?side1 ?side2 A74.out).mono ?_); (case side1 => repeat (first | exact (Kd.C_below HR0_0.out HB.out) | (with_reducible refine Kd.C_alloc ?_ _) | (with_reducible refine Kd.C_drewN ?_ _) | (with_reducible refine Kd.C_drew ?_))); (case side2 => exact HC0_0.out); rintro e w' ⟨rfl, ⟨nd, rfl⟩⟩; (try first | exact ⟨rfl, _, World.drewN_drewN _ _ _⟩ | exact ⟨rfl, _, Eq.trans (World.drewN_drewN _ _ _) (congrArg (World.drewN _) (Nat.add_assoc _ _ _))⟩)) | (go_at_call 65; (with_reducible refine (impl_join.calls k6 _ _ l0_0 (rd (rd_L1 l0_1 x43_3) x70_5) (rd (rd_L1 l0_1 x43_3) x93_6) t266 _ ?side1 ?side2 A78.out).mono ?_); (case side1 => repeat (first | exact (Kd.C_below HR0_0.out (by repeat (first | (with_reducible first | exact HB.out | apply below_alloc | apply pw_below_drewN | apply below_drew1 | refine below_set ?_ GE238.out | refine below_set ?_ GE239.out) | exact HB.out))) | (with_reducible refine Kd.C_alloc ?_ _) | (with_reducible refine Kd.C_drewN ?_ _) | (with_reducible refine Kd.C_drew ?_))); (case side2 => exact HC0_0.out); rintro e w' ⟨rfl, ⟨nd, rfl⟩⟩; (try first | exact ⟨rfl, _, World.drewN_drewN _ _ _⟩ | exact ⟨rfl, _, Eq.trans (World.drewN_drewN _ _ _) (congrArg (World.drewN _) (Nat.add_assoc _ _ _))⟩))) | (refine wpQuiet_step (fun K hK => ?_); go_simp; refine hK _ ?_; clear hK K))); refine wpQuiet_nil ?_; intro _ hw'; obtain ⟨nq, hw''⟩ := hw'; subst hw''); try go_wp2_with (first | (go_at_call 65; (with_reducible refine (impl_join.calls k6 _ _ l0_0 x70_5 x93_6 t260 _ ?side1 ?side2 A74.out).mono ?_); (case side1 => repeat (first | exact (Kd.C_below HR0_0.out HB.out) | (with_reducible refine Kd.C_alloc ?_ _) | (with_reducible refine Kd.C_drewN ?_ _) | (with_reducible refine Kd.C_drew ?_))); (case side2 => exact HC0_0.out); rintro e w' ⟨rfl, ⟨nd, rfl⟩⟩; (try first | exact ⟨rfl, _, World.drewN_drewN _ _ _⟩ | exact ⟨rfl, _, Eq.trans (World.drewN_drewN _ _ _) (congrArg (World.drewN _) (Nat.add_assoc _ _ _))⟩)) | (go_at_call 65; (with_reducible refine (impl_join.calls k6 _ _ l0_0 (rd (rd_L1 l0_1 x43_3) x70_5) (rd (rd_L1 l0_1 x43_3) x93_6) t266 _ ?side1 ?side2 A78.out).mono ?_); (case side1 => repeat (first | exact (Kd.C_below HR0_0.out (by repeat (first | (with_reducible first | exact HB.out | apply below_alloc | apply pw_below_drewN | apply below_drew1 | refine below_set ?_ GE238.out | refine below_set ?_ GE239.out) | exact HB.out))) | (with_reducible refine Kd.C_alloc ?_ _) | (with_reducible refine Kd.C_drewN ?_ _) | (with_reducible refine Kd.C_drew ?_))); (case side2 => exact HC0_0.out); rintro e w' ⟨rfl, ⟨nd, rfl⟩⟩; (try first | exact ⟨rfl, _, World.drewN_drewN _ _ _⟩ | exact ⟨rfl, _, Eq.trans (World.drewN_drewN _ _ _) (congrArg (World.drewN _) (Nat.add_assoc _ _ _))⟩))))
                                                go_roundg k6
                                                case measure => have := HJ1.out; have := HK2.out; have := HK3.out; have := HJ32.out; have := HK5.out; have := HK6.out; omega
                                                case rel => exact ⟨(wrap64 (x93_6 + 1)), (by first | rfl | (simp; done) | (simp [*]; done)), H', ⟨by have := HJ1.out; have := HK2.out; have := HK3.out; have := HJ32.out; have := HK5.out; have := HK6.out; omega⟩, ⟨by (with_reducible repeat (first | refine blk_drewN ?_ _ | refine blk_drew ?_ | refine blk_alloc ?_ _)); exact BK238.out⟩, ⟨by (with_reducible repeat (first | refine blk_drewN ?_ _ | refine blk_drew ?_ | refine blk_alloc ?_ _)); exact BK239.out⟩, ⟨by repeat (first | (with_reducible first | exact HB.out | apply below_alloc | apply pw_below_drewN | apply below_drew1 | refine below_set ?_ GE238.out | refine below_set ?_ GE239.out) | exact HB.out)⟩⟩
                                              ·rw [if_neg c79] at H
                                               have c79b0 : ((rd (rd_L1 l0_1 x43_3) t260) == t266) = false := beq_eq_false_iff_ne.mpr c79
                                               have c79b1 : ((rd (rd_L1 l0_1 x43_3) t260) != t266) = true := bne_iff_ne.mpr c79
                                               obtain rfl := Option.some.inj H
                                               have hnb82 := NB238_239.out
                                               have hnc82 := NB239_238.out
                                               have hcz83_0 : wr.cell? ⟨gb238, 0, none⟩ = some (.slice A0_0 l0_0.length c0_0) := (blk_cell BK238.out 0).trans rfl
                                               have hcz83_1 : wr.cell? ⟨gb238, 1, none⟩ = some (.slice (some ad247) l0_1.length c0_1) := (blk_cell BK238.out 1).trans rfl
                                               have hfz83_0 := blk_frozen BK238.out 0
                                               have hfz83_1 := blk_frozen BK238.out 1
                                               have p251 : 0 ≤ (x43_3 : Int) := of_decide_eq_true (by first | (with_reducible assumption) | assumption)
                                               have q251 : x43_3 < (l0_1.length : Int) := of_decide_eq_true (by first | (with_reducible assumption) | assumption)
                                               obtain ⟨ad251, A251_0, c251_0, e251, hx251_0, hl251_0, hi251_0⟩ := at_L1 HR0_1.out x43_3 p251 q251
                                               obtain rfl : ad247 = ad251 := (by injection e251)
                                               replace hx251_0 := (HB.out.cell (World.block_lt_of_cell? w _ hx251_0)).trans hx251_0
                                               have HR251_0 := Aside0.mk hi251_0
                                               have HC251_0 := Aside0.mk hl251_0
                                               clear hi251_0 hl251_0
                                               replace p251 := eq_true p251
                                               replace q251 := eq_true q251
                                               have p252 : 0 ≤ (x70_5 : Int) := of_decide_eq_true (by first | (with_reducible assumption) | assumption)
                                               have q252 : x70_5 < ((rd_L1 l0_1 x43_3).length : Int) := of_decide_eq_true (by first | (with_reducible assumption) | assumption)
                                               obtain ⟨ad252, e252, hx252_0⟩ := Kd.at_int HR251_0.out x70_5 p252 q252
                                               cases e252
                                               replace hx252_0 := (HB.out.cell (World.block_lt_of_cell? w _ hx252_0)).trans hx252_0
                                               replace p252 := eq_true p252
                                               replace q252 := eq_true q252
                                               have p253 : 0 ≤ ((rd (rd_L1 l0_1 x43_3) x70_5) : Int) := of_decide_eq_true (by first | (with_reducible assumption) | assumption)
                                               have q253 : (rd (rd_L1 l0_1 x43_3) x70_5) < (l0_1.length : Int) := of_decide_eq_true (by first | (with_reducible assumption) | assumption)
                                               obtain ⟨ad253, A253_0, c253_0, e253, hx253_0, hl253_0, hi253_0⟩ := at_L1 HR0_1.out (rd (rd_L1 l0_1 x43_3) x70_5) p253 q253
                                               obtain rfl : ad247 = ad253 := (by injection e253)
                                               replace hx253_0 := (HB.out.cell (World.block_lt_of_cell? w _ hx253_0)).trans hx253_0
                                               have HR253_0 := Aside0.mk hi253_0
                                               have HC253_0 := Aside0.mk hl253_0
                                               clear hi253_0 hl253_0
                                               replace p253 := eq_true p253
                                               replace q253 := eq_true q253
                                               have p254 : 0 ≤ (x93_6 : Int) := of_decide_eq_true (by first | (with_reducible assumption) | assumption)
                                               have q254 : x93_6 < ((rd_L1 l0_1 (rd (rd_L1 l0_1 x43_3) x70_5)).length : Int) := of_decide_eq_true (by first | (with_reducible assumption) | assumption)
                                               obtain ⟨ad254, e254, hx254_0⟩ := Kd.at_int HR253_0.out x93_6 p254 q254
                                               cases e254
                                               replace hx254_0 := (HB.out.cell (World.block_lt_of_cell? w _ hx254_0)).trans hx254_0
                                               replace p254 := eq_true p254
                                               replace q254 := eq_true q254
                                               have p255 : 0 ≤ (x43_3 : Int) := of_decide_eq_true (by first | (with_reducible assumption) | assumption)
                                               have q255 : x43_3 < (l0_1.length : Int) := of_decide_eq_true (by first | (with_reducible assumption) | assumption)
                                               obtain ⟨ad255, A255_0, c255_0, e255, hx255_0, hl255_0, hi255_0⟩ := at_L1 HR0_1.out x43_3 p255 q255
                                               obtain rfl : ad247 = ad255 := (by injection e255)
                                               replace hx255_0 := (HB.out.cell (World.block_lt_of_cell? w _ hx255_0)).trans hx255_0
                                               have HR255_0 := Aside0.mk hi255_0
                                               have HC255_0 := Aside0.mk hl255_0
                                               clear hi255_0 hl255_0
                                               replace p255 := eq_true p255
                                               replace q255 := eq_true q255
                                               have ea_ := Option.some.inj (hx251_0.symm.trans hx255_0)
                                               injection ea_ with ea_ en_ ec_
                                               subst ea_
                                               subst ec_
                                               clear en_
                                               have p256 : 0 ≤ (x70_5 : Int) := of_decide_eq_true (by first | (with_reducible assumption) | assumption)
                                               have q256 : x70_5 < (l0_1.length : Int) := of_decide_eq_true (by first | (with_reducible assumption) | assumption)
                                               obtain ⟨ad256, A256_0, c256_0, e256, hx256_0, hl256_0, hi256_0⟩ := at_L1 HR0_1.out x70_5 p256 q256
                                               obtain rfl : ad247 = ad256 := (by injection e256)
                                               replace hx256_0 := (HB.out.cell (World.block_lt_of_cell? w _ hx256_0)).trans hx256_0
                                               have HR256_0 := Aside0.mk hi256_0
                                               have HC256_0 := Aside0.mk hl256_0
                                               clear hi256_0 hl256_0
                                               replace p256 := eq_true p256
                                               replace q256 := eq_true q256
                                               have p257 : 0 ≤ (x93_6 : Int) := of_decide_eq_true (by first | (with_reducible assumption) | assumption)
                                               have q257 : x93_6 < ((rd_L1 l0_1 x70_5).length : Int) := of_decide_eq_true (by first | (with_reducible assumption) | assumption)
                                               obtain ⟨ad257, e257, hx257_0⟩ := Kd.at_int HR256_0.out x93_6 p257 q257
                                               cases e257
                                               replace hx257_0 := (HB.out.cell (World.block_lt_of_cell? w _ hx257_0)).trans hx257_0
                                               replace p257 := eq_true p257
                                               replace q257 := eq_true q257
                                               have p258 : 0 ≤ ((rd (rd_L1 l0_1 x70_5) x93_6) : Int) := of_decide_eq_true (by first | (with_reducible assumption) | assumption)
                                               have q258 : (rd (rd_L1 l0_1 x70_5) x93_6) < ((rd_L1 l0_1 x43_3).length : Int) := of_decide_eq_true (by first | (with_reducible assumption) | assumption)
                                               obtain ⟨ad258, e258, hx258_0⟩ := Kd.at_int HR255_0.out (rd (rd_L1 l0_1 x70_5) x93_6) p258 q258
                                               cases e258
                                               replace hx258_0 := (HB.out.cell (World.block_lt_of_cell? w _ hx258_0)).trans hx258_0
                                               replace p258 := eq_true p258
                                               replace q258 := eq_true q258
                                               have p259 : 0 ≤ (x43_3 : Int) := of_decide_eq_true (by first | (with_reducible assumption) | assumption)
                                               have q259 : x43_3 < (l0_1.length : Int) := of_decide_eq_true (by first | (with_reducible assumption) | assumption)
                                               obtain ⟨ad259, A259_0, c259_0, e259, hx259_0, hl259_0, hi259_0⟩ := at_L1 HR0_1.out x43_3 p259 q259
                                               obtain rfl : ad247 = ad259 := (by injection e259)
                                               replace hx259_0 := (HB.out.cell (World.block_lt_of_cell? w _ hx259_0)).trans hx259_0
                                               have HR259_0 := Aside0.mk hi259_0
                                               have HC259_0 := Aside0.mk hl259_0
                                               clear hi259_0 hl259_0
                                               replace p259 := eq_true p259
                                               replace q259 := eq_true q259
                                               have ea_ := Option.some.inj (hx251_0.symm.trans hx259_0)
                                               injection ea_ with ea_ en_ ec_
                                               subst ea_
                                               subst ec_
                                               clear en_
                                               have p261 : 0 ≤ (t260 : Int) := of_decide_eq_true (by first | (with_reducible assumption) | assumption)
                                               have q261 : t260 < ((rd_L1 l0_1 x43_3).length : Int) := of_decide_eq_true (by first | (with_reducible assumption) | assumption)
                                               obtain ⟨ad261, e261, hx261_0⟩ := Kd.at_int HR259_0.out t260 p261 q261
                                               cases e261
                                               replace hx261_0 := (HB.out.cell (World.block_lt_of_cell? w _ hx261_0)).trans hx261_0
                                               replace p261 := eq_true p261
                                               replace q261 := eq_true q261
                                               have p262 : 0 ≤ (x43_3 : Int) := of_decide_eq_true (by first | (with_reducible assumption) | assumption)
                                               have q262 : x43_3 < (l0_1.length : Int) := of_decide_eq_true (by first | (with_reducible assumption) | assumption)
                                               obtain ⟨ad262, A262_0, c262_0, e262, hx262_0, hl262_0, hi262_0⟩ := at_L1 HR0_1.out x43_3 p262 q262
                                               obtain rfl : ad247 = ad262 := (by injection e262)
                                               replace hx262_0 := (HB.out.cell (World.block_lt_of_cell? w _ hx262_0)).trans hx262_0
                                               have HR262_0 := Aside0.mk hi262_0
                                               have HC262_0 := Aside0.mk hl262_0
                                               clear hi262_0 hl262_0
                                               replace p262 := eq_true p262
                                               replace q262 := eq_true q262
                                               have ea_ := Option.some.inj (hx251_0.symm.trans hx262_0)
                                               injection ea_ with ea_ en_ ec_
                                               subst ea_
                                               subst ec_
                                               clear en_
                                               have p263 : 0 ≤ (x70_5 : Int) := of_decide_eq_true (by first | (with_reducible assumption) | assumption)
                                               have q263 : x70_5 < ((rd_L1 l0_1 x43_3).length : Int) := of_decide_eq_true (by first | (with_reducible assumption) | assumption)
                                               obtain ⟨ad263, e263, hx263_0⟩ := Kd.at_int HR262_0.out x70_5 p263 q263
                                               cases e263
                                               replace hx263_0 := (HB.out.cell (World.block_lt_of_cell? w _ hx263_0)).trans hx263_0
                                               replace p263 := eq_true p263
                                               replace q263 := eq_true q263
                                               have p264 : 0 ≤ (x43_3 : Int) := of_decide_eq_true (by first | (with_reducible assumption) | assumption)
                                               have q264 : x43_3 < (l0_1.length : Int) := of_decide_eq_true (by first | (with_reducible assumption) | assumption)
                                               obtain ⟨ad264, A264_0, c264_0, e264, hx264_0, hl264_0, hi264_0⟩ := at_L1 HR0_1.out x43_3 p264 q264
                                               obtain rfl : ad247 = ad264 := (by injection e264)
                                               replace hx264_0 := (HB.out.cell (World.block_lt_of_cell? w _ hx264_0)).trans hx264_0
                                               have HR264_0 := Aside0.mk hi264_0
                                               have HC264_0 := Aside0.mk hl264_0
                                               clear hi264_0 hl264_0
                                               replace p264 := eq_true p264
                                               replace q264 := eq_true q264
                                               have ea_ := Option.some.inj (hx251_0.symm.trans hx264_0)
                                               have p265 : 0 ≤ (x93_6 : Int) := of_decide_eq_true (by first | (with_reducible assumption) | assumption)
                                               have q265 : x93_6 < ((rd_L1 l0_1 x43_3).length : Int) := of_decide_eq_true (by first | (with_reducible assumption) | assumption)
                                               obtain ⟨ad265, e265, hx265_0⟩ := Kd.at_int HR264_0.out x93_6 p265 q265
                                               cases e265
                                               replace hx265_0 := (HB.out.cell (World.block_lt_of_cell? w _ hx265_0)).trans hx265_0
                                               replace p265 := eq_true p265
                                               replace q265 := eq_true q265
                                               as_aux_lemma =>
                                                go_wp2_with (first | (go_at_call 65; (with_reducible refine (impl_join.calls k6 _ _ l0_0 x70_5 x93_6 t260 _ ?side1 ?side2 A74.out).mono ?_); (case side1 => repeat (first | exact (Kd.C_below HR0_0.out HB.out) | (with_reducible refine Kd.C_alloc ?_ _) | (with_reducible refine Kd.C_drewN ?_ _) | (with_reducible refine Kd.C_drew ?_))); (case side2 => exact HC0_0.out); rintro e w' ⟨rfl, ⟨nd, rfl⟩⟩; (try first | exact ⟨rfl, _, World.drewN_drewN _ _ _⟩ | exact ⟨rfl, _, Eq.trans (World.drewN_drewN _ _ _) (congrArg (World.drewN _) (Nat.add_assoc _ _ _))⟩)) | (go_at_call 65; (with_reducible refine (impl_join.calls k6 _ _ l0_0 (rd (rd_L1 l0_1 x43_3) x70_5) (rd (rd_L1 l0_1 x43_3) x93_6) t266 _ ?side1 ?side2 A78.out).mono ?_); (case side1 => repeat (first | exact (Kd.C_below HR0_0.out (by repeat (first | (with_reducible first | exact HB.out | apply below_alloc | apply pw_below_drewN | apply below_drew1 | refine below_set ?_ GE238.out | refine below_set ?_ GE239.out) | exact HB.out))) | (with_reducible refine Kd.C_alloc ?_ _) | (with_reducible refine Kd.C_drewN ?_ _) | (with_reducible refine Kd.C_drew ?_))); (case side2 => exact HC0_0.out); rintro e w' ⟨rfl, ⟨nd, rfl⟩⟩; (try first | exact ⟨rfl, _, World.drewN_drewN _ _ _⟩ | exact ⟨rfl, _, Eq.trans (World.drewN_drewN _ _ _) (congrArg (World.drewN _) (Nat.add_assoc _ _ _))⟩)))
                                                repeat ((refine wp_region_quiet_lit ?_ ?_ ?_; kernel_rfl; kernel_rfl; (repeat (first | go_big_quiet_step (first | (go_at_call 65; (with_reducible refine (impl_join.calls k6 _ _ l0_0 x70_5 x93_6 t260 _ ?side1 ?side2 A74.out).mono ?_); (case side1 => repeat (first | exact (Kd.C_below HR0_0.out HB.out) | (with_reducible refine Kd.C_alloc ?_ _) | (with_reducible refine Kd.C_drewN ?_ _) | (with_reducible refine Kd.C_drew ?_))); (case side2 => exact HC0_0.out); rintro e w' ⟨rfl, ⟨nd, rfl⟩⟩; (try first | exact ⟨rfl, _, World.drewN_drewN _ _ _⟩ | exact ⟨rfl, _, Eq.trans (World.drewN_drewN _ _ _) (congrArg (World.drewN _) (Nat.add_assoc _ _ _))⟩)) | (go_at_call 65; (with_reducible refine (impl_join.calls k6 _ _ l0_0 (rd (rd_L1 l0_1 x43_3) x70_5) (rd (rd_L1 l0_1 x43_3) x93_6) t266 _ ?side1 ?side2 A78.out).mono ?_); (case side1 => repeat (first | exact (Kd.C_below HR0_0.out (by repeat (first | (with_reducible first | exact HB.out | apply below_alloc | apply pw_below_drewN | apply below_drew1 | refine below_set ?_ GE238.out | refine below_set ?_ GE239.out) | exact HB.out))) | (with_reducible refine Kd.C_alloc ?_ _) | (with_reducible refine Kd.C_drewN ?_ _) | (with_reducible refine Kd.C_drew ?_))); (case side2 => exact HC0_0.out); rintro e w' ⟨rfl, ⟨nd, rfl⟩⟩; (try first | exact ⟨rfl, _, World.drewN_drewN _ _ _⟩ | exact ⟨rfl, _, Eq.trans (World.drewN_drewN _ _ _) (congrArg (World.drewN _) (Nat.add_assoc _ _ _))⟩))) | (refine wpQuiet_step (fun K hK => ?_); go_simp; refine hK _ ?_; clear hK K))); refine wpQuiet_nil ?_; intro _ hw'; obtain ⟨nq, hw''⟩ := hw'; subst hw''); try go_wp2_with (first | (go_at_call 65; (with_reducible refine (impl_join.calls k6 _ _ l0_0 x70_5 x93_6 t260 _ ?side1 ?side2 A74.out).mono ?_); (case side1 => repeat (first | exact (Kd.C_below HR0_0.out HB.out) | (with_reducible refine Kd.C_alloc ?_ _) | (with_reducible refine Kd.C_drewN ?_ _) | (with_reducible refine Kd.C_drew ?_))); (case side2 => exact HC0_0.out); rintro e w' ⟨rfl, ⟨nd, rfl⟩⟩; (try first | exact ⟨rfl, _, World.drewN_drewN _ _ _⟩ | exact ⟨rfl, _, Eq.trans (World.drewN_drewN _ _ _) (congrArg (World.drewN _) (Nat.add_assoc _ _ _))⟩)) | (go_at_call 65; (with_reducible refine (impl_join.calls k6 _ _ l0_0 (rd (rd_L1 l0_1 x43_3) x70_5) (rd (rd_L1 l0_1 x43_3) x93_6) t266 _ ?side1 ?side2 A78.out).mono ?_); (case side1 => repeat (first | exact (Kd.C_below HR0_0.out (by repeat (first | (with_reducible first | exact HB.out | apply below_alloc | apply pw_below_drewN | apply below_drew1 | refine below_set ?_ GE238.out | refine below_set ?_ GE239.out) | exact HB.out))) | (with_reducible refine Kd.C_alloc ?_ _) | (with_reducible refine Kd.C_drewN ?_ _) | (with_reducible refine Kd.C_drew ?_))); (case side2 => exact HC0_0.out); rintro e w' ⟨rfl, ⟨nd, rfl⟩⟩; (try first | exact ⟨rfl, _, World.drewN_drewN _ _ _⟩ | exact ⟨rfl, _, Eq.trans (World.drewN_drewN _ _ _) (congrArg (World.drewN _) (Nat.add_assoc _ _ _))⟩))))
                                                go_ret
                                                exact ⟨by first | rfl | (simp [errW_none, errW_some] <;> rfl) | (simp [*, errW_none, errW_some] <;> rfl), by repeat (first | (with_reducible first | exact HB.out | apply below_alloc | apply pw_below_drewN | apply below_drew1 | refine below_set ?_ GE238.out | refine below_set ?_ GE239.out) | exact HB.out)⟩
                                             ·rw [if_neg c77] at H
                                              exact absurd H (by simp)
                                            ·rw [if_neg c76] at H
                                             exact absurd H (by simp)
                                           ·rw [if_neg c75] at H
                                            exact absurd H (by simp)
                                          ·rw [if_neg c73] at H
                                           have c73b0 : ((rd (rd_L1 l0_1 (rd (rd_L1 l0_1 x43_3) x70_5)) x93_6) == (rd (rd_L1 l0_1 x43_3) (rd (rd_L1 l0_1 x70_5) x93_6))) = false := beq_eq_false_iff_ne.mpr c73
                                           have c73b1 : ((rd (rd_L1 l0_1 (rd (rd_L1 l0_1 x43_3) x70_5)) x93_6) != (rd (rd_L1 l0_1 x43_3) (rd (rd_L1 l0_1 x70_5) x93_6))) = true := bne_iff_ne.mpr c73
                                           obtain rfl := Option.some.inj H
                                           have hnb84 := NB238_239.out
                                           have hnc84 := NB239_238.out
                                           have hcz85_0 : wr.cell? ⟨gb238, 0, none⟩ = some (.slice A0_0 l0_0.length c0_0) := (blk_cell BK238.out 0).trans rfl
                                           have hcz85_1 : wr.cell? ⟨gb238, 1, none⟩ = some (.slice (some ad247) l0_1.length c0_1) := (blk_cell BK238.out 1).trans rfl
                                           have hfz85_0 := blk_frozen BK238.out 0
                                           have hfz85_1 := blk_frozen BK238.out 1
                                           have p251 : 0 ≤ (x43_3 : Int) := of_decide_eq_true (by first | (with_reducible assumption) | assumption)
                                           have q251 : x43_3 < (l0_1.length : Int) := of_decide_eq_true (by first | (with_reducible assumption) | assumption)
                                           obtain ⟨ad251, A251_0, c251_0, e251, hx251_0, hl251_0, hi251_0⟩ := at_L1 HR0_1.out x43_3 p251 q251
                                           obtain rfl : ad247 = ad251 := (by injection e251)
                                           replace hx251_0 := (HB.out.cell (World.block_lt_of_cell? w _ hx251_0)).trans hx251_0
                                           have HR251_0 := Aside0.mk hi251_0
                                           have HC251_0 := Aside0.mk hl251_0
                                           clear hi251_0 hl251_0
                                           replace p251 := eq_true p251
                                           replace q251 := eq_true q251
                                           have p252 : 0 ≤ (x70_5 : Int) := of_decide_eq_true (by first | (with_reducible assumption) | assumption)
                                           have q252 : x70_5 < ((rd_L1 l0_1 x43_3).length : Int) := of_decide_eq_true (by first | (with_reducible assumption) | assumption)
                                           obtain ⟨ad252, e252, hx252_0⟩ := Kd.at_int HR251_0.out x70_5 p252 q252
                                           cases e252
                                           replace hx252_0 := (HB.out.cell (World.block_lt_of_cell? w _ hx252_0)).trans hx252_0
                                           replace p252 := eq_true p252
                                           replace q252 := eq_true q252
                                           have p253 : 0 ≤ ((rd (rd_L1 l0_1 x43_3) x70_5) : Int) := of_decide_eq_true (by first | (with_reducible assumption) | assumption)
                                           have q253 : (rd (rd_L1 l0_1 x43_3) x70_5) < (l0_1.length : Int) := of_decide_eq_true (by first | (with_reducible assumption) | assumption)
                                           obtain ⟨ad253, A253_0, c253_0, e253, hx253_0, hl253_0, hi253_0⟩ := at_L1 HR0_1.out (rd (rd_L1 l0_1 x43_3) x70_5) p253 q253
                                           obtain rfl : ad247 = ad253 := (by injection e253)
                                           replace hx253_0 := (HB.out.cell (World.block_lt_of_cell? w _ hx253_0)).trans hx253_0
                                           have HR253_0 := Aside0.mk hi253_0
                                           have HC253_0 := Aside0.mk hl253_0
                                           clear hi253_0 hl253_0
                                           replace p253 := eq_true p253
                                           replace q253 := eq_true q253
                                           have p254 : 0 ≤ (x93_6 : Int) := of_decide_eq_true (by first | (with_reducible assumption) | assumption)
                                           have q254 : x93_6 < ((rd_L1 l0_1 (rd (rd_L1 l0_1 x43_3) x70_5)).length : Int) := of_decide_eq_true (by first | (with_reducible assumption) | assumption)
                                           obtain ⟨ad254, e254, hx254_0⟩ := Kd.at_int HR253_0.out x93_6 p254 q254
                                           cases e254
                                           replace hx254_0 := (HB.out.cell (World.block_lt_of_cell? w _ hx254_0)).trans hx254_0
                                           replace p254 := eq_true p254
                                           replace q254 := eq_true q254
                                           have p255 : 0 ≤ (x43_3 : Int) := of_decide_eq_true (by first | (with_reducible assumption) | assumption)
                                           have q255 : x43_3 < (l0_1.length : Int) := of_decide_eq_true (by first | (with_reducible assumption) | assumption)
                                           obtain ⟨ad255, A255_0, c255_0, e255, hx255_0, hl255_0, hi255_0⟩ := at_L1 HR0_1.out x43_3 p255 q255
                                           obtain rfl : ad247 = ad255 := (by injection e255)
                                           replace hx255_0 := (HB.out.cell (World.block_lt_of_cell? w _ hx255_0)).trans hx255_0
                                           have HR255_0 := Aside0.mk hi255_0
                                           have HC255_0 := Aside0.mk hl255_0
                                           clear hi255_0 hl255_0
                                           replace p255 := eq_true p255
                                           replace q255 := eq_true q255
                                           have ea_ := Option.some.inj (hx251_0.symm.trans hx255_0)
                                           injection ea_ with ea_ en_ ec_
                                           subst ea_
                                           subst ec_
                                           clear en_
                                           have p256 : 0 ≤ (x70_5 : Int) := of_decide_eq_true (by first | (with_reducible assumption) | assumption)
                                           have q256 : x70_5 < (l0_1.length : Int) := of_decide_eq_true (by first | (with_reducible assumption) | assumption)
                                           obtain ⟨ad256, A256_0, c256_0, e256, hx256_0, hl256_0, hi256_0⟩ := at_L1 HR0_1.out x70_5 p256 q256
                                           obtain rfl : ad247 = ad256 := (by injection e256)
                                           replace hx256_0 := (HB.out.cell (World.block_lt_of_cell? w _ hx256_0)).trans hx256_0
                                           have HR256_0 := Aside0.mk hi256_0
                                           have HC256_0 := Aside0.mk hl256_0
                                           clear hi256_0 hl256_0
                                           replace p256 := eq_true p256
                                           replace q256 := eq_true q256
                                           have p257 : 0 ≤ (x93_6 : Int) := of_decide_eq_true (by first | (with_reducible assumption) | assumption)
                                           have q257 : x93_6 < ((rd_L1 l0_1 x70_5).length : Int) := of_decide_eq_true (by first | (with_reducible assumption) | assumption)
                                           obtain ⟨ad257, e257, hx257_0⟩ := Kd.at_int HR256_0.out x93_6 p257 q257
                                           cases e257
                                           replace hx257_0 := (HB.out.cell (World.block_lt_of_cell? w _ hx257_0)).trans hx257_0
                                           replace p257 := eq_true p257
                                           replace q257 := eq_true q257
                                           have p258 : 0 ≤ ((rd (rd_L1 l0_1 x70_5) x93_6) : Int) := of_decide_eq_true (by first | (with_reducible assumption) | assumption)
                                           have q258 : (rd (rd_L1 l0_1 x70_5) x93_6) < ((rd_L1 l0_1 x43_3).length : Int) := of_decide_eq_true (by first | (with_reducible assumption) | assumption)
                                           obtain ⟨ad258, e258, hx258_0⟩ := Kd.at_int HR255_0.out (rd (rd_L1 l0_1 x70_5) x93_6) p258 q258
                                           cases e258
                                           replace hx258_0 := (HB.out.cell (World.block_lt_of_cell? w _ hx258_0)).trans hx258_0
                                           replace p258 := eq_true p258
                                           replace q258 := eq_true q258
                                           as_aux_lemma =>
                                            go_wp2
                                            repeat ((refine wp_region_quiet_lit ?_ ?_ ?_; kernel_rfl; kernel_rfl; (repeat (first | go_big_quiet_step (fail) | (refine wpQuiet_step (fun K hK => ?_); go_simp; refine hK _ ?_; clear hK K))); refine wpQuiet_nil ?_; intro _ hw'; obtain ⟨nq, hw''⟩ := hw'; subst hw''); try go_wp2)
                                            go_ret
                                            exact ⟨by first | rfl | (simp [errW_none, errW_some] <;> rfl) | (simp [*, errW_none, errW_some] <;> rfl), by repeat (first | (with_reducible first | exact HB.out | apply below_alloc | apply pw_below_drewN | apply below_drew1 | refine below_set ?_ GE238.out | refine below_set ?_ GE239.out) | exact HB.out)⟩
                                         ·rw [if_neg c72] at H
                                          exact absurd H (by simp)
                                        ·rw [if_neg c71] at H
                                         exact absurd H (by simp)
                                       ·rw [if_neg c70] at H
                                        exact absurd H (by simp)
                                      ·rw [if_neg c69] at H
                                       exact absurd H (by simp)
                                     ·rw [if_neg c68] at H
                                      exact absurd H (by simp)
                                    ·rw [if_neg c67] at H
                                     exact absurd H (by simp)
                                   ·rw [if_neg c66] at H
                                    exact absurd H (by simp)
                                  ·rw [if_neg c65] at H
                                   exact absurd H (by simp)
                                 ·rw [if_neg c64] at H
                                  exact absurd H (by simp)
                                ·rw [if_neg c63] at H
                                 exact absurd H (by simp)
                               ·rw [if_neg c62] at H
                                exact absurd H (by simp)
                              ·rw [if_neg c61] at H
                               exact absurd H (by simp)
                             ·rw [if_neg c60] at H
                              have c60b0 : decide (x93_6 < (l0_0.length : Int)) = false := decide_eq_false c60
                              clear c60
                              have H' := Aside0.mk H
                              clear H
                              as_aux_lemma =>
                               go_wp2
                               repeat ((refine wp_region_quiet_lit ?_ ?_ ?_; kernel_rfl; kernel_rfl; (repeat (first | go_big_quiet_step (fail) | (refine wpQuiet_step (fun K hK => ?_); go_simp; refine hK _ ?_; clear hK K))); refine wpQuiet_nil ?_; intro _ hw'; obtain ⟨nq, hw''⟩ := hw'; subst hw''); try go_wp2)
                               go_roundg k6
                               case measure => have := HJ1.out; have := HK2.out; have := HK3.out; have := HJ32.out; have := HK5.out; have := HK6.out; omega
                               case rel => exact ⟨(wrap64 (x70_5 + 1)), (by first | rfl | (simp; done) | (simp [*]; done)), H', ⟨by have := HJ1.out; have := HK2.out; have := HK3.out; have := HJ32.out; have := HK5.out; have := HK6.out; omega⟩, ⟨by (with_reducible repeat (first | refine blk_drewN ?_ _ | refine blk_drew ?_ | refine blk_alloc ?_ _)); exact BK238.out⟩, ⟨by (with_reducible repeat (first | refine blk_drewN ?_ _ | refine blk_drew ?_ | refine blk_alloc ?_ _)); exact BK239.out⟩, ⟨by repeat (first | (with_reducible first | exact HB.out | apply below_alloc | apply pw_below_drewN | apply below_drew1 | refine below_set ?_ GE238.out | refine below_set ?_ GE239.out) | exact HB.out)⟩⟩
                         ·rw [if_neg c57] at H
                          have c57b0 : ((rd (rd_L1 l0_1 x43_3) x70_5) == (rd (rd_L1 l0_1 x70_5) x43_3)) = false := beq_eq_false_iff_ne.mpr c57
                          have c57b1 : ((rd (rd_L1 l0_1 x43_3) x70_5) != (rd (rd_L1 l0_1 x70_5) x43_3)) = true := bne_iff_ne.mpr c57
                          obtain rfl := Option.some.inj H
                          have hnb86 := NB238_239.out
                          have hnc86 := NB239_238.out
                          have hcz87_0 : wr.cell? ⟨gb238, 0, none⟩ = some (.slice A0_0 l0_0.length c0_0) := (blk_cell BK238.out 0).trans rfl
                          have hcz87_1 : wr.cell? ⟨gb238, 1, none⟩ = some (.slice A0_1 l0_1.length c0_1) := (blk_cell BK238.out 1).trans rfl
                          have hfz87_0 := blk_frozen BK238.out 0
                          have hfz87_1 := blk_frozen BK238.out 1
                          have p247 : 0 ≤ (x43_3 : Int) := of_decide_eq_true (by first | (with_reducible assumption) | assumption)
                          have q247 : x43_3 < (l0_1.length : Int) := of_decide_eq_true (by first | (with_reducible assumption) | assumption)
                          obtain ⟨ad247, A247_0, c247_0, e247, hx247_0, hl247_0, hi247_0⟩ := at_L1 HR0_1.out x43_3 p247 q247
                          cases e247
                          replace hx247_0 := (HB.out.cell (World.block_lt_of_cell? w _ hx247_0)).trans hx247_0
                          have HR247_0 := Aside0.mk hi247_0
                          have HC247_0 := Aside0.mk hl247_0
                          clear hi247_0 hl247_0
                          replace p247 := eq_true p247
                          replace q247 := eq_true q247
                          have p248 : 0 ≤ (x70_5 : Int) := of_decide_eq_true (by first | (with_reducible assumption) | assumption)
                          have q248 : x70_5 < ((rd_L1 l0_1 x43_3).length : Int) := of_decide_eq_true (by first | (with_reducible assumption) | assumption)
                          obtain ⟨ad248, e248, hx248_0⟩ := Kd.at_int HR247_0.out x70_5 p248 q248
                          cases e248
                          replace hx248_0 := (HB.out.cell (World.block_lt_of_cell? w _ hx248_0)).trans hx248_0
                          replace p248 := eq_true p248
                          replace q248 := eq_true q248
                          have p249 : 0 ≤ (x70_5 : Int) := of_decide_eq_true (by first | (with_reducible assumption) | assumption)
                          have q249 : x70_5 < (l0_1.length : Int) := of_decide_eq_true (by first | (with_reducible assumption) | assumption)
                          obtain ⟨ad249, A249_0, c249_0, e249, hx249_0, hl249_0, hi249_0⟩ := at_L1 HR0_1.out x70_5 p249 q249
                          obtain rfl : ad247 = ad249 := (by injection e249)
                          replace hx249_0 := (HB.out.cell (World.block_lt_of_cell? w _ hx249_0)).trans hx249_0
                          have HR249_0 := Aside0.mk hi249_0
                          have HC249_0 := Aside0.mk hl249_0
                          clear hi249_0 hl249_0
                          replace p249 := eq_true p249
                          replace q249 := eq_true q249
                          have p250 : 0 ≤ (x43_3 : Int) := of_decide_eq_true (by first | (with_reducible assumption) | assumption)
                          have q250 : x43_3 < ((rd_L1 l0_1 x70_5).length : Int) := of_decide_eq_true (by first | (with_reducible assumption) | assumption)
                          obtain ⟨ad250, e250, hx250_0⟩ := Kd.at_int HR249_0.out x43_3 p250 q250
                          cases e250
                          replace hx250_0 := (HB.out.cell (World.block_lt_of_cell? w _ hx250_0)).trans hx250_0
                          replace p250 := eq_true p250
                          replace q250 := eq_true q250
                          as_aux_lemma =>
                           go_wp2
                           repeat ((refine wp_region_quiet_lit ?_ ?_ ?_; kernel_rfl; kernel_rfl; (repeat (first | go_big_quiet_step (fail) | (refine wpQuiet_step (fun K hK => ?_); go_simp; refine hK _ ?_; clear hK K))); refine wpQuiet_nil ?_; intro _ hw'; obtain ⟨nq, hw''⟩ := hw'; subst hw''); try go_wp2)
                           go_ret
                           exact ⟨by first | rfl | (simp [errW_none, errW_some] <;> rfl) | (simp [*, errW_none, errW_some] <;> rfl), by repeat (first | (with_reducible first | exact HB.out | apply below_alloc | apply pw_below_drewN | apply below_drew1 | refine below_set ?_ GE238.out | refine below_set ?_ GE239.out) | exact HB.out)⟩
                        ·rw [if_neg c56] at H
                         exact absurd H (by simp)
                       ·rw [if_neg c55] at H
                        exact absurd H (by simp)
                      ·rw [if_neg c54] at H
                       exact absurd H (by simp)
                     ·rw [if_neg c53] at H
                      exact absurd H (by simp)
                    ·rw [if_neg c52] at H
                     exact absurd H (by simp)
                   ·rw [if_neg c51] at H
                    exact absurd H (by simp)
                  ·rw [if_neg c50] at H
                   have c50b0 : decide (x70_5 < (l0_0.length : Int)) = false := decide_eq_false c50
                   clear c50
                   have H' := Aside0.mk H
                   clear H
                   as_aux_lemma =>
                    go_wp2
                    repeat ((refine wp_region_quiet_lit ?_ ?_ ?_; kernel_rfl; kernel_rfl; (repeat (first | go_big_quiet_step (fail) | (refine wpQuiet_step (fun K hK => ?_); go_simp; refine hK _ ?_; clear hK K))); refine wpQuiet_nil ?_; intro _ hw'; obtain ⟨nq, hw''⟩ := hw'; subst hw''); try go_wp2)
                    go_roundg k5
                    case measure => have := HJ1.out; have := HK2.out; have := HK3.out; have := HJ32.out; have := HK5.out; omega
                    case rel => exact ⟨(wrap64 (x43_3 + 1)), (by first | rfl | (simp; done) | (simp [*]; done)), H', ⟨by have := HJ1.out; have := HK2.out; have := HK3.out; have := HJ32.out; have := HK5.out; omega⟩, ⟨by (with_reducible repeat (first | refine blk_drewN ?_ _ | refine blk_drew ?_ | refine blk_alloc ?_ _)); exact BK238.out⟩, ⟨by (with_reducible repeat (first | refine blk_drewN ?_ _ | refine blk_drew ?_ | refine blk_alloc ?_ _)); exact BK239.out⟩, ⟨by repeat (first | (with_reducible first | exact HB.out | apply below_alloc | apply pw_below_drewN | apply below_drew1 | refine below_set ?_ GE238.out | refine below_set ?_ GE239.out) | exact HB.out)⟩⟩
           ·rw [if_neg c32] at H
            have c32b0 : decide (x43_3 < (l0_0.length : Int)) = false := decide_eq_false c32
            clear c32
            obtain rfl := Option.some.inj H
            as_aux_lemma =>
             go_wp2
             repeat ((refine wp_region_quiet_lit ?_ ?_ ?_; kernel_rfl; kernel_rfl; (repeat (first | go_big_quiet_step (fail) | (refine wpQuiet_step (fun K hK => ?_); go_simp; refine hK _ ?_; clear hK K))); refine wpQuiet_nil ?_; intro _ hw'; obtain ⟨nq, hw''⟩ := hw'; subst hw''); try go_wp2)
             go_ret
             exact ⟨by first | rfl | (simp [errW_none, errW_some] <;> rfl) | (simp [*, errW_none, errW_some] <;> rfl), by repeat (first | (with_reducible first | exact HB.out | apply below_alloc | apply pw_below_drewN | apply below_drew1 | refine below_set ?_ GE238.out | refine below_set ?_ GE239.out) | exact HB.out)⟩

end Go.Proofs.Ytomapoenndlbiaa.P

-- shrunk
