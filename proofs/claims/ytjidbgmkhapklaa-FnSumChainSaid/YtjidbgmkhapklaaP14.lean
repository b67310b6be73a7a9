-- Printed by this session's wip/print2.py (the kit's print.py, widened) out of the translation. Lean checks it.
import Derived.Test.YtjidbgmkhapklaaP0
import Derived.Test.YtjidbgmkhapklaaP11
import Derived.Test.YtjidbgmkhapklaaP12
import Derived.Test.YtjidbgmkhapklaaP13
namespace Go.Proofs.Ytjidbgmkhapklaa.P
open Go.RowKit Go.Proofs.YtjidbgmkhapklaaW.PrintWords Go.Proofs.YtjidbgmkhapklaaW.PrintLast Go.Proofs.YtjidbgmkhapklaaW.PrintMore
attribute [local go_sem] max2_int min2_int max_two min_two max_three min_three max_four min_four   -- for this text's walks alone
set_option linter.unusedVariables false
set_option linter.unusedSimpArgs false

/-! ### impl_ValidAlgebra: function 33 -/
mutual
def impl_ValidAlgebra.j0 : Nat → Bool → List Int → List (List Int) → Int → Option (Bool)
 | 0, _, _, _, _ => none
 | k + 1, x22, x188000, x188001, x189000 => if x22 = true then (some false) else (impl_ValidAlgebra.l0 k x188001 (x188001.length : Int) 0 x188000 x188001 x189000)
def impl_ValidAlgebra.l0 : Nat → List (List Int) → Int → Int → List Int → List (List Int) → Int → Option (Bool)
 | 0, _, _, _, _, _, _ => none
 | k + 1, x24, x25, x26, x188000, x188001, x189000 => if x26 < x25 then (if 0 ≤ x26 then (if x26 < (x24.length : Int) then (if ((rd_L1 x24 x26).length : Int) = x189000 then ((cf_ValidAlgebra_1.f (rd_L1 x24 x26) x189000).bind fun t191 => (if t191 = true then (some false) else (impl_ValidAlgebra.l0 k x24 x25 (wrap64 (x26 + 1)) x188000 x188001 x189000))) else (some false)) else (none)) else (none)) else (impl_ValidAlgebra.l1 k (x188000.length : Int) 0 x188000 x188001 x189000)
def impl_ValidAlgebra.l1 : Nat → Int → Int → List Int → List (List Int) → Int → Option (Bool)
 | 0, _, _, _, _, _ => none
 | k + 1, x42, x43, x188000, x188001, x189000 => if x43 < x42 then (if 0 ≤ x43 then (if x43 < (x188001.length : Int) then (if 0 ≤ (wrap64 (x189000 - 1)) then (if (wrap64 (x189000 - 1)) < ((rd_L1 x188001 x43).length : Int) then (if (rd (rd_L1 x188001 x43) (wrap64 (x189000 - 1))) = x43 then (if 0 < ((rd_L1 x188001 x43).length : Int) then (impl_ValidAlgebra.j3 k x43 x42 x43 ((rd (rd_L1 x188001 x43) 0) != 0) x188000 x188001 x189000) else (none)) else (impl_ValidAlgebra.j3 k x43 x42 x43 true x188000 x188001 x189000)) else (none)) else (none)) else (none)) else (none)) else (some true)
def impl_ValidAlgebra.j3 : Nat → Int → Int → Int → Bool → List Int → List (List Int) → Int → Option (Bool)
 | 0, _, _, _, _, _, _, _ => none
 | k + 1, x6, x42, x43, x66, x188000, x188001, x189000 => if x66 = true then (some false) else (impl_ValidAlgebra.l2 k x6 x42 x43 (x188000.length : Int) 0 x188000 x188001 x189000)
def impl_ValidAlgebra.l2 : Nat → Int → Int → Int → Int → Int → List Int → List (List Int) → Int → Option (Bool)
 | 0, _, _, _, _, _, _, _, _ => none
 | k + 1, x6, x42, x43, x69, x70, x188000, x188001, x189000 => if x70 < x69 then (if 0 ≤ x6 then (if x6 < (x188001.length : Int) then (if 0 ≤ x70 then (if x70 < ((rd_L1 x188001 x6).length : Int) then (if x70 < (x188001.length : Int) then (if x6 < ((rd_L1 x188001 x70).length : Int) then (if (rd (rd_L1 x188001 x6) x70) = (rd (rd_L1 x188001 x70) x6) then (impl_ValidAlgebra.l3 k x6 x70 x42 x43 x69 x70 (x188000.length : Int) 0 x188000 x188001 x189000) else (some false)) else (none)) else (none)) else (none)) else (none)) else (none)) else (none)) else (impl_ValidAlgebra.l1 k x42 (wrap64 (x43 + 1)) x188000 x188001 x189000)
def impl_ValidAlgebra.l3 : Nat → Int → Int → Int → Int → Int → Int → Int → Int → List Int → List (List Int) → Int → Option (Bool)
 | 0, _, _, _, _, _, _, _, _, _, _, _ => none
 | k + 1, x6, x7, x42, x43, x69, x70, x92, x93, x188000, x188001, x189000 => if x93 < x92 then (if 0 ≤ x6 then (if x6 < (x188001.length : Int) then (if 0 ≤ x7 then (if x7 < ((rd_L1 x188001 x6).length : Int) then (if 0 ≤ (rd (rd_L1 x188001 x6) x7) then (if (rd (rd_L1 x188001 x6) x7) < (x188001.length : Int) then (if 0 ≤ x93 then (if x93 < ((rd_L1 x188001 (rd (rd_L1 x188001 x6) x7)).length : Int) then (if x7 < (x188001.length : Int) then (if x93 < ((rd_L1 x188001 x7).length : Int) then (if 0 ≤ (rd (rd_L1 x188001 x7) x93) then (if (rd (rd_L1 x188001 x7) x93) < ((rd_L1 x188001 x6).length : Int) then (if (rd (rd_L1 x188001 (rd (rd_L1 x188001 x6) x7)) x93) = (rd (rd_L1 x188001 x6) (rd (rd_L1 x188001 x7) x93)) then ((impl_join.f k x188000 x7 x93).bind fun t209 => (if 0 ≤ t209 then (if t209 < ((rd_L1 x188001 x6).length : Int) then (if x93 < ((rd_L1 x188001 x6).length : Int) then ((impl_join.f k x188000 (rd (rd_L1 x188001 x6) x7) (rd (rd_L1 x188001 x6) x93)).bind fun t215 => (if (rd (rd_L1 x188001 x6) t209) = t215 then (impl_ValidAlgebra.l3 k x6 x7 x42 x43 x69 x70 x92 (wrap64 (x93 + 1)) x188000 x188001 x189000) else (some false))) else (none)) else (none)) else (none))) else (some false)) else (none)) else (none)) else (none)) else (none)) else (none)) else (none)) else (none)) else (none)) else (none)) else (none)) else (none)) else (none)) else (impl_ValidAlgebra.l2 k x6 x42 x43 x69 (wrap64 (x70 + 1)) x188000 x188001 x189000)
end
def impl_ValidAlgebra.f (k : Nat) (l0_0 : List Int) (l0_1 : List (List Int)) : Option (Bool) := (impl_ValidLattice.f k l0_0).bind fun t189 => (if t189 = true then (impl_ValidAlgebra.j0 k ((l0_1.length : Int) != (l0_0.length : Int)) l0_0 l0_1 (l0_0.length : Int)) else (impl_ValidAlgebra.j0 k true l0_0 l0_1 (l0_0.length : Int)))
set_option maxHeartbeats 8000000 in
set_option maxRecDepth 100000 in
theorem impl_ValidAlgebra.calls (k : Nat) (A0_0 : Option Addr) (c0_0 : Nat) (l0_0 : List Int) (A0_1 : Option Addr) (c0_1 : Nat) (l0_1 : List (List Int)) (r : Bool) (w : World) (hr0_0 : Kd.C (Kd.int .i64) w A0_0 l0_0.length l0_0) (hc0_0 : l0_0.length ≤ c0_0) (hr0_1 : Kd.C (Kd.slice 3 (Kd.int .i64)) w A0_1 l0_1.length l0_1) (hc0_1 : l0_1.length ≤ c0_1) (h : impl_ValidAlgebra.f k l0_0 l0_1 = some r) :
  Calls Try.prog 33 #[.agg #[.slice A0_0 l0_0.length c0_0, .slice A0_1 l0_1.length c0_1]] w fun e w' => e = .returned (.bool r) ∧ Below w.heap.size w w' := by
 have hu25 := Try.underlying25
 have HR0_0 := Aside0.mk hr0_0
 have HC0_0 := Aside0.mk hc0_0
 clear hr0_0 hc0_0
 have HR0_1 := Aside0.mk hr0_1
 have HC0_1 := Aside0.mk hc0_1
 clear hr0_1 hc0_1
 have HB := Aside0.mk (Below.refl w.heap.size w)
 have H : ((impl_ValidLattice.f k l0_0).bind fun t189 => (if t189 = true then (impl_ValidAlgebra.j0 k ((l0_1.length : Int) != (l0_0.length : Int)) l0_0 l0_1 (l0_0.length : Int)) else (impl_ValidAlgebra.j0 k true l0_0 l0_1 (l0_0.length : Int)))) = some r := h
 clear h
 have HC2 := Aside0.mk H
 clear H
 have hmf : ∀ (fn : Fn) (first cap : Array Value) (w : World), (Instr.makeFunc fn first cap).run Try.prog w = .ok (.func fn first cap) w := fun _ _ _ _ => rfl
 go_enter Try.func33, Try.ntmps33
 go_upto_region 2 with (first | ((with_reducible refine gate_dst (N := 1) rfl ?_); (try (refine gate_guard (by rfl) ?_; dsimp only)); refine box_event ?hg (N := 1) ?hd (cs := #[.slice A0_0 l0_0.length c0_0, .slice A0_1 l0_1.length c0_1]) (t := 25) ?hr ?_; (case hd => rfl); (case hg => rfl); (case hr => first | (go_simp; done) | (go_simp; rfl)); intro gb187 hg w3 hbox hb; have n0_ := Aside0.mk (below_step (by repeat (first | (with_reducible first | exact HB.out | apply below_alloc | apply pw_below_drewN | apply below_drew1) | exact HB.out)) hb); have n1_ := Aside0.mk (hbox); have n2_ := Aside0.mk ((by rw [hg]; exact (below_size (by repeat (first | (with_reducible first | exact HB.out | apply below_alloc | apply pw_below_drewN | apply below_drew1) | exact HB.out))) : w.heap.size ≤ gb187)); have n3_ := Aside0.mk ((by rw [hg]; exact (below_size (by repeat (first | (with_reducible first | exact HB.out | apply below_alloc | apply pw_below_drewN | apply below_drew1) | exact HB.out))) : w.heap.size ≤ gb187)); clear HB; have HB := n0_; have BK187 := n1_; have GW187 := n2_; have GE187 := n3_; clear n0_ n1_ n2_ n3_; clear hb hbox hg; have hcz4_0 : w3.cell? ⟨gb187, 0, none⟩ = some (.slice A0_0 l0_0.length c0_0) := (blk_cell BK187.out 0).trans rfl; have hcz4_1 : w3.cell? ⟨gb187, 1, none⟩ = some (.slice A0_1 l0_1.length c0_1) := (blk_cell BK187.out 1).trans rfl; have hfz4_0 := blk_frozen BK187.out 0; have hfz4_1 := blk_frozen BK187.out 1) | ((with_reducible refine gate_dst (N := 3) rfl ?_); (try (refine gate_guard (by rfl) ?_; dsimp only)); refine box_event ?hg (N := 3) ?hd (cs := #[.int .i64 0]) (t := 3) ?hr ?_; (case hd => rfl); (case hg => rfl); (case hr => first | (go_simp; done) | (go_simp; rfl)); intro gb188 hg w5 hbox hb; have n0_ := Aside0.mk (blk_below (g := gb187) (o := .cells #[.slice A0_0 l0_0.length c0_0, .slice A0_1 l0_1.length c0_1] 25 (0, 0)) (by (with_reducible repeat (first | refine blk_drewN ?_ _ | refine blk_drew ?_ | refine blk_alloc ?_ _)); exact BK187.out) hb); have n1_ := Aside0.mk (below_step (by repeat (first | (with_reducible first | exact HB.out | apply below_alloc | apply pw_below_drewN | apply below_drew1 | refine below_set ?_ GE187.out) | exact HB.out)) hb); have n2_ := Aside0.mk (hbox); have n3_ := Aside0.mk ((by rw [hg]; exact (below_size (by repeat (first | (with_reducible first | exact HB.out | apply below_alloc | apply pw_below_drewN | apply below_drew1 | refine below_set ?_ GE187.out) | exact HB.out))) : w.heap.size ≤ gb188)); have n4_ := Aside0.mk ((by rw [hg]; exact (below_size (by repeat (first | (with_reducible first | exact HB.out | apply below_alloc | apply pw_below_drewN | apply below_drew1 | refine below_set ?_ GE187.out) | exact HB.out))) : w.heap.size ≤ gb188)); have n5_ := Aside0.mk ((by rw [hg]; exact Nat.ne_of_lt (blk_lt (g := gb187) (o := .cells #[.slice A0_0 l0_0.length c0_0, .slice A0_1 l0_1.length c0_1] 25 (0, 0)) (by (with_reducible repeat (first | refine blk_drewN ?_ _ | refine blk_drew ?_ | refine blk_alloc ?_ _)); exact BK187.out)) : gb187 ≠ gb188)); have n6_ := Aside0.mk ((by rw [hg]; exact Nat.ne_of_gt (blk_lt (g := gb187) (o := .cells #[.slice A0_0 l0_0.length c0_0, .slice A0_1 l0_1.length c0_1] 25 (0, 0)) (by (with_reducible repeat (first | refine blk_drewN ?_ _ | refine blk_drew ?_ | refine blk_alloc ?_ _)); exact BK187.out)) : gb188 ≠ gb187)); clear BK187; clear HB; have BK187 := n0_; have HB := n1_; have BK188 := n2_; have GW188 := n3_; have GE188 := n4_; have NB187_188 := n5_; have NB188_187 := n6_; clear n0_ n1_ n2_ n3_ n4_ n5_ n6_; clear hb hbox hg; have hnb6 := NB188_187.out; have hnc6 := NB187_188.out; have hcz7_0 : w5.cell? ⟨gb188, 0, none⟩ = some (.int .i64 0) := (blk_cell BK188.out 0).trans rfl; have hfz7_0 := blk_frozen BK188.out 0))
 repeat ((refine wp_region_quiet_lit ?_ ?_ ?_; kernel_rfl; kernel_rfl; (repeat (first | go_big_quiet_step (first | ((with_reducible refine gate_dst (N := 1) rfl ?_); (try (refine gate_guard (by rfl) ?_; dsimp only)); refine box_event ?hg (N := 1) ?hd (cs := #[.slice A0_0 l0_0.length c0_0, .slice A0_1 l0_1.length c0_1]) (t := 25) ?hr ?_; (case hd => rfl); (case hg => rfl); (case hr => first | (go_simp; done) | (go_simp; rfl)); intro gb187 hg w3 hbox hb; have n0_ := Aside0.mk (below_step (by repeat (first | (with_reducible first | exact HB.out | apply below_alloc | apply pw_below_drewN | apply below_drew1) | exact HB.out)) hb); have n1_ := Aside0.mk (hbox); have n2_ := Aside0.mk ((by rw [hg]; exact (below_size (by repeat (first | (with_reducible first | exact HB.out | apply below_alloc | apply pw_below_drewN | apply below_drew1) | exact HB.out))) : w.heap.size ≤ gb187)); have n3_ := Aside0.mk ((by rw [hg]; exact (below_size (by repeat (first | (with_reducible first | exact HB.out | apply below_alloc | apply pw_below_drewN | apply below_drew1) | exact HB.out))) : w.heap.size ≤ gb187)); clear HB; have HB := n0_; have BK187 := n1_; have GW187 := n2_; have GE187 := n3_; clear n0_ n1_ n2_ n3_; clear hb hbox hg; have hcz4_0 : w3.cell? ⟨gb187, 0, none⟩ = some (.slice A0_0 l0_0.length c0_0) := (blk_cell BK187.out 0).trans rfl; have hcz4_1 : w3.cell? ⟨gb187, 1, none⟩ = some (.slice A0_1 l0_1.length c0_1) := (blk_cell BK187.out 1).trans rfl; have hfz4_0 := blk_frozen BK187.out 0; have hfz4_1 := blk_frozen BK187.out 1) | ((with_reducible refine gate_dst (N := 3) rfl ?_); (try (refine gate_guard (by rfl) ?_; dsimp only)); refine box_event ?hg (N := 3) ?hd (cs := #[.int .i64 0]) (t := 3) ?hr ?_; (case hd => rfl); (case hg => rfl); (case hr => first | (go_simp; done) | (go_simp; rfl)); intro gb188 hg w5 hbox hb; have n0_ := Aside0.mk (blk_below (g := gb187) (o := .cells #[.slice A0_0 l0_0.length c0_0, .slice A0_1 l0_1.length c0_1] 25 (0, 0)) (by (with_reducible repeat (first | refine blk_drewN ?_ _ | refine blk_drew ?_ | refine blk_alloc ?_ _)); exact BK187.out) hb); have n1_ := Aside0.mk (below_step (by repeat (first | (with_reducible first | exact HB.out | apply below_alloc | apply pw_below_drewN | apply below_drew1 | refine below_set ?_ GE187.out) | exact HB.out)) hb); have n2_ := Aside0.mk (hbox); have n3_ := Aside0.mk ((by rw [hg]; exact (below_size (by repeat (first | (with_reducible first | exact HB.out | apply below_alloc | apply pw_below_drewN | apply below_drew1 | refine below_set ?_ GE187.out) | exact HB.out))) : w.heap.size ≤ gb188)); have n4_ := Aside0.mk ((by rw [hg]; exact (below_size (by repeat (first | (with_reducible first | exact HB.out | apply below_alloc | apply pw_below_drewN | apply below_drew1 | refine below_set ?_ GE187.out) | exact HB.out))) : w.heap.size ≤ gb188)); have n5_ := Aside0.mk ((by rw [hg]; exact Nat.ne_of_lt (blk_lt (g := gb187) (o := .cells #[.slice A0_0 l0_0.length c0_0, .slice A0_1 l0_1.length c0_1] 25 (0, 0)) (by (with_reducible repeat (first | refine blk_drewN ?_ _ | refine blk_drew ?_ | refine blk_alloc ?_ _)); exact BK187.out)) : gb187 ≠ gb188)); have n6_ := Aside0.mk ((by rw [hg]; exact Nat.ne_of_gt (blk_lt (g := gb187) (o := .cells #[.slice A0_0 l0_0.length c0_0, .slice A0_1 l0_1.length c0_1] 25 (0, 0)) (by (with_reducible repeat (first | refine blk_drewN ?_ _ | refine blk_drew ?_ | refine blk_alloc ?_ _)); exact BK187.out)) : gb188 ≠ gb187)); clear BK187; clear HB; have BK187 := n0_; have HB := n1_; have BK188 := n2_; have GW188 := n3_; have GE188 := n4_; have NB187_188 := n5_; have NB188_187 := n6_; clear n0_ n1_ n2_ n3_ n4_ n5_ n6_; clear hb hbox hg; have hnb6 := NB188_187.out; have hnc6 := NB187_188.out; have hcz7_0 : w5.cell? ⟨gb188, 0, none⟩ = some (.int .i64 0) := (blk_cell BK188.out 0).trans rfl; have hfz7_0 := blk_frozen BK188.out 0)) | (refine wpQuiet_step (fun K hK => ?_); go_simp; refine hK _ ?_; clear hK K))); refine wpQuiet_nil ?_; intro _ hw'; obtain ⟨nq, hw''⟩ := hw'; subst hw''); go_upto_region 2 with (first | ((with_reducible refine gate_dst (N := 1) rfl ?_); (try (refine gate_guard (by rfl) ?_; dsimp only)); refine box_event ?hg (N := 1) ?hd (cs := #[.slice A0_0 l0_0.length c0_0, .slice A0_1 l0_1.length c0_1]) (t := 25) ?hr ?_; (case hd => rfl); (case hg => rfl); (case hr => first | (go_simp; done) | (go_simp; rfl)); intro gb187 hg w3 hbox hb; have n0_ := Aside0.mk (below_step (by repeat (first | (with_reducible first | exact HB.out | apply below_alloc | apply pw_below_drewN | apply below_drew1) | exact HB.out)) hb); have n1_ := Aside0.mk (hbox); have n2_ := Aside0.mk ((by rw [hg]; exact (below_size (by repeat (first | (with_reducible first | exact HB.out | apply below_alloc | apply pw_below_drewN | apply below_drew1) | exact HB.out))) : w.heap.size ≤ gb187)); have n3_ := Aside0.mk ((by rw [hg]; exact (below_size (by repeat (first | (with_reducible first | exact HB.out | apply below_alloc | apply pw_below_drewN | apply below_drew1) | exact HB.out))) : w.heap.size ≤ gb187)); clear HB; have HB := n0_; have BK187 := n1_; have GW187 := n2_; have GE187 := n3_; clear n0_ n1_ n2_ n3_; clear hb hbox hg; have hcz4_0 : w3.cell? ⟨gb187, 0, none⟩ = some (.slice A0_0 l0_0.length c0_0) := (blk_cell BK187.out 0).trans rfl; have hcz4_1 : w3.cell? ⟨gb187, 1, none⟩ = some (.slice A0_1 l0_1.length c0_1) := (blk_cell BK187.out 1).trans rfl; have hfz4_0 := blk_frozen BK187.out 0; have hfz4_1 := blk_frozen BK187.out 1) | ((with_reducible refine gate_dst (N := 3) rfl ?_); (try (refine gate_guard (by rfl) ?_; dsimp only)); refine box_event ?hg (N := 3) ?hd (cs := #[.int .i64 0]) (t := 3) ?hr ?_; (case hd => rfl); (case hg => rfl); (case hr => first | (go_simp; done) | (go_simp; rfl)); intro gb188 hg w5 hbox hb; have n0_ := Aside0.mk (blk_below (g := gb187) (o := .cells #[.slice A0_0 l0_0.length c0_0, .slice A0_1 l0_1.length c0_1] 25 (0, 0)) (by (with_reducible repeat (first | refine blk_drewN ?_ _ | refine blk_drew ?_ | refine blk_alloc ?_ _)); exact BK187.out) hb); have n1_ := Aside0.mk (below_step (by repeat (first | (with_reducible first | exact HB.out | apply below_alloc | apply pw_below_drewN | apply below_drew1 | refine below_set ?_ GE187.out) | exact HB.out)) hb); have n2_ := Aside0.mk (hbox); have n3_ := Aside0.mk ((by rw [hg]; exact (below_size (by repeat (first | (with_reducible first | exact HB.out | apply below_alloc | apply pw_below_drewN | apply below_drew1 | refine below_set ?_ GE187.out) | exact HB.out))) : w.heap.size ≤ gb188)); have n4_ := Aside0.mk ((by rw [hg]; exact (below_size (by repeat (first | (with_reducible first | exact HB.out | apply below_alloc | apply pw_below_drewN | apply below_drew1 | refine below_set ?_ GE187.out) | exact HB.out))) : w.heap.size ≤ gb188)); have n5_ := Aside0.mk ((by rw [hg]; exact Nat.ne_of_lt (blk_lt (g := gb187) (o := .cells #[.slice A0_0 l0_0.length c0_0, .slice A0_1 l0_1.length c0_1] 25 (0, 0)) (by (with_reducible repeat (first | refine blk_drewN ?_ _ | refine blk_drew ?_ | refine blk_alloc ?_ _)); exact BK187.out)) : gb187 ≠ gb188)); have n6_ := Aside0.mk ((by rw [hg]; exact Nat.ne_of_gt (blk_lt (g := gb187) (o := .cells #[.slice A0_0 l0_0.length c0_0, .slice A0_1 l0_1.length c0_1] 25 (0, 0)) (by (with_reducible repeat (first | refine blk_drewN ?_ _ | refine blk_drew ?_ | refine blk_alloc ?_ _)); exact BK187.out)) : gb188 ≠ gb187)); clear BK187; clear HB; have BK187 := n0_; have HB := n1_; have BK188 := n2_; have GW188 := n3_; have GE188 := n4_; have NB187_188 := n5_; have NB188_187 := n6_; clear n0_ n1_ n2_ n3_ n4_ n5_ n6_; clear hb hbox hg; have hnb6 := NB188_187.out; have hnc6 := NB187_188.out; have hcz7_0 : w5.cell? ⟨gb188, 0, none⟩ = some (.int .i64 0) := (blk_cell BK188.out 0).trans rfl; have hfz7_0 := blk_frozen BK188.out 0)))
 (try simp only [Act.put, List.setIfInBounds_toArray, List.set_cons_zero, List.set_cons_succ])
 go_cut [22] (fun v22 wc => ∃ (kq : Nat) (x22_1 : Bool), v22 = .bool x22_1 ∧ Aside0 (impl_ValidAlgebra.j0 kq x22_1 l0_0 l0_1 (l0_0.length : Int) = some r) ∧ Aside0 (kq ≤ k) ∧ Aside0 (wc.heap[gb187]? = some (.cells #[(.slice A0_0 l0_0.length c0_0), (.slice A0_1 l0_1.length c0_1)] 25 (0, 0))) ∧ Aside0 (wc.heap[gb188]? = some (.cells #[.int .i64 (l0_0.length : Int)] 3 (0, 0))) ∧ Aside0 (Below w.heap.size w wc))
 case first =>
  have H := HC2.out
  clear HC2
  replace H := Option.bind_eq_some_iff.mp H
  obtain ⟨t189, A80, H⟩ := H
  replace H : (if t189 = true then (impl_ValidAlgebra.j0 k ((l0_1.length : Int) != (l0_0.length : Int)) l0_0 l0_1 (l0_0.length : Int)) else (impl_ValidAlgebra.j0 k true l0_0 l0_1 (l0_0.length : Int))) = some r := H
  have A8 := Aside0.mk A80
  clear A80
  by_cases c9 : t189 = true
  ·subst c9
   have H1 : (impl_ValidAlgebra.j0 k ((l0_1.length : Int) != (l0_0.length : Int)) l0_0 l0_1 (l0_0.length : Int)) = some r := by rw [if_pos rfl] at H; exact H
   clear H
   have H := H1
   clear H1
   have H' := Aside0.mk H
   clear H
   have hnb10 := NB187_188.out
   have hnc10 := NB188_187.out
   have hcz11_0 : w5.cell? ⟨gb187, 0, none⟩ = some (.slice A0_0 l0_0.length c0_0) := (blk_cell BK187.out 0).trans rfl
   have hcz11_1 : w5.cell? ⟨gb187, 1, none⟩ = some (.slice A0_1 l0_1.length c0_1) := (blk_cell BK187.out 1).trans rfl
   have hfz11_0 := blk_frozen BK187.out 0
   have hfz11_1 := blk_frozen BK187.out 1
   have hcz12_0 : w5.cell? ⟨gb188, 0, none⟩ = some (.int .i64 0) := (blk_cell BK188.out 0).trans rfl
   have hfz12_0 := blk_frozen BK188.out 0
   as_aux_lemma =>
    go_wp2_with (first | (go_at_call 45; (with_reducible refine (impl_ValidLattice.calls k _ _ l0_0 true _ ?side1 ?side2 A8.out).mono ?_); (case side1 => exact Kd.C_below HR0_0.out (by repeat (first | (with_reducible first | exact HB.out | apply below_alloc | apply pw_below_drewN | apply below_drew1 | refine below_set ?_ GE187.out | refine below_set ?_ GE188.out) | exact HB.out))); (case side2 => exact HC0_0.out); rintro e w' ⟨rfl, ⟨nd, rfl⟩⟩; (try first | exact ⟨rfl, _, World.drewN_drewN _ _ _⟩ | exact ⟨rfl, _, Eq.trans (World.drewN_drewN _ _ _) (congrArg (World.drewN _) (Nat.add_assoc _ _ _))⟩)))
    repeat ((refine wp_region_quiet_lit ?_ ?_ ?_; kernel_rfl; kernel_rfl; (repeat (first | go_big_quiet_step (first | (go_at_call 45; (with_reducible refine (impl_ValidLattice.calls k _ _ l0_0 true _ ?side1 ?side2 A8.out).mono ?_); (case side1 => exact Kd.C_below HR0_0.out (by repeat (first | (with_reducible first | exact HB.out | apply below_alloc | apply pw_below_drewN | apply below_drew1 | refine below_set ?_ GE187.out | refine below_set ?_ GE188.out) | exact HB.out))); (case side2 => exact HC0_0.out); rintro e w' ⟨rfl, ⟨nd, rfl⟩⟩; (try first | exact ⟨rfl, _, World.drewN_drewN _ _ _⟩ | exact ⟨rfl, _, Eq.trans (World.drewN_drewN _ _ _) (congrArg (World.drewN _) (Nat.add_assoc _ _ _))⟩))) | (refine wpQuiet_step (fun K hK => ?_); go_simp; refine hK _ ?_; clear hK K))); refine wpQuiet_nil ?_; intro _ hw'; obtain ⟨nq, hw''⟩ := hw'; subst hw''); try go_wp2_with (first | (go_at_call 45; (with_reducible refine (impl_ValidLattice.calls k _ _ l0_0 true _ ?side1 ?side2 A8.out).mono ?_); (case side1 => exact Kd.C_below HR0_0.out (by repeat (first | (with_reducible first | exact HB.out | apply below_alloc | apply pw_below_drewN | apply below_drew1 | refine below_set ?_ GE187.out | refine below_set ?_ GE188.out) | exact HB.out))); (case side2 => exact HC0_0.out); rintro e w' ⟨rfl, ⟨nd, rfl⟩⟩; (try first | exact ⟨rfl, _, World.drewN_drewN _ _ _⟩ | exact ⟨rfl, _, Eq.trans (World.drewN_drewN _ _ _) (congrArg (World.drewN _) (Nat.add_assoc _ _ _))⟩))))
    go_meet
    case rel => exact ⟨_, (((l0_1.length : Int) != (l0_0.length : Int))), (by first | rfl | (simp; done) | (simp [*]; done)), H', ⟨by first | omega | exact Nat.le_refl _⟩, ⟨by (with_reducible repeat (first | refine blk_drewN ?_ _ | refine blk_drew ?_ | refine blk_alloc ?_ _)); refine blk_far ?_ NB187_188.out _; (with_reducible repeat (first | refine blk_drewN ?_ _ | refine blk_drew ?_ | refine blk_alloc ?_ _)); exact BK187.out⟩, ⟨by (with_reducible repeat (first | refine blk_drewN ?_ _ | refine blk_drew ?_ | refine blk_alloc ?_ _)); refine blk_put (cs := #[.int .i64 0]) ?_ 0 _ rfl; (with_reducible repeat (first | refine blk_drewN ?_ _ | refine blk_drew ?_ | refine blk_alloc ?_ _)); exact BK188.out⟩, ⟨by repeat (first | (with_reducible first | exact HB.out | apply below_alloc | apply pw_below_drewN | apply below_drew1 | refine below_set ?_ GE187.out | refine below_set ?_ GE188.out) | exact HB.out)⟩⟩
  ·replace c9 := Bool.eq_false_iff.mpr c9
   subst c9
   have H1 : (impl_ValidAlgebra.j0 k true l0_0 l0_1 (l0_0.length : Int)) = some r := by rw [if_neg (show ¬ (false = true) by decide)] at H; exact H
   clear H
   have H := H1
   clear H1
   have H' := Aside0.mk H
   clear H
   have hnb13 := NB187_188.out
   have hnc13 := NB188_187.out
   have hcz14_0 : w5.cell? ⟨gb187, 0, none⟩ = some (.slice A0_0 l0_0.length c0_0) := (blk_cell BK187.out 0).trans rfl
   have hcz14_1 : w5.cell? ⟨gb187, 1, none⟩ = some (.slice A0_1 l0_1.length c0_1) := (blk_cell BK187.out 1).trans rfl
   have hfz14_0 := blk_frozen BK187.out 0
   have hfz14_1 := blk_frozen BK187.out 1
   as_aux_lemma =>
    go_wp2_with (first | (go_at_call 45; (with_reducible refine (impl_ValidLattice.calls k _ _ l0_0 false _ ?side1 ?side2 A8.out).mono ?_); (case side1 => exact Kd.C_below HR0_0.out (by repeat (first | (with_reducible first | exact HB.out | apply below_alloc | apply pw_below_drewN | apply below_drew1 | refine below_set ?_ GE187.out | refine below_set ?_ GE188.out) | exact HB.out))); (case side2 => exact HC0_0.out); rintro e w' ⟨rfl, ⟨nd, rfl⟩⟩; (try first | exact ⟨rfl, _, World.drewN_drewN _ _ _⟩ | exact ⟨rfl, _, Eq.trans (World.drewN_drewN _ _ _) (congrArg (World.drewN _) (Nat.add_assoc _ _ _))⟩)))
    repeat ((refine wp_region_quiet_lit ?_ ?_ ?_; kernel_rfl; kernel_rfl; (repeat (first | go_big_quiet_step (first | (go_at_call 45; (with_reducible refine (impl_ValidLattice.calls k _ _ l0_0 false _ ?side1 ?side2 A8.out).mono ?_); (case side1 => exact Kd.C_below HR0_0.out (by repeat (first | (with_reducible first | exact HB.out | apply below_alloc | apply pw_below_drewN | apply below_drew1 | refine below_set ?_ GE187.out | refine below_set ?_ GE188.out) | exact HB.out))); (case side2 => exact HC0_0.out); rintro e w' ⟨rfl, ⟨nd, rfl⟩⟩; (try first | exact ⟨rfl, _, World.drewN_drewN _ _ _⟩ | exact ⟨rfl, _, Eq.trans (World.drewN_drewN _ _ _) (congrArg (World.drewN _) (Nat.add_assoc _ _ _))⟩))) | (refine wpQuiet_step (fun K hK => ?_); go_simp; refine hK _ ?_; clear hK K))); refine wpQuiet_nil ?_; intro _ hw'; obtain ⟨nq, hw''⟩ := hw'; subst hw''); try go_wp2_with (first | (go_at_call 45; (with_reducible refine (impl_ValidLattice.calls k _ _ l0_0 false _ ?side1 ?side2 A8.out).mono ?_); (case side1 => exact Kd.C_below HR0_0.out (by repeat (first | (with_reducible first | exact HB.out | apply below_alloc | apply pw_below_drewN | apply below_drew1 | refine below_set ?_ GE187.out | refine below_set ?_ GE188.out) | exact HB.out))); (case side2 => exact HC0_0.out); rintro e w' ⟨rfl, ⟨nd, rfl⟩⟩; (try first | exact ⟨rfl, _, World.drewN_drewN _ _ _⟩ | exact ⟨rfl, _, Eq.trans (World.drewN_drewN _ _ _) (congrArg (World.drewN _) (Nat.add_assoc _ _ _))⟩))))
    go_meet
    case rel => exact ⟨_, (true), (by first | rfl | (simp; done) | (simp [*]; done)), H', ⟨by first | omega | exact Nat.le_refl _⟩, ⟨by (with_reducible repeat (first | refine blk_drewN ?_ _ | refine blk_drew ?_ | refine blk_alloc ?_ _)); refine blk_far ?_ NB187_188.out _; (with_reducible repeat (first | refine blk_drewN ?_ _ | refine blk_drew ?_ | refine blk_alloc ?_ _)); exact BK187.out⟩, ⟨by (with_reducible repeat (first | refine blk_drewN ?_ _ | refine blk_drew ?_ | refine blk_alloc ?_ _)); refine blk_put (cs := #[.int .i64 0]) ?_ 0 _ rfl; (with_reducible repeat (first | refine blk_drewN ?_ _ | refine blk_drew ?_ | refine blk_alloc ?_ _)); exact BK188.out⟩, ⟨by repeat (first | (with_reducible first | exact HB.out | apply below_alloc | apply pw_below_drewN | apply below_drew1 | refine below_set ?_ GE187.out | refine below_set ?_ GE188.out) | exact HB.out)⟩⟩
 case rest =>
  clear HC2
  try clear c1
  try clear p2
  try clear c3
  try clear c6
  try clear c9
  try clear c10
  try clear c13
  try clear hcz11_0
  try clear hcz11_1
  try clear hcz12_0
  try clear hcz14_0
  try clear hcz14_1
  try clear hcz4_0
  try clear hcz4_1
  try clear hcz7_0
  try clear hfz11_0
  try clear hfz11_1
  try clear hfz12_0
  try clear hfz14_0
  try clear hfz14_1
  try clear hfz4_0
  try clear hfz4_1
  try clear hfz7_0
  obtain ⟨kq, x22_1, rfl, HA, HJ1, BK187, BK188, HB⟩ := hcut
  cases kq with
  | zero => exact absurd HA.out (by simp [impl_ValidAlgebra.j0])
  | succ kj1 =>
   have H := HA.out
   clear HA
   simp only [impl_ValidAlgebra.j0] at H
   by_cases c15 : x22_1 = true
   ·subst c15
    have H1 : (some false) = some r := by rw [if_pos rfl] at H; exact H
    clear H
    have H := H1
    clear H1
    obtain rfl := Option.some.inj H
    as_aux_lemma =>
     go_wp2
     repeat ((refine wp_region_quiet_lit ?_ ?_ ?_; kernel_rfl; kernel_rfl; (repeat (first | go_big_quiet_step (fail) | (refine wpQuiet_step (fun K hK => ?_); go_simp; refine hK _ ?_; clear hK K))); refine wpQuiet_nil ?_; intro _ hw'; obtain ⟨nq, hw''⟩ := hw'; subst hw''); try go_wp2)
     go_ret
     exact ⟨by first | rfl | (simp [errW_none, errW_some] <;> rfl) | (simp [*, errW_none, errW_some] <;> rfl), by repeat (first | (with_reducible first | exact HB.out | apply below_alloc | apply pw_below_drewN | apply below_drew1 | refine below_set ?_ GE187.out | refine below_set ?_ GE188.out) | exact HB.out)⟩
   ·replace c15 := Bool.eq_false_iff.mpr c15
    subst c15
    have H1 : (impl_ValidAlgebra.l0 kj1 l0_1 (l0_1.length : Int) 0 l0_0 l0_1 (l0_0.length : Int)) = some r := by rw [if_neg (show ¬ (false = true) by decide)] at H; exact H
    clear H
    have H := H1
    clear H1
    have H' := Aside0.mk H
    clear H
    have hnb16 := NB187_188.out
    have hnc16 := NB188_187.out
    have hcz17_0 : wc.cell? ⟨gb187, 0, none⟩ = some (.slice A0_0 l0_0.length c0_0) := (blk_cell BK187.out 0).trans rfl
    have hcz17_1 : wc.cell? ⟨gb187, 1, none⟩ = some (.slice A0_1 l0_1.length c0_1) := (blk_cell BK187.out 1).trans rfl
    have hfz17_0 := blk_frozen BK187.out 0
    have hfz17_1 := blk_frozen BK187.out 1
    as_aux_lemma =>
     go_wp2
     repeat ((refine wp_region_quiet_lit ?_ ?_ ?_; kernel_rfl; kernel_rfl; (repeat (first | go_big_quiet_step (fail) | (refine wpQuiet_step (fun K hK => ?_); go_simp; refine hK _ ?_; clear hK K))); refine wpQuiet_nil ?_; intro _ hw'; obtain ⟨nq, hw''⟩ := hw'; subst hw''); try go_wp2)
     go_loopg [26] kj1 (fun kq v26 w' => ∃ (x26_2 : Int), v26 = .int .i64 x26_2 ∧ Aside0 (impl_ValidAlgebra.l0 kq l0_1 (l0_1.length : Int) x26_2 l0_0 l0_1 (l0_0.length : Int) = some r) ∧ Aside0 (kq ≤ kj1) ∧ Aside0 (w'.heap[gb187]? = some (.cells #[(.slice A0_0 l0_0.length c0_0), (.slice A0_1 l0_1.length c0_1)] 25 (0, 0))) ∧ Aside0 (w'.heap[gb188]? = some (.cells #[.int .i64 (l0_0.length : Int)] 3 (0, 0))) ∧ Aside0 (Below w.heap.size w w'))
     case atStart => exact ⟨(0), (by first | rfl | (simp; done) | (simp [*]; done)), H', ⟨Nat.le_refl _⟩, ⟨by (with_reducible repeat (first | refine blk_drewN ?_ _ | refine blk_drew ?_ | refine blk_alloc ?_ _)); exact BK187.out⟩, ⟨by (with_reducible repeat (first | refine blk_drewN ?_ _ | refine blk_drew ?_ | refine blk_alloc ?_ _)); exact BK188.out⟩, ⟨by repeat (first | (with_reducible first | exact HB.out | apply below_alloc | apply pw_below_drewN | apply below_drew1 | refine below_set ?_ GE187.out | refine below_set ?_ GE188.out) | exact HB.out)⟩⟩
     case round =>
      clear H'
      try clear c1
      try clear p2
      try clear c3
      try clear c6
      try clear c9
      try clear c10
      try clear c13
      try clear c15
      try clear c16
      try clear hcz11_0
      try clear hcz11_1
      try clear hcz12_0
      try clear hcz14_0
      try clear hcz14_1
      try clear hcz17_0
      try clear hcz17_1
      try clear hcz4_0
      try clear hcz4_1
      try clear hcz7_0
      try clear hfz11_0
      try clear hfz11_1
      try clear hfz12_0
      try clear hfz14_0
      try clear hfz14_1
      try clear hfz17_0
      try clear hfz17_1
      try clear hfz4_0
      try clear hfz4_1
      try clear hfz7_0
      try clear p2
      obtain ⟨x26_2, rfl, HA, HK2, BK187, BK188, HB⟩ := hrel
      cases gk with
      | zero => exact absurd HA.out (by simp [impl_ValidAlgebra.l0])
      | succ k2 =>
       have H := HA.out
       clear HA
       simp only [impl_ValidAlgebra.l0] at H
       by_cases c18 : x26_2 < (l0_1.length : Int)
       ·rw [if_pos c18] at H
        have c18b0 : decide (x26_2 < (l0_1.length : Int)) = true := decide_eq_true c18
        clear c18
        by_cases c19 : 0 ≤ x26_2
        ·rw [if_pos c19] at H
         have c19b0 : decide (0 ≤ x26_2) = true := decide_eq_true c19
         clear c19
         by_cases c20 : x26_2 < (l0_1.length : Int)
         ·rw [if_pos c20] at H
          have c20b0 : decide (x26_2 < (l0_1.length : Int)) = true := decide_eq_true c20
          clear c20
          by_cases c21 : ((rd_L1 l0_1 x26_2).length : Int) = (l0_0.length : Int)
          ·rw [if_pos c21] at H
           have c21b0 : (((rd_L1 l0_1 x26_2).length : Int) == (l0_0.length : Int)) = true := beq_iff_eq.mpr c21
           have c21b1 : (((rd_L1 l0_1 x26_2).length : Int) != (l0_0.length : Int)) = false := bne_eq_false_iff_eq.mpr c21
           have c21b2 : ((rd_L1 l0_1 x26_2).length == l0_0.length) = true := by first | simpa using c21 | (simp at c21 ⊢; omega)
           clear c21
           replace H := Option.bind_eq_some_iff.mp H
           obtain ⟨t191, A220, H⟩ := H
           replace H : (if t191 = true then (some false) else (impl_ValidAlgebra.l0 k2 l0_1 (l0_1.length : Int) (wrap64 (x26_2 + 1)) l0_0 l0_1 (l0_0.length : Int))) = some r := H
           have A22 := Aside0.mk A220
           clear A220
           by_cases c23 : t191 = true
           ·subst c23
            have H1 : (some false) = some r := by rw [if_pos rfl] at H; exact H
            clear H
            have H := H1
            clear H1
            obtain rfl := Option.some.inj H
            have p190 : 0 ≤ (x26_2 : Int) := of_decide_eq_true (by first | (with_reducible assumption) | assumption)
            have q190 : x26_2 < (l0_1.length : Int) := of_decide_eq_true (by first | (with_reducible assumption) | assumption)
            obtain ⟨ad190, A190_0, c190_0, e190, hx190_0, hl190_0, hi190_0⟩ := at_L1 HR0_1.out x26_2 p190 q190
            cases e190
            replace hx190_0 := (HB.out.cell (World.block_lt_of_cell? w _ hx190_0)).trans hx190_0
            have HR190_0 := Aside0.mk hi190_0
            have HC190_0 := Aside0.mk hl190_0
            clear hi190_0 hl190_0
            replace p190 := eq_true p190
            replace q190 := eq_true q190
            have hnb24 := NB188_187.out
            have hnc24 := NB187_188.out
            have hcz25_0 : wr.cell? ⟨gb188, 0, none⟩ = some (.int .i64 (l0_0.length : Int)) := (blk_cell BK188.out 0).trans rfl
            have hfz25_0 := blk_frozen BK188.out 0
            as_aux_lemma =>
             go_wp2_with (first | (go_at_call 81; (with_reducible refine (cf_ValidAlgebra_1.calls _ _ (rd_L1 l0_1 x26_2) gb188 (l0_0.length : Int) true _ ?side1 ?side2 ?side3 A22.out).mono ?_); (case side1 => repeat (first | exact (Kd.C_below HR190_0.out HB.out) | (with_reducible refine Kd.C_alloc ?_ _) | (with_reducible refine Kd.C_drewN ?_ _) | (with_reducible refine Kd.C_drew ?_))); (case side2 => exact HC190_0.out); (case side3 => exact (show _ from by (with_reducible repeat (first | refine blk_drewN ?_ _ | refine blk_drew ?_ | refine blk_alloc ?_ _)); exact BK188.out)); rintro e w' ⟨rfl, ⟨nd, rfl⟩⟩; (try first | exact ⟨rfl, _, World.drewN_drewN _ _ _⟩ | exact ⟨rfl, _, Eq.trans (World.drewN_drewN _ _ _) (congrArg (World.drewN _) (Nat.add_assoc _ _ _))⟩)))
             repeat ((refine wp_region_quiet_lit ?_ ?_ ?_; kernel_rfl; kernel_rfl; (repeat (first | go_big_quiet_step (first | (go_at_call 81; (with_reducible refine (cf_ValidAlgebra_1.calls _ _ (rd_L1 l0_1 x26_2) gb188 (l0_0.length : Int) true _ ?side1 ?side2 ?side3 A22.out).mono ?_); (case side1 => repeat (first | exact (Kd.C_below HR190_0.out HB.out) | (with_reducible refine Kd.C_alloc ?_ _) | (with_reducible refine Kd.C_drewN ?_ _) | (with_reducible refine Kd.C_drew ?_))); (case side2 => exact HC190_0.out); (case side3 => exact (show _ from by (with_reducible repeat (first | refine blk_drewN ?_ _ | refine blk_drew ?_ | refine blk_alloc ?_ _)); exact BK188.out)); rintro e w' ⟨rfl, ⟨nd, rfl⟩⟩; (try first | exact ⟨rfl, _, World.drewN_drewN _ _ _⟩ | exact ⟨rfl, _, Eq.trans (World.drewN_drewN _ _ _) (congrArg (World.drewN _) (Nat.add_assoc _ _ _))⟩))) | (refine wpQuiet_step (fun K hK => ?_); go_simp; refine hK _ ?_; clear hK K))); refine wpQuiet_nil ?_; intro _ hw'; obtain ⟨nq, hw''⟩ := hw'; subst hw''); try go_wp2_with (first | (go_at_call 81; (with_reducible refine (cf_ValidAlgebra_1.calls _ _ (rd_L1 l0_1 x26_2) gb188 (l0_0.length : Int) true _ ?side1 ?side2 ?side3 A22.out).mono ?_); (case side1 => repeat (first | exact (Kd.C_below HR190_0.out HB.out) | (with_reducible refine Kd.C_alloc ?_ _) | (with_reducible refine Kd.C_drewN ?_ _) | (with_reducible refine Kd.C_drew ?_))); (case side2 => exact HC190_0.out); (case side3 => exact (show _ from by (with_reducible repeat (first | refine blk_drewN ?_ _ | refine blk_drew ?_ | refine blk_alloc ?_ _)); exact BK188.out)); rintro e w' ⟨rfl, ⟨nd, rfl⟩⟩; (try first | exact ⟨rfl, _, World.drewN_drewN _ _ _⟩ | exact ⟨rfl, _, Eq.trans (World.drewN_drewN _ _ _) (congrArg (World.drewN _) (Nat.add_assoc _ _ _))⟩))))
             go_ret
             exact ⟨by first | rfl | (simp [errW_none, errW_some] <;> rfl) | (simp [*, errW_none, errW_some] <;> rfl), by repeat (first | (with_reducible first | exact HB.out | apply below_alloc | apply pw_below_drewN | apply below_drew1 | refine below_set ?_ GE187.out | refine below_set ?_ GE188.out) | exact HB.out)⟩
           ·replace c23 := Bool.eq_false_iff.mpr c23
            subst c23
            have H1 : (impl_ValidAlgebra.l0 k2 l0_1 (l0_1.length : Int) (wrap64 (x26_2 + 1)) l0_0 l0_1 (l0_0.length : Int)) = some r := by rw [if_neg (show ¬ (false = true) by decide)] at H; exact H
            clear H
            have H := H1
            clear H1
            have H' := Aside0.mk H
            clear H
            have p190 : 0 ≤ (x26_2 : Int) := of_decide_eq_true (by first | (with_reducible assumption) | assumption)
            have q190 : x26_2 < (l0_1.length : Int) := of_decide_eq_true (by first | (with_reducible assumption) | assumption)
            obtain ⟨ad190, A190_0, c190_0, e190, hx190_0, hl190_0, hi190_0⟩ := at_L1 HR0_1.out x26_2 p190 q190
            cases e190
            replace hx190_0 := (HB.out.cell (World.block_lt_of_cell? w _ hx190_0)).trans hx190_0
            have HR190_0 := Aside0.mk hi190_0
            have HC190_0 := Aside0.mk hl190_0
            clear hi190_0 hl190_0
            replace p190 := eq_true p190
            replace q190 := eq_true q190
            have hnb26 := NB188_187.out
            have hnc26 := NB187_188.out
            have hcz27_0 : wr.cell? ⟨gb188, 0, none⟩ = some (.int .i64 (l0_0.length : Int)) := (blk_cell BK188.out 0).trans rfl
            have hfz27_0 := blk_frozen BK188.out 0
            as_aux_lemma =>
             go_wp2_with (first | (go_at_call 81; (with_reducible refine (cf_ValidAlgebra_1.calls _ _ (rd_L1 l0_1 x26_2) gb188 (l0_0.length : Int) false _ ?side1 ?side2 ?side3 A22.out).mono ?_); (case side1 => repeat (first | exact (Kd.C_below HR190_0.out HB.out) | (with_reducible refine Kd.C_alloc ?_ _) | (with_reducible refine Kd.C_drewN ?_ _) | (with_reducible refine Kd.C_drew ?_))); (case side2 => exact HC190_0.out); (case side3 => exact (show _ from by (with_reducible repeat (first | refine blk_drewN ?_ _ | refine blk_drew ?_ | refine blk_alloc ?_ _)); exact BK188.out)); rintro e w' ⟨rfl, ⟨nd, rfl⟩⟩; (try first | exact ⟨rfl, _, World.drewN_drewN _ _ _⟩ | exact ⟨rfl, _, Eq.trans (World.drewN_drewN _ _ _) (congrArg (World.drewN _) (Nat.add_assoc _ _ _))⟩)))
             repeat ((refine wp_region_quiet_lit ?_ ?_ ?_; kernel_rfl; kernel_rfl; (repeat (first | go_big_quiet_step (first | (go_at_call 81; (with_reducible refine (cf_ValidAlgebra_1.calls _ _ (rd_L1 l0_1 x26_2) gb188 (l0_0.length : Int) false _ ?side1 ?side2 ?side3 A22.out).mono ?_); (case side1 => repeat (first | exact (Kd.C_below HR190_0.out HB.out) | (with_reducible refine Kd.C_alloc ?_ _) | (with_reducible refine Kd.C_drewN ?_ _) | (with_reducible refine Kd.C_drew ?_))); (case side2 => exact HC190_0.out); (case side3 => exact (show _ from by (with_reducible repeat (first | refine blk_drewN ?_ _ | refine blk_drew ?_ | refine blk_alloc ?_ _)); exact BK188.out)); rintro e w' ⟨rfl, ⟨nd, rfl⟩⟩; (try first | exact ⟨rfl, _, World.drewN_drewN _ _ _⟩ | exact ⟨rfl, _, Eq.trans (World.drewN_drewN _ _ _) (congrArg (World.drewN _) (Nat.add_assoc _ _ _))⟩))) | (refine wpQuiet_step (fun K hK => ?_); go_simp; refine hK _ ?_; clear hK K))); refine wpQuiet_nil ?_; intro _ hw'; obtain ⟨nq, hw''⟩ := hw'; subst hw''); try go_wp2_with (first | (go_at_call 81; (with_reducible refine (cf_ValidAlgebra_1.calls _ _ (rd_L1 l0_1 x26_2) gb188 (l0_0.length : Int) false _ ?side1 ?side2 ?side3 A22.out).mono ?_); (case side1 => repeat (first | exact (Kd.C_below HR190_0.out HB.out) | (with_reducible refine Kd.C_alloc ?_ _) | (with_reducible refine Kd.C_drewN ?_ _) | (with_reducible refine Kd.C_drew ?_))); (case side2 => exact HC190_0.out); (case side3 => exact (show _ from by (with_reducible repeat (first | refine blk_drewN ?_ _ | refine blk_drew ?_ | refine blk_alloc ?_ _)); exact BK188.out)); rintro e w' ⟨rfl, ⟨nd, rfl⟩⟩; (try first | exact ⟨rfl, _, World.drewN_drewN _ _ _⟩ | exact ⟨rfl, _, Eq.trans (World.drewN_drewN _ _ _) (congrArg (World.drewN _) (Nat.add_assoc _ _ _))⟩))))
             go_roundg k2
             case measure => have := HJ1.out; have := HK2.out; omega
             case rel => exact ⟨(wrap64 (x26_2 + 1)), (by first | rfl | (simp; done) | (simp [*]; done)), H', ⟨by have := HJ1.out; have := HK2.out; omega⟩, ⟨by (with_reducible repeat (first | refine blk_drewN ?_ _ | refine blk_drew ?_ | refine blk_alloc ?_ _)); exact BK187.out⟩, ⟨by (with_reducible repeat (first | refine blk_drewN ?_ _ | refine blk_drew ?_ | refine blk_alloc ?_ _)); exact BK188.out⟩, ⟨by repeat (first | (with_reducible first | exact HB.out | apply below_alloc | apply pw_below_drewN | apply below_drew1 | refine below_set ?_ GE187.out | refine below_set ?_ GE188.out) | exact HB.out)⟩⟩
          ·rw [if_neg c21] at H
           have c21b0 : (((rd_L1 l0_1 x26_2).length : Int) == (l0_0.length : Int)) = false := beq_eq_false_iff_ne.mpr c21
           have c21b1 : (((rd_L1 l0_1 x26_2).length : Int) != (l0_0.length : Int)) = true := bne_iff_ne.mpr c21
           have c21b2 : ((rd_L1 l0_1 x26_2).length == l0_0.length) = false := by first | simpa using c21 | (simp at c21 ⊢; omega)
           obtain rfl := Option.some.inj H
           have p190 : 0 ≤ (x26_2 : Int) := of_decide_eq_true (by first | (with_reducible assumption) | assumption)
           have q190 : x26_2 < (l0_1.length : Int) := of_decide_eq_true (by first | (with_reducible assumption) | assumption)
           obtain ⟨ad190, A190_0, c190_0, e190, hx190_0, hl190_0, hi190_0⟩ := at_L1 HR0_1.out x26_2 p190 q190
           cases e190
           replace hx190_0 := (HB.out.cell (World.block_lt_of_cell? w _ hx190_0)).trans hx190_0
           have HR190_0 := Aside0.mk hi190_0
           have HC190_0 := Aside0.mk hl190_0
           clear hi190_0 hl190_0
           replace p190 := eq_true p190
           replace q190 := eq_true q190
           have hnb28 := NB188_187.out
           have hnc28 := NB187_188.out
           have hcz29_0 : wr.cell? ⟨gb188, 0, none⟩ = some (.int .i64 (l0_0.length : Int)) := (blk_cell BK188.out 0).trans rfl
           have hfz29_0 := blk_frozen BK188.out 0
           as_aux_lemma =>
            go_wp2
            repeat ((refine wp_region_quiet_lit ?_ ?_ ?_; kernel_rfl; kernel_rfl; (repeat (first | go_big_quiet_step (fail) | (refine wpQuiet_step (fun K hK => ?_); go_simp; refine hK _ ?_; clear hK K))); refine wpQuiet_nil ?_; intro _ hw'; obtain ⟨nq, hw''⟩ := hw'; subst hw''); try go_wp2)
            go_ret
            exact ⟨by first | rfl | (simp [errW_none, errW_some] <;> rfl) | (simp [*, errW_none, errW_some] <;> rfl), by repeat (first | (with_reducible first | exact HB.out | apply below_alloc | apply pw_below_drewN | apply below_drew1 | refine below_set ?_ GE187.out | refine below_set ?_ GE188.out) | exact HB.out)⟩
         ·rw [if_neg c20] at H
          exact absurd H (by simp)
        ·rw [if_neg c19] at H
         exact absurd H (by simp)
       ·rw [if_neg c18] at H
        have c18b0 : decide (x26_2 < (l0_1.length : Int)) = false := decide_eq_false c18
        clear c18
        have H' := Aside0.mk H
        clear H
        have hnb30 := NB187_188.out
        have hnc30 := NB188_187.out
        have hcz31_0 : wr.cell? ⟨gb187, 0, none⟩ = some (.slice A0_0 l0_0.length c0_0) := (blk_cell BK187.out 0).trans rfl
        have hcz31_1 : wr.cell? ⟨gb187, 1, none⟩ = some (.slice A0_1 l0_1.length c0_1) := (blk_cell BK187.out 1).trans rfl
        have hfz31_0 := blk_frozen BK187.out 0
        have hfz31_1 := blk_frozen BK187.out 1
        as_aux_lemma =>
         go_wp2
         repeat ((refine wp_region_quiet_lit ?_ ?_ ?_; kernel_rfl; kernel_rfl; (repeat (first | go_big_quiet_step (fail) | (refine wpQuiet_step (fun K hK => ?_); go_simp; refine hK _ ?_; clear hK K))); refine wpQuiet_nil ?_; intro _ hw'; obtain ⟨nq, hw''⟩ := hw'; subst hw''); try go_wp2)
         go_loopg [43] k2 (fun kq v43 w' => ∃ (x43_3 : Int), v43 = .int .i64 x43_3 ∧ Aside0 (impl_ValidAlgebra.l1 kq (l0_0.length : Int) x43_3 l0_0 l0_1 (l0_0.length : Int) = some r) ∧ Aside0 (kq ≤ k2) ∧ Aside0 (w'.heap[gb187]? = some (.cells #[(.slice A0_0 l0_0.length c0_0), (.slice A0_1 l0_1.length c0_1)] 25 (0, 0))) ∧ Aside0 (w'.heap[gb188]? = some (.cells #[.int .i64 (l0_0.length : Int)] 3 (0, 0))) ∧ Aside0 (Below w.heap.size w w'))
         case atStart => exact ⟨(0), (by first | rfl | (simp; done) | (simp [*]; done)), H', ⟨Nat.le_refl _⟩, ⟨by (with_reducible repeat (first | refine blk_drewN ?_ _ | refine blk_drew ?_ | refine blk_alloc ?_ _)); exact BK187.out⟩, ⟨by (with_reducible repeat (first | refine blk_drewN ?_ _ | refine blk_drew ?_ | refine blk_alloc ?_ _)); exact BK188.out⟩, ⟨by repeat (first | (with_reducible first | exact HB.out | apply below_alloc | apply pw_below_drewN | apply below_drew1 | refine below_set ?_ GE187.out | refine below_set ?_ GE188.out) | exact HB.out)⟩⟩
         case round =>
          clear H'
          try clear c1
          try clear p1
          try clear q1
          try clear hx1
          try clear c2
          try clear p2
          try clear c3
          try clear c6
          try clear p6
          try clear c9
          try clear c10
          try clear c13
          try clear c15
          try clear c16
          try clear c18
          try clear c18b0
          try clear c19
          try clear c19b0
          try clear p19
          try clear q19
          try clear hx19
          try clear c20
          try clear c20b0
          try clear c21
          try clear c21b0
          try clear c21b1
          try clear c21b2
          try clear c23
          try clear c24
          try clear c26
          try clear c28
          try clear c30
          try clear hcz11_0
          try clear hcz11_1
          try clear hcz12_0
          try clear hcz14_0
          try clear hcz14_1
          try clear hcz17_0
          try clear hcz17_1
          try clear hcz25_0
          try clear hcz27_0
          try clear hcz29_0
          try clear hcz31_0
          try clear hcz31_1
          try clear hcz4_0
          try clear hcz4_1
          try clear hcz7_0
          try clear hfz11_0
          try clear hfz11_1
          try clear hfz12_0
          try clear hfz14_0
          try clear hfz14_1
          try clear hfz17_0
          try clear hfz17_1
          try clear hfz25_0
          try clear hfz27_0
          try clear hfz29_0
          try clear hfz31_0
          try clear hfz31_1
          try clear hfz4_0
          try clear hfz4_1
          try clear hfz7_0
          try clear hx190_0
          try clear p190
          try clear p2
          try clear q190
          obtain ⟨x43_3, rfl, HA, HK3, BK187, BK188, HB⟩ := hrel
          cases gk with
          | zero => exact absurd HA.out (by simp [impl_ValidAlgebra.l1])
          | succ k3 =>
           have H := HA.out
           clear HA
           simp only [impl_ValidAlgebra.l1] at H
           by_cases c32 : x43_3 < (l0_0.length : Int)
           ·rw [if_pos c32] at H
            have c32b0 : decide (x43_3 < (l0_0.length : Int)) = true := decide_eq_true c32
            clear c32
            have HC33 := Aside0.mk H
            clear H
            go_upto_region 13 with (fail)
            repeat ((refine wp_region_quiet_lit ?_ ?_ ?_; kernel_rfl; kernel_rfl; (repeat (first | go_big_quiet_step (fail) | (refine wpQuiet_step (fun K hK => ?_); go_simp; refine hK _ ?_; clear hK K))); refine wpQuiet_nil ?_; intro _ hw'; obtain ⟨nq, hw''⟩ := hw'; subst hw''); go_upto_region 13 with (fail))
            go_cut [66] (fun v66 wc => ∃ (kq : Nat) (x66_32 : Bool), v66 = .bool x66_32 ∧ Aside0 (impl_ValidAlgebra.j3 kq x43_3 (l0_0.length : Int) x43_3 x66_32 l0_0 l0_1 (l0_0.length : Int) = some r) ∧ Aside0 (kq ≤ k3) ∧ Aside0 (wc.heap[gb187]? = some (.cells #[(.slice A0_0 l0_0.length c0_0), (.slice A0_1 l0_1.length c0_1)] 25 (0, 0))) ∧ Aside0 (wc.heap[gb188]? = some (.cells #[.int .i64 (l0_0.length : Int)] 3 (0, 0))) ∧ Aside0 (Below w.heap.size w wc))
            case first =>
             have H := HC33.out
             clear HC33
             by_cases c34 : 0 ≤ x43_3
             ·rw [if_pos c34] at H
              have c34b0 : decide (0 ≤ x43_3) = true := decide_eq_true c34
              clear c34
              (first | rw [c34b0] | (simp only [i64_w, i32_w]; rw [c34b0]) | skip)
              by_cases c35 : x43_3 < (l0_1.length : Int)
              ·rw [if_pos c35] at H
               have c35b0 : decide (x43_3 < (l0_1.length : Int)) = true := decide_eq_true c35
               clear c35
               obtain ⟨ji36, hji36⟩ : ∃ j_ : Int, (wrap64 ((l0_0.length : Int) - 1)) = j_ := ⟨_, rfl⟩
               replace H : (if 0 ≤ (ji36) then (if (ji36) < ((rd_L1 l0_1 x43_3).length : Int) then (if (rd (rd_L1 l0_1 x43_3) (ji36)) = x43_3 then (if 0 < ((rd_L1 l0_1 x43_3).length : Int) then (impl_ValidAlgebra.j3 k3 x43_3 (l0_0.length : Int) x43_3 ((rd (rd_L1 l0_1 x43_3) 0) != 0) l0_0 l0_1 (l0_0.length : Int)) else (none)) else (impl_ValidAlgebra.j3 k3 x43_3 (l0_0.length : Int) x43_3 true l0_0 l0_1 (l0_0.length : Int))) else (none)) else (none)) = some r := by first | (rw [hji36] at H; exact H) | (simp only [hji36] at H ⊢; exact H)
               have hji36w : (IntKind.i64.wrap ((l0_0.length : Int) - 1)) = ji36 := (i64_w _).trans hji36
               by_cases c37 : 0 ≤ (ji36)
               ·rw [if_pos c37] at H
                have c37b0 : decide (0 ≤ (ji36)) = true := decide_eq_true c37
                clear c37
                by_cases c38 : (ji36) < ((rd_L1 l0_1 x43_3).length : Int)
                ·rw [if_pos c38] at H
                 have c38b0 : decide ((ji36) < ((rd_L1 l0_1 x43_3).length : Int)) = true := decide_eq_true c38
                 clear c38
                 by_cases c39 : (rd (rd_L1 l0_1 x43_3) (ji36)) = x43_3
                 ·rw [if_pos c39] at H
                  have c39b0 : ((rd (rd_L1 l0_1 x43_3) (ji36)) == x43_3) = true := beq_iff_eq.mpr c39
                  have c39b1 : ((rd (rd_L1 l0_1 x43_3) (ji36)) != x43_3) = false := bne_eq_false_iff_eq.mpr c39
                  clear c39
                  by_cases c40 : 0 < ((rd_L1 l0_1 x43_3).length : Int)
                  ·rw [if_pos c40] at H
                   have c40b0 : decide (0 < ((rd_L1 l0_1 x43_3).length : Int)) = true := decide_eq_true c40
                   have c40b1 : decide (0 < (rd_L1 l0_1 x43_3).length) = true := decide_eq_true (by omega)
                   clear c40
                   have H' := Aside0.mk H
                   clear H
                   have hnb41 := NB187_188.out
                   have hnc41 := NB188_187.out
                   have hcz42_0 : wr.cell? ⟨gb187, 0, none⟩ = some (.slice A0_0 l0_0.length c0_0) := (blk_cell BK187.out 0).trans rfl
                   have hcz42_1 : wr.cell? ⟨gb187, 1, none⟩ = some (.slice A0_1 l0_1.length c0_1) := (blk_cell BK187.out 1).trans rfl
                   have hfz42_0 := blk_frozen BK187.out 0
                   have hfz42_1 := blk_frozen BK187.out 1
                   have p192 : 0 ≤ (x43_3 : Int) := of_decide_eq_true (by first | (with_reducible assumption) | assumption)
                   have q192 : x43_3 < (l0_1.length : Int) := of_decide_eq_true (by first | (with_reducible assumption) | assumption)
                   obtain ⟨ad192, A192_0, c192_0, e192, hx192_0, hl192_0, hi192_0⟩ := at_L1 HR0_1.out x43_3 p192 q192
                   cases e192
                   replace hx192_0 := (HB.out.cell (World.block_lt_of_cell? w _ hx192_0)).trans hx192_0
                   have HR192_0 := Aside0.mk hi192_0
                   have HC192_0 := Aside0.mk hl192_0
                   clear hi192_0 hl192_0
                   replace p192 := eq_true p192
                   replace q192 := eq_true q192
                   have hcz43_0 : wr.cell? ⟨gb188, 0, none⟩ = some (.int .i64 (l0_0.length : Int)) := (blk_cell BK188.out 0).trans rfl
                   have hfz43_0 := blk_frozen BK188.out 0
                   have p193 : 0 ≤ ((ji36) : Int) := of_decide_eq_true (by first | (with_reducible assumption) | assumption)
                   have q193 : (ji36) < ((rd_L1 l0_1 x43_3).length : Int) := of_decide_eq_true (by first | (with_reducible assumption) | assumption)
                   obtain ⟨ad193, e193, hx193_0⟩ := Kd.at_int HR192_0.out (ji36) p193 q193
                   cases e193
                   replace hx193_0 := (HB.out.cell (World.block_lt_of_cell? w _ hx193_0)).trans hx193_0
                   replace p193 := eq_true p193
                   replace q193 := eq_true q193
                   have p194 : 0 ≤ (x43_3 : Int) := of_decide_eq_true (by first | (with_reducible assumption) | assumption)
                   have q194 : x43_3 < (l0_1.length : Int) := of_decide_eq_true (by first | (with_reducible assumption) | assumption)
                   obtain ⟨ad194, A194_0, c194_0, e194, hx194_0, hl194_0, hi194_0⟩ := at_L1 HR0_1.out x43_3 p194 q194
                   obtain rfl : ad192 = ad194 := (by injection e194)
                   replace hx194_0 := (HB.out.cell (World.block_lt_of_cell? w _ hx194_0)).trans hx194_0
                   have HR194_0 := Aside0.mk hi194_0
                   have HC194_0 := Aside0.mk hl194_0
                   clear hi194_0 hl194_0
                   replace p194 := eq_true p194
                   replace q194 := eq_true q194
                   have ea_ := Option.some.inj (hx192_0.symm.trans hx194_0)
                   injection ea_ with ea_ en_ ec_
                   subst ea_
                   subst ec_
                   clear en_
                   have p195 : 0 ≤ (0 : Int) := (by omega)
                   have q195 : 0 < ((rd_L1 l0_1 x43_3).length : Int) := of_decide_eq_true (by first | (with_reducible assumption) | assumption)
                   obtain ⟨ad195, e195, hx195_0⟩ := Kd.at_int HR194_0.out 0 p195 q195
                   cases e195
                   have qi195 : (0 < (rd_L1 l0_1 x43_3).length) = True := eq_true (by omega)
                   (try rw [show ((0 : Int)).toNat = 0 from rfl] at hx195_0)
                   (try rw [Addr.add_zero'] at hx195_0)
                   replace hx195_0 := (HB.out.cell (World.block_lt_of_cell? w _ hx195_0)).trans hx195_0
                   replace p195 := eq_true p195
                   replace q195 := eq_true q195
                   as_aux_lemma =>
                    go_wp2
                    repeat ((refine wp_region_quiet_lit ?_ ?_ ?_; kernel_rfl; kernel_rfl; (repeat (first | go_big_quiet_step (fail) | (refine wpQuiet_step (fun K hK => ?_); go_simp; refine hK _ ?_; clear hK K))); refine wpQuiet_nil ?_; intro _ hw'; obtain ⟨nq, hw''⟩ := hw'; subst hw''); try go_wp2)
                    go_meet
                    case rel => exact ⟨_, (((rd (rd_L1 l0_1 x43_3) 0) != 0)), (by first | rfl | (simp; done) | (simp [*]; done)), H', ⟨by have := HJ1.out; have := HK2.out; have := HK3.out; first | omega | exact Nat.le_refl _⟩, ⟨by (with_reducible repeat (first | refine blk_drewN ?_ _ | refine blk_drew ?_ | refine blk_alloc ?_ _)); exact BK187.out⟩, ⟨by (with_reducible repeat (first | refine blk_drewN ?_ _ | refine blk_drew ?_ | refine blk_alloc ?_ _)); exact BK188.out⟩, ⟨by repeat (first | (with_reducible first | exact HB.out | apply below_alloc | apply pw_below_drewN | apply below_drew1 | refine below_set ?_ GE187.out | refine below_set ?_ GE188.out) | exact HB.out)⟩⟩
                  ·rw [if_neg c40] at H
                   exact absurd H (by simp)
                 ·rw [if_neg c39] at H
                  have c39b0 : ((rd (rd_L1 l0_1 x43_3) (ji36)) == x43_3) = false := beq_eq_false_iff_ne.mpr c39
                  have c39b1 : ((rd (rd_L1 l0_1 x43_3) (ji36)) != x43_3) = true := bne_iff_ne.mpr c39
                  have H' := Aside0.mk H
                  clear H
                  have hnb44 := NB187_188.out
                  have hnc44 := NB188_187.out
                  have hcz45_0 : wr.cell? ⟨gb187, 0, none⟩ = some (.slice A0_0 l0_0.length c0_0) := (blk_cell BK187.out 0).trans rfl
                  have hcz45_1 : wr.cell? ⟨gb187, 1, none⟩ = some (.slice A0_1 l0_1.length c0_1) := (blk_cell BK187.out 1).trans rfl
                  have hfz45_0 := blk_frozen BK187.out 0
                  have hfz45_1 := blk_frozen BK187.out 1
                  have p192 : 0 ≤ (x43_3 : Int) := of_decide_eq_true (by first | (with_reducible assumption) | assumption)
                  have q192 : x43_3 < (l0_1.length : Int) := of_decide_eq_true (by first | (with_reducible assumption) | assumption)
                  obtain ⟨ad192, A192_0, c192_0, e192, hx192_0, hl192_0, hi192_0⟩ := at_L1 HR0_1.out x43_3 p192 q192
                  cases e192
                  replace hx192_0 := (HB.out.cell (World.block_lt_of_cell? w _ hx192_0)).trans hx192_0
                  have HR192_0 := Aside0.mk hi192_0
                  have HC192_0 := Aside0.mk hl192_0
                  clear hi192_0 hl192_0
                  replace p192 := eq_true p192
                  replace q192 := eq_true q192
                  have hcz46_0 : wr.cell? ⟨gb188, 0, none⟩ = some (.int .i64 (l0_0.length : Int)) := (blk_cell BK188.out 0).trans rfl
                  have hfz46_0 := blk_frozen BK188.out 0
                  have p193 : 0 ≤ ((ji36) : Int) := of_decide_eq_true (by first | (with_reducible assumption) | assumption)
                  have q193 : (ji36) < ((rd_L1 l0_1 x43_3).length : Int) := of_decide_eq_true (by first | (with_reducible assumption) | assumption)
                  obtain ⟨ad193, e193, hx193_0⟩ := Kd.at_int HR192_0.out (ji36) p193 q193
                  cases e193
                  replace hx193_0 := (HB.out.cell (World.block_lt_of_cell? w _ hx193_0)).trans hx193_0
                  replace p193 := eq_true p193
                  replace q193 := eq_true q193
                  as_aux_lemma =>
                   go_wp2
                   repeat ((refine wp_region_quiet_lit ?_ ?_ ?_; kernel_rfl; kernel_rfl; (repeat (first | go_big_quiet_step (fail) | (refine wpQuiet_step (fun K hK => ?_); go_simp; refine hK _ ?_; clear hK K))); refine wpQuiet_nil ?_; intro _ hw'; obtain ⟨nq, hw''⟩ := hw'; subst hw''); try go_wp2)
                   go_meet
                   case rel => exact ⟨_, (true), (by first | rfl | (simp; done) | (simp [*]; done)), H', ⟨by have := HJ1.out; have := HK2.out; have := HK3.out; first | omega | exact Nat.le_refl _⟩, ⟨by (with_reducible repeat (first | refine blk_drewN ?_ _ | refine blk_drew ?_ | refine blk_alloc ?_ _)); exact BK187.out⟩, ⟨by (with_reducible repeat (first | refine blk_drewN ?_ _ | refine blk_drew ?_ | refine blk_alloc ?_ _)); exact BK188.out⟩, ⟨by repeat (first | (with_reducible first | exact HB.out | apply below_alloc | apply pw_below_drewN | apply below_drew1 | refine below_set ?_ GE187.out | refine below_set ?_ GE188.out) | exact HB.out)⟩⟩
                ·rw [if_neg c38] at H
                 exact absurd H (by simp)
               ·rw [if_neg c37] at H
                exact absurd H (by simp)
              ·rw [if_neg c35] at H
               exact absurd H (by simp)
             ·rw [if_neg c34] at H
              exact absurd H (by simp)
            case rest =>
             clear HC33
             try clear c1
             try clear p1
             try clear q1
             try clear hx1
             try clear qi1
             try clear c2
             try clear p2
             try clear c3
             try clear c4
             try clear c6
             try clear p6
             try clear c9
             try clear c10
             try clear c13
             try clear c15
             try clear c16
             try clear c18
             try clear c18b0
             try clear c19
             try clear c19b0
             try clear p19
             try clear q19
             try clear hx19
             try clear qi19
             try clear c20
             try clear c20b0
             try clear c21
             try clear c21b0
             try clear c21b1
             try clear c21b2
             try clear c23
             try clear c24
             try clear c26
             try clear c28
             try clear c30
             try clear c32
             try clear c32b0
             try clear c33
             try clear c34
             try clear c34b0
             try clear c35
             try clear c35b0
             try clear c37
             try clear c37b0
             try clear c38
             try clear c38b0
             try clear c39
             try clear c39b0
             try clear c39b1
             try clear c40
             try clear c40b0
             try clear c40b1
             try clear c41
             try clear c44
             try clear hcz11_0
             try clear hcz11_1
             try clear hcz12_0
             try clear hcz14_0
             try clear hcz14_1
             try clear hcz17_0
             try clear hcz17_1
             try clear hcz25_0
             try clear hcz27_0
             try clear hcz29_0
             try clear hcz31_0
             try clear hcz31_1
             try clear hcz42_0
             try clear hcz42_1
             try clear hcz43_0
             try clear hcz45_0
             try clear hcz45_1
             try clear hcz46_0
             try clear hcz4_0
             try clear hcz4_1
             try clear hcz7_0
             try clear hfz11_0
             try clear hfz11_1
             try clear hfz12_0
             try clear hfz14_0
             try clear hfz14_1
             try clear hfz17_0
             try clear hfz17_1
             try clear hfz25_0
             try clear hfz27_0
             try clear hfz29_0
             try clear hfz31_0
             try clear hfz31_1
             try clear hfz42_0
             try clear hfz42_1
             try clear hfz43_0
             try clear hfz45_0
             try clear hfz45_1
             try clear hfz46_0
             try clear hfz4_0
             try clear hfz4_1
             try clear hfz7_0
             try clear hx190_0
             try clear hx192_0
             try clear hx193_0
             try clear hx194_0
             try clear hx195_0
             try clear p1
             try clear p19
             try clear p190
             try clear p192
             try clear p193
             try clear p194
             try clear p195
             try clear p2
             try clear p6
             try clear q1
             try clear q19
             try clear q190
             try clear q192
             try clear q193
             try clear q194
             try clear q195
             obtain ⟨kq, x66_32, rfl, HA, HJ32, BK187, BK188, HB⟩ := hcut
             cases kq with
             | zero => exact absurd HA.out (by simp [impl_ValidAlgebra.j3])
             | succ kj32 =>
              have H := HA.out
              clear HA
              simp only [impl_ValidAlgebra.j3] at H
              by_cases c47 : x66_32 = true
              ·subst c47
               have H1 : (some false) = some r := by rw [if_pos rfl] at H; exact H
               clear H
               have H := H1
               clear H1
               obtain rfl := Option.some.inj H
               as_aux_lemma =>
                go_wp2
                repeat ((refine wp_region_quiet_lit ?_ ?_ ?_; kernel_rfl; kernel_rfl; (repeat (first | go_big_quiet_step (fail) | (refine wpQuiet_step (fun K hK => ?_); go_simp; refine hK _ ?_; clear hK K))); refine wpQuiet_nil ?_; intro _ hw'; obtain ⟨nq, hw''⟩ := hw'; subst hw''); try go_wp2)
                go_ret
                exact ⟨by first | rfl | (simp [errW_none, errW_some] <;> rfl) | (simp [*, errW_none, errW_some] <;> rfl), by repeat (first | (with_reducible first | exact HB.out | apply below_alloc | apply pw_below_drewN | apply below_drew1 | refine below_set ?_ GE187.out | refine below_set ?_ GE188.out) | exact HB.out)⟩
              ·replace c47 := Bool.eq_false_iff.mpr c47
               subst c47
               have H1 : (impl_ValidAlgebra.l2 kj32 x43_3 (l0_0.length : Int) x43_3 (l0_0.length : Int) 0 l0_0 l0_1 (l0_0.length : Int)) = some r := by rw [if_neg (show ¬ (false = true) by decide)] at H; exact H
               clear H
               have H := H1
               clear H1
               have H' := Aside0.mk H
               clear H
               have hnb48 := NB187_188.out
               have hnc48 := NB188_187.out
               have hcz49_0 : wc.cell? ⟨gb187, 0, none⟩ = some (.slice A0_0 l0_0.length c0_0) := (blk_cell BK187.out 0).trans rfl
               have hcz49_1 : wc.cell? ⟨gb187, 1, none⟩ = some (.slice A0_1 l0_1.length c0_1) := (blk_cell BK187.out 1).trans rfl
               have hfz49_0 := blk_frozen BK187.out 0
               have hfz49_1 := blk_frozen BK187.out 1
               as_aux_lemma =>
                go_wp2
                repeat ((refine wp_region_quiet_lit ?_ ?_ ?_; kernel_rfl; kernel_rfl; (repeat (first | go_big_quiet_step (fail) | (refine wpQuiet_step (fun K hK => ?_); go_simp; refine hK _ ?_; clear hK K))); refine wpQuiet_nil ?_; intro _ hw'; obtain ⟨nq, hw''⟩ := hw'; subst hw''); try go_wp2)
                go_loopg [70] kj32 (fun kq v70 w' => ∃ (x70_5 : Int), v70 = .int .i64 x70_5 ∧ Aside0 (impl_ValidAlgebra.l2 kq x43_3 (l0_0.length : Int) x43_3 (l0_0.length : Int) x70_5 l0_0 l0_1 (l0_0.length : Int) = some r) ∧ Aside0 (kq ≤ kj32) ∧ Aside0 (w'.heap[gb187]? = some (.cells #[(.slice A0_0 l0_0.length c0_0), (.slice A0_1 l0_1.length c0_1)] 25 (0, 0))) ∧ Aside0 (w'.heap[gb188]? = some (.cells #[.int .i64 (l0_0.length : Int)] 3 (0, 0))) ∧ Aside0 (Below w.heap.size w w'))
                case atStart => exact ⟨(0), (by first | rfl | (simp; done) | (simp [*]; done)), H', ⟨Nat.le_refl _⟩, ⟨by (with_reducible repeat (first | refine blk_drewN ?_ _ | refine blk_drew ?_ | refine blk_alloc ?_ _)); exact BK187.out⟩, ⟨by (with_reducible repeat (first | refine blk_drewN ?_ _ | refine blk_drew ?_ | refine blk_alloc ?_ _)); exact BK188.out⟩, ⟨by repeat (first | (with_reducible first | exact HB.out | apply below_alloc | apply pw_below_drewN | apply below_drew1 | refine below_set ?_ GE187.out | refine below_set ?_ GE188.out) | exact HB.out)⟩⟩
                case round =>
                 clear H'
                 try clear c1
                 try clear p1
                 try clear q1
                 try clear hx1
                 try clear qi1
                 try clear c2
                 try clear p2
                 try clear c3
                 try clear c4
                 try clear c6
                 try clear p6
                 try clear c9
                 try clear c10
                 try clear c13
                 try clear c15
                 try clear c16
                 try clear c18
                 try clear c18b0
                 try clear c19
                 try clear c19b0
                 try clear p19
                 try clear q19
                 try clear hx19
                 try clear qi19
                 try clear c20
                 try clear c20b0
                 try clear c21
                 try clear c21b0
                 try clear c21b1
                 try clear c21b2
                 try clear c23
                 try clear c24
                 try clear c26
                 try clear c28
                 try clear c30
                 try clear c32
                 try clear c32b0
                 try clear c33
                 try clear c34
                 try clear c34b0
                 try clear c35
                 try clear c35b0
                 try clear c37
                 try clear c37b0
                 try clear c38
                 try clear c38b0
                 try clear c39
                 try clear c39b0
                 try clear c39b1
                 try clear c40
                 try clear c40b0
                 try clear c40b1
                 try clear c41
                 try clear c44
                 try clear c47
                 try clear c48
                 try clear hcz11_0
                 try clear hcz11_1
                 try clear hcz12_0
                 try clear hcz14_0
                 try clear hcz14_1
                 try clear hcz17_0
                 try clear hcz17_1
                 try clear hcz25_0
                 try clear hcz27_0
                 try clear hcz29_0
                 try clear hcz31_0
                 try clear hcz31_1
                 try clear hcz42_0
                 try clear hcz42_1
                 try clear hcz43_0
                 try clear hcz45_0
                 try clear hcz45_1
                 try clear hcz46_0
                 try clear hcz49_0
                 try clear hcz49_1
                 try clear hcz4_0
                 try clear hcz4_1
                 try clear hcz7_0
                 try clear hfz11_0
                 try clear hfz11_1
                 try clear hfz12_0
                 try clear hfz14_0
                 try clear hfz14_1
                 try clear hfz17_0
                 try clear hfz17_1
                 try clear hfz25_0
                 try clear hfz27_0
                 try clear hfz29_0
                 try clear hfz31_0
                 try clear hfz31_1
                 try clear hfz42_0
                 try clear hfz42_1
                 try clear hfz43_0
                 try clear hfz45_0
                 try clear hfz45_1
                 try clear hfz46_0
                 try clear hfz49_0
                 try clear hfz49_1
                 try clear hfz4_0
                 try clear hfz4_1
                 try clear hfz7_0
                 try clear hx190_0
                 try clear hx192_0
                 try clear hx193_0
                 try clear hx194_0
                 try clear hx195_0
                 try clear p1
                 try clear p19
                 try clear p190
                 try clear p192
                 try clear p193
                 try clear p194
                 try clear p195
                 try clear p2
                 try clear p6
                 try clear q1
                 try clear q19
                 try clear q190
                 try clear q192
                 try clear q193
                 try clear q194
                 try clear q195
                 obtain ⟨x70_5, rfl, HA, HK5, BK187, BK188, HB⟩ := hrel
                 cases gk with
                 | zero => exact absurd HA.out (by simp [impl_ValidAlgebra.l2])
                 | succ k5 =>
                  have H := HA.out
                  clear HA
                  simp only [impl_ValidAlgebra.l2] at H
                  by_cases c50 : x70_5 < (l0_0.length : Int)
                  ·rw [if_pos c50] at H
                   have c50b0 : decide (x70_5 < (l0_0.length : Int)) = true := decide_eq_true c50
                   clear c50
                   by_cases c51 : 0 ≤ x43_3
                   ·rw [if_pos c51] at H
                    have c51b0 : decide (0 ≤ x43_3) = true := decide_eq_true c51
                    clear c51
                    by_cases c52 : x43_3 < (l0_1.length : Int)
                    ·rw [if_pos c52] at H
                     have c52b0 : decide (x43_3 < (l0_1.length : Int)) = true := decide_eq_true c52
                     clear c52
                     by_cases c53 : 0 ≤ x70_5
                     ·rw [if_pos c53] at H
                      have c53b0 : decide (0 ≤ x70_5) = true := decide_eq_true c53
                      clear c53
                      by_cases c54 : x70_5 < ((rd_L1 l0_1 x43_3).length : Int)
                      ·rw [if_pos c54] at H
                       have c54b0 : decide (x70_5 < ((rd_L1 l0_1 x43_3).length : Int)) = true := decide_eq_true c54
                       clear c54
                       by_cases c55 : x70_5 < (l0_1.length : Int)
                       ·rw [if_pos c55] at H
                        have c55b0 : decide (x70_5 < (l0_1.length : Int)) = true := decide_eq_true c55
                        clear c55
                        by_cases c56 : x43_3 < ((rd_L1 l0_1 x70_5).length : Int)
                        ·rw [if_pos c56] at H
                         have c56b0 : decide (x43_3 < ((rd_L1 l0_1 x70_5).length : Int)) = true := decide_eq_true c56
                         clear c56
                         by_cases c57 : (rd (rd_L1 l0_1 x43_3) x70_5) = (rd (rd_L1 l0_1 x70_5) x43_3)
                         ·rw [if_pos c57] at H
                          have c57b0 : ((rd (rd_L1 l0_1 x43_3) x70_5) == (rd (rd_L1 l0_1 x70_5) x43_3)) = true := beq_iff_eq.mpr c57
                          have c57b1 : ((rd (rd_L1 l0_1 x43_3) x70_5) != (rd (rd_L1 l0_1 x70_5) x43_3)) = false := bne_eq_false_iff_eq.mpr c57
                          clear c57
                          have H' := Aside0.mk H
                          clear H
                          have hnb58 := NB187_188.out
                          have hnc58 := NB188_187.out
                          have hcz59_0 : wr.cell? ⟨gb187, 0, none⟩ = some (.slice A0_0 l0_0.length c0_0) := (blk_cell BK187.out 0).trans rfl
                          have hcz59_1 : wr.cell? ⟨gb187, 1, none⟩ = some (.slice A0_1 l0_1.length c0_1) := (blk_cell BK187.out 1).trans rfl
                          have hfz59_0 := blk_frozen BK187.out 0
                          have hfz59_1 := blk_frozen BK187.out 1
                          have p196 : 0 ≤ (x43_3 : Int) := of_decide_eq_true (by first | (with_reducible assumption) | assumption)
                          have q196 : x43_3 < (l0_1.length : Int) := of_decide_eq_true (by first | (with_reducible assumption) | assumption)
                          obtain ⟨ad196, A196_0, c196_0, e196, hx196_0, hl196_0, hi196_0⟩ := at_L1 HR0_1.out x43_3 p196 q196
                          cases e196
                          replace hx196_0 := (HB.out.cell (World.block_lt_of_cell? w _ hx196_0)).trans hx196_0
                          have HR196_0 := Aside0.mk hi196_0
                          have HC196_0 := Aside0.mk hl196_0
                          clear hi196_0 hl196_0
                          replace p196 := eq_true p196
                          replace q196 := eq_true q196
                          have p197 : 0 ≤ (x70_5 : Int) := of_decide_eq_true (by first | (with_reducible assumption) | assumption)
                          have q197 : x70_5 < ((rd_L1 l0_1 x43_3).length : Int) := of_decide_eq_true (by first | (with_reducible assumption) | assumption)
                          obtain ⟨ad197, e197, hx197_0⟩ := Kd.at_int HR196_0.out x70_5 p197 q197
                          cases e197
                          replace hx197_0 := (HB.out.cell (World.block_lt_of_cell? w _ hx197_0)).trans hx197_0
                          replace p197 := eq_true p197
                          replace q197 := eq_true q197
                          have p198 : 0 ≤ (x70_5 : Int) := of_decide_eq_true (by first | (with_reducible assumption) | assumption)
                          have q198 : x70_5 < (l0_1.length : Int) := of_decide_eq_true (by first | (with_reducible assumption) | assumption)
                          obtain ⟨ad198, A198_0, c198_0, e198, hx198_0, hl198_0, hi198_0⟩ := at_L1 HR0_1.out x70_5 p198 q198
                          obtain rfl : ad196 = ad198 := (by injection e198)
                          replace hx198_0 := (HB.out.cell (World.block_lt_of_cell? w _ hx198_0)).trans hx198_0
                          have HR198_0 := Aside0.mk hi198_0
                          have HC198_0 := Aside0.mk hl198_0
                          clear hi198_0 hl198_0
                          replace p198 := eq_true p198
                          replace q198 := eq_true q198
                          have p199 : 0 ≤ (x43_3 : Int) := of_decide_eq_true (by first | (with_reducible assumption) | assumption)
                          have q199 : x43_3 < ((rd_L1 l0_1 x70_5).length : Int) := of_decide_eq_true (by first | (with_reducible assumption) | assumption)
                          obtain ⟨ad199, e199, hx199_0⟩ := Kd.at_int HR198_0.out x43_3 p199 q199
                          cases e199
                          replace hx199_0 := (HB.out.cell (World.block_lt_of_cell? w _ hx199_0)).trans hx199_0
                          replace p199 := eq_true p199
                          replace q199 := eq_true q199
                          as_aux_lemma =>
                           go_wp2
                           repeat ((refine wp_region_quiet_lit ?_ ?_ ?_; kernel_rfl; kernel_rfl; (repeat (first | go_big_quiet_step (fail) | (refine wpQuiet_step (fun K hK => ?_); go_simp; refine hK _ ?_; clear hK K))); refine wpQuiet_nil ?_; intro _ hw'; obtain ⟨nq, hw''⟩ := hw'; subst hw''); try go_wp2)
                           go_loopg [93] k5 (fun kq v93 w' => ∃ (x93_6 : Int), v93 = .int .i64 x93_6 ∧ Aside0 (impl_ValidAlgebra.l3 kq x43_3 x70_5 (l0_0.length : Int) x43_3 (l0_0.length : Int) x70_5 (l0_0.length : Int) x93_6 l0_0 l0_1 (l0_0.length : Int) = some r) ∧ Aside0 (kq ≤ k5) ∧ Aside0 (w'.heap[gb187]? = some (.cells #[(.slice A0_0 l0_0.length c0_0), (.slice (some ad196) l0_1.length c0_1)] 25 (0, 0))) ∧ Aside0 (w'.heap[gb188]? = some (.cells #[.int .i64 (l0_0.length : Int)] 3 (0, 0))) ∧ Aside0 (Below w.heap.size w w'))
                           case atStart => exact ⟨(0), (by first | rfl | (simp; done) | (simp [*]; done)), H', ⟨Nat.le_refl _⟩, ⟨by (with_reducible repeat (first | refine blk_drewN ?_ _ | refine blk_drew ?_ | refine blk_alloc ?_ _)); exact BK187.out⟩, ⟨by (with_reducible repeat (first | refine blk_drewN ?_ _ | refine blk_drew ?_ | refine blk_alloc ?_ _)); exact BK188.out⟩, ⟨by repeat (first | (with_reducible first | exact HB.out | apply below_alloc | apply pw_below_drewN | apply below_drew1 | refine below_set ?_ GE187.out | refine below_set ?_ GE188.out) | exact HB.out)⟩⟩
                           case round =>
                            clear H'
                            try clear c1
                            try clear p1
                            try clear q1
                            try clear hx1
                            try clear qi1
                            try clear c2
                            try clear p2
                            try clear c3
                            try clear c4
                            try clear c5
                            try clear c6
                            try clear p6
                            try clear c9
                            try clear c10
                            try clear c13
                            try clear c15
                            try clear c16
                            try clear c18
                            try clear c18b0
                            try clear c19
                            try clear c19b0
                            try clear p19
                            try clear q19
                            try clear hx19
                            try clear qi19
                            try clear c20
                            try clear c20b0
                            try clear c21
                            try clear c21b0
                            try clear c21b1
                            try clear c21b2
                            try clear c23
                            try clear c24
                            try clear c26
                            try clear c28
                            try clear c30
                            try clear c32
                            try clear c32b0
                            try clear c33
                            try clear c34
                            try clear c34b0
                            try clear c35
                            try clear c35b0
                            try clear c37
                            try clear c37b0
                            try clear c38
                            try clear c38b0
                            try clear c39
                            try clear c39b0
                            try clear c39b1
                            try clear c40
                            try clear c40b0
                            try clear c40b1
                            try clear c41
                            try clear c44
                            try clear c47
                            try clear c48
                            try clear c50
                            try clear c50b0
                            try clear c51
                            try clear c51b0
                            try clear c52
                            try clear c52b0
                            try clear c53
                            try clear c53b0
                            try clear c54
                            try clear c54b0
                            try clear c55
                            try clear c55b0
                            try clear c56
                            try clear c56b0
                            try clear c57
                            try clear c57b0
                            try clear c57b1
                            try clear c58
                            try clear hcz11_0
                            try clear hcz11_1
                            try clear hcz12_0
                            try clear hcz14_0
                            try clear hcz14_1
                            try clear hcz17_0
                            try clear hcz17_1
                            try clear hcz25_0
                            try clear hcz27_0
                            try clear hcz29_0
                            try clear hcz31_0
                            try clear hcz31_1
                            try clear hcz42_0
                            try clear hcz42_1
                            try clear hcz43_0
                            try clear hcz45_0
                            try clear hcz45_1
                            try clear hcz46_0
                            try clear hcz49_0
                            try clear hcz49_1
                            try clear hcz4_0
                            try clear hcz4_1
                            try clear hcz59_0
                            try clear hcz59_1
                            try clear hcz7_0
                            try clear hfz11_0
                            try clear hfz11_1
                            try clear hfz12_0
                            try clear hfz14_0
                            try clear hfz14_1
                            try clear hfz17_0
                            try clear hfz17_1
                            try clear hfz25_0
                            try clear hfz27_0
                            try clear hfz29_0
                            try clear hfz31_0
                            try clear hfz31_1
                            try clear hfz42_0
                            try clear hfz42_1
                            try clear hfz43_0
                            try clear hfz45_0
                            try clear hfz45_1
                            try clear hfz46_0
                            try clear hfz49_0
                            try clear hfz49_1
                            try clear hfz4_0
                            try clear hfz4_1
                            try clear hfz59_0
                            try clear hfz59_1
                            try clear hfz7_0
                            try clear hx190_0
                            try clear hx192_0
                            try clear hx193_0
                            try clear hx194_0
                            try clear hx195_0
                            try clear hx196_0
                            try clear hx197_0
                            try clear hx198_0
                            try clear hx199_0
                            try clear p1
                            try clear p19
                            try clear p190
                            try clear p192
                            try clear p193
                            try clear p194
                            try clear p195
                            try clear p196
                            try clear p197
                            try clear p198
                            try clear p199
                            try clear p2
                            try clear p6
                            try clear q1
                            try clear q19
                            try clear q190
                            try clear q192
                            try clear q193
                            try clear q194
                            try clear q195
                            try clear q196
                            try clear q197
                            try clear q198
                            try clear q199
                            obtain ⟨x93_6, rfl, HA, HK6, BK187, BK188, HB⟩ := hrel
                            cases gk with
                            | zero => exact absurd HA.out (by simp [impl_ValidAlgebra.l3])
                            | succ k6 =>
                             have H := HA.out
                             clear HA
                             simp only [impl_ValidAlgebra.l3] at H
                             by_cases c60 : x93_6 < (l0_0.length : Int)
                             ·rw [if_pos c60] at H
                              have c60b0 : decide (x93_6 < (l0_0.length : Int)) = true := decide_eq_true c60
                              clear c60
                              by_cases c61 : 0 ≤ x43_3
                              ·rw [if_pos c61] at H
                               have c61b0 : decide (0 ≤ x43_3) = true := decide_eq_true c61
                               clear c61
                               by_cases c62 : x43_3 < (l0_1.length : Int)
                               ·rw [if_pos c62] at H
                                have c62b0 : decide (x43_3 < (l0_1.length : Int)) = true := decide_eq_true c62
                                clear c62
                                by_cases c63 : 0 ≤ x70_5
                                ·rw [if_pos c63] at H
                                 have c63b0 : decide (0 ≤ x70_5) = true := decide_eq_true c63
                                 clear c63
                                 by_cases c64 : x70_5 < ((rd_L1 l0_1 x43_3).length : Int)
                                 ·rw [if_pos c64] at H
                                  have c64b0 : decide (x70_5 < ((rd_L1 l0_1 x43_3).length : Int)) = true := decide_eq_true c64
                                  clear c64
                                  by_cases c65 : 0 ≤ (rd (rd_L1 l0_1 x43_3) x70_5)
                                  ·rw [if_pos c65] at H
                                   have c65b0 : decide (0 ≤ (rd (rd_L1 l0_1 x43_3) x70_5)) = true := decide_eq_true c65
                                   clear c65
                                   by_cases c66 : (rd (rd_L1 l0_1 x43_3) x70_5) < (l0_1.length : Int)
                                   ·rw [if_pos c66] at H
                                    have c66b0 : decide ((rd (rd_L1 l0_1 x43_3) x70_5) < (l0_1.length : Int)) = true := decide_eq_true c66
                                    clear c66
                                    by_cases c67 : 0 ≤ x93_6
                                    ·rw [if_pos c67] at H
                                     have c67b0 : decide (0 ≤ x93_6) = true := decide_eq_true c67
                                     clear c67
                                     by_cases c68 : x93_6 < ((rd_L1 l0_1 (rd (rd_L1 l0_1 x43_3) x70_5)).length : Int)
                                     ·rw [if_pos c68] at H
                                      have c68b0 : decide (x93_6 < ((rd_L1 l0_1 (rd (rd_L1 l0_1 x43_3) x70_5)).length : Int)) = true := decide_eq_true c68
                                      clear c68
                                      by_cases c69 : x70_5 < (l0_1.length : Int)
                                      ·rw [if_pos c69] at H
                                       have c69b0 : decide (x70_5 < (l0_1.length : Int)) = true := decide_eq_true c69
                                       clear c69
                                       by_cases c70 : x93_6 < ((rd_L1 l0_1 x70_5).length : Int)
                                       ·rw [if_pos c70] at H
                                        have c70b0 : decide (x93_6 < ((rd_L1 l0_1 x70_5).length : Int)) = true := decide_eq_true c70
                                        clear c70
                                        by_cases c71 : 0 ≤ (rd (rd_L1 l0_1 x70_5) x93_6)
                                        ·rw [if_pos c71] at H
                                         have c71b0 : decide (0 ≤ (rd (rd_L1 l0_1 x70_5) x93_6)) = true := decide_eq_true c71
                                         clear c71
                                         by_cases c72 : (rd (rd_L1 l0_1 x70_5) x93_6) < ((rd_L1 l0_1 x43_3).length : Int)
                                         ·rw [if_pos c72] at H
                                          have c72b0 : decide ((rd (rd_L1 l0_1 x70_5) x93_6) < ((rd_L1 l0_1 x43_3).length : Int)) = true := decide_eq_true c72
                                          clear c72
                                          by_cases c73 : (rd (rd_L1 l0_1 (rd (rd_L1 l0_1 x43_3) x70_5)) x93_6) = (rd (rd_L1 l0_1 x43_3) (rd (rd_L1 l0_1 x70_5) x93_6))
                                          ·rw [if_pos c73] at H
                                           have c73b0 : ((rd (rd_L1 l0_1 (rd (rd_L1 l0_1 x43_3) x70_5)) x93_6) == (rd (rd_L1 l0_1 x43_3) (rd (rd_L1 l0_1 x70_5) x93_6))) = true := beq_iff_eq.mpr c73
                                           have c73b1 : ((rd (rd_L1 l0_1 (rd (rd_L1 l0_1 x43_3) x70_5)) x93_6) != (rd (rd_L1 l0_1 x43_3) (rd (rd_L1 l0_1 x70_5) x93_6))) = false := bne_eq_false_iff_eq.mpr c73
                                           clear c73
                                           replace H := Option.bind_eq_some_iff.mp H
                                           obtain ⟨t209, A740, H⟩ := H
                                           replace H : (if 0 ≤ t209 then (if t209 < ((rd_L1 l0_1 x43_3).length : Int) then (if x93_6 < ((rd_L1 l0_1 x43_3).length : Int) then ((impl_join.f k6 l0_0 (rd (rd_L1 l0_1 x43_3) x70_5) (rd (rd_L1 l0_1 x43_3) x93_6)).bind fun t215 => (if (rd (rd_L1 l0_1 x43_3) t209) = t215 then (impl_ValidAlgebra.l3 k6 x43_3 x70_5 (l0_0.length : Int) x43_3 (l0_0.length : Int) x70_5 (l0_0.length : Int) (wrap64 (x93_6 + 1)) l0_0 l0_1 (l0_0.length : Int)) else (some false))) else (none)) else (none)) else (none)) = some r := H
                                           have A74 := Aside0.mk A740
                                           clear A740
                                           by_cases c75 : 0 ≤ t209
                                           ·rw [if_pos c75] at H
                                            have c75b0 : decide (0 ≤ t209) = true := decide_eq_true c75
                                            clear c75
                                            by_cases c76 : t209 < ((rd_L1 l0_1 x43_3).length : Int)
                                            ·rw [if_pos c76] at H
                                             have c76b0 : decide (t209 < ((rd_L1 l0_1 x43_3).length : Int)) = true := decide_eq_true c76
                                             clear c76
                                             by_cases c77 : x93_6 < ((rd_L1 l0_1 x43_3).length : Int)
                                             ·rw [if_pos c77] at H
                                              have c77b0 : decide (x93_6 < ((rd_L1 l0_1 x43_3).length : Int)) = true := decide_eq_true c77
                                              clear c77
                                              replace H := Option.bind_eq_some_iff.mp H
                                              obtain ⟨t215, A780, H⟩ := H
                                              replace H : (if (rd (rd_L1 l0_1 x43_3) t209) = t215 then (impl_ValidAlgebra.l3 k6 x43_3 x70_5 (l0_0.length : Int) x43_3 (l0_0.length : Int) x70_5 (l0_0.length : Int) (wrap64 (x93_6 + 1)) l0_0 l0_1 (l0_0.length : Int)) else (some false)) = some r := H
                                              have A78 := Aside0.mk A780
                                              clear A780
                                              by_cases c79 : (rd (rd_L1 l0_1 x43_3) t209) = t215
                                              ·rw [if_pos c79] at H
                                               have c79b0 : ((rd (rd_L1 l0_1 x43_3) t209) == t215) = true := beq_iff_eq.mpr c79
                                               have c79b1 : ((rd (rd_L1 l0_1 x43_3) t209) != t215) = false := bne_eq_false_iff_eq.mpr c79
                                               clear c79
                                               have H' := Aside0.mk H
                                               clear H
                                               have hnb80 := NB187_188.out
                                               have hnc80 := NB188_187.out
                                               have hcz81_0 : wr.cell? ⟨gb187, 0, none⟩ = some (.slice A0_0 l0_0.length c0_0) := (blk_cell BK187.out 0).trans rfl
                                               have hcz81_1 : wr.cell? ⟨gb187, 1, none⟩ = some (.slice (some ad196) l0_1.length c0_1) := (blk_cell BK187.out 1).trans rfl
                                               have hfz81_0 := blk_frozen BK187.out 0
                                               have hfz81_1 := blk_frozen BK187.out 1
                                               have p200 : 0 ≤ (x43_3 : Int) := of_decide_eq_true (by first | (with_reducible assumption) | assumption)
                                               have q200 : x43_3 < (l0_1.length : Int) := of_decide_eq_true (by first | (with_reducible assumption) | assumption)
                                               obtain ⟨ad200, A200_0, c200_0, e200, hx200_0, hl200_0, hi200_0⟩ := at_L1 HR0_1.out x43_3 p200 q200
                                               obtain rfl : ad196 = ad200 := (by injection e200)
                                               replace hx200_0 := (HB.out.cell (World.block_lt_of_cell? w _ hx200_0)).trans hx200_0
                                               have HR200_0 := Aside0.mk hi200_0
                                               have HC200_0 := Aside0.mk hl200_0
                                               clear hi200_0 hl200_0
                                               replace p200 := eq_true p200
                                               replace q200 := eq_true q200
                                               have p201 : 0 ≤ (x70_5 : Int) := of_decide_eq_true (by first | (with_reducible assumption) | assumption)
                                               have q201 : x70_5 < ((rd_L1 l0_1 x43_3).length : Int) := of_decide_eq_true (by first | (with_reducible assumption) | assumption)
                                               obtain ⟨ad201, e201, hx201_0⟩ := Kd.at_int HR200_0.out x70_5 p201 q201
                                               cases e201
                                               replace hx201_0 := (HB.out.cell (World.block_lt_of_cell? w _ hx201_0)).trans hx201_0
                                               replace p201 := eq_true p201
                                               replace q201 := eq_true q201
                                               have p202 : 0 ≤ ((rd (rd_L1 l0_1 x43_3) x70_5) : Int) := of_decide_eq_true (by first | (with_reducible assumption) | assumption)
                                               have q202 : (rd (rd_L1 l0_1 x43_3) x70_5) < (l0_1.length : Int) := of_decide_eq_true (by first | (with_reducible assumption) | assumption)
                                               obtain ⟨ad202, A202_0, c202_0, e202, hx202_0, hl202_0, hi202_0⟩ := at_L1 HR0_1.out (rd (rd_L1 l0_1 x43_3) x70_5) p202 q202
                                               obtain rfl : ad196 = ad202 := (by injection e202)
                                               replace hx202_0 := (HB.out.cell (World.block_lt_of_cell? w _ hx202_0)).trans hx202_0
                                               have HR202_0 := Aside0.mk hi202_0
                                               have HC202_0 := Aside0.mk hl202_0
                                               clear hi202_0 hl202_0
                                               replace p202 := eq_true p202
                                               replace q202 := eq_true q202
                                               have p203 : 0 ≤ (x93_6 : Int) := of_decide_eq_true (by first | (with_reducible assumption) | assumption)
                                               have q203 : x93_6 < ((rd_L1 l0_1 (rd (rd_L1 l0_1 x43_3) x70_5)).length : Int) := of_decide_eq_true (by first | (with_reducible assumption) | assumption)
                                               obtain ⟨ad203, e203, hx203_0⟩ := Kd.at_int HR202_0.out x93_6 p203 q203
                                               cases e203
                                               replace hx203_0 := (HB.out.cell (World.block_lt_of_cell? w _ hx203_0)).trans hx203_0
                                               replace p203 := eq_true p203
                                               replace q203 := eq_true q203
                                               have p204 : 0 ≤ (x43_3 : Int) := of_decide_eq_true (by first | (with_reducible assumption) | assumption)
                                               have q204 : x43_3 < (l0_1.length : Int) := of_decide_eq_true (by first | (with_reducible assumption) | assumption)
                                               obtain ⟨ad204, A204_0, c204_0, e204, hx204_0, hl204_0, hi204_0⟩ := at_L1 HR0_1.out x43_3 p204 q204
                                               obtain rfl : ad196 = ad204 := (by injection e204)
                                               replace hx204_0 := (HB.out.cell (World.block_lt_of_cell? w _ hx204_0)).trans hx204_0
                                               have HR204_0 := Aside0.mk hi204_0
                                               have HC204_0 := Aside0.mk hl204_0
                                               clear hi204_0 hl204_0
                                               replace p204 := eq_true p204
                                               replace q204 := eq_true q204
                                               have ea_ := Option.some.inj (hx200_0.symm.trans hx204_0)
                                               injection ea_ with ea_ en_ ec_
                                               subst ea_
                                               subst ec_
                                               clear en_
                                               have p205 : 0 ≤ (x70_5 : Int) := of_decide_eq_true (by first | (with_reducible assumption) | assumption)
                                               have q205 : x70_5 < (l0_1.length : Int) := of_decide_eq_true (by first | (with_reducible assumption) | assumption)
                                               obtain ⟨ad205, A205_0, c205_0, e205, hx205_0, hl205_0, hi205_0⟩ := at_L1 HR0_1.out x70_5 p205 q205
                                               obtain rfl : ad196 = ad205 := (by injection e205)
                                               replace hx205_0 := (HB.out.cell (World.block_lt_of_cell? w _ hx205_0)).trans hx205_0
                                               have HR205_0 := Aside0.mk hi205_0
                                               have HC205_0 := Aside0.mk hl205_0
                                               clear hi205_0 hl205_0
                                               replace p205 := eq_true p205
                                               replace q205 := eq_true q205
                                               have p206 : 0 ≤ (x93_6 : Int) := of_decide_eq_true (by first | (with_reducible assumption) | assumption)
                                               have q206 : x93_6 < ((rd_L1 l0_1 x70_5).length : Int) := of_decide_eq_true (by first | (with_reducible assumption) | assumption)
                                               obtain ⟨ad206, e206, hx206_0⟩ := Kd.at_int HR205_0.out x93_6 p206 q206
                                               cases e206
                                               replace hx206_0 := (HB.out.cell (World.block_lt_of_cell? w _ hx206_0)).trans hx206_0
                                               replace p206 := eq_true p206
                                               replace q206 := eq_true q206
                                               have p207 : 0 ≤ ((rd (rd_L1 l0_1 x70_5) x93_6) : Int) := of_decide_eq_true (by first | (with_reducible assumption) | assumption)
                                               have q207 : (rd (rd_L1 l0_1 x70_5) x93_6) < ((rd_L1 l0_1 x43_3).length : Int) := of_decide_eq_true (by first | (with_reducible assumption) | assumption)
                                               obtain ⟨ad207, e207, hx207_0⟩ := Kd.at_int HR204_0.out (rd (rd_L1 l0_1 x70_5) x93_6) p207 q207
                                               cases e207
                                               replace hx207_0 := (HB.out.cell (World.block_lt_of_cell? w _ hx207_0)).trans hx207_0
                                               replace p207 := eq_true p207
                                               replace q207 := eq_true q207
                                               have p208 : 0 ≤ (x43_3 : Int) := of_decide_eq_true (by first | (with_reducible assumption) | assumption)
                                               have q208 : x43_3 < (l0_1.length : Int) := of_decide_eq_true (by first | (with_reducible assumption) | assumption)
                                               obtain ⟨ad208, A208_0, c208_0, e208, hx208_0, hl208_0, hi208_0⟩ := at_L1 HR0_1.out x43_3 p208 q208
                                               obtain rfl : ad196 = ad208 := (by injection e208)
                                               replace hx208_0 := (HB.out.cell (World.block_lt_of_cell? w _ hx208_0)).trans hx208_0
                                               have HR208_0 := Aside0.mk hi208_0
                                               have HC208_0 := Aside0.mk hl208_0
                                               clear hi208_0 hl208_0
                                               replace p208 := eq_true p208
                                               replace q208 := eq_true q208
                                               have ea_ := Option.some.inj (hx200_0.symm.trans hx208_0)
                                               injection ea_ with ea_ en_ ec_
                                               subst ea_
                                               subst ec_
                                               clear en_
                                               have p210 : 0 ≤ (t209 : Int) := of_decide_eq_true (by first | (with_reducible assumption) | assumption)
                                               have q210 : t209 < ((rd_L1 l0_1 x43_3).length : Int) := of_decide_eq_true (by first | (with_reducible assumption) | assumption)
                                               obtain ⟨ad210, e210, hx210_0⟩ := Kd.at_int HR208_0.out t209 p210 q210
                                               cases e210
                                               replace hx210_0 := (HB.out.cell (World.block_lt_of_cell? w _ hx210_0)).trans hx210_0
                                               replace p210 := eq_true p210
                                               replace q210 := eq_true q210
                                               have p211 : 0 ≤ (x43_3 : Int) := of_decide_eq_true (by first | (with_reducible assumption) | assumption)
                                               have q211 : x43_3 < (l0_1.length : Int) := of_decide_eq_true (by first | (with_reducible assumption) | assumption)
                                               obtain ⟨ad211, A211_0, c211_0, e211, hx211_0, hl211_0, hi211_0⟩ := at_L1 HR0_1.out x43_3 p211 q211
                                               obtain rfl : ad196 = ad211 := (by injection e211)
                                               replace hx211_0 := (HB.out.cell (World.block_lt_of_cell? w _ hx211_0)).trans hx211_0
                                               have HR211_0 := Aside0.mk hi211_0
                                               have HC211_0 := Aside0.mk hl211_0
                                               clear hi211_0 hl211_0
                                               replace p211 := eq_true p211
                                               replace q211 := eq_true q211
                                               have ea_ := Option.some.inj (hx200_0.symm.trans hx211_0)
                                               injection ea_ with ea_ en_ ec_
                                               subst ea_
                                               subst ec_
                                               clear en_
                                               have p212 : 0 ≤ (x70_5 : Int) := of_decide_eq_true (by first | (with_reducible assumption) | assumption)
                                               have q212 : x70_5 < ((rd_L1 l0_1 x43_3).length : Int) := of_decide_eq_true (by first | (with_reducible assumption) | assumption)
                                               obtain ⟨ad212, e212, hx212_0⟩ := Kd.at_int HR211_0.out x70_5 p212 q212
                                               cases e212
                                               replace hx212_0 := (HB.out.cell (World.block_lt_of_cell? w _ hx212_0)).trans hx212_0
                                               replace p212 := eq_true p212
                                               replace q212 := eq_true q212
                                               have p213 : 0 ≤ (x43_3 : Int) := of_decide_eq_true (by first | (with_reducible assumption) | assumption)
                                               have q213 : x43_3 < (l0_1.length : Int) := of_decide_eq_true (by first | (with_reducible assumption) | assumption)
                                               obtain ⟨ad213, A213_0, c213_0, e213, hx213_0, hl213_0, hi213_0⟩ := at_L1 HR0_1.out x43_3 p213 q213
                                               obtain rfl : ad196 = ad213 := (by injection e213)
                                               replace hx213_0 := (HB.out.cell (World.block_lt_of_cell? w _ hx213_0)).trans hx213_0
                                               have HR213_0 := Aside0.mk hi213_0
                                               have HC213_0 := Aside0.mk hl213_0
                                               clear hi213_0 hl213_0
                                               replace p213 := eq_true p213
                                               replace q213 := eq_true q213
                                               have ea_ := Option.some.inj (hx200_0.symm.trans hx213_0)
                                               have p214 : 0 ≤ (x93_6 : Int) := of_decide_eq_true (by first | (with_reducible assumption) | assumption)
                                               have q214 : x93_6 < ((rd_L1 l0_1 x43_3).length : Int) := of_decide_eq_true (by first | (with_reducible assumption) | assumption)
                                               obtain ⟨ad214, e214, hx214_0⟩ := Kd.at_int HR213_0.out x93_6 p214 q214
                                               cases e214
                                               replace hx214_0 := (HB.out.cell (World.block_lt_of_cell? w _ hx214_0)).trans hx214_0
                                               replace p214 := eq_true p214
                                               replace q214 := eq_true q214
                                               as_aux_lemma =>
                                                go_wp2_with (first | (go_at_call 83; (with_reducible refine (impl_join.calls k6 _ _ l0_0 x70_5 x93_6 t209 _ ?side1 ?side2 A74.out).mono ?_); (case side1 => repeat (first | exact (Kd.C_below HR0_0.out HB.out) | (with_reducible refine Kd.C_alloc ?_ _) | (with_reducible refine Kd.C_drewN ?_ _) | (with_reducible refine Kd.C_drew ?_))); (case side2 => exact HC0_0.out); rintro e w' ⟨rfl, ⟨nd, rfl⟩⟩; (try first | exact ⟨rfl, _, World.drewN_drewN _ _ _⟩ | exact ⟨rfl, _, Eq.trans (World.drewN_drewN _ _ _) (congrArg (World.drewN _) (Nat.add_assoc _ _ _))⟩)) | (go_at_call 83; (with_reducible refine (impl_join.calls k6 _ _ l0_0 (rd (rd_L1 l0_1 x43_3) x70_5) (rd (rd_L1 l0_1 x43_3) x93_6) t215 _ ?side1 ?side2 A78.out).mono ?_); (case side1 => repeat (first | exact (Kd.C_below HR0_0.out (by repeat (first | (with_reducible first | exact HB.out | apply below_alloc | apply pw_below_drewN | apply below_drew1 | refine below_set ?_ GE187.out | refine below_set ?_ GE188.out) | exact HB.out))) | (with_reducible refine Kd.C_alloc ?_ _) | (with_reducible refine Kd.C_drewN ?_ _) | (with_reducible refine Kd.C_drew ?_))); (case side2 => exact HC0_0.out); rintro e w' ⟨rfl, ⟨nd, rfl⟩⟩; (try first | exact ⟨rfl, _, World.drewN_drewN _ _ _⟩ | exact ⟨rfl, _, Eq.trans (World.drewN_drewN _ _ _) (congrArg (World.drewN _) (Nat.add_assoc _ _ _))⟩)))
                                                repeat ((refine wp_region_quiet_lit ?_ ?_ ?_; kernel_rfl; kernel_rfl; (repeat (first | go_big_quiet_step (first | (go_at_call 83; (with_reducible refine (impl_join.calls k6 _ _ l0_0 x70_5 x93_6 t209 _ ?side1 ?side2 A74.out).mono ?_); (case side1 => repeat (first | exact (Kd.C_below HR0_0.out HB.out) | (with_reducible refine Kd.C_alloc ?_ _) | (with_reducible refine Kd.C_drewN ?_ _) | (with_reducible refine Kd.C_drew ?_))); (case side2 => exact HC0_0.out); rintro e w' ⟨rfl, ⟨nd, rfl⟩⟩; (try first | exact ⟨rfl, _, World.drewN_drewN _ _ _⟩ | exact ⟨rfl, _, Eq.trans (World.drewN_drewN _ _ _) (congrArg (World.drewN _) (Nat.add_assoc _ _ _))⟩)) | (go_at_call 83; (with_reducible refine (impl_join.calls k6 _ _ l0_0 (rd (rd_L1 l0_1 x43_3) x70_5) (rd (rd_L1 l0_1 x43_3) x93_6) t215 _ ?side1 ?side2 A78.out).mono ?_); (case side1 => repeat (first | exact (Kd.C_below HR0_0.out (by repeat (first | (with_reducible first | exact HB.out | apply below_alloc | apply pw_below_drewN | apply below_drew1 | refine below_set ?_ GE187.out | refine below_set ?_ GE188.out) | exact HB.out))) | (with_reducible refine Kd.C_alloc ?_ _) | (with_reducible refine Kd.C_drewN ?_ _) | (with_reducible refine Kd.C_drew ?_))); (case side2 => exact HC0_0.out); rintro e w' ⟨rfl, ⟨nd, rfl⟩⟩; (try first | exact ⟨rfl, _, World.drewN_drewN _ _ _⟩ | exact ⟨rfl, _, Eq.trans (World.drewN_drewN _ _ _) (congrArg (World.drewN _) (Nat.add_assoc _ _ _))⟩))) | (refine wpQuiet_step (fun K hK => ?_); go_simp; refine hK _ ?_; clear hK K))); refine wpQuiet_nil ?_; intro _ hw'; obtain ⟨nq, hw''⟩ := hw'; subst hw''); try go_wp2_with (first | (go_at_call 83; (with_reducible refine (impl_join.calls k6 _ _ l0_0 x70_5 x93_6 t209 _ ?side1 ?side2 A74.out).mono ?_); (case side1 => repeat (first | exact (Kd.C_below HR0_0.out HB.out) | (with_reducible refine Kd.C_alloc ?_ _) | (with_reducible refine Kd.C_drewN ?_ _) | (with_reducible refine Kd.C_drew ?_))); (case side2 => exact HC0_0.out); rintro e w' ⟨rfl, ⟨nd, rfl⟩⟩; (try first | exact ⟨rfl, _, World.drewN_drewN _ _ _⟩ | exact ⟨rfl, _, Eq.trans (World.drewN_drewN _ _ _) (congrArg (World.drewN _) (Nat.add_assoc _ _ _))⟩)) | (go_at_call 83; (with_reducible refine (impl_join.calls k6 _ _ l0_0 (rd (rd_L1 l0_1 x43_3) x70_5) (rd (rd_L1 l0_1 x43_3) x93_6) t215 _ ?side1 ?side2 A78.out).mono ?_); (case side1 => repeat (first | exact (Kd.C_below HR0_0.out (by repeat (first | (with_reducible first | exact HB.out | apply below_alloc | apply pw_below_drewN | apply below_drew1 | refine below_set ?_ GE187.out | refine below_set ?_ GE188.out) | exact HB.out))) | (with_reducible refine Kd.C_alloc ?_ _) | (with_reducible refine Kd.C_drewN ?_ _) | (with_reducible refine Kd.C_drew ?_))); (case side2 => exact HC0_0.out); rintro e w' ⟨rfl, ⟨nd, rfl⟩⟩; (try first | exact ⟨rfl, _, World.drewN_drewN _ _ _⟩ | exact ⟨rfl, _, Eq.trans (World.drewN_drewN _ _ _) (congrArg (World.drewN _) (Nat.add_assoc _ _ _))⟩))))
                                                go_roundg k6
                                                case measure => have := HJ1.out; have := HK2.out; have := HK3.out; have := HJ32.out; have := HK5.out; have := HK6.out; omega
                                                case rel => exact ⟨(wrap64 (x93_6 + 1)), (by first | rfl | (simp; done) | (simp [*]; done)), H', ⟨by have := HJ1.out; have := HK2.out; have := HK3.out; have := HJ32.out; have := HK5.out; have := HK6.out; omega⟩, ⟨by (with_reducible repeat (first | refine blk_drewN ?_ _ | refine blk_drew ?_ | refine blk_alloc ?_ _)); exact BK187.out⟩, ⟨by (with_reducible repeat (first | refine blk_drewN ?_ _ | refine blk_drew ?_ | refine blk_alloc ?_ _)); exact BK188.out⟩, ⟨by repeat (first | (with_reducible first | exact HB.out | apply below_alloc | apply pw_below_drewN | apply below_drew1 | refine below_set ?_ GE187.out | refine below_set ?_ GE188.out) | exact HB.out)⟩⟩
                                              ·rw [if_neg c79] at H
                                               have c79b0 : ((rd (rd_L1 l0_1 x43_3) t209) == t215) = false := beq_eq_false_iff_ne.mpr c79
                                               have c79b1 : ((rd (rd_L1 l0_1 x43_3) t209) != t215) = true := bne_iff_ne.mpr c79
                                               obtain rfl := Option.some.inj H
                                               have hnb82 := NB187_188.out
                                               have hnc82 := NB188_187.out
                                               have hcz83_0 : wr.cell? ⟨gb187, 0, none⟩ = some (.slice A0_0 l0_0.length c0_0) := (blk_cell BK187.out 0).trans rfl
                                               have hcz83_1 : wr.cell? ⟨gb187, 1, none⟩ = some (.slice (some ad196) l0_1.length c0_1) := (blk_cell BK187.out 1).trans rfl
                                               have hfz83_0 := blk_frozen BK187.out 0
                                               have hfz83_1 := blk_frozen BK187.out 1
                                               have p200 : 0 ≤ (x43_3 : Int) := of_decide_eq_true (by first | (with_reducible assumption) | assumption)
                                               have q200 : x43_3 < (l0_1.length : Int) := of_decide_eq_true (by first | (with_reducible assumption) | assumption)
                                               obtain ⟨ad200, A200_0, c200_0, e200, hx200_0, hl200_0, hi200_0⟩ := at_L1 HR0_1.out x43_3 p200 q200
                                               obtain rfl : ad196 = ad200 := (by injection e200)
                                               replace hx200_0 := (HB.out.cell (World.block_lt_of_cell? w _ hx200_0)).trans hx200_0
                                               have HR200_0 := Aside0.mk hi200_0
                                               have HC200_0 := Aside0.mk hl200_0
                                               clear hi200_0 hl200_0
                                               replace p200 := eq_true p200
                                               replace q200 := eq_true q200
                                               have p201 : 0 ≤ (x70_5 : Int) := of_decide_eq_true (by first | (with_reducible assumption) | assumption)
                                               have q201 : x70_5 < ((rd_L1 l0_1 x43_3).length : Int) := of_decide_eq_true (by first | (with_reducible assumption) | assumption)
                                               obtain ⟨ad201, e201, hx201_0⟩ := Kd.at_int HR200_0.out x70_5 p201 q201
                                               cases e201
                                               replace hx201_0 := (HB.out.cell (World.block_lt_of_cell? w _ hx201_0)).trans hx201_0
                                               replace p201 := eq_true p201
                                               replace q201 := eq_true q201
                                               have p202 : 0 ≤ ((rd (rd_L1 l0_1 x43_3) x70_5) : Int) := of_decide_eq_true (by first | (with_reducible assumption) | assumption)
                                               have q202 : (rd (rd_L1 l0_1 x43_3) x70_5) < (l0_1.length : Int) := of_decide_eq_true (by first | (with_reducible assumption) | assumption)
                                               obtain ⟨ad202, A202_0, c202_0, e202, hx202_0, hl202_0, hi202_0⟩ := at_L1 HR0_1.out (rd (rd_L1 l0_1 x43_3) x70_5) p202 q202
                                               obtain rfl : ad196 = ad202 := (by injection e202)
                                               replace hx202_0 := (HB.out.cell (World.block_lt_of_cell? w _ hx202_0)).trans hx202_0
                                               have HR202_0 := Aside0.mk hi202_0
                                               have HC202_0 := Aside0.mk hl202_0
                                               clear hi202_0 hl202_0
                                               replace p202 := eq_true p202
                                               replace q202 := eq_true q202
                                               have p203 : 0 ≤ (x93_6 : Int) := of_decide_eq_true (by first | (with_reducible assumption) | assumption)
                                               have q203 : x93_6 < ((rd_L1 l0_1 (rd (rd_L1 l0_1 x43_3) x70_5)).length : Int) := of_decide_eq_true (by first | (with_reducible assumption) | assumption)
                                               obtain ⟨ad203, e203, hx203_0⟩ := Kd.at_int HR202_0.out x93_6 p203 q203
                                               cases e203
                                               replace hx203_0 := (HB.out.cell (World.block_lt_of_cell? w _ hx203_0)).trans hx203_0
                                               replace p203 := eq_true p203
                                               replace q203 := eq_true q203
                                               have p204 : 0 ≤ (x43_3 : Int) := of_decide_eq_true (by first | (with_reducible assumption) | assumption)
                                               have q204 : x43_3 < (l0_1.length : Int) := of_decide_eq_true (by first | (with_reducible assumption) | assumption)
                                               obtain ⟨ad204, A204_0, c204_0, e204, hx204_0, hl204_0, hi204_0⟩ := at_L1 HR0_1.out x43_3 p204 q204
                                               obtain rfl : ad196 = ad204 := (by injection e204)
                                               replace hx204_0 := (HB.out.cell (World.block_lt_of_cell? w _ hx204_0)).trans hx204_0
                                               have HR204_0 := Aside0.mk hi204_0
                                               have HC204_0 := Aside0.mk hl204_0
                                               clear hi204_0 hl204_0
                                               replace p204 := eq_true p204
                                               replace q204 := eq_true q204
                                               have ea_ := Option.some.inj (hx200_0.symm.trans hx204_0)
                                               injection ea_ with ea_ en_ ec_
                                               subst ea_
                                               subst ec_
                                               clear en_
                                               have p205 : 0 ≤ (x70_5 : Int) := of_decide_eq_true (by first | (with_reducible assumption) | assumption)
                                               have q205 : x70_5 < (l0_1.length : Int) := of_decide_eq_true (by first | (with_reducible assumption) | assumption)
                                               obtain ⟨ad205, A205_0, c205_0, e205, hx205_0, hl205_0, hi205_0⟩ := at_L1 HR0_1.out x70_5 p205 q205
                                               obtain rfl : ad196 = ad205 := (by injection e205)
                                               replace hx205_0 := (HB.out.cell (World.block_lt_of_cell? w _ hx205_0)).trans hx205_0
                                               have HR205_0 := Aside0.mk hi205_0
                                               have HC205_0 := Aside0.mk hl205_0
                                               clear hi205_0 hl205_0
                                               replace p205 := eq_true p205
                                               replace q205 := eq_true q205
                                               have p206 : 0 ≤ (x93_6 : Int) := of_decide_eq_true (by first | (with_reducible assumption) | assumption)
                                               have q206 : x93_6 < ((rd_L1 l0_1 x70_5).length : Int) := of_decide_eq_true (by first | (with_reducible assumption) | assumption)
                                               obtain ⟨ad206, e206, hx206_0⟩ := Kd.at_int HR205_0.out x93_6 p206 q206
                                               cases e206
                                               replace hx206_0 := (HB.out.cell (World.block_lt_of_cell? w _ hx206_0)).trans hx206_0
                                               replace p206 := eq_true p206
                                               replace q206 := eq_true q206
                                               have p207 : 0 ≤ ((rd (rd_L1 l0_1 x70_5) x93_6) : Int) := of_decide_eq_true (by first | (with_reducible assumption) | assumption)
                                               have q207 : (rd (rd_L1 l0_1 x70_5) x93_6) < ((rd_L1 l0_1 x43_3).length : Int) := of_decide_eq_true (by first | (with_reducible assumption) | assumption)
                                               obtain ⟨ad207, e207, hx207_0⟩ := Kd.at_int HR204_0.out (rd (rd_L1 l0_1 x70_5) x93_6) p207 q207
                                               cases e207
                                               replace hx207_0 := (HB.out.cell (World.block_lt_of_cell? w _ hx207_0)).trans hx207_0
                                               replace p207 := eq_true p207
                                               replace q207 := eq_true q207
                                               have p208 : 0 ≤ (x43_3 : Int) := of_decide_eq_true (by first | (with_reducible assumption) | assumption)
                                               have q208 : x43_3 < (l0_1.length : Int) := of_decide_eq_true (by first | (with_reducible assumption) | assumption)
                                               obtain ⟨ad208, A208_0, c208_0, e208, hx208_0, hl208_0, hi208_0⟩ := at_L1 HR0_1.out x43_3 p208 q208
                                               obtain rfl : ad196 = ad208 := (by injection e208)
                                               replace hx208_0 := (HB.out.cell (World.block_lt_of_cell? w _ hx208_0)).trans hx208_0
                                               have HR208_0 := Aside0.mk hi208_0
                                               have HC208_0 := Aside0.mk hl208_0
                                               clear hi208_0 hl208_0
                                               replace p208 := eq_true p208
                                               replace q208 := eq_true q208
                                               have ea_ := Option.some.inj (hx200_0.symm.trans hx208_0)
                                               injection ea_ with ea_ en_ ec_
                                               subst ea_
                                               subst ec_
                                               clear en_
                                               have p210 : 0 ≤ (t209 : Int) := of_decide_eq_true (by first | (with_reducible assumption) | assumption)
                                               have q210 : t209 < ((rd_L1 l0_1 x43_3).length : Int) := of_decide_eq_true (by first | (with_reducible assumption) | assumption)
                                               obtain ⟨ad210, e210, hx210_0⟩ := Kd.at_int HR208_0.out t209 p210 q210
                                               cases e210
                                               replace hx210_0 := (HB.out.cell (World.block_lt_of_cell? w _ hx210_0)).trans hx210_0
                                               replace p210 := eq_true p210
                                               replace q210 := eq_true q210
                                               have p211 : 0 ≤ (x43_3 : Int) := of_decide_eq_true (by first | (with_reducible assumption) | assumption)
                                               have q211 : x43_3 < (l0_1.length : Int) := of_decide_eq_true (by first | (with_reducible assumption) | assumption)
                                               obtain ⟨ad211, A211_0, c211_0, e211, hx211_0, hl211_0, hi211_0⟩ := at_L1 HR0_1.out x43_3 p211 q211
                                               obtain rfl : ad196 = ad211 := (by injection e211)
                                               replace hx211_0 := (HB.out.cell (World.block_lt_of_cell? w _ hx211_0)).trans hx211_0
                                               have HR211_0 := Aside0.mk hi211_0
                                               have HC211_0 := Aside0.mk hl211_0
                                               clear hi211_0 hl211_0
                                               replace p211 := eq_true p211
                                               replace q211 := eq_true q211
                                               have ea_ := Option.some.inj (hx200_0.symm.trans hx211_0)
                                               injection ea_ with ea_ en_ ec_
                                               subst ea_
                                               subst ec_
                                               clear en_
                                               have p212 : 0 ≤ (x70_5 : Int) := of_decide_eq_true (by first | (with_reducible assumption) | assumption)
                                               have q212 : x70_5 < ((rd_L1 l0_1 x43_3).length : Int) := of_decide_eq_true (by first | (with_reducible assumption) | assumption)
                                               obtain ⟨ad212, e212, hx212_0⟩ := Kd.at_int HR211_0.out x70_5 p212 q212
                                               cases e212
                                               replace hx212_0 := (HB.out.cell (World.block_lt_of_cell? w _ hx212_0)).trans hx212_0
                                               replace p212 := eq_true p212
                                               replace q212 := eq_true q212
                                               have p213 : 0 ≤ (x43_3 : Int) := of_decide_eq_true (by first | (with_reducible assumption) | assumption)
                                               have q213 : x43_3 < (l0_1.length : Int) := of_decide_eq_true (by first | (with_reducible assumption) | assumption)
                                               obtain ⟨ad213, A213_0, c213_0, e213, hx213_0, hl213_0, hi213_0⟩ := at_L1 HR0_1.out x43_3 p213 q213
                                               obtain rfl : ad196 = ad213 := (by injection e213)
                                               replace hx213_0 := (HB.out.cell (World.block_lt_of_cell? w _ hx213_0)).trans hx213_0
                                               have HR213_0 := Aside0.mk hi213_0
                                               have HC213_0 := Aside0.mk hl213_0
                                               clear hi213_0 hl213_0
                                               replace p213 := eq_true p213
                                               replace q213 := eq_true q213
                                               have ea_ := Option.some.inj (hx200_0.symm.trans hx213_0)
                                               have p214 : 0 ≤ (x93_6 : Int) := of_decide_eq_true (by first | (with_reducible assumption) | assumption)
                                               have q214 : x93_6 < ((rd_L1 l0_1 x43_3).length : Int) := of_decide_eq_true (by first | (with_reducible assumption) | assumption)
                                               obtain ⟨ad214, e214, hx214_0⟩ := Kd.at_int HR213_0.out x93_6 p214 q214
                                               cases e214
                                               replace hx214_0 := (HB.out.cell (World.block_lt_of_cell? w _ hx214_0)).trans hx214_0
                                               replace p214 := eq_true p214
                                               replace q214 := eq_true q214
                                               as_aux_lemma =>
                                                go_wp2_with (first | (go_at_call 83; (with_reducible refine (impl_join.calls k6 _ _ l0_0 x70_5 x93_6 t209 _ ?side1 ?side2 A74.out).mono ?_); (case side1 => repeat (first | exact (Kd.C_below HR0_0.out HB.out) | (with_reducible refine Kd.C_alloc ?_ _) | (with_reducible refine Kd.C_drewN ?_ _) | (with_reducible refine Kd.C_drew ?_))); (case side2 => exact HC0_0.out); rintro e w' ⟨rfl, ⟨nd, rfl⟩⟩; (try first | exact ⟨rfl, _, World.drewN_drewN _ _ _⟩ | exact ⟨rfl, _, Eq.trans (World.drewN_drewN _ _ _) (congrArg (World.drewN _) (Nat.add_assoc _ _ _))⟩)) | (go_at_call 83; (with_reducible refine (impl_join.calls k6 _ _ l0_0 (rd (rd_L1 l0_1 x43_3) x70_5) (rd (rd_L1 l0_1 x43_3) x93_6) t215 _ ?side1 ?side2 A78.out).mono ?_); (case side1 => repeat (first | exact (Kd.C_below HR0_0.out (by repeat (first | (with_reducible first | exact HB.out | apply below_alloc | apply pw_below_drewN | apply below_drew1 | refine below_set ?_ GE187.out | refine below_set ?_ GE188.out) | exact HB.out))) | (with_reducible refine Kd.C_alloc ?_ _) | (with_reducible refine Kd.C_drewN ?_ _) | (with_reducible refine Kd.C_drew ?_))); (case side2 => exact HC0_0.out); rintro e w' ⟨rfl, ⟨nd, rfl⟩⟩; (try first | exact ⟨rfl, _, World.drewN_drewN _ _ _⟩ | exact ⟨rfl, _, Eq.trans (World.drewN_drewN _ _ _) (congrArg (World.drewN _) (Nat.add_assoc _ _ _))⟩)))
                                                repeat ((refine wp_region_quiet_lit ?_ ?_ ?_; kernel_rfl; kernel_rfl; (repeat (first | go_big_quiet_step (first | (go_at_call 83; (with_reducible refine (impl_join.calls k6 _ _ l0_0 x70_5 x93_6 t209 _ ?side1 ?side2 A74.out).mono ?_); (case side1 => repeat (first | exact (Kd.C_below HR0_0.out HB.out) | (with_reducible refine Kd.C_alloc ?_ _) | (with_reducible refine Kd.C_drewN ?_ _) | (with_reducible refine Kd.C_drew ?_))); (case side2 => exact HC0_0.out); rintro e w' ⟨rfl, ⟨nd, rfl⟩⟩; (try first | exact ⟨rfl, _, World.drewN_drewN _ _ _⟩ | exact ⟨rfl, _, Eq.trans (World.drewN_drewN _ _ _) (congrArg (World.drewN _) (Nat.add_assoc _ _ _))⟩)) | (go_at_call 83; (with_reducible refine (impl_join.calls k6 _ _ l0_0 (rd (rd_L1 l0_1 x43_3) x70_5) (rd (rd_L1 l0_1 x43_3) x93_6) t215 _ ?side1 ?side2 A78.out).mono ?_); (case side1 => repeat (first | exact (Kd.C_below HR0_0.out (by repeat (first | (with_reducible first | exact HB.out | apply below_alloc | apply pw_below_drewN | apply below_drew1 | refine below_set ?_ GE187.out | refine below_set ?_ GE188.out) | exact HB.out))) | (with_reducible refine Kd.C_alloc ?_ _) | (with_reducible refine Kd.C_drewN ?_ _) | (with_reducible refine Kd.C_drew ?_))); (case side2 => exact HC0_0.out); rintro e w' ⟨rfl, ⟨nd, rfl⟩⟩; (try first | exact ⟨rfl, _, World.drewN_drewN _ _ _⟩ | exact ⟨rfl, _, Eq.trans (World.drewN_drewN _ _ _) (congrArg (World.drewN _) (Nat.add_assoc _ _ _))⟩))) | (refine wpQuiet_step (fun K hK => ?_); go_simp; refine hK _ ?_; clear hK K))); refine wpQuiet_nil ?_; intro _ hw'; obtain ⟨nq, hw''⟩ := hw'; subst hw''); try go_wp2_with (first | (go_at_call 83; (with_reducible refine (impl_join.calls k6 _ _ l0_0 x70_5 x93_6 t209 _ ?side1 ?side2 A74.out).mono ?_); (case side1 => repeat (first | exact (Kd.C_below HR0_0.out HB.out) | (with_reducible refine Kd.C_alloc ?_ _) | (with_reducible refine Kd.C_drewN ?_ _) | (with_reducible refine Kd.C_drew ?_))); (case side2 => exact HC0_0.out); rintro e w' ⟨rfl, ⟨nd, rfl⟩⟩; (try first | exact ⟨rfl, _, World.drewN_drewN _ _ _⟩ | exact ⟨rfl, _, Eq.trans (World.drewN_drewN _ _ _) (congrArg (World.drewN _) (Nat.add_assoc _ _ _))⟩)) | (go_at_call 83; (with_reducible refine (impl_join.calls k6 _ _ l0_0 (rd (rd_L1 l0_1 x43_3) x70_5) (rd (rd_L1 l0_1 x43_3) x93_6) t215 _ ?side1 ?side2 A78.out).mono ?_); (case side1 => repeat (first | exact (Kd.C_below HR0_0.out (by repeat (first | (with_reducible first | exact HB.out | apply below_alloc | apply pw_below_drewN | apply below_drew1 | refine below_set ?_ GE187.out | refine below_set ?_ GE188.out) | exact HB.out))) | (with_reducible refine Kd.C_alloc ?_ _) | (with_reducible refine Kd.C_drewN ?_ _) | (with_reducible refine Kd.C_drew ?_))); (case side2 => exact HC0_0.out); rintro e w' ⟨rfl, ⟨nd, rfl⟩⟩; (try first | exact ⟨rfl, _, World.drewN_drewN _ _ _⟩ | exact ⟨rfl, _, Eq.trans (World.drewN_drewN _ _ _) (congrArg (World.drewN _) (Nat.add_assoc _ _ _))⟩))))
                                                go_ret
                                                exact ⟨by first | rfl | (simp [errW_none, errW_some] <;> rfl) | (simp [*, errW_none, errW_some] <;> rfl), by repeat (first | (with_reducible first | exact HB.out | apply below_alloc | apply pw_below_drewN | apply below_drew1 | refine below_set ?_ GE187.out | refine below_set ?_ GE188.out) | exact HB.out)⟩
                                             ·rw [if_neg c77] at H
                                              exact absurd H (by simp)
                                            ·rw [if_neg c76] at H
                                             exact absurd H (by simp)
                                           ·rw [if_neg c75] at H
                                            exact absurd H (by simp)
                                          ·rw [if_neg c73] at H
                                           have c73b0 : ((rd (rd_L1 l0_1 (rd (rd_L1 l0_1 x43_3) x70_5)) x93_6) == (rd (rd_L1 l0_1 x43_3) (rd (rd_L1 l0_1 x70_5) x93_6))) = false := beq_eq_false_iff_ne.mpr c73
                                           have c73b1 : ((rd (rd_L1 l0_1 (rd (rd_L1 l0_1 x43_3) x70_5)) x93_6) != (rd (rd_L1 l0_1 x43_3) (rd (rd_L1 l0_1 x70_5) x93_6))) = true := bne_iff_ne.mpr c73
                                           obtain rfl := Option.some.inj H
                                           have hnb84 := NB187_188.out
                                           have hnc84 := NB188_187.out
                                           have hcz85_0 : wr.cell? ⟨gb187, 0, none⟩ = some (.slice A0_0 l0_0.length c0_0) := (blk_cell BK187.out 0).trans rfl
                                           have hcz85_1 : wr.cell? ⟨gb187, 1, none⟩ = some (.slice (some ad196) l0_1.length c0_1) := (blk_cell BK187.out 1).trans rfl
                                           have hfz85_0 := blk_frozen BK187.out 0
                                           have hfz85_1 := blk_frozen BK187.out 1
                                           have p200 : 0 ≤ (x43_3 : Int) := of_decide_eq_true (by first | (with_reducible assumption) | assumption)
                                           have q200 : x43_3 < (l0_1.length : Int) := of_decide_eq_true (by first | (with_reducible assumption) | assumption)
                                           obtain ⟨ad200, A200_0, c200_0, e200, hx200_0, hl200_0, hi200_0⟩ := at_L1 HR0_1.out x43_3 p200 q200
                                           obtain rfl : ad196 = ad200 := (by injection e200)
                                           replace hx200_0 := (HB.out.cell (World.block_lt_of_cell? w _ hx200_0)).trans hx200_0
                                           have HR200_0 := Aside0.mk hi200_0
                                           have HC200_0 := Aside0.mk hl200_0
                                           clear hi200_0 hl200_0
                                           replace p200 := eq_true p200
                                           replace q200 := eq_true q200
                                           have p201 : 0 ≤ (x70_5 : Int) := of_decide_eq_true (by first | (with_reducible assumption) | assumption)
                                           have q201 : x70_5 < ((rd_L1 l0_1 x43_3).length : Int) := of_decide_eq_true (by first | (with_reducible assumption) | assumption)
                                           obtain ⟨ad201, e201, hx201_0⟩ := Kd.at_int HR200_0.out x70_5 p201 q201
                                           cases e201
                                           replace hx201_0 := (HB.out.cell (World.block_lt_of_cell? w _ hx201_0)).trans hx201_0
                                           replace p201 := eq_true p201
                                           replace q201 := eq_true q201
                                           have p202 : 0 ≤ ((rd (rd_L1 l0_1 x43_3) x70_5) : Int) := of_decide_eq_true (by first | (with_reducible assumption) | assumption)
                                           have q202 : (rd (rd_L1 l0_1 x43_3) x70_5) < (l0_1.length : Int) := of_decide_eq_true (by first | (with_reducible assumption) | assumption)
                                           obtain ⟨ad202, A202_0, c202_0, e202, hx202_0, hl202_0, hi202_0⟩ := at_L1 HR0_1.out (rd (rd_L1 l0_1 x43_3) x70_5) p202 q202
                                           obtain rfl : ad196 = ad202 := (by injection e202)
                                           replace hx202_0 := (HB.out.cell (World.block_lt_of_cell? w _ hx202_0)).trans hx202_0
                                           have HR202_0 := Aside0.mk hi202_0
                                           have HC202_0 := Aside0.mk hl202_0
                                           clear hi202_0 hl202_0
                                           replace p202 := eq_true p202
                                           replace q202 := eq_true q202
                                           have p203 : 0 ≤ (x93_6 : Int) := of_decide_eq_true (by first | (with_reducible assumption) | assumption)
                                           have q203 : x93_6 < ((rd_L1 l0_1 (rd (rd_L1 l0_1 x43_3) x70_5)).length : Int) := of_decide_eq_true (by first | (with_reducible assumption) | assumption)
                                           obtain ⟨ad203, e203, hx203_0⟩ := Kd.at_int HR202_0.out x93_6 p203 q203
                                           cases e203
                                           replace hx203_0 := (HB.out.cell (World.block_lt_of_cell? w _ hx203_0)).trans hx203_0
                                           replace p203 := eq_true p203
                                           replace q203 := eq_true q203
                                           have p204 : 0 ≤ (x43_3 : Int) := of_decide_eq_true (by first | (with_reducible assumption) | assumption)
                                           have q204 : x43_3 < (l0_1.length : Int) := of_decide_eq_true (by first | (with_reducible assumption) | assumption)
                                           obtain ⟨ad204, A204_0, c204_0, e204, hx204_0, hl204_0, hi204_0⟩ := at_L1 HR0_1.out x43_3 p204 q204
                                           obtain rfl : ad196 = ad204 := (by injection e204)
                                           replace hx204_0 := (HB.out.cell (World.block_lt_of_cell? w _ hx204_0)).trans hx204_0
                                           have HR204_0 := Aside0.mk hi204_0
                                           have HC204_0 := Aside0.mk hl204_0
                                           clear hi204_0 hl204_0
                                           replace p204 := eq_true p204
                                           replace q204 := eq_true q204
                                           have ea_ := Option.some.inj (hx200_0.symm.trans hx204_0)
                                           injection ea_ with ea_ en_ ec_
                                           subst ea_
                                           subst ec_
                                           clear en_
                                           have p205 : 0 ≤ (x70_5 : Int) := of_decide_eq_true (by first | (with_reducible assumption) | assumption)
                                           have q205 : x70_5 < (l0_1.length : Int) := of_decide_eq_true (by first | (with_reducible assumption) | assumption)
                                           obtain ⟨ad205, A205_0, c205_0, e205, hx205_0, hl205_0, hi205_0⟩ := at_L1 HR0_1.out x70_5 p205 q205
                                           obtain rfl : ad196 = ad205 := (by injection e205)
                                           replace hx205_0 := (HB.out.cell (World.block_lt_of_cell? w _ hx205_0)).trans hx205_0
                                           have HR205_0 := Aside0.mk hi205_0
                                           have HC205_0 := Aside0.mk hl205_0
                                           clear hi205_0 hl205_0
                                           replace p205 := eq_true p205
                                           replace q205 := eq_true q205
                                           have p206 : 0 ≤ (x93_6 : Int) := of_decide_eq_true (by first | (with_reducible assumption) | assumption)
                                           have q206 : x93_6 < ((rd_L1 l0_1 x70_5).length : Int) := of_decide_eq_true (by first | (with_reducible assumption) | assumption)
                                           obtain ⟨ad206, e206, hx206_0⟩ := Kd.at_int HR205_0.out x93_6 p206 q206
                                           cases e206
                                           replace hx206_0 := (HB.out.cell (World.block_lt_of_cell? w _ hx206_0)).trans hx206_0
                                           replace p206 := eq_true p206
                                           replace q206 := eq_true q206
                                           have p207 : 0 ≤ ((rd (rd_L1 l0_1 x70_5) x93_6) : Int) := of_decide_eq_true (by first | (with_reducible assumption) | assumption)
                                           have q207 : (rd (rd_L1 l0_1 x70_5) x93_6) < ((rd_L1 l0_1 x43_3).length : Int) := of_decide_eq_true (by first | (with_reducible assumption) | assumption)
                                           obtain ⟨ad207, e207, hx207_0⟩ := Kd.at_int HR204_0.out (rd (rd_L1 l0_1 x70_5) x93_6) p207 q207
                                           cases e207
                                           replace hx207_0 := (HB.out.cell (World.block_lt_of_cell? w _ hx207_0)).trans hx207_0
                                           replace p207 := eq_true p207
                                           replace q207 := eq_true q207
                                           as_aux_lemma =>
                                            go_wp2
                                            repeat ((refine wp_region_quiet_lit ?_ ?_ ?_; kernel_rfl; kernel_rfl; (repeat (first | go_big_quiet_step (fail) | (refine wpQuiet_step (fun K hK => ?_); go_simp; refine hK _ ?_; clear hK K))); refine wpQuiet_nil ?_; intro _ hw'; obtain ⟨nq, hw''⟩ := hw'; subst hw''); try go_wp2)
                                            go_ret
                                            exact ⟨by first | rfl | (simp [errW_none, errW_some] <;> rfl) | (simp [*, errW_none, errW_some] <;> rfl), by repeat (first | (with_reducible first | exact HB.out | apply below_alloc | apply pw_below_drewN | apply below_drew1 | refine below_set ?_ GE187.out | refine below_set ?_ GE188.out) | exact HB.out)⟩
                                         ·rw [if_neg c72] at H
                                          exact absurd H (by simp)
                                        ·rw [if_neg c71] at H
                                         exact absurd H (by simp)
                                       ·rw [if_neg c70] at H
                                        exact absurd H (by simp)
                                      ·rw [if_neg c69] at H
                                       exact absurd H (by simp)
                                     ·rw [if_neg c68] at H
                                      exact absurd H (by simp)
                                    ·rw [if_neg c67] at H
                                     exact absurd H (by simp)
                                   ·rw [if_neg c66] at H
                                    exact absurd H (by simp)
                                  ·rw [if_neg c65] at H
                                   exact absurd H (by simp)
                                 ·rw [if_neg c64] at H
                                  exact absurd H (by simp)
                                ·rw [if_neg c63] at H
                                 exact absurd H (by simp)
                               ·rw [if_neg c62] at H
                                exact absurd H (by simp)
                              ·rw [if_neg c61] at H
                               exact absurd H (by simp)
                             ·rw [if_neg c60] at H
                              have c60b0 : decide (x93_6 < (l0_0.length : Int)) = false := decide_eq_false c60
                              clear c60
                              have H' := Aside0.mk H
                              clear H
                              as_aux_lemma =>
                               go_wp2
                               repeat ((refine wp_region_quiet_lit ?_ ?_ ?_; kernel_rfl; kernel_rfl; (repeat (first | go_big_quiet_step (fail) | (refine wpQuiet_step (fun K hK => ?_); go_simp; refine hK _ ?_; clear hK K))); refine wpQuiet_nil ?_; intro _ hw'; obtain ⟨nq, hw''⟩ := hw'; subst hw''); try go_wp2)
                               go_roundg k6
                               case measure => have := HJ1.out; have := HK2.out; have := HK3.out; have := HJ32.out; have := HK5.out; have := HK6.out; omega
                               case rel => exact ⟨(wrap64 (x70_5 + 1)), (by first | rfl | (simp; done) | (simp [*]; done)), H', ⟨by have := HJ1.out; have := HK2.out; have := HK3.out; have := HJ32.out; have := HK5.out; have := HK6.out; omega⟩, ⟨by (with_reducible repeat (first | refine blk_drewN ?_ _ | refine blk_drew ?_ | refine blk_alloc ?_ _)); exact BK187.out⟩, ⟨by (with_reducible repeat (first | refine blk_drewN ?_ _ | refine blk_drew ?_ | refine blk_alloc ?_ _)); exact BK188.out⟩, ⟨by repeat (first | (with_reducible first | exact HB.out | apply below_alloc | apply pw_below_drewN | apply below_drew1 | refine below_set ?_ GE187.out | refine below_set ?_ GE188.out) | exact HB.out)⟩⟩
                         ·rw [if_neg c57] at H
                          have c57b0 : ((rd (rd_L1 l0_1 x43_3) x70_5) == (rd (rd_L1 l0_1 x70_5) x43_3)) = false := beq_eq_false_iff_ne.mpr c57
                          have c57b1 : ((rd (rd_L1 l0_1 x43_3) x70_5) != (rd (rd_L1 l0_1 x70_5) x43_3)) = true := bne_iff_ne.mpr c57
                          obtain rfl := Option.some.inj H
                          have hnb86 := NB187_188.out
                          have hnc86 := NB188_187.out
                          have hcz87_0 : wr.cell? ⟨gb187, 0, none⟩ = some (.slice A0_0 l0_0.length c0_0) := (blk_cell BK187.out 0).trans rfl
                          have hcz87_1 : wr.cell? ⟨gb187, 1, none⟩ = some (.slice A0_1 l0_1.length c0_1) := (blk_cell BK187.out 1).trans rfl
                          have hfz87_0 := blk_frozen BK187.out 0
                          have hfz87_1 := blk_frozen BK187.out 1
                          have p196 : 0 ≤ (x43_3 : Int) := of_decide_eq_true (by first | (with_reducible assumption) | assumption)
                          have q196 : x43_3 < (l0_1.length : Int) := of_decide_eq_true (by first | (with_reducible assumption) | assumption)
                          obtain ⟨ad196, A196_0, c196_0, e196, hx196_0, hl196_0, hi196_0⟩ := at_L1 HR0_1.out x43_3 p196 q196
                          cases e196
                          replace hx196_0 := (HB.out.cell (World.block_lt_of_cell? w _ hx196_0)).trans hx196_0
                          have HR196_0 := Aside0.mk hi196_0
                          have HC196_0 := Aside0.mk hl196_0
                          clear hi196_0 hl196_0
                          replace p196 := eq_true p196
                          replace q196 := eq_true q196
                          have p197 : 0 ≤ (x70_5 : Int) := of_decide_eq_true (by first | (with_reducible assumption) | assumption)
                          have q197 : x70_5 < ((rd_L1 l0_1 x43_3).length : Int) := of_decide_eq_true (by first | (with_reducible assumption) | assumption)
                          obtain ⟨ad197, e197, hx197_0⟩ := Kd.at_int HR196_0.out x70_5 p197 q197
                          cases e197
                          replace hx197_0 := (HB.out.cell (World.block_lt_of_cell? w _ hx197_0)).trans hx197_0
                          replace p197 := eq_true p197
                          replace q197 := eq_true q197
                          have p198 : 0 ≤ (x70_5 : Int) := of_decide_eq_true (by first | (with_reducible assumption) | assumption)
                          have q198 : x70_5 < (l0_1.length : Int) := of_decide_eq_true (by first | (with_reducible assumption) | assumption)
                          obtain ⟨ad198, A198_0, c198_0, e198, hx198_0, hl198_0, hi198_0⟩ := at_L1 HR0_1.out x70_5 p198 q198
                          obtain rfl : ad196 = ad198 := (by injection e198)
                          replace hx198_0 := (HB.out.cell (World.block_lt_of_cell? w _ hx198_0)).trans hx198_0
                          have HR198_0 := Aside0.mk hi198_0
                          have HC198_0 := Aside0.mk hl198_0
                          clear hi198_0 hl198_0
                          replace p198 := eq_true p198
                          replace q198 := eq_true q198
                          have p199 : 0 ≤ (x43_3 : Int) := of_decide_eq_true (by first | (with_reducible assumption) | assumption)
                          have q199 : x43_3 < ((rd_L1 l0_1 x70_5).length : Int) := of_decide_eq_true (by first | (with_reducible assumption) | assumption)
                          obtain ⟨ad199, e199, hx199_0⟩ := Kd.at_int HR198_0.out x43_3 p199 q199
                          cases e199
                          replace hx199_0 := (HB.out.cell (World.block_lt_of_cell? w _ hx199_0)).trans hx199_0
                          replace p199 := eq_true p199
                          replace q199 := eq_true q199
                          as_aux_lemma =>
                           go_wp2
                           repeat ((refine wp_region_quiet_lit ?_ ?_ ?_; kernel_rfl; kernel_rfl; (repeat (first | go_big_quiet_step (fail) | (refine wpQuiet_step (fun K hK => ?_); go_simp; refine hK _ ?_; clear hK K))); refine wpQuiet_nil ?_; intro _ hw'; obtain ⟨nq, hw''⟩ := hw'; subst hw''); try go_wp2)
                           go_ret
                           exact ⟨by first | rfl | (simp [errW_none, errW_some] <;> rfl) | (simp [*, errW_none, errW_some] <;> rfl), by repeat (first | (with_reducible first | exact HB.out | apply below_alloc | apply pw_below_drewN | apply below_drew1 | refine below_set ?_ GE187.out | refine below_set ?_ GE188.out) | exact HB.out)⟩
                        ·rw [if_neg c56] at H
                         exact absurd H (by simp)
                       ·rw [if_neg c55] at H
                        exact absurd H (by simp)
                      ·rw [if_neg c54] at H
                       exact absurd H (by simp)
                     ·rw [if_neg c53] at H
                      exact absurd H (by simp)
                    ·rw [if_neg c52] at H
                     exact absurd H (by simp)
                   ·rw [if_neg c51] at H
                    exact absurd H (by simp)
                  ·rw [if_neg c50] at H
                   have c50b0 : decide (x70_5 < (l0_0.length : Int)) = false := decide_eq_false c50
                   clear c50
                   have H' := Aside0.mk H
                   clear H
                   as_aux_lemma =>
                    go_wp2
                    repeat ((refine wp_region_quiet_lit ?_ ?_ ?_; kernel_rfl; kernel_rfl; (repeat (first | go_big_quiet_step (fail) | (refine wpQuiet_step (fun K hK => ?_); go_simp; refine hK _ ?_; clear hK K))); refine wpQuiet_nil ?_; intro _ hw'; obtain ⟨nq, hw''⟩ := hw'; subst hw''); try go_wp2)
                    go_roundg k5
                    case measure => have := HJ1.out; have := HK2.out; have := HK3.out; have := HJ32.out; have := HK5.out; omega
                    case rel => exact ⟨(wrap64 (x43_3 + 1)), (by first | rfl | (simp; done) | (simp [*]; done)), H', ⟨by have := HJ1.out; have := HK2.out; have := HK3.out; have := HJ32.out; have := HK5.out; omega⟩, ⟨by (with_reducible repeat (first | refine blk_drewN ?_ _ | refine blk_drew ?_ | refine blk_alloc ?_ _)); exact BK187.out⟩, ⟨by (with_reducible repeat (first | refine blk_drewN ?_ _ | refine blk_drew ?_ | refine blk_alloc ?_ _)); exact BK188.out⟩, ⟨by repeat (first | (with_reducible first | exact HB.out | apply below_alloc | apply pw_below_drewN | apply below_drew1 | refine below_set ?_ GE187.out | refine below_set ?_ GE188.out) | exact HB.out)⟩⟩
           ·rw [if_neg c32] at H
            have c32b0 : decide (x43_3 < (l0_0.length : Int)) = false := decide_eq_false c32
            clear c32
            obtain rfl := Option.some.inj H
            as_aux_lemma =>
             go_wp2
             repeat ((refine wp_region_quiet_lit ?_ ?_ ?_; kernel_rfl; kernel_rfl; (repeat (first | go_big_quiet_step (fail) | (refine wpQuiet_step (fun K hK => ?_); go_simp; refine hK _ ?_; clear hK K))); refine wpQuiet_nil ?_; intro _ hw'; obtain ⟨nq, hw''⟩ := hw'; subst hw''); try go_wp2)
             go_ret
             exact ⟨by first | rfl | (simp [errW_none, errW_some] <;> rfl) | (simp [*, errW_none, errW_some] <;> rfl), by repeat (first | (with_reducible first | exact HB.out | apply below_alloc | apply pw_below_drewN | apply below_drew1 | refine below_set ?_ GE187.out | refine below_set ?_ GE188.out) | exact HB.out)⟩

end Go.Proofs.Ytjidbgmkhapklaa.P

-- shrunk
