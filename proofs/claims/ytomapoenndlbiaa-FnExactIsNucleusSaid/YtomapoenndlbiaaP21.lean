-- Printed by this session's wip/print2.py (the kit's print.py, widened) out of the translation. Lean checks it.
import Derived.Test.YtomapoenndlbiaaP0
import Derived.Test.YtomapoenndlbiaaP15
import Derived.Test.YtomapoenndlbiaaP20
namespace Go.Proofs.Ytomapoenndlbiaa.P
open Go.RowKit Go.Proofs.YtomapoenndlbiaaW.PrintWords Go.Proofs.YtomapoenndlbiaaW.PrintLast Go.Proofs.YtomapoenndlbiaaW.PrintMore
attribute [local go_sem] max2_int min2_int max_two min_two max_three min_three max_four min_four   -- for this text's walks alone
set_option linter.unusedVariables false
set_option linter.unusedSimpArgs false

/-! ### impl_isNucleus: function 41 -/
mutual
def impl_isNucleus.j0 : Nat → Bool → List Int → List (List Int) → List Int → Option (Bool)
 | 0, _, _, _, _ => none
 | k + 1, x17, x268000, x268001, x269000 => if x17 = true then (some false) else (impl_isNucleus.l0 k (x269000.length : Int) 0 x268000 x268001 x269000)
def impl_isNucleus.l0 : Nat → Int → Int → List Int → List (List Int) → List Int → Option (Bool)
 | 0, _, _, _, _, _ => none
 | k + 1, x19, x20, x268000, x268001, x269000 => if x20 < x19 then (if 0 ≤ x20 then (if x20 < (x269000.length : Int) then ((impl_below.f x268000 x20 (rd x269000 x20)).bind fun t271 => (if t271 = true then (if 0 ≤ (rd x269000 x20) then (if (rd x269000 x20) < (x269000.length : Int) then (impl_isNucleus.j2 k x20 x19 x20 ((rd x269000 (rd x269000 x20)) != (rd x269000 x20)) x268000 x268001 x269000) else (none)) else (none)) else (impl_isNucleus.j2 k x20 x19 x20 true x268000 x268001 x269000))) else (none)) else (none)) else (some true)
def impl_isNucleus.j2 : Nat → Int → Int → Int → Bool → List Int → List (List Int) → List Int → Option (Bool)
 | 0, _, _, _, _, _, _, _ => none
 | k + 1, x5, x19, x20, x45, x268000, x268001, x269000 => if x45 = true then (some false) else (impl_isNucleus.l1 k x5 x19 x20 (x269000.length : Int) 0 x268000 x268001 x269000)
def impl_isNucleus.l1 : Nat → Int → Int → Int → Int → Int → List Int → List (List Int) → List Int → Option (Bool)
 | 0, _, _, _, _, _, _, _, _ => none
 | k + 1, x5, x19, x20, x47, x48, x268000, x268001, x269000 => if x48 < x47 then ((impl_below.f x268000 x5 x48).bind fun t275 => (if t275 = true then (if 0 ≤ x5 then (if x5 < (x269000.length : Int) then (if 0 ≤ x48 then (if x48 < (x269000.length : Int) then ((impl_below.f x268000 (rd x269000 x5) (rd x269000 x48)).bind fun t278 => (if t278 = true then (if 0 ≤ (rd x269000 x5) then (if (rd x269000 x5) < (x268001.length : Int) then (if 0 ≤ (rd x269000 x48) then (if (rd x269000 x48) < ((rd_L1 x268001 (rd x269000 x5)).length : Int) then (if x5 < (x268001.length : Int) then (if x48 < ((rd_L1 x268001 x5).length : Int) then (if 0 ≤ (rd (rd_L1 x268001 x5) x48) then (if (rd (rd_L1 x268001 x5) x48) < (x269000.length : Int) then ((impl_below.f x268000 (rd (rd_L1 x268001 (rd x269000 x5)) (rd x269000 x48)) (rd x269000 (rd (rd_L1 x268001 x5) x48))).bind fun t286 => (if t286 = true then (impl_isNucleus.l1 k x5 x19 x20 x47 (wrap64 (x48 + 1)) x268000 x268001 x269000) else (some false))) else (none)) else (none)) else (none)) else (none)) else (none)) else (none)) else (none)) else (none)) else (some false))) else (none)) else (none)) else (none)) else (none)) else (if 0 ≤ x5 then (if x5 < (x269000.length : Int) then (if 0 ≤ (rd x269000 x5) then (if (rd x269000 x5) < (x268001.length : Int) then (if 0 ≤ x48 then (if x48 < (x269000.length : Int) then (if 0 ≤ (rd x269000 x48) then (if (rd x269000 x48) < ((rd_L1 x268001 (rd x269000 x5)).length : Int) then (if x5 < (x268001.length : Int) then (if x48 < ((rd_L1 x268001 x5).length : Int) then (if 0 ≤ (rd (rd_L1 x268001 x5) x48) then (if (rd (rd_L1 x268001 x5) x48) < (x269000.length : Int) then ((impl_below.f x268000 (rd (rd_L1 x268001 (rd x269000 x5)) (rd x269000 x48)) (rd x269000 (rd (rd_L1 x268001 x5) x48))).bind fun t294 => (if t294 = true then (impl_isNucleus.l1 k x5 x19 x20 x47 (wrap64 (x48 + 1)) x268000 x268001 x269000) else (some false))) else (none)) else (none)) else (none)) else (none)) else (none)) else (none)) else (none)) else (none)) else (none)) else (none)) else (none)) else (none)))) else (impl_isNucleus.l0 k x19 (wrap64 (x20 + 1)) x268000 x268001 x269000)
end
def impl_isNucleus.f (k : Nat) (l0_0 : List Int) (l0_1 : List (List Int)) (l1 : List Int) : Option (Bool) := if (l1.length : Int) = (l0_0.length : Int) then ((cf_isNucleus_1.f l1 l1).bind fun t269 => (impl_isNucleus.j0 k t269 l0_0 l0_1 l1)) else (impl_isNucleus.j0 k true l0_0 l0_1 l1)
set_option maxHeartbeats 8000000 in
set_option maxRecDepth 100000 in
theorem impl_isNucleus.calls (k : Nat) (A0_0 : Option Addr) (c0_0 : Nat) (l0_0 : List Int) (A0_1 : Option Addr) (c0_1 : Nat) (l0_1 : List (List Int)) (A1 : Option Addr) (c1 : Nat) (l1 : List Int) (r : Bool) (w : World) (hr0_0 : Kd.C (Kd.int .i64) w A0_0 l0_0.length l0_0) (hc0_0 : l0_0.length ≤ c0_0) (hr0_1 : Kd.C (Kd.slice 3 (Kd.int .i64)) w A0_1 l0_1.length l0_1) (hc0_1 : l0_1.length ≤ c0_1) (hr1 : Kd.C (Kd.int .i64) w A1 l1.length l1) (hc1 : l1.length ≤ c1) (h : impl_isNucleus.f k l0_0 l0_1 l1 = some r) :
  Calls Try.prog 41 #[.agg #[.slice A0_0 l0_0.length c0_0, .slice A0_1 l0_1.length c0_1], .slice A1 l1.length c1] w fun e w' => e = .returned (.bool r) ∧ Below w.heap.size w w' := by
 have hu28 := Try.underlying28
 have HR0_0 := Aside0.mk hr0_0
 have HC0_0 := Aside0.mk hc0_0
 clear hr0_0 hc0_0
 have HR0_1 := Aside0.mk hr0_1
 have HC0_1 := Aside0.mk hc0_1
 clear hr0_1 hc0_1
 have HR1 := Aside0.mk hr1
 have HC1 := Aside0.mk hc1
 clear hr1 hc1
 have HB := Aside0.mk (Below.refl w.heap.size w)
 have H : (if (l1.length : Int) = (l0_0.length : Int) then ((cf_isNucleus_1.f l1 l1).bind fun t269 => (impl_isNucleus.j0 k t269 l0_0 l0_1 l1)) else (impl_isNucleus.j0 k true l0_0 l0_1 l1)) = some r := h
 clear h
 have HC3 := Aside0.mk H
 clear H
 have hmf : ∀ (fn : Fn) (first cap : Array Value) (w : World), (Instr.makeFunc fn first cap).run Try.prog w = .ok (.func fn first cap) w := fun _ _ _ _ => rfl
 go_enter Try.func41, Try.ntmps41
 go_upto_region 1 with (first | ((with_reducible refine gate_dst (N := 2) rfl ?_); refine box_event ?hg (N := 2) ?hd (cs := #[.slice A0_0 l0_0.length c0_0, .slice A0_1 l0_1.length c0_1]) (t := 28) ?hr ?_; (case hd => rfl); (case hg => rfl); (case hr => first | (go_simp; done) | (go_simp; rfl)); intro gb267 hg w4 hbox hb; have n0_ := Aside0.mk (below_step (by repeat (first | (with_reducible first | exact HB.out | apply below_alloc | apply pw_below_drewN | apply below_drew1) | exact HB.out)) hb); have n1_ := Aside0.mk (hbox); have n2_ := Aside0.mk ((by rw [hg]; exact (below_size (by repeat (first | (with_reducible first | exact HB.out | apply below_alloc | apply pw_below_drewN | apply below_drew1) | exact HB.out))) : w.heap.size ≤ gb267)); have n3_ := Aside0.mk ((by rw [hg]; exact (below_size (by repeat (first | (with_reducible first | exact HB.out | apply below_alloc | apply pw_below_drewN | apply below_drew1) | exact HB.out))) : w.heap.size ≤ gb267)); clear HB; have HB := n0_; have BK267 := n1_; have GW267 := n2_; have GE267 := n3_; clear n0_ n1_ n2_ n3_; clear hb hbox hg) | ((with_reducible refine gate_dst (N := 3) rfl ?_); refine box_event ?hg (N := 3) ?hd (cs := #[.slice A1 l1.length c1]) (t := 22) ?hr ?_; (case hd => rfl); (case hg => rfl); (case hr => first | (go_simp; done) | (go_simp; rfl)); intro gb268 hg w5 hbox hb; have n0_ := Aside0.mk (blk_below (g := gb267) (o := .cells #[.slice A0_0 l0_0.length c0_0, .slice A0_1 l0_1.length c0_1] 28 (0, 0)) (by (with_reducible repeat (first | refine blk_drewN ?_ _ | refine blk_drew ?_ | refine blk_alloc ?_ _)); exact BK267.out) hb); have n1_ := Aside0.mk (below_step (by repeat (first | (with_reducible first | exact HB.out | apply below_alloc | apply pw_below_drewN | apply below_drew1 | refine below_set ?_ GE267.out) | exact HB.out)) hb); have n2_ := Aside0.mk (hbox); have n3_ := Aside0.mk ((by rw [hg]; exact (below_size (by repeat (first | (with_reducible first | exact HB.out | apply below_alloc | apply pw_below_drewN | apply below_drew1 | refine below_set ?_ GE267.out) | exact HB.out))) : w.heap.size ≤ gb268)); have n4_ := Aside0.mk ((by rw [hg]; exact (below_size (by repeat (first | (with_reducible first | exact HB.out | apply below_alloc | apply pw_below_drewN | apply below_drew1 | refine below_set ?_ GE267.out) | exact HB.out))) : w.heap.size ≤ gb268)); have n5_ := Aside0.mk ((by rw [hg]; exact Nat.ne_of_lt (blk_lt (g := gb267) (o := .cells #[.slice A0_0 l0_0.length c0_0, .slice A0_1 l0_1.length c0_1] 28 (0, 0)) (by (with_reducible repeat (first | refine blk_drewN ?_ _ | refine blk_drew ?_ | refine blk_alloc ?_ _)); exact BK267.out)) : gb267 ≠ gb268)); have n6_ := Aside0.mk ((by rw [hg]; exact Nat.ne_of_gt (blk_lt (g := gb267) (o := .cells #[.slice A0_0 l0_0.length c0_0, .slice A0_1 l0_1.length c0_1] 28 (0, 0)) (by (with_reducible repeat (first | refine blk_drewN ?_ _ | refine blk_drew ?_ | refine blk_alloc ?_ _)); exact BK267.out)) : gb268 ≠ gb267)); clear BK267; clear HB; have BK267 := n0_; have HB := n1_; have BK268 := n2_; have GW268 := n3_; have GE268 := n4_; have NB267_268 := n5_; have NB268_267 := n6_; clear n0_ n1_ n2_ n3_ n4_ n5_ n6_; clear hb hbox hg))
 repeat ((refine wp_region_quiet_lit ?_ ?_ ?_; kernel_rfl; kernel_rfl; (repeat (first | go_big_quiet_step (first | ((with_reducible refine gate_dst (N := 2) rfl ?_); refine box_event ?hg (N := 2) ?hd (cs := #[.slice A0_0 l0_0.length c0_0, .slice A0_1 l0_1.length c0_1]) (t := 28) ?hr ?_; (case hd => rfl); (case hg => rfl); (case hr => first | (go_simp; done) | (go_simp; rfl)); intro gb267 hg w4 hbox hb; have n0_ := Aside0.mk (below_step (by repeat (first | (with_reducible first | exact HB.out | apply below_alloc | apply pw_below_drewN | apply below_drew1) | exact HB.out)) hb); have n1_ := Aside0.mk (hbox); have n2_ := Aside0.mk ((by rw [hg]; exact (below_size (by repeat (first | (with_reducible first | exact HB.out | apply below_alloc | apply pw_below_drewN | apply below_drew1) | exact HB.out))) : w.heap.size ≤ gb267)); have n3_ := Aside0.mk ((by rw [hg]; exact (below_size (by repeat (first | (with_reducible first | exact HB.out | apply below_alloc | apply pw_below_drewN | apply below_drew1) | exact HB.out))) : w.heap.size ≤ gb267)); clear HB; have HB := n0_; have BK267 := n1_; have GW267 := n2_; have GE267 := n3_; clear n0_ n1_ n2_ n3_; clear hb hbox hg) | ((with_reducible refine gate_dst (N := 3) rfl ?_); refine box_event ?hg (N := 3) ?hd (cs := #[.slice A1 l1.length c1]) (t := 22) ?hr ?_; (case hd => rfl); (case hg => rfl); (case hr => first | (go_simp; done) | (go_simp; rfl)); intro gb268 hg w5 hbox hb; have n0_ := Aside0.mk (blk_below (g := gb267) (o := .cells #[.slice A0_0 l0_0.length c0_0, .slice A0_1 l0_1.length c0_1] 28 (0, 0)) (by (with_reducible repeat (first | refine blk_drewN ?_ _ | refine blk_drew ?_ | refine blk_alloc ?_ _)); exact BK267.out) hb); have n1_ := Aside0.mk (below_step (by repeat (first | (with_reducible first | exact HB.out | apply below_alloc | apply pw_below_drewN | apply below_drew1 | refine below_set ?_ GE267.out) | exact HB.out)) hb); have n2_ := Aside0.mk (hbox); have n3_ := Aside0.mk ((by rw [hg]; exact (below_size (by repeat (first | (with_reducible first | exact HB.out | apply below_alloc | apply pw_below_drewN | apply below_drew1 | refine below_set ?_ GE267.out) | exact HB.out))) : w.heap.size ≤ gb268)); have n4_ := Aside0.mk ((by rw [hg]; exact (below_size (by repeat (first | (with_reducible first | exact HB.out | apply below_alloc | apply pw_below_drewN | apply below_drew1 | refine below_set ?_ GE267.out) | exact HB.out))) : w.heap.size ≤ gb268)); have n5_ := Aside0.mk ((by rw [hg]; exact Nat.ne_of_lt (blk_lt (g := gb267) (o := .cells #[.slice A0_0 l0_0.length c0_0, .slice A0_1 l0_1.length c0_1] 28 (0, 0)) (by (with_reducible repeat (first | refine blk_drewN ?_ _ | refine blk_drew ?_ | refine blk_alloc ?_ _)); exact BK267.out)) : gb267 ≠ gb268)); have n6_ := Aside0.mk ((by rw [hg]; exact Nat.ne_of_gt (blk_lt (g := gb267) (o := .cells #[.slice A0_0 l0_0.length c0_0, .slice A0_1 l0_1.length c0_1] 28 (0, 0)) (by (with_reducible repeat (first | refine blk_drewN ?_ _ | refine blk_drew ?_ | refine blk_alloc ?_ _)); exact BK267.out)) : gb268 ≠ gb267)); clear BK267; clear HB; have BK267 := n0_; have HB := n1_; have BK268 := n2_; have GW268 := n3_; have GE268 := n4_; have NB267_268 := n5_; have NB268_267 := n6_; clear n0_ n1_ n2_ n3_ n4_ n5_ n6_; clear hb hbox hg)) | (refine wpQuiet_step (fun K hK => ?_); go_simp; refine hK _ ?_; clear hK K))); refine wpQuiet_nil ?_; intro _ hw'; obtain ⟨nq, hw''⟩ := hw'; subst hw''); go_upto_region 1 with (first | ((with_reducible refine gate_dst (N := 2) rfl ?_); refine box_event ?hg (N := 2) ?hd (cs := #[.slice A0_0 l0_0.length c0_0, .slice A0_1 l0_1.length c0_1]) (t := 28) ?hr ?_; (case hd => rfl); (case hg => rfl); (case hr => first | (go_simp; done) | (go_simp; rfl)); intro gb267 hg w4 hbox hb; have n0_ := Aside0.mk (below_step (by repeat (first | (with_reducible first | exact HB.out | apply below_alloc | apply pw_below_drewN | apply below_drew1) | exact HB.out)) hb); have n1_ := Aside0.mk (hbox); have n2_ := Aside0.mk ((by rw [hg]; exact (below_size (by repeat (first | (with_reducible first | exact HB.out | apply below_alloc | apply pw_below_drewN | apply below_drew1) | exact HB.out))) : w.heap.size ≤ gb267)); have n3_ := Aside0.mk ((by rw [hg]; exact (below_size (by repeat (first | (with_reducible first | exact HB.out | apply below_alloc | apply pw_below_drewN | apply below_drew1) | exact HB.out))) : w.heap.size ≤ gb267)); clear HB; have HB := n0_; have BK267 := n1_; have GW267 := n2_; have GE267 := n3_; clear n0_ n1_ n2_ n3_; clear hb hbox hg) | ((with_reducible refine gate_dst (N := 3) rfl ?_); refine box_event ?hg (N := 3) ?hd (cs := #[.slice A1 l1.length c1]) (t := 22) ?hr ?_; (case hd => rfl); (case hg => rfl); (case hr => first | (go_simp; done) | (go_simp; rfl)); intro gb268 hg w5 hbox hb; have n0_ := Aside0.mk (blk_below (g := gb267) (o := .cells #[.slice A0_0 l0_0.length c0_0, .slice A0_1 l0_1.length c0_1] 28 (0, 0)) (by (with_reducible repeat (first | refine blk_drewN ?_ _ | refine blk_drew ?_ | refine blk_alloc ?_ _)); exact BK267.out) hb); have n1_ := Aside0.mk (below_step (by repeat (first | (with_reducible first | exact HB.out | apply below_alloc | apply pw_below_drewN | apply below_drew1 | refine below_set ?_ GE267.out) | exact HB.out)) hb); have n2_ := Aside0.mk (hbox); have n3_ := Aside0.mk ((by rw [hg]; exact (below_size (by repeat (first | (with_reducible first | exact HB.out | apply below_alloc | apply pw_below_drewN | apply below_drew1 | refine below_set ?_ GE267.out) | exact HB.out))) : w.heap.size ≤ gb268)); have n4_ := Aside0.mk ((by rw [hg]; exact (below_size (by repeat (first | (with_reducible first | exact HB.out | apply below_alloc | apply pw_below_drewN | apply below_drew1 | refine below_set ?_ GE267.out) | exact HB.out))) : w.heap.size ≤ gb268)); have n5_ := Aside0.mk ((by rw [hg]; exact Nat.ne_of_lt (blk_lt (g := gb267) (o := .cells #[.slice A0_0 l0_0.length c0_0, .slice A0_1 l0_1.length c0_1] 28 (0, 0)) (by (with_reducible repeat (first | refine blk_drewN ?_ _ | refine blk_drew ?_ | refine blk_alloc ?_ _)); exact BK267.out)) : gb267 ≠ gb268)); have n6_ := Aside0.mk ((by rw [hg]; exact Nat.ne_of_gt (blk_lt (g := gb267) (o := .cells #[.slice A0_0 l0_0.length c0_0, .slice A0_1 l0_1.length c0_1] 28 (0, 0)) (by (with_reducible repeat (first | refine blk_drewN ?_ _ | refine blk_drew ?_ | refine blk_alloc ?_ _)); exact BK267.out)) : gb268 ≠ gb267)); clear BK267; clear HB; have BK267 := n0_; have HB := n1_; have BK268 := n2_; have GW268 := n3_; have GE268 := n4_; have NB267_268 := n5_; have NB268_267 := n6_; clear n0_ n1_ n2_ n3_ n4_ n5_ n6_; clear hb hbox hg)))
 (try simp only [Act.put, List.setIfInBounds_toArray, List.set_cons_zero, List.set_cons_succ])
 go_cut [17] (fun v17 wc => ∃ (kq : Nat) (x17_2 : Bool), v17 = .bool x17_2 ∧ Aside0 (impl_isNucleus.j0 kq x17_2 l0_0 l0_1 l1 = some r) ∧ Aside0 (kq ≤ k) ∧ Aside0 (wc.heap[gb267]? = some (.cells #[(.slice A0_0 l0_0.length c0_0), (.slice A0_1 l0_1.length c0_1)] 28 (0, 0))) ∧ Aside0 (wc.heap[gb268]? = some (.cells #[(.slice A1 l1.length c1)] 22 (0, 0))) ∧ Aside0 (Below w.heap.size w wc))
 case first =>
  have H := HC3.out
  clear HC3
  by_cases c6 : (l1.length : Int) = (l0_0.length : Int)
  ·rw [if_pos c6] at H
   have c6b0 : ((l1.length : Int) == (l0_0.length : Int)) = true := beq_iff_eq.mpr c6
   have c6b1 : ((l1.length : Int) != (l0_0.length : Int)) = false := bne_eq_false_iff_eq.mpr c6
   have c6b2 : (l1.length == l0_0.length) = true := by first | simpa using c6 | (simp at c6 ⊢; omega)
   clear c6
   (first | rw [c6b0] | (simp only [i64_w, i32_w]; rw [c6b0]) | skip)
   replace H := Option.bind_eq_some_iff.mp H
   obtain ⟨t269, A70, H⟩ := H
   replace H : (impl_isNucleus.j0 k t269 l0_0 l0_1 l1) = some r := H
   have A7 := Aside0.mk A70
   clear A70
   have H' := Aside0.mk H
   clear H
   have hnb8 := NB268_267.out
   have hnc8 := NB267_268.out
   have hcz9_0 : w5.cell? ⟨gb268, 0, none⟩ = some (.slice A1 l1.length c1) := (blk_cell BK268.out 0).trans rfl
   have hfz9_0 := blk_frozen BK268.out 0
   have hcz10_0 : w5.cell? ⟨gb267, 0, none⟩ = some (.slice A0_0 l0_0.length c0_0) := (blk_cell BK267.out 0).trans rfl
   have hcz10_1 : w5.cell? ⟨gb267, 1, none⟩ = some (.slice A0_1 l0_1.length c0_1) := (blk_cell BK267.out 1).trans rfl
   have hfz10_0 := blk_frozen BK267.out 0
   have hfz10_1 := blk_frozen BK267.out 1
   as_aux_lemma =>
    go_wp2_with (first | (go_at_call 56; (with_reducible refine (cf_isNucleus_1.calls _ _ l1 gb268 A1 c1 l1 t269 _ ?side1 ?side2 ?side3 ?side4 ?side5 A7.out).mono ?_); (case side1 => repeat (first | exact (Kd.C_below HR1.out HB.out) | (with_reducible refine Kd.C_alloc ?_ _) | (with_reducible refine Kd.C_drewN ?_ _) | (with_reducible refine Kd.C_drew ?_))); (case side2 => exact HC1.out); (case side3 => repeat (first | exact (Kd.C_below HR1.out HB.out) | (with_reducible refine Kd.C_alloc ?_ _) | (with_reducible refine Kd.C_drewN ?_ _) | (with_reducible refine Kd.C_drew ?_))); (case side4 => exact HC1.out); (case side5 => exact (show _ from by (with_reducible repeat (first | refine blk_drewN ?_ _ | refine blk_drew ?_ | refine blk_alloc ?_ _)); exact BK268.out)); rintro e w' ⟨rfl, ⟨nd, rfl⟩⟩; (try first | exact ⟨rfl, _, World.drewN_drewN _ _ _⟩ | exact ⟨rfl, _, Eq.trans (World.drewN_drewN _ _ _) (congrArg (World.drewN _) (Nat.add_assoc _ _ _))⟩)))
    repeat ((refine wp_region_quiet_lit ?_ ?_ ?_; kernel_rfl; kernel_rfl; (repeat (first | go_big_quiet_step (first | (go_at_call 56; (with_reducible refine (cf_isNucleus_1.calls _ _ l1 gb268 A1 c1 l1 t269 _ ?side1 ?side2 ?side3 ?side4 ?side5 A7.out).mono ?_); (case side1 => repeat (first | exact (Kd.C_below HR1.out HB.out) | (with_reducible refine Kd.C_alloc ?_ _) | (with_reducible refine Kd.C_drewN ?_ _) | (with_reducible refine Kd.C_drew ?_))); (case side2 => exact HC1.out); (case side3 => repeat (first | exact (Kd.C_below HR1.out HB.out) | (with_reducible refine Kd.C_alloc ?_ _) | (with_reducible refine Kd.C_drewN ?_ _) | (with_reducible refine Kd.C_drew ?_))); (case side4 => exact HC1.out); (case side5 => exact (show _ from by (with_reducible repeat (first | refine blk_drewN ?_ _ | refine blk_drew ?_ | refine blk_alloc ?_ _)); exact BK268.out)); rintro e w' ⟨rfl, ⟨nd, rfl⟩⟩; (try first | exact ⟨rfl, _, World.drewN_drewN _ _ _⟩ | exact ⟨rfl, _, Eq.trans (World.drewN_drewN _ _ _) (congrArg (World.drewN _) (Nat.add_assoc _ _ _))⟩))) | (refine wpQuiet_step (fun K hK => ?_); go_simp; refine hK _ ?_; clear hK K))); refine wpQuiet_nil ?_; intro _ hw'; obtain ⟨nq, hw''⟩ := hw'; subst hw''); try go_wp2_with (first | (go_at_call 56; (with_reducible refine (cf_isNucleus_1.calls _ _ l1 gb268 A1 c1 l1 t269 _ ?side1 ?side2 ?side3 ?side4 ?side5 A7.out).mono ?_); (case side1 => repeat (first | exact (Kd.C_below HR1.out HB.out) | (with_reducible refine Kd.C_alloc ?_ _) | (with_reducible refine Kd.C_drewN ?_ _) | (with_reducible refine Kd.C_drew ?_))); (case side2 => exact HC1.out); (case side3 => repeat (first | exact (Kd.C_below HR1.out HB.out) | (with_reducible refine Kd.C_alloc ?_ _) | (with_reducible refine Kd.C_drewN ?_ _) | (with_reducible refine Kd.C_drew ?_))); (case side4 => exact HC1.out); (case side5 => exact (show _ from by (with_reducible repeat (first | refine blk_drewN ?_ _ | refine blk_drew ?_ | refine blk_alloc ?_ _)); exact BK268.out)); rintro e w' ⟨rfl, ⟨nd, rfl⟩⟩; (try first | exact ⟨rfl, _, World.drewN_drewN _ _ _⟩ | exact ⟨rfl, _, Eq.trans (World.drewN_drewN _ _ _) (congrArg (World.drewN _) (Nat.add_assoc _ _ _))⟩))))
    go_meet
    case rel => exact ⟨_, (t269), (by first | rfl | (simp; done) | (simp [*]; done)), H', ⟨by first | omega | exact Nat.le_refl _⟩, ⟨by (with_reducible repeat (first | refine blk_drewN ?_ _ | refine blk_drew ?_ | refine blk_alloc ?_ _)); exact BK267.out⟩, ⟨by (with_reducible repeat (first | refine blk_drewN ?_ _ | refine blk_drew ?_ | refine blk_alloc ?_ _)); exact BK268.out⟩, ⟨by repeat (first | (with_reducible first | exact HB.out | apply below_alloc | apply pw_below_drewN | apply below_drew1 | refine below_set ?_ GE267.out | refine below_set ?_ GE268.out) | exact HB.out)⟩⟩
  ·rw [if_neg c6] at H
   have c6b0 : ((l1.length : Int) == (l0_0.length : Int)) = false := beq_eq_false_iff_ne.mpr c6
   have c6b1 : ((l1.length : Int) != (l0_0.length : Int)) = true := bne_iff_ne.mpr c6
   have c6b2 : (l1.length == l0_0.length) = false := by first | simpa using c6 | (simp at c6 ⊢; omega)
   (first | rw [c6b0] | (simp only [i64_w, i32_w]; rw [c6b0]) | skip)
   have H' := Aside0.mk H
   clear H
   have hnb11 := NB268_267.out
   have hnc11 := NB267_268.out
   have hcz12_0 : w5.cell? ⟨gb268, 0, none⟩ = some (.slice A1 l1.length c1) := (blk_cell BK268.out 0).trans rfl
   have hfz12_0 := blk_frozen BK268.out 0
   have hcz13_0 : w5.cell? ⟨gb267, 0, none⟩ = some (.slice A0_0 l0_0.length c0_0) := (blk_cell BK267.out 0).trans rfl
   have hcz13_1 : w5.cell? ⟨gb267, 1, none⟩ = some (.slice A0_1 l0_1.length c0_1) := (blk_cell BK267.out 1).trans rfl
   have hfz13_0 := blk_frozen BK267.out 0
   have hfz13_1 := blk_frozen BK267.out 1
   as_aux_lemma =>
    go_wp2
    repeat ((refine wp_region_quiet_lit ?_ ?_ ?_; kernel_rfl; kernel_rfl; (repeat (first | go_big_quiet_step (fail) | (refine wpQuiet_step (fun K hK => ?_); go_simp; refine hK _ ?_; clear hK K))); refine wpQuiet_nil ?_; intro _ hw'; obtain ⟨nq, hw''⟩ := hw'; subst hw''); try go_wp2)
    go_meet
    case rel => exact ⟨_, (true), (by first | rfl | (simp; done) | (simp [*]; done)), H', ⟨by first | omega | exact Nat.le_refl _⟩, ⟨by (with_reducible repeat (first | refine blk_drewN ?_ _ | refine blk_drew ?_ | refine blk_alloc ?_ _)); exact BK267.out⟩, ⟨by (with_reducible repeat (first | refine blk_drewN ?_ _ | refine blk_drew ?_ | refine blk_alloc ?_ _)); exact BK268.out⟩, ⟨by repeat (first | (with_reducible first | exact HB.out | apply below_alloc | apply pw_below_drewN | apply below_drew1 | refine below_set ?_ GE267.out | refine below_set ?_ GE268.out) | exact HB.out)⟩⟩
 case rest =>
  clear HC3
  try clear c1
  try clear p2
  try clear c4
  try clear c6
  try clear c6b0
  try clear c6b1
  try clear c6b2
  try clear c8
  try clear c11
  try clear hcz10_0
  try clear hcz10_1
  try clear hcz12_0
  try clear hcz13_0
  try clear hcz13_1
  try clear hcz9_0
  try clear hfz10_0
  try clear hfz10_1
  try clear hfz12_0
  try clear hfz13_0
  try clear hfz13_1
  try clear hfz9_0
  obtain ⟨kq, x17_2, rfl, HA, HJ2, BK267, BK268, HB⟩ := hcut
  cases kq with
  | zero => exact absurd HA.out (by simp [impl_isNucleus.j0])
  | succ kj2 =>
   have H := HA.out
   clear HA
   simp only [impl_isNucleus.j0] at H
   by_cases c14 : x17_2 = true
   ·subst c14
    have H1 : (some false) = some r := by rw [if_pos rfl] at H; exact H
    clear H
    have H := H1
    clear H1
    obtain rfl := Option.some.inj H
    as_aux_lemma =>
     go_wp2
     repeat ((refine wp_region_quiet_lit ?_ ?_ ?_; kernel_rfl; kernel_rfl; (repeat (first | go_big_quiet_step (fail) | (refine wpQuiet_step (fun K hK => ?_); go_simp; refine hK _ ?_; clear hK K))); refine wpQuiet_nil ?_; intro _ hw'; obtain ⟨nq, hw''⟩ := hw'; subst hw''); try go_wp2)
     go_ret
     exact ⟨by first | rfl | (simp [errW_none, errW_some] <;> rfl) | (simp [*, errW_none, errW_some] <;> rfl), by repeat (first | (with_reducible first | exact HB.out | apply below_alloc | apply pw_below_drewN | apply below_drew1 | refine below_set ?_ GE267.out | refine below_set ?_ GE268.out) | exact HB.out)⟩
   ·replace c14 := Bool.eq_false_iff.mpr c14
    subst c14
    have H1 : (impl_isNucleus.l0 kj2 (l1.length : Int) 0 l0_0 l0_1 l1) = some r := by rw [if_neg (show ¬ (false = true) by decide)] at H; exact H
    clear H
    have H := H1
    clear H1
    have H' := Aside0.mk H
    clear H
    have hnb15 := NB268_267.out
    have hnc15 := NB267_268.out
    have hcz16_0 : wc.cell? ⟨gb268, 0, none⟩ = some (.slice A1 l1.length c1) := (blk_cell BK268.out 0).trans rfl
    have hfz16_0 := blk_frozen BK268.out 0
    as_aux_lemma =>
     go_wp2
     repeat ((refine wp_region_quiet_lit ?_ ?_ ?_; kernel_rfl; kernel_rfl; (repeat (first | go_big_quiet_step (fail) | (refine wpQuiet_step (fun K hK => ?_); go_simp; refine hK _ ?_; clear hK K))); refine wpQuiet_nil ?_; intro _ hw'; obtain ⟨nq, hw''⟩ := hw'; subst hw''); try go_wp2)
     go_loopg [20] kj2 (fun kq v20 w' => ∃ (x20_2 : Int), v20 = .int .i64 x20_2 ∧ Aside0 (impl_isNucleus.l0 kq (l1.length : Int) x20_2 l0_0 l0_1 l1 = some r) ∧ Aside0 (kq ≤ kj2) ∧ Aside0 (w'.heap[gb267]? = some (.cells #[(.slice A0_0 l0_0.length c0_0), (.slice A0_1 l0_1.length c0_1)] 28 (0, 0))) ∧ Aside0 (w'.heap[gb268]? = some (.cells #[(.slice A1 l1.length c1)] 22 (0, 0))) ∧ Aside0 (Below w.heap.size w w'))
     case atStart => exact ⟨(0), (by first | rfl | (simp; done) | (simp [*]; done)), H', ⟨Nat.le_refl _⟩, ⟨by (with_reducible repeat (first | refine blk_drewN ?_ _ | refine blk_drew ?_ | refine blk_alloc ?_ _)); exact BK267.out⟩, ⟨by (with_reducible repeat (first | refine blk_drewN ?_ _ | refine blk_drew ?_ | refine blk_alloc ?_ _)); exact BK268.out⟩, ⟨by repeat (first | (with_reducible first | exact HB.out | apply below_alloc | apply pw_below_drewN | apply below_drew1 | refine below_set ?_ GE267.out | refine below_set ?_ GE268.out) | exact HB.out)⟩⟩
     case round =>
      clear H'
      try clear c1
      try clear p2
      try clear c4
      try clear c6
      try clear c6b0
      try clear c6b1
      try clear c6b2
      try clear c8
      try clear c11
      try clear c14
      try clear c15
      try clear hcz10_0
      try clear hcz10_1
      try clear hcz12_0
      try clear hcz13_0
      try clear hcz13_1
      try clear hcz16_0
      try clear hcz9_0
      try clear hfz10_0
      try clear hfz10_1
      try clear hfz12_0
      try clear hfz13_0
      try clear hfz13_1
      try clear hfz16_0
      try clear hfz9_0
      try clear p2
      obtain ⟨x20_2, rfl, HA, HK2, BK267, BK268, HB⟩ := hrel
      cases gk with
      | zero => exact absurd HA.out (by simp [impl_isNucleus.l0])
      | succ k2 =>
       have H := HA.out
       clear HA
       simp only [impl_isNucleus.l0] at H
       by_cases c17 : x20_2 < (l1.length : Int)
       ·rw [if_pos c17] at H
        have c17b0 : decide (x20_2 < (l1.length : Int)) = true := decide_eq_true c17
        clear c17
        have HC18 := Aside0.mk H
        clear H
        go_upto_region 6 with (fail)
        repeat ((refine wp_region_quiet_lit ?_ ?_ ?_; kernel_rfl; kernel_rfl; (repeat (first | go_big_quiet_step (fail) | (refine wpQuiet_step (fun K hK => ?_); go_simp; refine hK _ ?_; clear hK K))); refine wpQuiet_nil ?_; intro _ hw'; obtain ⟨nq, hw''⟩ := hw'; subst hw''); go_upto_region 6 with (fail))
        go_cut [45] (fun v45 wc => ∃ (kq : Nat) (x45_17 : Bool), v45 = .bool x45_17 ∧ Aside0 (impl_isNucleus.j2 kq x20_2 (l1.length : Int) x20_2 x45_17 l0_0 l0_1 l1 = some r) ∧ Aside0 (kq ≤ k2) ∧ Aside0 (wc.heap[gb267]? = some (.cells #[(.slice A0_0 l0_0.length c0_0), (.slice A0_1 l0_1.length c0_1)] 28 (0, 0))) ∧ Aside0 (wc.heap[gb268]? = some (.cells #[(.slice A1 l1.length c1)] 22 (0, 0))) ∧ Aside0 (Below w.heap.size w wc))
        case first =>
         have H := HC18.out
         clear HC18
         by_cases c19 : 0 ≤ x20_2
         ·rw [if_pos c19] at H
          have c19b0 : decide (0 ≤ x20_2) = true := decide_eq_true c19
          clear c19
          (first | rw [c19b0] | (simp only [i64_w, i32_w]; rw [c19b0]) | skip)
          by_cases c20 : x20_2 < (l1.length : Int)
          ·rw [if_pos c20] at H
           have c20b0 : decide (x20_2 < (l1.length : Int)) = true := decide_eq_true c20
           clear c20
           replace H := Option.bind_eq_some_iff.mp H
           obtain ⟨t271, A210, H⟩ := H
           replace H : (if t271 = true then (if 0 ≤ (rd l1 x20_2) then (if (rd l1 x20_2) < (l1.length : Int) then (impl_isNucleus.j2 k2 x20_2 (l1.length : Int) x20_2 ((rd l1 (rd l1 x20_2)) != (rd l1 x20_2)) l0_0 l0_1 l1) else (none)) else (none)) else (impl_isNucleus.j2 k2 x20_2 (l1.length : Int) x20_2 true l0_0 l0_1 l1)) = some r := H
           have A21 := Aside0.mk A210
           clear A210
           by_cases c22 : t271 = true
           ·subst c22
            have H1 : (if 0 ≤ (rd l1 x20_2) then (if (rd l1 x20_2) < (l1.length : Int) then (impl_isNucleus.j2 k2 x20_2 (l1.length : Int) x20_2 ((rd l1 (rd l1 x20_2)) != (rd l1 x20_2)) l0_0 l0_1 l1) else (none)) else (none)) = some r := by rw [if_pos rfl] at H; exact H
            clear H
            have H := H1
            clear H1
            by_cases c23 : 0 ≤ (rd l1 x20_2)
            ·rw [if_pos c23] at H
             have c23b0 : decide (0 ≤ (rd l1 x20_2)) = true := decide_eq_true c23
             clear c23
             by_cases c24 : (rd l1 x20_2) < (l1.length : Int)
             ·rw [if_pos c24] at H
              have c24b0 : decide ((rd l1 x20_2) < (l1.length : Int)) = true := decide_eq_true c24
              clear c24
              have H' := Aside0.mk H
              clear H
              have hnb25 := NB267_268.out
              have hnc25 := NB268_267.out
              have hcz26_0 : wr.cell? ⟨gb267, 0, none⟩ = some (.slice A0_0 l0_0.length c0_0) := (blk_cell BK267.out 0).trans rfl
              have hcz26_1 : wr.cell? ⟨gb267, 1, none⟩ = some (.slice A0_1 l0_1.length c0_1) := (blk_cell BK267.out 1).trans rfl
              have hfz26_0 := blk_frozen BK267.out 0
              have hfz26_1 := blk_frozen BK267.out 1
              have hcz27_0 : wr.cell? ⟨gb268, 0, none⟩ = some (.slice A1 l1.length c1) := (blk_cell BK268.out 0).trans rfl
              have hfz27_0 := blk_frozen BK268.out 0
              have p270 : 0 ≤ (x20_2 : Int) := of_decide_eq_true (by first | (with_reducible assumption) | assumption)
              have q270 : x20_2 < (l1.length : Int) := of_decide_eq_true (by first | (with_reducible assumption) | assumption)
              obtain ⟨ad270, e270, hx270_0⟩ := Kd.at_int HR1.out x20_2 p270 q270
              cases e270
              replace hx270_0 := (HB.out.cell (World.block_lt_of_cell? w _ hx270_0)).trans hx270_0
              replace p270 := eq_true p270
              replace q270 := eq_true q270
              have p272 : 0 ≤ (x20_2 : Int) := of_decide_eq_true (by first | (with_reducible assumption) | assumption)
              have q272 : x20_2 < (l1.length : Int) := of_decide_eq_true (by first | (with_reducible assumption) | assumption)
              obtain ⟨ad272, e272, hx272_0⟩ := Kd.at_int HR1.out x20_2 p272 q272
              obtain rfl : ad270 = ad272 := (by injection e272)
              replace hx272_0 := (HB.out.cell (World.block_lt_of_cell? w _ hx272_0)).trans hx272_0
              replace p272 := eq_true p272
              replace q272 := eq_true q272
              have p273 : 0 ≤ ((rd l1 x20_2) : Int) := of_decide_eq_true (by first | (with_reducible assumption) | assumption)
              have q273 : (rd l1 x20_2) < (l1.length : Int) := of_decide_eq_true (by first | (with_reducible assumption) | assumption)
              obtain ⟨ad273, e273, hx273_0⟩ := Kd.at_int HR1.out (rd l1 x20_2) p273 q273
              obtain rfl : ad270 = ad273 := (by injection e273)
              replace hx273_0 := (HB.out.cell (World.block_lt_of_cell? w _ hx273_0)).trans hx273_0
              replace p273 := eq_true p273
              replace q273 := eq_true q273
              have p274 : 0 ≤ (x20_2 : Int) := of_decide_eq_true (by first | (with_reducible assumption) | assumption)
              have q274 : x20_2 < (l1.length : Int) := of_decide_eq_true (by first | (with_reducible assumption) | assumption)
              obtain ⟨ad274, e274, hx274_0⟩ := Kd.at_int HR1.out x20_2 p274 q274
              obtain rfl : ad270 = ad274 := (by injection e274)
              replace hx274_0 := (HB.out.cell (World.block_lt_of_cell? w _ hx274_0)).trans hx274_0
              replace p274 := eq_true p274
              replace q274 := eq_true q274
              as_aux_lemma =>
               go_wp2_with (first | (go_at_call 67; (with_reducible refine (impl_below.calls _ _ l0_0 x20_2 (rd l1 x20_2) true _ ?side1 ?side2 A21.out).mono ?_); (case side1 => repeat (first | exact (Kd.C_below HR0_0.out HB.out) | (with_reducible refine Kd.C_alloc ?_ _) | (with_reducible refine Kd.C_drewN ?_ _) | (with_reducible refine Kd.C_drew ?_))); (case side2 => exact HC0_0.out); rintro e w' ⟨rfl, ⟨nd, rfl⟩⟩; (try first | exact ⟨rfl, _, World.drewN_drewN _ _ _⟩ | exact ⟨rfl, _, Eq.trans (World.drewN_drewN _ _ _) (congrArg (World.drewN _) (Nat.add_assoc _ _ _))⟩)))
               repeat ((refine wp_region_quiet_lit ?_ ?_ ?_; kernel_rfl; kernel_rfl; (repeat (first | go_big_quiet_step (first | (go_at_call 67; (with_reducible refine (impl_below.calls _ _ l0_0 x20_2 (rd l1 x20_2) true _ ?side1 ?side2 A21.out).mono ?_); (case side1 => repeat (first | exact (Kd.C_below HR0_0.out HB.out) | (with_reducible refine Kd.C_alloc ?_ _) | (with_reducible refine Kd.C_drewN ?_ _) | (with_reducible refine Kd.C_drew ?_))); (case side2 => exact HC0_0.out); rintro e w' ⟨rfl, ⟨nd, rfl⟩⟩; (try first | exact ⟨rfl, _, World.drewN_drewN _ _ _⟩ | exact ⟨rfl, _, Eq.trans (World.drewN_drewN _ _ _) (congrArg (World.drewN _) (Nat.add_assoc _ _ _))⟩))) | (refine wpQuiet_step (fun K hK => ?_); go_simp; refine hK _ ?_; clear hK K))); refine wpQuiet_nil ?_; intro _ hw'; obtain ⟨nq, hw''⟩ := hw'; subst hw''); try go_wp2_with (first | (go_at_call 67; (with_reducible refine (impl_below.calls _ _ l0_0 x20_2 (rd l1 x20_2) true _ ?side1 ?side2 A21.out).mono ?_); (case side1 => repeat (first | exact (Kd.C_below HR0_0.out HB.out) | (with_reducible refine Kd.C_alloc ?_ _) | (with_reducible refine Kd.C_drewN ?_ _) | (with_reducible refine Kd.C_drew ?_))); (case side2 => exact HC0_0.out); rintro e w' ⟨rfl, ⟨nd, rfl⟩⟩; (try first | exact ⟨rfl, _, World.drewN_drewN _ _ _⟩ | exact ⟨rfl, _, Eq.trans (World.drewN_drewN _ _ _) (congrArg (World.drewN _) (Nat.add_assoc _ _ _))⟩))))
               go_meet
               case rel => exact ⟨_, (((rd l1 (rd l1 x20_2)) != (rd l1 x20_2))), (by first | rfl | (simp; done) | (simp [*]; done)), H', ⟨by have := HJ2.out; have := HK2.out; first | omega | exact Nat.le_refl _⟩, ⟨by (with_reducible repeat (first | refine blk_drewN ?_ _ | refine blk_drew ?_ | refine blk_alloc ?_ _)); exact BK267.out⟩, ⟨by (with_reducible repeat (first | refine blk_drewN ?_ _ | refine blk_drew ?_ | refine blk_alloc ?_ _)); exact BK268.out⟩, ⟨by repeat (first | (with_reducible first | exact HB.out | apply below_alloc | apply pw_below_drewN | apply below_drew1 | refine below_set ?_ GE267.out | refine below_set ?_ GE268.out) | exact HB.out)⟩⟩
             ·rw [if_neg c24] at H
              exact absurd H (by simp)
            ·rw [if_neg c23] at H
             exact absurd H (by simp)
           ·replace c22 := Bool.eq_false_iff.mpr c22
            subst c22
            have H1 : (impl_isNucleus.j2 k2 x20_2 (l1.length : Int) x20_2 true l0_0 l0_1 l1) = some r := by rw [if_neg (show ¬ (false = true) by decide)] at H; exact H
            clear H
            have H := H1
            clear H1
            have H' := Aside0.mk H
            clear H
            have hnb28 := NB267_268.out
            have hnc28 := NB268_267.out
            have hcz29_0 : wr.cell? ⟨gb267, 0, none⟩ = some (.slice A0_0 l0_0.length c0_0) := (blk_cell BK267.out 0).trans rfl
            have hcz29_1 : wr.cell? ⟨gb267, 1, none⟩ = some (.slice A0_1 l0_1.length c0_1) := (blk_cell BK267.out 1).trans rfl
            have hfz29_0 := blk_frozen BK267.out 0
            have hfz29_1 := blk_frozen BK267.out 1
            have hcz30_0 : wr.cell? ⟨gb268, 0, none⟩ = some (.slice A1 l1.length c1) := (blk_cell BK268.out 0).trans rfl
            have hfz30_0 := blk_frozen BK268.out 0
            have p270 : 0 ≤ (x20_2 : Int) := of_decide_eq_true (by first | (with_reducible assumption) | assumption)
            have q270 : x20_2 < (l1.length : Int) := of_decide_eq_true (by first | (with_reducible assumption) | assumption)
            obtain ⟨ad270, e270, hx270_0⟩ := Kd.at_int HR1.out x20_2 p270 q270
            cases e270
            replace hx270_0 := (HB.out.cell (World.block_lt_of_cell? w _ hx270_0)).trans hx270_0
            replace p270 := eq_true p270
            replace q270 := eq_true q270
            as_aux_lemma =>
             go_wp2_with (first | (go_at_call 67; (with_reducible refine (impl_below.calls _ _ l0_0 x20_2 (rd l1 x20_2) false _ ?side1 ?side2 A21.out).mono ?_); (case side1 => repeat (first | exact (Kd.C_below HR0_0.out HB.out) | (with_reducible refine Kd.C_alloc ?_ _) | (with_reducible refine Kd.C_drewN ?_ _) | (with_reducible refine Kd.C_drew ?_))); (case side2 => exact HC0_0.out); rintro e w' ⟨rfl, ⟨nd, rfl⟩⟩; (try first | exact ⟨rfl, _, World.drewN_drewN _ _ _⟩ | exact ⟨rfl, _, Eq.trans (World.drewN_drewN _ _ _) (congrArg (World.drewN _) (Nat.add_assoc _ _ _))⟩)))
             repeat ((refine wp_region_quiet_lit ?_ ?_ ?_; kernel_rfl; kernel_rfl; (repeat (first | go_big_quiet_step (first | (go_at_call 67; (with_reducible refine (impl_below.calls _ _ l0_0 x20_2 (rd l1 x20_2) false _ ?side1 ?side2 A21.out).mono ?_); (case side1 => repeat (first | exact (Kd.C_below HR0_0.out HB.out) | (with_reducible refine Kd.C_alloc ?_ _) | (with_reducible refine Kd.C_drewN ?_ _) | (with_reducible refine Kd.C_drew ?_))); (case side2 => exact HC0_0.out); rintro e w' ⟨rfl, ⟨nd, rfl⟩⟩; (try first | exact ⟨rfl, _, World.drewN_drewN _ _ _⟩ | exact ⟨rfl, _, Eq.trans (World.drewN_drewN _ _ _) (congrArg (World.drewN _) (Nat.add_assoc _ _ _))⟩))) | (refine wpQuiet_step (fun K hK => ?_); go_simp; refine hK _ ?_; clear hK K))); refine wpQuiet_nil ?_; intro _ hw'; obtain ⟨nq, hw''⟩ := hw'; subst hw''); try go_wp2_with (first | (go_at_call 67; (with_reducible refine (impl_below.calls _ _ l0_0 x20_2 (rd l1 x20_2) false _ ?side1 ?side2 A21.out).mono ?_); (case side1 => repeat (first | exact (Kd.C_below HR0_0.out HB.out) | (with_reducible refine Kd.C_alloc ?_ _) | (with_reducible refine Kd.C_drewN ?_ _) | (with_reducible refine Kd.C_drew ?_))); (case side2 => exact HC0_0.out); rintro e w' ⟨rfl, ⟨nd, rfl⟩⟩; (try first | exact ⟨rfl, _, World.drewN_drewN _ _ _⟩ | exact ⟨rfl, _, Eq.trans (World.drewN_drewN _ _ _) (congrArg (World.drewN _) (Nat.add_assoc _ _ _))⟩))))
             go_meet
             case rel => exact ⟨_, (true), (by first | rfl | (simp; done) | (simp [*]; done)), H', ⟨by have := HJ2.out; have := HK2.out; first | omega | exact Nat.le_refl _⟩, ⟨by (with_reducible repeat (first | refine blk_drewN ?_ _ | refine blk_drew ?_ | refine blk_alloc ?_ _)); exact BK267.out⟩, ⟨by (with_reducible repeat (first | refine blk_drewN ?_ _ | refine blk_drew ?_ | refine blk_alloc ?_ _)); exact BK268.out⟩, ⟨by repeat (first | (with_reducible first | exact HB.out | apply below_alloc | apply pw_below_drewN | apply below_drew1 | refine below_set ?_ GE267.out | refine below_set ?_ GE268.out) | exact HB.out)⟩⟩
          ·rw [if_neg c20] at H
           exact absurd H (by simp)
         ·rw [if_neg c19] at H
          exact absurd H (by simp)
        case rest =>
         clear HC18
         try clear c1
         try clear c2
         try clear p2
         try clear q2
         try clear hx2
         try clear c4
         try clear c6
         try clear c6b0
         try clear c6b1
         try clear c6b2
         try clear c8
         try clear c11
         try clear c14
         try clear c15
         try clear c17
         try clear c17b0
         try clear c19
         try clear c19b0
         try clear c20
         try clear c20b0
         try clear c22
         try clear c23
         try clear c23b0
         try clear c24
         try clear c24b0
         try clear c25
         try clear p27
         try clear q27
         try clear hx27
         try clear c28
         try clear hcz10_0
         try clear hcz10_1
         try clear hcz12_0
         try clear hcz13_0
         try clear hcz13_1
         try clear hcz16_0
         try clear hcz26_0
         try clear hcz26_1
         try clear hcz27_0
         try clear hcz29_0
         try clear hcz29_1
         try clear hcz30_0
         try clear hcz9_0
         try clear hfz10_0
         try clear hfz10_1
         try clear hfz12_0
         try clear hfz13_0
         try clear hfz13_1
         try clear hfz16_0
         try clear hfz26_0
         try clear hfz26_1
         try clear hfz27_0
         try clear hfz29_0
         try clear hfz29_1
         try clear hfz30_0
         try clear hfz9_0
         try clear hx270_0
         try clear hx272_0
         try clear hx273_0
         try clear hx274_0
         try clear p2
         try clear p270
         try clear p272
         try clear p273
         try clear p274
         try clear q270
         try clear q272
         try clear q273
         try clear q274
         obtain ⟨kq, x45_17, rfl, HA, HJ17, BK267, BK268, HB⟩ := hcut
         cases kq with
         | zero => exact absurd HA.out (by simp [impl_isNucleus.j2])
         | succ kj17 =>
          have H := HA.out
          clear HA
          simp only [impl_isNucleus.j2] at H
          by_cases c31 : x45_17 = true
          ·subst c31
           have H1 : (some false) = some r := by rw [if_pos rfl] at H; exact H
           clear H
           have H := H1
           clear H1
           obtain rfl := Option.some.inj H
           as_aux_lemma =>
            go_wp2
            repeat ((refine wp_region_quiet_lit ?_ ?_ ?_; kernel_rfl; kernel_rfl; (repeat (first | go_big_quiet_step (fail) | (refine wpQuiet_step (fun K hK => ?_); go_simp; refine hK _ ?_; clear hK K))); refine wpQuiet_nil ?_; intro _ hw'; obtain ⟨nq, hw''⟩ := hw'; subst hw''); try go_wp2)
            go_ret
            exact ⟨by first | rfl | (simp [errW_none, errW_some] <;> rfl) | (simp [*, errW_none, errW_some] <;> rfl), by repeat (first | (with_reducible first | exact HB.out | apply below_alloc | apply pw_below_drewN | apply below_drew1 | refine below_set ?_ GE267.out | refine below_set ?_ GE268.out) | exact HB.out)⟩
          ·replace c31 := Bool.eq_false_iff.mpr c31
           subst c31
           have H1 : (impl_isNucleus.l1 kj17 x20_2 (l1.length : Int) x20_2 (l1.length : Int) 0 l0_0 l0_1 l1) = some r := by rw [if_neg (show ¬ (false = true) by decide)] at H; exact H
           clear H
           have H := H1
           clear H1
           have H' := Aside0.mk H
           clear H
           have hnb32 := NB268_267.out
           have hnc32 := NB267_268.out
           have hcz33_0 : wc.cell? ⟨gb268, 0, none⟩ = some (.slice A1 l1.length c1) := (blk_cell BK268.out 0).trans rfl
           have hfz33_0 := blk_frozen BK268.out 0
           as_aux_lemma =>
            go_wp2
            repeat ((refine wp_region_quiet_lit ?_ ?_ ?_; kernel_rfl; kernel_rfl; (repeat (first | go_big_quiet_step (fail) | (refine wpQuiet_step (fun K hK => ?_); go_simp; refine hK _ ?_; clear hK K))); refine wpQuiet_nil ?_; intro _ hw'; obtain ⟨nq, hw''⟩ := hw'; subst hw''); try go_wp2)
            go_loopg [48] kj17 (fun kq v48 w' => ∃ (x48_4 : Int), v48 = .int .i64 x48_4 ∧ Aside0 (impl_isNucleus.l1 kq x20_2 (l1.length : Int) x20_2 (l1.length : Int) x48_4 l0_0 l0_1 l1 = some r) ∧ Aside0 (kq ≤ kj17) ∧ Aside0 (w'.heap[gb267]? = some (.cells #[(.slice A0_0 l0_0.length c0_0), (.slice A0_1 l0_1.length c0_1)] 28 (0, 0))) ∧ Aside0 (w'.heap[gb268]? = some (.cells #[(.slice A1 l1.length c1)] 22 (0, 0))) ∧ Aside0 (Below w.heap.size w w'))
            case atStart => exact ⟨(0), (by first | rfl | (simp; done) | (simp [*]; done)), H', ⟨Nat.le_refl _⟩, ⟨by (with_reducible repeat (first | refine blk_drewN ?_ _ | refine blk_drew ?_ | refine blk_alloc ?_ _)); exact BK267.out⟩, ⟨by (with_reducible repeat (first | refine blk_drewN ?_ _ | refine blk_drew ?_ | refine blk_alloc ?_ _)); exact BK268.out⟩, ⟨by repeat (first | (with_reducible first | exact HB.out | apply below_alloc | apply pw_below_drewN | apply below_drew1 | refine below_set ?_ GE267.out | refine below_set ?_ GE268.out) | exact HB.out)⟩⟩
            case round =>
             clear H'
             try clear c1
             try clear c2
             try clear p2
             try clear q2
             try clear hx2
             try clear c3
             try clear c4
             try clear c6
             try clear c6b0
             try clear c6b1
             try clear c6b2
             try clear c8
             try clear c11
             try clear c14
             try clear c15
             try clear c17
             try clear c17b0
             try clear c19
             try clear c19b0
             try clear c20
             try clear c20b0
             try clear c22
             try clear c23
             try clear c23b0
             try clear c24
             try clear c24b0
             try clear c25
             try clear p27
             try clear q27
             try clear hx27
             try clear c28
             try clear c31
             try clear c32
             try clear hcz10_0
             try clear hcz10_1
             try clear hcz12_0
             try clear hcz13_0
             try clear hcz13_1
             try clear hcz16_0
             try clear hcz26_0
             try clear hcz26_1
             try clear hcz27_0
             try clear hcz29_0
             try clear hcz29_1
             try clear hcz30_0
             try clear hcz33_0
             try clear hcz9_0
             try clear hfz10_0
             try clear hfz10_1
             try clear hfz12_0
             try clear hfz13_0
             try clear hfz13_1
             try clear hfz16_0
             try clear hfz26_0
             try clear hfz26_1
             try clear hfz27_0
             try clear hfz29_0
             try clear hfz29_1
             try clear hfz30_0
             try clear hfz33_0
             try clear hfz9_0
             try clear hx270_0
             try clear hx272_0
             try clear hx273_0
             try clear hx274_0
             try clear p2
             try clear p27
             try clear p270
             try clear p272
             try clear p273
             try clear p274
             try clear q2
             try clear q27
             try clear q270
             try clear q272
             try clear q273
             try clear q274
             obtain ⟨x48_4, rfl, HA, HK4, BK267, BK268, HB⟩ := hrel
             cases gk with
             | zero => exact absurd HA.out (by simp [impl_isNucleus.l1])
             | succ k4 =>
              have H := HA.out
              clear HA
              simp only [impl_isNucleus.l1] at H
              by_cases c34 : x48_4 < (l1.length : Int)
              ·rw [if_pos c34] at H
               have c34b0 : decide (x48_4 < (l1.length : Int)) = true := decide_eq_true c34
               clear c34
               replace H := Option.bind_eq_some_iff.mp H
               obtain ⟨t275, A350, H⟩ := H
               replace H : (if t275 = true then (if 0 ≤ x20_2 then (if x20_2 < (l1.length : Int) then (if 0 ≤ x48_4 then (if x48_4 < (l1.length : Int) then ((impl_below.f l0_0 (rd l1 x20_2) (rd l1 x48_4)).bind fun t278 => (if t278 = true then (if 0 ≤ (rd l1 x20_2) then (if (rd l1 x20_2) < (l0_1.length : Int) then (if 0 ≤ (rd l1 x48_4) then (if (rd l1 x48_4) < ((rd_L1 l0_1 (rd l1 x20_2)).length : Int) then (if x20_2 < (l0_1.length : Int) then (if x48_4 < ((rd_L1 l0_1 x20_2).length : Int) then (if 0 ≤ (rd (rd_L1 l0_1 x20_2) x48_4) then (if (rd (rd_L1 l0_1 x20_2) x48_4) < (l1.length : Int) then ((impl_below.f l0_0 (rd (rd_L1 l0_1 (rd l1 x20_2)) (rd l1 x48_4)) (rd l1 (rd (rd_L1 l0_1 x20_2) x48_4))).bind fun t286 => (if t286 = true then (impl_isNucleus.l1 k4 x20_2 (l1.length : Int) x20_2 (l1.length : Int) (wrap64 (x48_4 + 1)) l0_0 l0_1 l1) else (some false))) else (none)) else (none)) else (none)) else (none)) else (none)) else (none)) else (none)) else (none)) else (some false))) else (none)) else (none)) else (none)) else (none)) else (if 0 ≤ x20_2 then (if x20_2 < (l1.length : Int) then (if 0 ≤ (rd l1 x20_2) then (if (rd l1 x20_2) < (l0_1.length : Int) then (if 0 ≤ x48_4 then (if x48_4 < (l1.length : Int) then (if 0 ≤ (rd l1 x48_4) then (if (rd l1 x48_4) < ((rd_L1 l0_1 (rd l1 x20_2)).length : Int) then (if x20_2 < (l0_1.length : Int) then (if x48_4 < ((rd_L1 l0_1 x20_2).length : Int) then (if 0 ≤ (rd (rd_L1 l0_1 x20_2) x48_4) then (if (rd (rd_L1 l0_1 x20_2) x48_4) < (l1.length : Int) then ((impl_below.f l0_0 (rd (rd_L1 l0_1 (rd l1 x20_2)) (rd l1 x48_4)) (rd l1 (rd (rd_L1 l0_1 x20_2) x48_4))).bind fun t294 => (if t294 = true then (impl_isNucleus.l1 k4 x20_2 (l1.length : Int) x20_2 (l1.length : Int) (wrap64 (x48_4 + 1)) l0_0 l0_1 l1) else (some false))) else (none)) else (none)) else (none)) else (none)) else (none)) else (none)) else (none)) else (none)) else (none)) else (none)) else (none)) else (none))) = some r := H
               have A35 := Aside0.mk A350
               clear A350
               by_cases c36 : t275 = true
               ·subst c36
                have H1 : (if 0 ≤ x20_2 then (if x20_2 < (l1.length : Int) then (if 0 ≤ x48_4 then (if x48_4 < (l1.length : Int) then ((impl_below.f l0_0 (rd l1 x20_2) (rd l1 x48_4)).bind fun t278 => (if t278 = true then (if 0 ≤ (rd l1 x20_2) then (if (rd l1 x20_2) < (l0_1.length : Int) then (if 0 ≤ (rd l1 x48_4) then (if (rd l1 x48_4) < ((rd_L1 l0_1 (rd l1 x20_2)).length : Int) then (if x20_2 < (l0_1.length : Int) then (if x48_4 < ((rd_L1 l0_1 x20_2).length : Int) then (if 0 ≤ (rd (rd_L1 l0_1 x20_2) x48_4) then (if (rd (rd_L1 l0_1 x20_2) x48_4) < (l1.length : Int) then ((impl_below.f l0_0 (rd (rd_L1 l0_1 (rd l1 x20_2)) (rd l1 x48_4)) (rd l1 (rd (rd_L1 l0_1 x20_2) x48_4))).bind fun t286 => (if t286 = true then (impl_isNucleus.l1 k4 x20_2 (l1.length : Int) x20_2 (l1.length : Int) (wrap64 (x48_4 + 1)) l0_0 l0_1 l1) else (some false))) else (none)) else (none)) else (none)) else (none)) else (none)) else (none)) else (none)) else (none)) else (some false))) else (none)) else (none)) else (none)) else (none)) = some r := by rw [if_pos rfl] at H; exact H
                clear H
                have H := H1
                clear H1
                by_cases c37 : 0 ≤ x20_2
                ·rw [if_pos c37] at H
                 have c37b0 : decide (0 ≤ x20_2) = true := decide_eq_true c37
                 clear c37
                 by_cases c38 : x20_2 < (l1.length : Int)
                 ·rw [if_pos c38] at H
                  have c38b0 : decide (x20_2 < (l1.length : Int)) = true := decide_eq_true c38
                  clear c38
                  by_cases c39 : 0 ≤ x48_4
                  ·rw [if_pos c39] at H
                   have c39b0 : decide (0 ≤ x48_4) = true := decide_eq_true c39
                   clear c39
                   by_cases c40 : x48_4 < (l1.length : Int)
                   ·rw [if_pos c40] at H
                    have c40b0 : decide (x48_4 < (l1.length : Int)) = true := decide_eq_true c40
                    clear c40
                    replace H := Option.bind_eq_some_iff.mp H
                    obtain ⟨t278, A410, H⟩ := H
                    replace H : (if t278 = true then (if 0 ≤ (rd l1 x20_2) then (if (rd l1 x20_2) < (l0_1.length : Int) then (if 0 ≤ (rd l1 x48_4) then (if (rd l1 x48_4) < ((rd_L1 l0_1 (rd l1 x20_2)).length : Int) then (if x20_2 < (l0_1.length : Int) then (if x48_4 < ((rd_L1 l0_1 x20_2).length : Int) then (if 0 ≤ (rd (rd_L1 l0_1 x20_2) x48_4) then (if (rd (rd_L1 l0_1 x20_2) x48_4) < (l1.length : Int) then ((impl_below.f l0_0 (rd (rd_L1 l0_1 (rd l1 x20_2)) (rd l1 x48_4)) (rd l1 (rd (rd_L1 l0_1 x20_2) x48_4))).bind fun t286 => (if t286 = true then (impl_isNucleus.l1 k4 x20_2 (l1.length : Int) x20_2 (l1.length : Int) (wrap64 (x48_4 + 1)) l0_0 l0_1 l1) else (some false))) else (none)) else (none)) else (none)) else (none)) else (none)) else (none)) else (none)) else (none)) else (some false)) = some r := H
                    have A41 := Aside0.mk A410
                    clear A410
                    by_cases c42 : t278 = true
                    ·subst c42
                     have H1 : (if 0 ≤ (rd l1 x20_2) then (if (rd l1 x20_2) < (l0_1.length : Int) then (if 0 ≤ (rd l1 x48_4) then (if (rd l1 x48_4) < ((rd_L1 l0_1 (rd l1 x20_2)).length : Int) then (if x20_2 < (l0_1.length : Int) then (if x48_4 < ((rd_L1 l0_1 x20_2).length : Int) then (if 0 ≤ (rd (rd_L1 l0_1 x20_2) x48_4) then (if (rd (rd_L1 l0_1 x20_2) x48_4) < (l1.length : Int) then ((impl_below.f l0_0 (rd (rd_L1 l0_1 (rd l1 x20_2)) (rd l1 x48_4)) (rd l1 (rd (rd_L1 l0_1 x20_2) x48_4))).bind fun t286 => (if t286 = true then (impl_isNucleus.l1 k4 x20_2 (l1.length : Int) x20_2 (l1.length : Int) (wrap64 (x48_4 + 1)) l0_0 l0_1 l1) else (some false))) else (none)) else (none)) else (none)) else (none)) else (none)) else (none)) else (none)) else (none)) = some r := by rw [if_pos rfl] at H; exact H
                     clear H
                     have H := H1
                     clear H1
                     by_cases c43 : 0 ≤ (rd l1 x20_2)
                     ·rw [if_pos c43] at H
                      have c43b0 : decide (0 ≤ (rd l1 x20_2)) = true := decide_eq_true c43
                      clear c43
                      by_cases c44 : (rd l1 x20_2) < (l0_1.length : Int)
                      ·rw [if_pos c44] at H
                       have c44b0 : decide ((rd l1 x20_2) < (l0_1.length : Int)) = true := decide_eq_true c44
                       clear c44
                       by_cases c45 : 0 ≤ (rd l1 x48_4)
                       ·rw [if_pos c45] at H
                        have c45b0 : decide (0 ≤ (rd l1 x48_4)) = true := decide_eq_true c45
                        clear c45
                        by_cases c46 : (rd l1 x48_4) < ((rd_L1 l0_1 (rd l1 x20_2)).length : Int)
                        ·rw [if_pos c46] at H
                         have c46b0 : decide ((rd l1 x48_4) < ((rd_L1 l0_1 (rd l1 x20_2)).length : Int)) = true := decide_eq_true c46
                         clear c46
                         by_cases c47 : x20_2 < (l0_1.length : Int)
                         ·rw [if_pos c47] at H
                          have c47b0 : decide (x20_2 < (l0_1.length : Int)) = true := decide_eq_true c47
                          clear c47
                          by_cases c48 : x48_4 < ((rd_L1 l0_1 x20_2).length : Int)
                          ·rw [if_pos c48] at H
                           have c48b0 : decide (x48_4 < ((rd_L1 l0_1 x20_2).length : Int)) = true := decide_eq_true c48
                           clear c48
                           by_cases c49 : 0 ≤ (rd (rd_L1 l0_1 x20_2) x48_4)
                           ·rw [if_pos c49] at H
                            have c49b0 : decide (0 ≤ (rd (rd_L1 l0_1 x20_2) x48_4)) = true := decide_eq_true c49
                            clear c49
                            by_cases c50 : (rd (rd_L1 l0_1 x20_2) x48_4) < (l1.length : Int)
                            ·rw [if_pos c50] at H
                             have c50b0 : decide ((rd (rd_L1 l0_1 x20_2) x48_4) < (l1.length : Int)) = true := decide_eq_true c50
                             clear c50
                             replace H := Option.bind_eq_some_iff.mp H
                             obtain ⟨t286, A510, H⟩ := H
                             replace H : (if t286 = true then (impl_isNucleus.l1 k4 x20_2 (l1.length : Int) x20_2 (l1.length : Int) (wrap64 (x48_4 + 1)) l0_0 l0_1 l1) else (some false)) = some r := H
                             have A51 := Aside0.mk A510
                             clear A510
                             by_cases c52 : t286 = true
                             ·subst c52
                              have H1 : (impl_isNucleus.l1 k4 x20_2 (l1.length : Int) x20_2 (l1.length : Int) (wrap64 (x48_4 + 1)) l0_0 l0_1 l1) = some r := by rw [if_pos rfl] at H; exact H
                              clear H
                              have H := H1
                              clear H1
                              have H' := Aside0.mk H
                              clear H
                              have hnb53 := NB267_268.out
                              have hnc53 := NB268_267.out
                              have hcz54_0 : wr.cell? ⟨gb267, 0, none⟩ = some (.slice A0_0 l0_0.length c0_0) := (blk_cell BK267.out 0).trans rfl
                              have hcz54_1 : wr.cell? ⟨gb267, 1, none⟩ = some (.slice A0_1 l0_1.length c0_1) := (blk_cell BK267.out 1).trans rfl
                              have hfz54_0 := blk_frozen BK267.out 0
                              have hfz54_1 := blk_frozen BK267.out 1
                              have hcz55_0 : wr.cell? ⟨gb268, 0, none⟩ = some (.slice A1 l1.length c1) := (blk_cell BK268.out 0).trans rfl
                              have hfz55_0 := blk_frozen BK268.out 0
                              have p276 : 0 ≤ (x20_2 : Int) := of_decide_eq_true (by first | (with_reducible assumption) | assumption)
                              have q276 : x20_2 < (l1.length : Int) := of_decide_eq_true (by first | (with_reducible assumption) | assumption)
                              obtain ⟨ad276, e276, hx276_0⟩ := Kd.at_int HR1.out x20_2 p276 q276
                              cases e276
                              replace hx276_0 := (HB.out.cell (World.block_lt_of_cell? w _ hx276_0)).trans hx276_0
                              replace p276 := eq_true p276
                              replace q276 := eq_true q276
                              have p277 : 0 ≤ (x48_4 : Int) := of_decide_eq_true (by first | (with_reducible assumption) | assumption)
                              have q277 : x48_4 < (l1.length : Int) := of_decide_eq_true (by first | (with_reducible assumption) | assumption)
                              obtain ⟨ad277, e277, hx277_0⟩ := Kd.at_int HR1.out x48_4 p277 q277
                              obtain rfl : ad276 = ad277 := (by injection e277)
                              replace hx277_0 := (HB.out.cell (World.block_lt_of_cell? w _ hx277_0)).trans hx277_0
                              replace p277 := eq_true p277
                              replace q277 := eq_true q277
                              have p279 : 0 ≤ (x20_2 : Int) := of_decide_eq_true (by first | (with_reducible assumption) | assumption)
                              have q279 : x20_2 < (l1.length : Int) := of_decide_eq_true (by first | (with_reducible assumption) | assumption)
                              obtain ⟨ad279, e279, hx279_0⟩ := Kd.at_int HR1.out x20_2 p279 q279
                              obtain rfl : ad276 = ad279 := (by injection e279)
                              replace hx279_0 := (HB.out.cell (World.block_lt_of_cell? w _ hx279_0)).trans hx279_0
                              replace p279 := eq_true p279
                              replace q279 := eq_true q279
                              have p280 : 0 ≤ ((rd l1 x20_2) : Int) := of_decide_eq_true (by first | (with_reducible assumption) | assumption)
                              have q280 : (rd l1 x20_2) < (l0_1.length : Int) := of_decide_eq_true (by first | (with_reducible assumption) | assumption)
                              obtain ⟨ad280, A280_0, c280_0, e280, hx280_0, hl280_0, hi280_0⟩ := at_L1 HR0_1.out (rd l1 x20_2) p280 q280
                              cases e280
                              replace hx280_0 := (HB.out.cell (World.block_lt_of_cell? w _ hx280_0)).trans hx280_0
                              have HR280_0 := Aside0.mk hi280_0
                              have HC280_0 := Aside0.mk hl280_0
                              clear hi280_0 hl280_0
                              replace p280 := eq_true p280
                              replace q280 := eq_true q280
                              have p281 : 0 ≤ (x48_4 : Int) := of_decide_eq_true (by first | (with_reducible assumption) | assumption)
                              have q281 : x48_4 < (l1.length : Int) := of_decide_eq_true (by first | (with_reducible assumption) | assumption)
                              obtain ⟨ad281, e281, hx281_0⟩ := Kd.at_int HR1.out x48_4 p281 q281
                              obtain rfl : ad276 = ad281 := (by injection e281)
                              replace hx281_0 := (HB.out.cell (World.block_lt_of_cell? w _ hx281_0)).trans hx281_0
                              replace p281 := eq_true p281
                              replace q281 := eq_true q281
                              have p282 : 0 ≤ ((rd l1 x48_4) : Int) := of_decide_eq_true (by first | (with_reducible assumption) | assumption)
                              have q282 : (rd l1 x48_4) < ((rd_L1 l0_1 (rd l1 x20_2)).length : Int) := of_decide_eq_true (by first | (with_reducible assumption) | assumption)
                              obtain ⟨ad282, e282, hx282_0⟩ := Kd.at_int HR280_0.out (rd l1 x48_4) p282 q282
                              cases e282
                              replace hx282_0 := (HB.out.cell (World.block_lt_of_cell? w _ hx282_0)).trans hx282_0
                              replace p282 := eq_true p282
                              replace q282 := eq_true q282
                              have p283 : 0 ≤ (x20_2 : Int) := of_decide_eq_true (by first | (with_reducible assumption) | assumption)
                              have q283 : x20_2 < (l0_1.length : Int) := of_decide_eq_true (by first | (with_reducible assumption) | assumption)
                              obtain ⟨ad283, A283_0, c283_0, e283, hx283_0, hl283_0, hi283_0⟩ := at_L1 HR0_1.out x20_2 p283 q283
                              obtain rfl : ad280 = ad283 := (by injection e283)
                              replace hx283_0 := (HB.out.cell (World.block_lt_of_cell? w _ hx283_0)).trans hx283_0
                              have HR283_0 := Aside0.mk hi283_0
                              have HC283_0 := Aside0.mk hl283_0
                              clear hi283_0 hl283_0
                              replace p283 := eq_true p283
                              replace q283 := eq_true q283
                              have p284 : 0 ≤ (x48_4 : Int) := of_decide_eq_true (by first | (with_reducible assumption) | assumption)
                              have q284 : x48_4 < ((rd_L1 l0_1 x20_2).length : Int) := of_decide_eq_true (by first | (with_reducible assumption) | assumption)
                              obtain ⟨ad284, e284, hx284_0⟩ := Kd.at_int HR283_0.out x48_4 p284 q284
                              cases e284
                              replace hx284_0 := (HB.out.cell (World.block_lt_of_cell? w _ hx284_0)).trans hx284_0
                              replace p284 := eq_true p284
                              replace q284 := eq_true q284
                              have p285 : 0 ≤ ((rd (rd_L1 l0_1 x20_2) x48_4) : Int) := of_decide_eq_true (by first | (with_reducible assumption) | assumption)
                              have q285 : (rd (rd_L1 l0_1 x20_2) x48_4) < (l1.length : Int) := of_decide_eq_true (by first | (with_reducible assumption) | assumption)
                              obtain ⟨ad285, e285, hx285_0⟩ := Kd.at_int HR1.out (rd (rd_L1 l0_1 x20_2) x48_4) p285 q285
                              obtain rfl : ad276 = ad285 := (by injection e285)
                              replace hx285_0 := (HB.out.cell (World.block_lt_of_cell? w _ hx285_0)).trans hx285_0
                              replace p285 := eq_true p285
                              replace q285 := eq_true q285
                              as_aux_lemma =>
                               go_wp2_with (first | (go_at_call 67; (with_reducible refine (impl_below.calls _ _ l0_0 x20_2 x48_4 true _ ?side1 ?side2 A35.out).mono ?_); (case side1 => repeat (first | exact (Kd.C_below HR0_0.out HB.out) | (with_reducible refine Kd.C_alloc ?_ _) | (with_reducible refine Kd.C_drewN ?_ _) | (with_reducible refine Kd.C_drew ?_))); (case side2 => exact HC0_0.out); rintro e w' ⟨rfl, ⟨nd, rfl⟩⟩; (try first | exact ⟨rfl, _, World.drewN_drewN _ _ _⟩ | exact ⟨rfl, _, Eq.trans (World.drewN_drewN _ _ _) (congrArg (World.drewN _) (Nat.add_assoc _ _ _))⟩)) | (go_at_call 67; (with_reducible refine (impl_below.calls _ _ l0_0 (rd l1 x20_2) (rd l1 x48_4) true _ ?side1 ?side2 A41.out).mono ?_); (case side1 => repeat (first | exact (Kd.C_below HR0_0.out (by repeat (first | (with_reducible first | exact HB.out | apply below_alloc | apply pw_below_drewN | apply below_drew1 | refine below_set ?_ GE267.out | refine below_set ?_ GE268.out) | exact HB.out))) | (with_reducible refine Kd.C_alloc ?_ _) | (with_reducible refine Kd.C_drewN ?_ _) | (with_reducible refine Kd.C_drew ?_))); (case side2 => exact HC0_0.out); rintro e w' ⟨rfl, ⟨nd, rfl⟩⟩; (try first | exact ⟨rfl, _, World.drewN_drewN _ _ _⟩ | exact ⟨rfl, _, Eq.trans (World.drewN_drewN _ _ _) (congrArg (World.drewN _) (Nat.add_assoc _ _ _))⟩)) | (go_at_call 67; (with_reducible refine (impl_below.calls _ _ l0_0 (rd (rd_L1 l0_1 (rd l1 x20_2)) (rd l1 x48_4)) (rd l1 (rd (rd_L1 l0_1 x20_2) x48_4)) true _ ?side1 ?side2 A51.out).mono ?_); (case side1 => repeat (first | exact (Kd.C_below HR0_0.out (by repeat (first | (with_reducible first | exact HB.out | apply below_alloc | apply pw_below_drewN | apply below_drew1 | refine below_set ?_ GE267.out | refine below_set ?_ GE268.out) | exact HB.out))) | (with_reducible refine Kd.C_alloc ?_ _) | (with_reducible refine Kd.C_drewN ?_ _) | (with_reducible refine Kd.C_drew ?_))); (case side2 => exact HC0_0.out); rintro e w' ⟨rfl, ⟨nd, rfl⟩⟩; (try first | exact ⟨rfl, _, World.drewN_drewN _ _ _⟩ | exact ⟨rfl, _, Eq.trans (World.drewN_drewN _ _ _) (congrArg (World.drewN _) (Nat.add_assoc _ _ _))⟩)))
                               repeat ((refine wp_region_quiet_lit ?_ ?_ ?_; kernel_rfl; kernel_rfl; (repeat (first | go_big_quiet_step (first | (go_at_call 67; (with_reducible refine (impl_below.calls _ _ l0_0 x20_2 x48_4 true _ ?side1 ?side2 A35.out).mono ?_); (case side1 => repeat (first | exact (Kd.C_below HR0_0.out HB.out) | (with_reducible refine Kd.C_alloc ?_ _) | (with_reducible refine Kd.C_drewN ?_ _) | (with_reducible refine Kd.C_drew ?_))); (case side2 => exact HC0_0.out); rintro e w' ⟨rfl, ⟨nd, rfl⟩⟩; (try first | exact ⟨rfl, _, World.drewN_drewN _ _ _⟩ | exact ⟨rfl, _, Eq.trans (World.drewN_drewN _ _ _) (congrArg (World.drewN _) (Nat.add_assoc _ _ _))⟩)) | (go_at_call 67; (with_reducible refine (impl_below.calls _ _ l0_0 (rd l1 x20_2) (rd l1 x48_4) true _ ?side1 ?side2 A41.out).mono ?_); (case side1 => repeat (first | exact (Kd.C_below HR0_0.out (by repeat (first | (with_reducible first | exact HB.out | apply below_alloc | apply pw_below_drewN | apply below_drew1 | refine below_set ?_ GE267.out | refine below_set ?_ GE268.out) | exact HB.out))) | (with_reducible refine Kd.C_alloc ?_ _) | (with_reducible refine Kd.C_drewN ?_ _) | (with_reducible refine Kd.C_drew ?_))); (case side2 => exact HC0_0.out); rintro e w' ⟨rfl, ⟨nd, rfl⟩⟩; (try first | exact ⟨rfl, _, World.drewN_drewN _ _ _⟩ | exact ⟨rfl, _, Eq.trans (World.drewN_drewN _ _ _) (congrArg (World.drewN _) (Nat.add_assoc _ _ _))⟩)) | (go_at_call 67; (with_reducible refine (impl_below.calls _ _ l0_0 (rd (rd_L1 l0_1 (rd l1 x20_2)) (rd l1 x48_4)) (rd l1 (rd (rd_L1 l0_1 x20_2) x48_4)) true _ ?side1 ?side2 A51.out).mono ?_); (case side1 => repeat (first | exact (Kd.C_below HR0_0.out (by repeat (first | (with_reducible first | exact HB.out | apply below_alloc | apply pw_below_drewN | apply below_drew1 | refine below_set ?_ GE267.out | refine below_set ?_ GE268.out) | exact HB.out))) | (with_reducible refine Kd.C_alloc ?_ _) | (with_reducible refine Kd.C_drewN ?_ _) | (with_reducible refine Kd.C_drew ?_))); (case side2 => exact HC0_0.out); rintro e w' ⟨rfl, ⟨nd, rfl⟩⟩; (try first | exact ⟨rfl, _, World.drewN_drewN _ _ _⟩ | exact ⟨rfl, _, Eq.trans (World.drewN_drewN _ _ _) (congrArg (World.drewN _) (Nat.add_assoc _ _ _))⟩))) | (refine wpQuiet_step (fun K hK => ?_); go_simp; refine hK _ ?_; clear hK K))); refine wpQuiet_nil ?_; intro _ hw'; obtain ⟨nq, hw''⟩ := hw'; subst hw''); try go_wp2_with (first | (go_at_call 67; (with_reducible refine (impl_below.calls _ _ l0_0 x20_2 x48_4 true _ ?side1 ?side2 A35.out).mono ?_); (case side1 => repeat (first | exact (Kd.C_below HR0_0.out HB.out) | (with_reducible refine Kd.C_alloc ?_ _) | (with_reducible refine Kd.C_drewN ?_ _) | (with_reducible refine Kd.C_drew ?_))); (case side2 => exact HC0_0.out); rintro e w' ⟨rfl, ⟨nd, rfl⟩⟩; (try first | exact ⟨rfl, _, World.drewN_drewN _ _ _⟩ | exact ⟨rfl, _, Eq.trans (World.drewN_drewN _ _ _) (congrArg (World.drewN _) (Nat.add_assoc _ _ _))⟩)) | (go_at_call 67; (with_reducible refine (impl_below.calls _ _ l0_0 (rd l1 x20_2) (rd l1 x48_4) true _ ?side1 ?side2 A41.out).mono ?_); (case side1 => repeat (first | exact (Kd.C_below HR0_0.out (by repeat (first | (with_reducible first | exact HB.out | apply below_alloc | apply pw_below_drewN | apply below_drew1 | refine below_set ?_ GE267.out | refine below_set ?_ GE268.out) | exact HB.out))) | (with_reducible refine Kd.C_alloc ?_ _) | (with_reducible refine Kd.C_drewN ?_ _) | (with_reducible refine Kd.C_drew ?_))); (case side2 => exact HC0_0.out); rintro e w' ⟨rfl, ⟨nd, rfl⟩⟩; (try first | exact ⟨rfl, _, World.drewN_drewN _ _ _⟩ | exact ⟨rfl, _, Eq.trans (World.drewN_drewN _ _ _) (congrArg (World.drewN _) (Nat.add_assoc _ _ _))⟩)) | (go_at_call 67; (with_reducible refine (impl_below.calls _ _ l0_0 (rd (rd_L1 l0_1 (rd l1 x20_2)) (rd l1 x48_4)) (rd l1 (rd (rd_L1 l0_1 x20_2) x48_4)) true _ ?side1 ?side2 A51.out).mono ?_); (case side1 => repeat (first | exact (Kd.C_below HR0_0.out (by repeat (first | (with_reducible first | exact HB.out | apply below_alloc | apply pw_below_drewN | apply below_drew1 | refine below_set ?_ GE267.out | refine below_set ?_ GE268.out) | exact HB.out))) | (with_reducible refine Kd.C_alloc ?_ _) | (with_reducible refine Kd.C_drewN ?_ _) | (with_reducible refine Kd.C_drew ?_))); (case side2 => exact HC0_0.out); rintro e w' ⟨rfl, ⟨nd, rfl⟩⟩; (try first | exact ⟨rfl, _, World.drewN_drewN _ _ _⟩ | exact ⟨rfl, _, Eq.trans (World.drewN_drewN _ _ _) (congrArg (World.drewN _) (Nat.add_assoc _ _ _))⟩))))
                               go_roundg k4
                               case measure => have := HJ2.out; have := HK2.out; have := HJ17.out; have := HK4.out; omega
                               case rel => exact ⟨(wrap64 (x48_4 + 1)), (by first | rfl | (simp; done) | (simp [*]; done)), H', ⟨by have := HJ2.out; have := HK2.out; have := HJ17.out; have := HK4.out; omega⟩, ⟨by (with_reducible repeat (first | refine blk_drewN ?_ _ | refine blk_drew ?_ | refine blk_alloc ?_ _)); exact BK267.out⟩, ⟨by (with_reducible repeat (first | refine blk_drewN ?_ _ | refine blk_drew ?_ | refine blk_alloc ?_ _)); exact BK268.out⟩, ⟨by repeat (first | (with_reducible first | exact HB.out | apply below_alloc | apply pw_below_drewN | apply below_drew1 | refine below_set ?_ GE267.out | refine below_set ?_ GE268.out) | exact HB.out)⟩⟩
                             ·replace c52 := Bool.eq_false_iff.mpr c52
                              subst c52
                              have H1 : (some false) = some r := by rw [if_neg (show ¬ (false = true) by decide)] at H; exact H
                              clear H
                              have H := H1
                              clear H1
                              obtain rfl := Option.some.inj H
                              have hnb56 := NB267_268.out
                              have hnc56 := NB268_267.out
                              have hcz57_0 : wr.cell? ⟨gb267, 0, none⟩ = some (.slice A0_0 l0_0.length c0_0) := (blk_cell BK267.out 0).trans rfl
                              have hcz57_1 : wr.cell? ⟨gb267, 1, none⟩ = some (.slice A0_1 l0_1.length c0_1) := (blk_cell BK267.out 1).trans rfl
                              have hfz57_0 := blk_frozen BK267.out 0
                              have hfz57_1 := blk_frozen BK267.out 1
                              have hcz58_0 : wr.cell? ⟨gb268, 0, none⟩ = some (.slice A1 l1.length c1) := (blk_cell BK268.out 0).trans rfl
                              have hfz58_0 := blk_frozen BK268.out 0
                              have p276 : 0 ≤ (x20_2 : Int) := of_decide_eq_true (by first | (with_reducible assumption) | assumption)
                              have q276 : x20_2 < (l1.length : Int) := of_decide_eq_true (by first | (with_reducible assumption) | assumption)
                              obtain ⟨ad276, e276, hx276_0⟩ := Kd.at_int HR1.out x20_2 p276 q276
                              cases e276
                              replace hx276_0 := (HB.out.cell (World.block_lt_of_cell? w _ hx276_0)).trans hx276_0
                              replace p276 := eq_true p276
                              replace q276 := eq_true q276
                              have p277 : 0 ≤ (x48_4 : Int) := of_decide_eq_true (by first | (with_reducible assumption) | assumption)
                              have q277 : x48_4 < (l1.length : Int) := of_decide_eq_true (by first | (with_reducible assumption) | assumption)
                              obtain ⟨ad277, e277, hx277_0⟩ := Kd.at_int HR1.out x48_4 p277 q277
                              obtain rfl : ad276 = ad277 := (by injection e277)
                              replace hx277_0 := (HB.out.cell (World.block_lt_of_cell? w _ hx277_0)).trans hx277_0
                              replace p277 := eq_true p277
                              replace q277 := eq_true q277
                              have p279 : 0 ≤ (x20_2 : Int) := of_decide_eq_true (by first | (with_reducible assumption) | assumption)
                              have q279 : x20_2 < (l1.length : Int) := of_decide_eq_true (by first | (with_reducible assumption) | assumption)
                              obtain ⟨ad279, e279, hx279_0⟩ := Kd.at_int HR1.out x20_2 p279 q279
                              obtain rfl : ad276 = ad279 := (by injection e279)
                              replace hx279_0 := (HB.out.cell (World.block_lt_of_cell? w _ hx279_0)).trans hx279_0
                              replace p279 := eq_true p279
                              replace q279 := eq_true q279
                              have p280 : 0 ≤ ((rd l1 x20_2) : Int) := of_decide_eq_true (by first | (with_reducible assumption) | assumption)
                              have q280 : (rd l1 x20_2) < (l0_1.length : Int) := of_decide_eq_true (by first | (with_reducible assumption) | assumption)
                              obtain ⟨ad280, A280_0, c280_0, e280, hx280_0, hl280_0, hi280_0⟩ := at_L1 HR0_1.out (rd l1 x20_2) p280 q280
                              cases e280
                              replace hx280_0 := (HB.out.cell (World.block_lt_of_cell? w _ hx280_0)).trans hx280_0
                              have HR280_0 := Aside0.mk hi280_0
                              have HC280_0 := Aside0.mk hl280_0
                              clear hi280_0 hl280_0
                              replace p280 := eq_true p280
                              replace q280 := eq_true q280
                              have p281 : 0 ≤ (x48_4 : Int) := of_decide_eq_true (by first | (with_reducible assumption) | assumption)
                              have q281 : x48_4 < (l1.length : Int) := of_decide_eq_true (by first | (with_reducible assumption) | assumption)
                              obtain ⟨ad281, e281, hx281_0⟩ := Kd.at_int HR1.out x48_4 p281 q281
                              obtain rfl : ad276 = ad281 := (by injection e281)
                              replace hx281_0 := (HB.out.cell (World.block_lt_of_cell? w _ hx281_0)).trans hx281_0
                              replace p281 := eq_true p281
                              replace q281 := eq_true q281
                              have p282 : 0 ≤ ((rd l1 x48_4) : Int) := of_decide_eq_true (by first | (with_reducible assumption) | assumption)
                              have q282 : (rd l1 x48_4) < ((rd_L1 l0_1 (rd l1 x20_2)).length : Int) := of_decide_eq_true (by first | (with_reducible assumption) | assumption)
                              obtain ⟨ad282, e282, hx282_0⟩ := Kd.at_int HR280_0.out (rd l1 x48_4) p282 q282
                              cases e282
                              replace hx282_0 := (HB.out.cell (World.block_lt_of_cell? w _ hx282_0)).trans hx282_0
                              replace p282 := eq_true p282
                              replace q282 := eq_true q282
                              have p283 : 0 ≤ (x20_2 : Int) := of_decide_eq_true (by first | (with_reducible assumption) | assumption)
                              have q283 : x20_2 < (l0_1.length : Int) := of_decide_eq_true (by first | (with_reducible assumption) | assumption)
                              obtain ⟨ad283, A283_0, c283_0, e283, hx283_0, hl283_0, hi283_0⟩ := at_L1 HR0_1.out x20_2 p283 q283
                              obtain rfl : ad280 = ad283 := (by injection e283)
                              replace hx283_0 := (HB.out.cell (World.block_lt_of_cell? w _ hx283_0)).trans hx283_0
                              have HR283_0 := Aside0.mk hi283_0
                              have HC283_0 := Aside0.mk hl283_0
                              clear hi283_0 hl283_0
                              replace p283 := eq_true p283
                              replace q283 := eq_true q283
                              have p284 : 0 ≤ (x48_4 : Int) := of_decide_eq_true (by first | (with_reducible assumption) | assumption)
                              have q284 : x48_4 < ((rd_L1 l0_1 x20_2).length : Int) := of_decide_eq_true (by first | (with_reducible assumption) | assumption)
                              obtain ⟨ad284, e284, hx284_0⟩ := Kd.at_int HR283_0.out x48_4 p284 q284
                              cases e284
                              replace hx284_0 := (HB.out.cell (World.block_lt_of_cell? w _ hx284_0)).trans hx284_0
                              replace p284 := eq_true p284
                              replace q284 := eq_true q284
                              have p285 : 0 ≤ ((rd (rd_L1 l0_1 x20_2) x48_4) : Int) := of_decide_eq_true (by first | (with_reducible assumption) | assumption)
                              have q285 : (rd (rd_L1 l0_1 x20_2) x48_4) < (l1.length : Int) := of_decide_eq_true (by first | (with_reducible assumption) | assumption)
                              obtain ⟨ad285, e285, hx285_0⟩ := Kd.at_int HR1.out (rd (rd_L1 l0_1 x20_2) x48_4) p285 q285
                              obtain rfl : ad276 = ad285 := (by injection e285)
                              replace hx285_0 := (HB.out.cell (World.block_lt_of_cell? w _ hx285_0)).trans hx285_0
                              replace p285 := eq_true p285
                              replace q285 := eq_true q285
                              as_aux_lemma =>
                               go_wp2_with (first | (go_at_call 67; (with_reducible refine (impl_below.calls _ _ l0_0 x20_2 x48_4 true _ ?side1 ?side2 A35.out).mono ?_); (case side1 => repeat (first | exact (Kd.C_below HR0_0.out HB.out) | (with_reducible refine Kd.C_alloc ?_ _) | (with_reducible refine Kd.C_drewN ?_ _) | (with_reducible refine Kd.C_drew ?_))); (case side2 => exact HC0_0.out); rintro e w' ⟨rfl, ⟨nd, rfl⟩⟩; (try first | exact ⟨rfl, _, World.drewN_drewN _ _ _⟩ | exact ⟨rfl, _, Eq.trans (World.drewN_drewN _ _ _) (congrArg (World.drewN _) (Nat.add_assoc _ _ _))⟩)) | (go_at_call 67; (with_reducible refine (impl_below.calls _ _ l0_0 (rd l1 x20_2) (rd l1 x48_4) true _ ?side1 ?side2 A41.out).mono ?_); (case side1 => repeat (first | exact (Kd.C_below HR0_0.out (by repeat (first | (with_reducible first | exact HB.out | apply below_alloc | apply pw_below_drewN | apply below_drew1 | refine below_set ?_ GE267.out | refine below_set ?_ GE268.out) | exact HB.out))) | (with_reducible refine Kd.C_alloc ?_ _) | (with_reducible refine Kd.C_drewN ?_ _) | (with_reducible refine Kd.C_drew ?_))); (case side2 => exact HC0_0.out); rintro e w' ⟨rfl, ⟨nd, rfl⟩⟩; (try first | exact ⟨rfl, _, World.drewN_drewN _ _ _⟩ | exact ⟨rfl, _, Eq.trans (World.drewN_drewN _ _ _) (congrArg (World.drewN _) (Nat.add_assoc _ _ _))⟩)) | (go_at_call 67; (with_reducible refine (impl_below.calls _ _ l0_0 (rd (rd_L1 l0_1 (rd l1 x20_2)) (rd l1 x48_4)) (rd l1 (rd (rd_L1 l0_1 x20_2) x48_4)) false _ ?side1 ?side2 A51.out).mono ?_); (case side1 => repeat (first | exact (Kd.C_below HR0_0.out (by repeat (first | (with_reducible first | exact HB.out | apply below_alloc | apply pw_below_drewN | apply below_drew1 | refine below_set ?_ GE267.out | refine below_set ?_ GE268.out) | exact HB.out))) | (with_reducible refine Kd.C_alloc ?_ _) | (with_reducible refine Kd.C_drewN ?_ _) | (with_reducible refine Kd.C_drew ?_))); (case side2 => exact HC0_0.out); rintro e w' ⟨rfl, ⟨nd, rfl⟩⟩; (try first | exact ⟨rfl, _, World.drewN_drewN _ _ _⟩ | exact ⟨rfl, _, Eq.trans (World.drewN_drewN _ _ _) (congrArg (World.drewN _) (Nat.add_assoc _ _ _))⟩)))
                               repeat ((refine wp_region_quiet_lit ?_ ?_ ?_; kernel_rfl; kernel_rfl; (repeat (first | go_big_quiet_step (first | (go_at_call 67; (with_reducible refine (impl_below.calls _ _ l0_0 x20_2 x48_4 true _ ?side1 ?side2 A35.out).mono ?_); (case side1 => repeat (first | exact (Kd.C_below HR0_0.out HB.out) | (with_reducible refine Kd.C_alloc ?_ _) | (with_reducible refine Kd.C_drewN ?_ _) | (with_reducible refine Kd.C_drew ?_))); (case side2 => exact HC0_0.out); rintro e w' ⟨rfl, ⟨nd, rfl⟩⟩; (try first | exact ⟨rfl, _, World.drewN_drewN _ _ _⟩ | exact ⟨rfl, _, Eq.trans (World.drewN_drewN _ _ _) (congrArg (World.drewN _) (Nat.add_assoc _ _ _))⟩)) | (go_at_call 67; (with_reducible refine (impl_below.calls _ _ l0_0 (rd l1 x20_2) (rd l1 x48_4) true _ ?side1 ?side2 A41.out).mono ?_); (case side1 => repeat (first | exact (Kd.C_below HR0_0.out (by repeat (first | (with_reducible first | exact HB.out | apply below_alloc | apply pw_below_drewN | apply below_drew1 | refine below_set ?_ GE267.out | refine below_set ?_ GE268.out) | exact HB.out))) | (with_reducible refine Kd.C_alloc ?_ _) | (with_reducible refine Kd.C_drewN ?_ _) | (with_reducible refine Kd.C_drew ?_))); (case side2 => exact HC0_0.out); rintro e w' ⟨rfl, ⟨nd, rfl⟩⟩; (try first | exact ⟨rfl, _, World.drewN_drewN _ _ _⟩ | exact ⟨rfl, _, Eq.trans (World.drewN_drewN _ _ _) (congrArg (World.drewN _) (Nat.add_assoc _ _ _))⟩)) | (go_at_call 67; (with_reducible refine (impl_below.calls _ _ l0_0 (rd (rd_L1 l0_1 (rd l1 x20_2)) (rd l1 x48_4)) (rd l1 (rd (rd_L1 l0_1 x20_2) x48_4)) false _ ?side1 ?side2 A51.out).mono ?_); (case side1 => repeat (first | exact (Kd.C_below HR0_0.out (by repeat (first | (with_reducible first | exact HB.out | apply below_alloc | apply pw_below_drewN | apply below_drew1 | refine below_set ?_ GE267.out | refine below_set ?_ GE268.out) | exact HB.out))) | (with_reducible refine Kd.C_alloc ?_ _) | (with_reducible refine Kd.C_drewN ?_ _) | (with_reducible refine Kd.C_drew ?_))); (case side2 => exact HC0_0.out); rintro e w' ⟨rfl, ⟨nd, rfl⟩⟩; (try first | exact ⟨rfl, _, World.drewN_drewN _ _ _⟩ | exact ⟨rfl, _, Eq.trans (World.drewN_drewN _ _ _) (congrArg (World.drewN _) (Nat.add_assoc _ _ _))⟩))) | (refine wpQuiet_step (fun K hK => ?_); go_simp; refine hK _ ?_; clear hK K))); refine wpQuiet_nil ?_; intro _ hw'; obtain ⟨nq, hw''⟩ := hw'; subst hw''); try go_wp2_with (first | (go_at_call 67; (with_reducible refine (impl_below.calls _ _ l0_0 x20_2 x48_4 true _ ?side1 ?side2 A35.out).mono ?_); (case side1 => repeat (first | exact (Kd.C_below HR0_0.out HB.out) | (with_reducible refine Kd.C_alloc ?_ _) | (with_reducible refine Kd.C_drewN ?_ _) | (with_reducible refine Kd.C_drew ?_))); (case side2 => exact HC0_0.out); rintro e w' ⟨rfl, ⟨nd, rfl⟩⟩; (try first | exact ⟨rfl, _, World.drewN_drewN _ _ _⟩ | exact ⟨rfl, _, Eq.trans (World.drewN_drewN _ _ _) (congrArg (World.drewN _) (Nat.add_assoc _ _ _))⟩)) | (go_at_call 67; (with_reducible refine (impl_below.calls _ _ l0_0 (rd l1 x20_2) (rd l1 x48_4) true _ ?side1 ?side2 A41.out).mono ?_); (case side1 => repeat (first | exact (Kd.C_below HR0_0.out (by repeat (first | (with_reducible first | exact HB.out | apply below_alloc | apply pw_below_drewN | apply below_drew1 | refine below_set ?_ GE267.out | refine below_set ?_ GE268.out) | exact HB.out))) | (with_reducible refine Kd.C_alloc ?_ _) | (with_reducible refine Kd.C_drewN ?_ _) | (with_reducible refine Kd.C_drew ?_))); (case side2 => exact HC0_0.out); rintro e w' ⟨rfl, ⟨nd, rfl⟩⟩; (try first | exact ⟨rfl, _, World.drewN_drewN _ _ _⟩ | exact ⟨rfl, _, Eq.trans (World.drewN_drewN _ _ _) (congrArg (World.drewN _) (Nat.add_assoc _ _ _))⟩)) | (go_at_call 67; (with_reducible refine (impl_below.calls _ _ l0_0 (rd (rd_L1 l0_1 (rd l1 x20_2)) (rd l1 x48_4)) (rd l1 (rd (rd_L1 l0_1 x20_2) x48_4)) false _ ?side1 ?side2 A51.out).mono ?_); (case side1 => repeat (first | exact (Kd.C_below HR0_0.out (by repeat (first | (with_reducible first | exact HB.out | apply below_alloc | apply pw_below_drewN | apply below_drew1 | refine below_set ?_ GE267.out | refine below_set ?_ GE268.out) | exact HB.out))) | (with_reducible refine Kd.C_alloc ?_ _) | (with_reducible refine Kd.C_drewN ?_ _) | (with_reducible refine Kd.C_drew ?_))); (case side2 => exact HC0_0.out); rintro e w' ⟨rfl, ⟨nd, rfl⟩⟩; (try first | exact ⟨rfl, _, World.drewN_drewN _ _ _⟩ | exact ⟨rfl, _, Eq.trans (World.drewN_drewN _ _ _) (congrArg (World.drewN _) (Nat.add_assoc _ _ _))⟩))))
                               go_ret
                               exact ⟨by first | rfl | (simp [errW_none, errW_some] <;> rfl) | (simp [*, errW_none, errW_some] <;> rfl), by repeat (first | (with_reducible first | exact HB.out | apply below_alloc | apply pw_below_drewN | apply below_drew1 | refine below_set ?_ GE267.out | refine below_set ?_ GE268.out) | exact HB.out)⟩
                            ·rw [if_neg c50] at H
                             exact absurd H (by simp)
                           ·rw [if_neg c49] at H
                            exact absurd H (by simp)
                          ·rw [if_neg c48] at H
                           exact absurd H (by simp)
                         ·rw [if_neg c47] at H
                          exact absurd H (by simp)
                        ·rw [if_neg c46] at H
                         exact absurd H (by simp)
                       ·rw [if_neg c45] at H
                        exact absurd H (by simp)
                      ·rw [if_neg c44] at H
                       exact absurd H (by simp)
                     ·rw [if_neg c43] at H
                      exact absurd H (by simp)
                    ·replace c42 := Bool.eq_false_iff.mpr c42
                     subst c42
                     have H1 : (some false) = some r := by rw [if_neg (show ¬ (false = true) by decide)] at H; exact H
                     clear H
                     have H := H1
                     clear H1
                     obtain rfl := Option.some.inj H
                     have hnb59 := NB267_268.out
                     have hnc59 := NB268_267.out
                     have hcz60_0 : wr.cell? ⟨gb267, 0, none⟩ = some (.slice A0_0 l0_0.length c0_0) := (blk_cell BK267.out 0).trans rfl
                     have hcz60_1 : wr.cell? ⟨gb267, 1, none⟩ = some (.slice A0_1 l0_1.length c0_1) := (blk_cell BK267.out 1).trans rfl
                     have hfz60_0 := blk_frozen BK267.out 0
                     have hfz60_1 := blk_frozen BK267.out 1
                     have hcz61_0 : wr.cell? ⟨gb268, 0, none⟩ = some (.slice A1 l1.length c1) := (blk_cell BK268.out 0).trans rfl
                     have hfz61_0 := blk_frozen BK268.out 0
                     have p276 : 0 ≤ (x20_2 : Int) := of_decide_eq_true (by first | (with_reducible assumption) | assumption)
                     have q276 : x20_2 < (l1.length : Int) := of_decide_eq_true (by first | (with_reducible assumption) | assumption)
                     obtain ⟨ad276, e276, hx276_0⟩ := Kd.at_int HR1.out x20_2 p276 q276
                     cases e276
                     replace hx276_0 := (HB.out.cell (World.block_lt_of_cell? w _ hx276_0)).trans hx276_0
                     replace p276 := eq_true p276
                     replace q276 := eq_true q276
                     have p277 : 0 ≤ (x48_4 : Int) := of_decide_eq_true (by first | (with_reducible assumption) | assumption)
                     have q277 : x48_4 < (l1.length : Int) := of_decide_eq_true (by first | (with_reducible assumption) | assumption)
                     obtain ⟨ad277, e277, hx277_0⟩ := Kd.at_int HR1.out x48_4 p277 q277
                     obtain rfl : ad276 = ad277 := (by injection e277)
                     replace hx277_0 := (HB.out.cell (World.block_lt_of_cell? w _ hx277_0)).trans hx277_0
                     replace p277 := eq_true p277
                     replace q277 := eq_true q277
                     as_aux_lemma =>
                      go_wp2_with (first | (go_at_call 67; (with_reducible refine (impl_below.calls _ _ l0_0 x20_2 x48_4 true _ ?side1 ?side2 A35.out).mono ?_); (case side1 => repeat (first | exact (Kd.C_below HR0_0.out HB.out) | (with_reducible refine Kd.C_alloc ?_ _) | (with_reducible refine Kd.C_drewN ?_ _) | (with_reducible refine Kd.C_drew ?_))); (case side2 => exact HC0_0.out); rintro e w' ⟨rfl, ⟨nd, rfl⟩⟩; (try first | exact ⟨rfl, _, World.drewN_drewN _ _ _⟩ | exact ⟨rfl, _, Eq.trans (World.drewN_drewN _ _ _) (congrArg (World.drewN _) (Nat.add_assoc _ _ _))⟩)) | (go_at_call 67; (with_reducible refine (impl_below.calls _ _ l0_0 (rd l1 x20_2) (rd l1 x48_4) false _ ?side1 ?side2 A41.out).mono ?_); (case side1 => repeat (first | exact (Kd.C_below HR0_0.out (by repeat (first | (with_reducible first | exact HB.out | apply below_alloc | apply pw_below_drewN | apply below_drew1 | refine below_set ?_ GE267.out | refine below_set ?_ GE268.out) | exact HB.out))) | (with_reducible refine Kd.C_alloc ?_ _) | (with_reducible refine Kd.C_drewN ?_ _) | (with_reducible refine Kd.C_drew ?_))); (case side2 => exact HC0_0.out); rintro e w' ⟨rfl, ⟨nd, rfl⟩⟩; (try first | exact ⟨rfl, _, World.drewN_drewN _ _ _⟩ | exact ⟨rfl, _, Eq.trans (World.drewN_drewN _ _ _) (congrArg (World.drewN _) (Nat.add_assoc _ _ _))⟩)))
                      repeat ((refine wp_region_quiet_lit ?_ ?_ ?_; kernel_rfl; kernel_rfl; (repeat (first | go_big_quiet_step (first | (go_at_call 67; (with_reducible refine (impl_below.calls _ _ l0_0 x20_2 x48_4 true _ ?side1 ?side2 A35.out).mono ?_); (case side1 => repeat (first | exact (Kd.C_below HR0_0.out HB.out) | (with_reducible refine Kd.C_alloc ?_ _) | (with_reducible refine Kd.C_drewN ?_ _) | (with_reducible refine Kd.C_drew ?_))); (case side2 => exact HC0_0.out); rintro e w' ⟨rfl, ⟨nd, rfl⟩⟩; (try first | exact ⟨rfl, _, World.drewN_drewN _ _ _⟩ | exact ⟨rfl, _, Eq.trans (World.drewN_drewN _ _ _) (congrArg (World.drewN _) (Nat.add_assoc _ _ _))⟩)) | (go_at_call 67; (with_reducible refine (impl_below.calls _ _ l0_0 (rd l1 x20_2) (rd l1 x48_4) false _ ?side1 ?side2 A41.out).mono ?_); (case side1 => repeat (first | exact (Kd.C_below HR0_0.out (by repeat (first | (with_reducible first | exact HB.out | apply below_alloc | apply pw_below_drewN | apply below_drew1 | refine below_set ?_ GE267.out | refine below_set ?_ GE268.out) | exact HB.out))) | (with_reducible refine Kd.C_alloc ?_ _) | (with_reducible refine Kd.C_drewN ?_ _) | (with_reducible refine Kd.C_drew ?_))); (case side2 => exact HC0_0.out); rintro e w' ⟨rfl, ⟨nd, rfl⟩⟩; (try first | exact ⟨rfl, _, World.drewN_drewN _ _ _⟩ | exact ⟨rfl, _, Eq.trans (World.drewN_drewN _ _ _) (congrArg (World.drewN _) (Nat.add_assoc _ _ _))⟩))) | (refine wpQuiet_step (fun K hK => ?_); go_simp; refine hK _ ?_; clear hK K))); refine wpQuiet_nil ?_; intro _ hw'; obtain ⟨nq, hw''⟩ := hw'; subst hw''); try go_wp2_with (first | (go_at_call 67; (with_reducible refine (impl_below.calls _ _ l0_0 x20_2 x48_4 true _ ?side1 ?side2 A35.out).mono ?_); (case side1 => repeat (first | exact (Kd.C_below HR0_0.out HB.out) | (with_reducible refine Kd.C_alloc ?_ _) | (with_reducible refine Kd.C_drewN ?_ _) | (with_reducible refine Kd.C_drew ?_))); (case side2 => exact HC0_0.out); rintro e w' ⟨rfl, ⟨nd, rfl⟩⟩; (try first | exact ⟨rfl, _, World.drewN_drewN _ _ _⟩ | exact ⟨rfl, _, Eq.trans (World.drewN_drewN _ _ _) (congrArg (World.drewN _) (Nat.add_assoc _ _ _))⟩)) | (go_at_call 67; (with_reducible refine (impl_below.calls _ _ l0_0 (rd l1 x20_2) (rd l1 x48_4) false _ ?side1 ?side2 A41.out).mono ?_); (case side1 => repeat (first | exact (Kd.C_below HR0_0.out (by repeat (first | (with_reducible first | exact HB.out | apply below_alloc | apply pw_below_drewN | apply below_drew1 | refine below_set ?_ GE267.out | refine below_set ?_ GE268.out) | exact HB.out))) | (with_reducible refine Kd.C_alloc ?_ _) | (with_reducible refine Kd.C_drewN ?_ _) | (with_reducible refine Kd.C_drew ?_))); (case side2 => exact HC0_0.out); rintro e w' ⟨rfl, ⟨nd, rfl⟩⟩; (try first | exact ⟨rfl, _, World.drewN_drewN _ _ _⟩ | exact ⟨rfl, _, Eq.trans (World.drewN_drewN _ _ _) (congrArg (World.drewN _) (Nat.add_assoc _ _ _))⟩))))
                      go_ret
                      exact ⟨by first | rfl | (simp [errW_none, errW_some] <;> rfl) | (simp [*, errW_none, errW_some] <;> rfl), by repeat (first | (with_reducible first | exact HB.out | apply below_alloc | apply pw_below_drewN | apply below_drew1 | refine below_set ?_ GE267.out | refine below_set ?_ GE268.out) | exact HB.out)⟩
                   ·rw [if_neg c40] at H
                    exact absurd H (by simp)
                  ·rw [if_neg c39] at H
                   exact absurd H (by simp)
                 ·rw [if_neg c38] at H
                  exact absurd H (by simp)
                ·rw [if_neg c37] at H
                 exact absurd H (by simp)
               ·replace c36 := Bool.eq_false_iff.mpr c36
                subst c36
                have H1 : (if 0 ≤ x20_2 then (if x20_2 < (l1.length : Int) then (if 0 ≤ (rd l1 x20_2) then (if (rd l1 x20_2) < (l0_1.length : Int) then (if 0 ≤ x48_4 then (if x48_4 < (l1.length : Int) then (if 0 ≤ (rd l1 x48_4) then (if (rd l1 x48_4) < ((rd_L1 l0_1 (rd l1 x20_2)).length : Int) then (if x20_2 < (l0_1.length : Int) then (if x48_4 < ((rd_L1 l0_1 x20_2).length : Int) then (if 0 ≤ (rd (rd_L1 l0_1 x20_2) x48_4) then (if (rd (rd_L1 l0_1 x20_2) x48_4) < (l1.length : Int) then ((impl_below.f l0_0 (rd (rd_L1 l0_1 (rd l1 x20_2)) (rd l1 x48_4)) (rd l1 (rd (rd_L1 l0_1 x20_2) x48_4))).bind fun t294 => (if t294 = true then (impl_isNucleus.l1 k4 x20_2 (l1.length : Int) x20_2 (l1.length : Int) (wrap64 (x48_4 + 1)) l0_0 l0_1 l1) else (some false))) else (none)) else (none)) else (none)) else (none)) else (none)) else (none)) else (none)) else (none)) else (none)) else (none)) else (none)) else (none)) = some r := by rw [if_neg (show ¬ (false = true) by decide)] at H; exact H
                clear H
                have H := H1
                clear H1
                by_cases c62 : 0 ≤ x20_2
                ·rw [if_pos c62] at H
                 have c62b0 : decide (0 ≤ x20_2) = true := decide_eq_true c62
                 clear c62
                 by_cases c63 : x20_2 < (l1.length : Int)
                 ·rw [if_pos c63] at H
                  have c63b0 : decide (x20_2 < (l1.length : Int)) = true := decide_eq_true c63
                  clear c63
                  by_cases c64 : 0 ≤ (rd l1 x20_2)
                  ·rw [if_pos c64] at H
                   have c64b0 : decide (0 ≤ (rd l1 x20_2)) = true := decide_eq_true c64
                   clear c64
                   by_cases c65 : (rd l1 x20_2) < (l0_1.length : Int)
                   ·rw [if_pos c65] at H
                    have c65b0 : decide ((rd l1 x20_2) < (l0_1.length : Int)) = true := decide_eq_true c65
                    clear c65
                    by_cases c66 : 0 ≤ x48_4
                    ·rw [if_pos c66] at H
                     have c66b0 : decide (0 ≤ x48_4) = true := decide_eq_true c66
                     clear c66
                     by_cases c67 : x48_4 < (l1.length : Int)
                     ·rw [if_pos c67] at H
                      have c67b0 : decide (x48_4 < (l1.length : Int)) = true := decide_eq_true c67
                      clear c67
                      by_cases c68 : 0 ≤ (rd l1 x48_4)
                      ·rw [if_pos c68] at H
                       have c68b0 : decide (0 ≤ (rd l1 x48_4)) = true := decide_eq_true c68
                       clear c68
                       by_cases c69 : (rd l1 x48_4) < ((rd_L1 l0_1 (rd l1 x20_2)).length : Int)
                       ·rw [if_pos c69] at H
                        have c69b0 : decide ((rd l1 x48_4) < ((rd_L1 l0_1 (rd l1 x20_2)).length : Int)) = true := decide_eq_true c69
                        clear c69
                        by_cases c70 : x20_2 < (l0_1.length : Int)
                        ·rw [if_pos c70] at H
                         have c70b0 : decide (x20_2 < (l0_1.length : Int)) = true := decide_eq_true c70
                         clear c70
                         by_cases c71 : x48_4 < ((rd_L1 l0_1 x20_2).length : Int)
                         ·rw [if_pos c71] at H
                          have c71b0 : decide (x48_4 < ((rd_L1 l0_1 x20_2).length : Int)) = true := decide_eq_true c71
                          clear c71
                          by_cases c72 : 0 ≤ (rd (rd_L1 l0_1 x20_2) x48_4)
                          ·rw [if_pos c72] at H
                           have c72b0 : decide (0 ≤ (rd (rd_L1 l0_1 x20_2) x48_4)) = true := decide_eq_true c72
                           clear c72
                           by_cases c73 : (rd (rd_L1 l0_1 x20_2) x48_4) < (l1.length : Int)
                           ·rw [if_pos c73] at H
                            have c73b0 : decide ((rd (rd_L1 l0_1 x20_2) x48_4) < (l1.length : Int)) = true := decide_eq_true c73
                            clear c73
                            replace H := Option.bind_eq_some_iff.mp H
                            obtain ⟨t294, A740, H⟩ := H
                            replace H : (if t294 = true then (impl_isNucleus.l1 k4 x20_2 (l1.length : Int) x20_2 (l1.length : Int) (wrap64 (x48_4 + 1)) l0_0 l0_1 l1) else (some false)) = some r := H
                            have A74 := Aside0.mk A740
                            clear A740
                            by_cases c75 : t294 = true
                            ·subst c75
                             have H1 : (impl_isNucleus.l1 k4 x20_2 (l1.length : Int) x20_2 (l1.length : Int) (wrap64 (x48_4 + 1)) l0_0 l0_1 l1) = some r := by rw [if_pos rfl] at H; exact H
                             clear H
                             have H := H1
                             clear H1
                             have H' := Aside0.mk H
                             clear H
                             have hnb76 := NB267_268.out
                             have hnc76 := NB268_267.out
                             have hcz77_0 : wr.cell? ⟨gb267, 0, none⟩ = some (.slice A0_0 l0_0.length c0_0) := (blk_cell BK267.out 0).trans rfl
                             have hcz77_1 : wr.cell? ⟨gb267, 1, none⟩ = some (.slice A0_1 l0_1.length c0_1) := (blk_cell BK267.out 1).trans rfl
                             have hfz77_0 := blk_frozen BK267.out 0
                             have hfz77_1 := blk_frozen BK267.out 1
                             have hcz78_0 : wr.cell? ⟨gb268, 0, none⟩ = some (.slice A1 l1.length c1) := (blk_cell BK268.out 0).trans rfl
                             have hfz78_0 := blk_frozen BK268.out 0
                             have p287 : 0 ≤ (x20_2 : Int) := of_decide_eq_true (by first | (with_reducible assumption) | assumption)
                             have q287 : x20_2 < (l1.length : Int) := of_decide_eq_true (by first | (with_reducible assumption) | assumption)
                             obtain ⟨ad287, e287, hx287_0⟩ := Kd.at_int HR1.out x20_2 p287 q287
                             cases e287
                             replace hx287_0 := (HB.out.cell (World.block_lt_of_cell? w _ hx287_0)).trans hx287_0
                             replace p287 := eq_true p287
                             replace q287 := eq_true q287
                             have p288 : 0 ≤ ((rd l1 x20_2) : Int) := of_decide_eq_true (by first | (with_reducible assumption) | assumption)
                             have q288 : (rd l1 x20_2) < (l0_1.length : Int) := of_decide_eq_true (by first | (with_reducible assumption) | assumption)
                             obtain ⟨ad288, A288_0, c288_0, e288, hx288_0, hl288_0, hi288_0⟩ := at_L1 HR0_1.out (rd l1 x20_2) p288 q288
                             cases e288
                             replace hx288_0 := (HB.out.cell (World.block_lt_of_cell? w _ hx288_0)).trans hx288_0
                             have HR288_0 := Aside0.mk hi288_0
                             have HC288_0 := Aside0.mk hl288_0
                             clear hi288_0 hl288_0
                             replace p288 := eq_true p288
                             replace q288 := eq_true q288
                             have p289 : 0 ≤ (x48_4 : Int) := of_decide_eq_true (by first | (with_reducible assumption) | assumption)
                             have q289 : x48_4 < (l1.length : Int) := of_decide_eq_true (by first | (with_reducible assumption) | assumption)
                             obtain ⟨ad289, e289, hx289_0⟩ := Kd.at_int HR1.out x48_4 p289 q289
                             obtain rfl : ad287 = ad289 := (by injection e289)
                             replace hx289_0 := (HB.out.cell (World.block_lt_of_cell? w _ hx289_0)).trans hx289_0
                             replace p289 := eq_true p289
                             replace q289 := eq_true q289
                             have p290 : 0 ≤ ((rd l1 x48_4) : Int) := of_decide_eq_true (by first | (with_reducible assumption) | assumption)
                             have q290 : (rd l1 x48_4) < ((rd_L1 l0_1 (rd l1 x20_2)).length : Int) := of_decide_eq_true (by first | (with_reducible assumption) | assumption)
                             obtain ⟨ad290, e290, hx290_0⟩ := Kd.at_int HR288_0.out (rd l1 x48_4) p290 q290
                             cases e290
                             replace hx290_0 := (HB.out.cell (World.block_lt_of_cell? w _ hx290_0)).trans hx290_0
                             replace p290 := eq_true p290
                             replace q290 := eq_true q290
                             have p291 : 0 ≤ (x20_2 : Int) := of_decide_eq_true (by first | (with_reducible assumption) | assumption)
                             have q291 : x20_2 < (l0_1.length : Int) := of_decide_eq_true (by first | (with_reducible assumption) | assumption)
                             obtain ⟨ad291, A291_0, c291_0, e291, hx291_0, hl291_0, hi291_0⟩ := at_L1 HR0_1.out x20_2 p291 q291
                             obtain rfl : ad288 = ad291 := (by injection e291)
                             replace hx291_0 := (HB.out.cell (World.block_lt_of_cell? w _ hx291_0)).trans hx291_0
                             have HR291_0 := Aside0.mk hi291_0
                             have HC291_0 := Aside0.mk hl291_0
                             clear hi291_0 hl291_0
                             replace p291 := eq_true p291
                             replace q291 := eq_true q291
                             have p292 : 0 ≤ (x48_4 : Int) := of_decide_eq_true (by first | (with_reducible assumption) | assumption)
                             have q292 : x48_4 < ((rd_L1 l0_1 x20_2).length : Int) := of_decide_eq_true (by first | (with_reducible assumption) | assumption)
                             obtain ⟨ad292, e292, hx292_0⟩ := Kd.at_int HR291_0.out x48_4 p292 q292
                             cases e292
                             replace hx292_0 := (HB.out.cell (World.block_lt_of_cell? w _ hx292_0)).trans hx292_0
                             replace p292 := eq_true p292
                             replace q292 := eq_true q292
                             have p293 : 0 ≤ ((rd (rd_L1 l0_1 x20_2) x48_4) : Int) := of_decide_eq_true (by first | (with_reducible assumption) | assumption)
                             have q293 : (rd (rd_L1 l0_1 x20_2) x48_4) < (l1.length : Int) := of_decide_eq_true (by first | (with_reducible assumption) | assumption)
                             obtain ⟨ad293, e293, hx293_0⟩ := Kd.at_int HR1.out (rd (rd_L1 l0_1 x20_2) x48_4) p293 q293
                             obtain rfl : ad287 = ad293 := (by injection e293)
                             replace hx293_0 := (HB.out.cell (World.block_lt_of_cell? w _ hx293_0)).trans hx293_0
                             replace p293 := eq_true p293
                             replace q293 := eq_true q293
                             as_aux_lemma =>
                              go_wp2_with (first | (go_at_call 67; (with_reducible refine (impl_below.calls _ _ l0_0 x20_2 x48_4 false _ ?side1 ?side2 A35.out).mono ?_); (case side1 => repeat (first | exact (Kd.C_below HR0_0.out HB.out) | (with_reducible refine Kd.C_alloc ?_ _) | (with_reducible refine Kd.C_drewN ?_ _) | (with_reducible refine Kd.C_drew ?_))); (case side2 => exact HC0_0.out); rintro e w' ⟨rfl, ⟨nd, rfl⟩⟩; (try first | exact ⟨rfl, _, World.drewN_drewN _ _ _⟩ | exact ⟨rfl, _, Eq.trans (World.drewN_drewN _ _ _) (congrArg (World.drewN _) (Nat.add_assoc _ _ _))⟩)) | (go_at_call 67; (with_reducible refine (impl_below.calls _ _ l0_0 (rd (rd_L1 l0_1 (rd l1 x20_2)) (rd l1 x48_4)) (rd l1 (rd (rd_L1 l0_1 x20_2) x48_4)) true _ ?side1 ?side2 A74.out).mono ?_); (case side1 => repeat (first | exact (Kd.C_below HR0_0.out (by repeat (first | (with_reducible first | exact HB.out | apply below_alloc | apply pw_below_drewN | apply below_drew1 | refine below_set ?_ GE267.out | refine below_set ?_ GE268.out) | exact HB.out))) | (with_reducible refine Kd.C_alloc ?_ _) | (with_reducible refine Kd.C_drewN ?_ _) | (with_reducible refine Kd.C_drew ?_))); (case side2 => exact HC0_0.out); rintro e w' ⟨rfl, ⟨nd, rfl⟩⟩; (try first | exact ⟨rfl, _, World.drewN_drewN _ _ _⟩ | exact ⟨rfl, _, Eq.trans (World.drewN_drewN _ _ _) (congrArg (World.drewN _) (Nat.add_assoc _ _ _))⟩)))
                              repeat ((refine wp_region_quiet_lit ?_ ?_ ?_; kernel_rfl; kernel_rfl; (repeat (first | go_big_quiet_step (first | (go_at_call 67; (with_reducible refine (impl_below.calls _ _ l0_0 x20_2 x48_4 false _ ?side1 ?side2 A35.out).mono ?_); (case side1 => repeat (first | exact (Kd.C_below HR0_0.out HB.out) | (with_reducible refine Kd.C_alloc ?_ _) | (with_reducible refine Kd.C_drewN ?_ _) | (with_reducible refine Kd.C_drew ?_))); (case side2 => exact HC0_0.out); rintro e w' ⟨rfl, ⟨nd, rfl⟩⟩; (try first | exact ⟨rfl, _, World.drewN_drewN _ _ _⟩ | exact ⟨rfl, _, Eq.trans (World.drewN_drewN _ _ _) (congrArg (World.drewN _) (Nat.add_assoc _ _ _))⟩)) | (go_at_call 67; (with_reducible refine (impl_below.calls _ _ l0_0 (rd (rd_L1 l0_1 (rd l1 x20_2)) (rd l1 x48_4)) (rd l1 (rd (rd_L1 l0_1 x20_2) x48_4)) true _ ?side1 ?side2 A74.out).mono ?_); (case side1 => repeat (first | exact (Kd.C_below HR0_0.out (by repeat (first | (with_reducible first | exact HB.out | apply below_alloc | apply pw_below_drewN | apply below_drew1 | refine below_set ?_ GE267.out | refine below_set ?_ GE268.out) | exact HB.out))) | (with_reducible refine Kd.C_alloc ?_ _) | (with_reducible refine Kd.C_drewN ?_ _) | (with_reducible refine Kd.C_drew ?_))); (case side2 => exact HC0_0.out); rintro e w' ⟨rfl, ⟨nd, rfl⟩⟩; (try first | exact ⟨rfl, _, World.drewN_drewN _ _ _⟩ | exact ⟨rfl, _, Eq.trans (World.drewN_drewN _ _ _) (congrArg (World.drewN _) (Nat.add_assoc _ _ _))⟩))) | (refine wpQuiet_step (fun K hK => ?_); go_simp; refine hK _ ?_; clear hK K))); refine wpQuiet_nil ?_; intro _ hw'; obtain ⟨nq, hw''⟩ := hw'; subst hw''); try go_wp2_with (first | (go_at_call 67; (with_reducible refine (impl_below.calls _ _ l0_0 x20_2 x48_4 false _ ?side1 ?side2 A35.out).mono ?_); (case side1 => repeat (first | exact (Kd.C_below HR0_0.out HB.out) | (with_reducible refine Kd.C_alloc ?_ _) | (with_reducible refine Kd.C_drewN ?_ _) | (with_reducible refine Kd.C_drew ?_))); (case side2 => exact HC0_0.out); rintro e w' ⟨rfl, ⟨nd, rfl⟩⟩; (try first | exact ⟨rfl, _, World.drewN_drewN _ _ _⟩ | exact ⟨rfl, _, Eq.trans (World.drewN_drewN _ _ _) (congrArg (World.drewN _) (Nat.add_assoc _ _ _))⟩)) | (go_at_call 67; (with_reducible refine (impl_below.calls _ _ l0_0 (rd (rd_L1 l0_1 (rd l1 x20_2)) (rd l1 x48_4)) (rd l1 (rd (rd_L1 l0_1 x20_2) x48_4)) true _ ?side1 ?side2 A74.out).mono ?_); (case side1 => repeat (first | exact (Kd.C_below HR0_0.out (by repeat (first | (with_reducible first | exact HB.out | apply below_alloc | apply pw_below_drewN | apply below_drew1 | refine below_set ?_ GE267.out | refine below_set ?_ GE268.out) | exact HB.out))) | (with_reducible refine Kd.C_alloc ?_ _) | (with_reducible refine Kd.C_drewN ?_ _) | (with_reducible refine Kd.C_drew ?_))); (case side2 => exact HC0_0.out); rintro e w' ⟨rfl, ⟨nd, rfl⟩⟩; (try first | exact ⟨rfl, _, World.drewN_drewN _ _ _⟩ | exact ⟨rfl, _, Eq.trans (World.drewN_drewN _ _ _) (congrArg (World.drewN _) (Nat.add_assoc _ _ _))⟩))))
                              go_roundg k4
                              case measure => have := HJ2.out; have := HK2.out; have := HJ17.out; have := HK4.out; omega
                              case rel => exact ⟨(wrap64 (x48_4 + 1)), (by first | rfl | (simp; done) | (simp [*]; done)), H', ⟨by have := HJ2.out; have := HK2.out; have := HJ17.out; have := HK4.out; omega⟩, ⟨by (with_reducible repeat (first | refine blk_drewN ?_ _ | refine blk_drew ?_ | refine blk_alloc ?_ _)); exact BK267.out⟩, ⟨by (with_reducible repeat (first | refine blk_drewN ?_ _ | refine blk_drew ?_ | refine blk_alloc ?_ _)); exact BK268.out⟩, ⟨by repeat (first | (with_reducible first | exact HB.out | apply below_alloc | apply pw_below_drewN | apply below_drew1 | refine below_set ?_ GE267.out | refine below_set ?_ GE268.out) | exact HB.out)⟩⟩
                            ·replace c75 := Bool.eq_false_iff.mpr c75
                             subst c75
                             have H1 : (some false) = some r := by rw [if_neg (show ¬ (false = true) by decide)] at H; exact H
                             clear H
                             have H := H1
                             clear H1
                             obtain rfl := Option.some.inj H
                             have hnb79 := NB267_268.out
                             have hnc79 := NB268_267.out
                             have hcz80_0 : wr.cell? ⟨gb267, 0, none⟩ = some (.slice A0_0 l0_0.length c0_0) := (blk_cell BK267.out 0).trans rfl
                             have hcz80_1 : wr.cell? ⟨gb267, 1, none⟩ = some (.slice A0_1 l0_1.length c0_1) := (blk_cell BK267.out 1).trans rfl
                             have hfz80_0 := blk_frozen BK267.out 0
                             have hfz80_1 := blk_frozen BK267.out 1
                             have hcz81_0 : wr.cell? ⟨gb268, 0, none⟩ = some (.slice A1 l1.length c1) := (blk_cell BK268.out 0).trans rfl
                             have hfz81_0 := blk_frozen BK268.out 0
                             have p287 : 0 ≤ (x20_2 : Int) := of_decide_eq_true (by first | (with_reducible assumption) | assumption)
                             have q287 : x20_2 < (l1.length : Int) := of_decide_eq_true (by first | (with_reducible assumption) | assumption)
                             obtain ⟨ad287, e287, hx287_0⟩ := Kd.at_int HR1.out x20_2 p287 q287
                             cases e287
                             replace hx287_0 := (HB.out.cell (World.block_lt_of_cell? w _ hx287_0)).trans hx287_0
                             replace p287 := eq_true p287
                             replace q287 := eq_true q287
                             have p288 : 0 ≤ ((rd l1 x20_2) : Int) := of_decide_eq_true (by first | (with_reducible assumption) | assumption)
                             have q288 : (rd l1 x20_2) < (l0_1.length : Int) := of_decide_eq_true (by first | (with_reducible assumption) | assumption)
                             obtain ⟨ad288, A288_0, c288_0, e288, hx288_0, hl288_0, hi288_0⟩ := at_L1 HR0_1.out (rd l1 x20_2) p288 q288
                             cases e288
                             replace hx288_0 := (HB.out.cell (World.block_lt_of_cell? w _ hx288_0)).trans hx288_0
                             have HR288_0 := Aside0.mk hi288_0
                             have HC288_0 := Aside0.mk hl288_0
                             clear hi288_0 hl288_0
                             replace p288 := eq_true p288
                             replace q288 := eq_true q288
                             have p289 : 0 ≤ (x48_4 : Int) := of_decide_eq_true (by first | (with_reducible assumption) | assumption)
                             have q289 : x48_4 < (l1.length : Int) := of_decide_eq_true (by first | (with_reducible assumption) | assumption)
                             obtain ⟨ad289, e289, hx289_0⟩ := Kd.at_int HR1.out x48_4 p289 q289
                             obtain rfl : ad287 = ad289 := (by injection e289)
                             replace hx289_0 := (HB.out.cell (World.block_lt_of_cell? w _ hx289_0)).trans hx289_0
                             replace p289 := eq_true p289
                             replace q289 := eq_true q289
                             have p290 : 0 ≤ ((rd l1 x48_4) : Int) := of_decide_eq_true (by first | (with_reducible assumption) | assumption)
                             have q290 : (rd l1 x48_4) < ((rd_L1 l0_1 (rd l1 x20_2)).length : Int) := of_decide_eq_true (by first | (with_reducible assumption) | assumption)
                             obtain ⟨ad290, e290, hx290_0⟩ := Kd.at_int HR288_0.out (rd l1 x48_4) p290 q290
                             cases e290
                             replace hx290_0 := (HB.out.cell (World.block_lt_of_cell? w _ hx290_0)).trans hx290_0
                             replace p290 := eq_true p290
                             replace q290 := eq_true q290
                             have p291 : 0 ≤ (x20_2 : Int) := of_decide_eq_true (by first | (with_reducible assumption) | assumption)
                             have q291 : x20_2 < (l0_1.length : Int) := of_decide_eq_true (by first | (with_reducible assumption) | assumption)
                             obtain ⟨ad291, A291_0, c291_0, e291, hx291_0, hl291_0, hi291_0⟩ := at_L1 HR0_1.out x20_2 p291 q291
                             obtain rfl : ad288 = ad291 := (by injection e291)
                             replace hx291_0 := (HB.out.cell (World.block_lt_of_cell? w _ hx291_0)).trans hx291_0
                             have HR291_0 := Aside0.mk hi291_0
                             have HC291_0 := Aside0.mk hl291_0
                             clear hi291_0 hl291_0
                             replace p291 := eq_true p291
                             replace q291 := eq_true q291
                             have p292 : 0 ≤ (x48_4 : Int) := of_decide_eq_true (by first | (with_reducible assumption) | assumption)
                             have q292 : x48_4 < ((rd_L1 l0_1 x20_2).length : Int) := of_decide_eq_true (by first | (with_reducible assumption) | assumption)
                             obtain ⟨ad292, e292, hx292_0⟩ := Kd.at_int HR291_0.out x48_4 p292 q292
                             cases e292
                             replace hx292_0 := (HB.out.cell (World.block_lt_of_cell? w _ hx292_0)).trans hx292_0
                             replace p292 := eq_true p292
                             replace q292 := eq_true q292
                             have p293 : 0 ≤ ((rd (rd_L1 l0_1 x20_2) x48_4) : Int) := of_decide_eq_true (by first | (with_reducible assumption) | assumption)
                             have q293 : (rd (rd_L1 l0_1 x20_2) x48_4) < (l1.length : Int) := of_decide_eq_true (by first | (with_reducible assumption) | assumption)
                             obtain ⟨ad293, e293, hx293_0⟩ := Kd.at_int HR1.out (rd (rd_L1 l0_1 x20_2) x48_4) p293 q293
                             obtain rfl : ad287 = ad293 := (by injection e293)
                             replace hx293_0 := (HB.out.cell (World.block_lt_of_cell? w _ hx293_0)).trans hx293_0
                             replace p293 := eq_true p293
                             replace q293 := eq_true q293
                             as_aux_lemma =>
                              go_wp2_with (first | (go_at_call 67; (with_reducible refine (impl_below.calls _ _ l0_0 x20_2 x48_4 false _ ?side1 ?side2 A35.out).mono ?_); (case side1 => repeat (first | exact (Kd.C_below HR0_0.out HB.out) | (with_reducible refine Kd.C_alloc ?_ _) | (with_reducible refine Kd.C_drewN ?_ _) | (with_reducible refine Kd.C_drew ?_))); (case side2 => exact HC0_0.out); rintro e w' ⟨rfl, ⟨nd, rfl⟩⟩; (try first | exact ⟨rfl, _, World.drewN_drewN _ _ _⟩ | exact ⟨rfl, _, Eq.trans (World.drewN_drewN _ _ _) (congrArg (World.drewN _) (Nat.add_assoc _ _ _))⟩)) | (go_at_call 67; (with_reducible refine (impl_below.calls _ _ l0_0 (rd (rd_L1 l0_1 (rd l1 x20_2)) (rd l1 x48_4)) (rd l1 (rd (rd_L1 l0_1 x20_2) x48_4)) false _ ?side1 ?side2 A74.out).mono ?_); (case side1 => repeat (first | exact (Kd.C_below HR0_0.out (by repeat (first | (with_reducible first | exact HB.out | apply below_alloc | apply pw_below_drewN | apply below_drew1 | refine below_set ?_ GE267.out | refine below_set ?_ GE268.out) | exact HB.out))) | (with_reducible refine Kd.C_alloc ?_ _) | (with_reducible refine Kd.C_drewN ?_ _) | (with_reducible refine Kd.C_drew ?_))); (case side2 => exact HC0_0.out); rintro e w' ⟨rfl, ⟨nd, rfl⟩⟩; (try first | exact ⟨rfl, _, World.drewN_drewN _ _ _⟩ | exact ⟨rfl, _, Eq.trans (World.drewN_drewN _ _ _) (congrArg (World.drewN _) (Nat.add_assoc _ _ _))⟩)))
                              repeat ((refine wp_region_quiet_lit ?_ ?_ ?_; kernel_rfl; kernel_rfl; (repeat (first | go_big_quiet_step (first | (go_at_call 67; (with_reducible refine (impl_below.calls _ _ l0_0 x20_2 x48_4 false _ ?side1 ?side2 A35.out).mono ?_); (case side1 => repeat (first | exact (Kd.C_below HR0_0.out HB.out) | (with_reducible refine Kd.C_alloc ?_ _) | (with_reducible refine Kd.C_drewN ?_ _) | (with_reducible refine Kd.C_drew ?_))); (case side2 => exact HC0_0.out); rintro e w' ⟨rfl, ⟨nd, rfl⟩⟩; (try first | exact ⟨rfl, _, World.drewN_drewN _ _ _⟩ | exact ⟨rfl, _, Eq.trans (World.drewN_drewN _ _ _) (congrArg (World.drewN _) (Nat.add_assoc _ _ _))⟩)) | (go_at_call 67; (with_reducible refine (impl_below.calls _ _ l0_0 (rd (rd_L1 l0_1 (rd l1 x20_2)) (rd l1 x48_4)) (rd l1 (rd (rd_L1 l0_1 x20_2) x48_4)) false _ ?side1 ?side2 A74.out).mono ?_); (case side1 => repeat (first | exact (Kd.C_below HR0_0.out (by repeat (first | (with_reducible first | exact HB.out | apply below_alloc | apply pw_below_drewN | apply below_drew1 | refine below_set ?_ GE267.out | refine below_set ?_ GE268.out) | exact HB.out))) | (with_reducible refine Kd.C_alloc ?_ _) | (with_reducible refine Kd.C_drewN ?_ _) | (with_reducible refine Kd.C_drew ?_))); (case side2 => exact HC0_0.out); rintro e w' ⟨rfl, ⟨nd, rfl⟩⟩; (try first | exact ⟨rfl, _, World.drewN_drewN _ _ _⟩ | exact ⟨rfl, _, Eq.trans (World.drewN_drewN _ _ _) (congrArg (World.drewN _) (Nat.add_assoc _ _ _))⟩))) | (refine wpQuiet_step (fun K hK => ?_); go_simp; refine hK _ ?_; clear hK K))); refine wpQuiet_nil ?_; intro _ hw'; obtain ⟨nq, hw''⟩ := hw'; subst hw''); try go_wp2_with (first | (go_at_call 67; (with_reducible refine (impl_below.calls _ _ l0_0 x20_2 x48_4 false _ ?side1 ?side2 A35.out).mono ?_); (case side1 => repeat (first | exact (Kd.C_below HR0_0.out HB.out) | (with_reducible refine Kd.C_alloc ?_ _) | (with_reducible refine Kd.C_drewN ?_ _) | (with_reducible refine Kd.C_drew ?_))); (case side2 => exact HC0_0.out); rintro e w' ⟨rfl, ⟨nd, rfl⟩⟩; (try first | exact ⟨rfl, _, World.drewN_drewN _ _ _⟩ | exact ⟨rfl, _, Eq.trans (World.drewN_drewN _ _ _) (congrArg (World.drewN _) (Nat.add_assoc _ _ _))⟩)) | (go_at_call 67; (with_reducible refine (impl_below.calls _ _ l0_0 (rd (rd_L1 l0_1 (rd l1 x20_2)) (rd l1 x48_4)) (rd l1 (rd (rd_L1 l0_1 x20_2) x48_4)) false _ ?side1 ?side2 A74.out).mono ?_); (case side1 => repeat (first | exact (Kd.C_below HR0_0.out (by repeat (first | (with_reducible first | exact HB.out | apply below_alloc | apply pw_below_drewN | apply below_drew1 | refine below_set ?_ GE267.out | refine below_set ?_ GE268.out) | exact HB.out))) | (with_reducible refine Kd.C_alloc ?_ _) | (with_reducible refine Kd.C_drewN ?_ _) | (with_reducible refine Kd.C_drew ?_))); (case side2 => exact HC0_0.out); rintro e w' ⟨rfl, ⟨nd, rfl⟩⟩; (try first | exact ⟨rfl, _, World.drewN_drewN _ _ _⟩ | exact ⟨rfl, _, Eq.trans (World.drewN_drewN _ _ _) (congrArg (World.drewN _) (Nat.add_assoc _ _ _))⟩))))
                              go_ret
                              exact ⟨by first | rfl | (simp [errW_none, errW_some] <;> rfl) | (simp [*, errW_none, errW_some] <;> rfl), by repeat (first | (with_reducible first | exact HB.out | apply below_alloc | apply pw_below_drewN | apply below_drew1 | refine below_set ?_ GE267.out | refine below_set ?_ GE268.out) | exact HB.out)⟩
                           ·rw [if_neg c73] at H
                            exact absurd H (by simp)
                          ·rw [if_neg c72] at H
                           exact absurd H (by simp)
                         ·rw [if_neg c71] at H
                          exact absurd H (by simp)
                        ·rw [if_neg c70] at H
                         exact absurd H (by simp)
                       ·rw [if_neg c69] at H
                        exact absurd H (by simp)
                      ·rw [if_neg c68] at H
                       exact absurd H (by simp)
                     ·rw [if_neg c67] at H
                      exact absurd H (by simp)
                    ·rw [if_neg c66] at H
                     exact absurd H (by simp)
                   ·rw [if_neg c65] at H
                    exact absurd H (by simp)
                  ·rw [if_neg c64] at H
                   exact absurd H (by simp)
                 ·rw [if_neg c63] at H
                  exact absurd H (by simp)
                ·rw [if_neg c62] at H
                 exact absurd H (by simp)
              ·rw [if_neg c34] at H
               have c34b0 : decide (x48_4 < (l1.length : Int)) = false := decide_eq_false c34
               clear c34
               have H' := Aside0.mk H
               clear H
               as_aux_lemma =>
                go_wp2
                repeat ((refine wp_region_quiet_lit ?_ ?_ ?_; kernel_rfl; kernel_rfl; (repeat (first | go_big_quiet_step (fail) | (refine wpQuiet_step (fun K hK => ?_); go_simp; refine hK _ ?_; clear hK K))); refine wpQuiet_nil ?_; intro _ hw'; obtain ⟨nq, hw''⟩ := hw'; subst hw''); try go_wp2)
                go_roundg k4
                case measure => have := HJ2.out; have := HK2.out; have := HJ17.out; have := HK4.out; omega
                case rel => exact ⟨(wrap64 (x20_2 + 1)), (by first | rfl | (simp; done) | (simp [*]; done)), H', ⟨by have := HJ2.out; have := HK2.out; have := HJ17.out; have := HK4.out; omega⟩, ⟨by (with_reducible repeat (first | refine blk_drewN ?_ _ | refine blk_drew ?_ | refine blk_alloc ?_ _)); exact BK267.out⟩, ⟨by (with_reducible repeat (first | refine blk_drewN ?_ _ | refine blk_drew ?_ | refine blk_alloc ?_ _)); exact BK268.out⟩, ⟨by repeat (first | (with_reducible first | exact HB.out | apply below_alloc | apply pw_below_drewN | apply below_drew1 | refine below_set ?_ GE267.out | refine below_set ?_ GE268.out) | exact HB.out)⟩⟩
       ·rw [if_neg c17] at H
        have c17b0 : decide (x20_2 < (l1.length : Int)) = false := decide_eq_false c17
        clear c17
        obtain rfl := Option.some.inj H
        as_aux_lemma =>
         go_wp2
         repeat ((refine wp_region_quiet_lit ?_ ?_ ?_; kernel_rfl; kernel_rfl; (repeat (first | go_big_quiet_step (fail) | (refine wpQuiet_step (fun K hK => ?_); go_simp; refine hK _ ?_; clear hK K))); refine wpQuiet_nil ?_; intro _ hw'; obtain ⟨nq, hw''⟩ := hw'; subst hw''); try go_wp2)
         go_ret
         exact ⟨by first | rfl | (simp [errW_none, errW_some] <;> rfl) | (simp [*, errW_none, errW_some] <;> rfl), by repeat (first | (with_reducible first | exact HB.out | apply below_alloc | apply pw_below_drewN | apply below_drew1 | refine below_set ?_ GE267.out | refine below_set ?_ GE268.out) | exact HB.out)⟩

end Go.Proofs.Ytomapoenndlbiaa.P

-- shrunk
