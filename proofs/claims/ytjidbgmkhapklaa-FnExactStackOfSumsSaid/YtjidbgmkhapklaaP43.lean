-- Printed by this session's wip/print2.py (the kit's print.py, widened) out of the translation. Lean checks it.
import Derived.Test.YtjidbgmkhapklaaP0
import Derived.Test.YtjidbgmkhapklaaP1
namespace Go.Proofs.Ytjidbgmkhapklaa.P
open Go.RowKit Go.Proofs.YtjidbgmkhapklaaW.PrintWords Go.Proofs.YtjidbgmkhapklaaW.PrintLast Go.Proofs.YtjidbgmkhapklaaW.PrintMore
attribute [local go_sem] max2_int min2_int max_two min_two max_three min_three max_four min_four   -- for this text's walks alone
set_option linter.unusedVariables false
set_option linter.unusedSimpArgs false

/-! ### spec_stack: function 75 -/
mutual
def spec_stack.l0 : Nat → Int → Int → Int → List Int → List (List Int) → List Int → List (List Int) → List Int → List (List Int) → Option (List Int × (List (List Int)))
 | 0, _, _, _, _, _, _, _, _, _ => none
 | k + 1, x5, x6, x8, x612000, x612001, x613000, x613001, x615000, x615001 => if x8 < x6 then (spec_stack.l1 k x5 x6 x8 (([] : List Int)) 0 0 x612000 x612001 x613000 x613001 x615000 x615001) else (some (x615000, x615001))
def spec_stack.l1 : Nat → Int → Int → Int → List Int → Int → Int → List Int → List (List Int) → List Int → List (List Int) → List Int → List (List Int) → Option (List Int × (List (List Int)))
 | 0, _, _, _, _, _, _, _, _, _, _, _, _ => none
 | k + 1, x5, x6, x8, x9, x10, x11, x612000, x612001, x613000, x613001, x615000, x615001 => if x11 < x6 then (if x8 < x5 then (spec_stack.j2 k x5 x6 x8 x9 x10 x11 (mn x8 x11) (decide (x11 < x5)) x612000 x612001 x613000 x613001 x615000 x615001) else (spec_stack.j2 k x5 x6 x8 x9 x10 x11 (mn x8 x11) false x612000 x612001 x613000 x613001 x615000 x615001)) else (if x615001.length < 5864062014805 then (if x615000.length < 17592186044416 then (spec_stack.l0 k x5 x6 (wrap64 (x8 + 1)) x612000 x612001 x613000 x613001 (x615000 ++ [x10]) (x615001 ++ [x9])) else (none)) else (none))
def spec_stack.j2 : Nat → Int → Int → Int → List Int → Int → Int → Int → Bool → List Int → List (List Int) → List Int → List (List Int) → List Int → List (List Int) → Option (List Int × (List (List Int)))
 | 0, _, _, _, _, _, _, _, _, _, _, _, _, _, _ => none
 | k + 1, x5, x6, x8, x9, x10, x11, x12, x44, x612000, x612001, x613000, x613001, x615000, x615001 => if x44 = true then (if 0 ≤ x8 then (if x8 < (x612001.length : Int) then (if 0 ≤ x11 then (if x11 < ((rd_L1 x612001 x8).length : Int) then (spec_stack.j3 k x5 x6 x8 x9 x10 x11 (rd (rd_L1 x612001 x8) x11) x612000 x612001 x613000 x613001 x615000 x615001) else (none)) else (none)) else (none)) else (none)) else (if x8 ≥ x5 then (if x11 ≥ x5 then (if 0 ≤ (wrap64 (x8 - x5)) then (if (wrap64 (x8 - x5)) < (x613001.length : Int) then (if 0 ≤ (wrap64 (x11 - x5)) then (if (wrap64 (x11 - x5)) < ((rd_L1 x613001 (wrap64 (x8 - x5))).length : Int) then (spec_stack.j3 k x5 x6 x8 x9 x10 x11 (wrap64 (x5 + (rd (rd_L1 x613001 (wrap64 (x8 - x5))) (wrap64 (x11 - x5))))) x612000 x612001 x613000 x613001 x615000 x615001) else (none)) else (none)) else (none)) else (none)) else (spec_stack.j3 k x5 x6 x8 x9 x10 x11 x12 x612000 x612001 x613000 x613001 x615000 x615001)) else (spec_stack.j3 k x5 x6 x8 x9 x10 x11 x12 x612000 x612001 x613000 x613001 x615000 x615001))
def spec_stack.j3 : Nat → Int → Int → Int → List Int → Int → Int → Int → List Int → List (List Int) → List Int → List (List Int) → List Int → List (List Int) → Option (List Int × (List (List Int)))
 | 0, _, _, _, _, _, _, _, _, _, _, _, _, _ => none
 | k + 1, x5, x6, x8, x9, x10, x11, x12, x612000, x612001, x613000, x613001, x615000, x615001 => if x9.length < 17592186044416 then ((some (x9 ++ [x12] : List Int)).bind fun y628 => (if x8 < x5 then (if x11 ≥ x5 then ((spec_power.f k x11).bind fun t631 => (spec_stack.l1 k x5 x6 x8 y628 (wrap64 (x10 + t631)) (wrap64 (x11 + 1)) x612000 x612001 x613000 x613001 x615000 x615001)) else (if x11 < x5 then ((spec_below.f k x612000 x8 x11).bind fun t632 => (if t632 = true then ((spec_power.f k x11).bind fun t633 => (spec_stack.l1 k x5 x6 x8 y628 (wrap64 (x10 + t633)) (wrap64 (x11 + 1)) x612000 x612001 x613000 x613001 x615000 x615001)) else (if x8 ≥ x5 then (spec_stack.l1 k x5 x6 x8 y628 x10 (wrap64 (x11 + 1)) x612000 x612001 x613000 x613001 x615000 x615001) else (spec_stack.l1 k x5 x6 x8 y628 x10 (wrap64 (x11 + 1)) x612000 x612001 x613000 x613001 x615000 x615001)))) else (if x8 ≥ x5 then (spec_stack.l1 k x5 x6 x8 y628 x10 (wrap64 (x11 + 1)) x612000 x612001 x613000 x613001 x615000 x615001) else (spec_stack.l1 k x5 x6 x8 y628 x10 (wrap64 (x11 + 1)) x612000 x612001 x613000 x613001 x615000 x615001)))) else (if x8 ≥ x5 then (if x11 ≥ x5 then ((spec_below.f k x613000 (wrap64 (x8 - x5)) (wrap64 (x11 - x5))).bind fun t634 => (if t634 = true then ((spec_power.f k x11).bind fun t635 => (spec_stack.l1 k x5 x6 x8 y628 (wrap64 (x10 + t635)) (wrap64 (x11 + 1)) x612000 x612001 x613000 x613001 x615000 x615001)) else (spec_stack.l1 k x5 x6 x8 y628 x10 (wrap64 (x11 + 1)) x612000 x612001 x613000 x613001 x615000 x615001))) else (spec_stack.l1 k x5 x6 x8 y628 x10 (wrap64 (x11 + 1)) x612000 x612001 x613000 x613001 x615000 x615001)) else (spec_stack.l1 k x5 x6 x8 y628 x10 (wrap64 (x11 + 1)) x612000 x612001 x613000 x613001 x615000 x615001)))) else (none)
end
def spec_stack.f (k : Nat) (l0_0 : List Int) (l0_1 : List (List Int)) (l1_0 : List Int) (l1_1 : List (List Int)) : Option (List Int × (List (List Int))) := spec_stack.l0 k (wrap64 ((l0_0.length : Int) - 1)) (wrap64 ((wrap64 ((l0_0.length : Int) - 1)) + (l1_0.length : Int))) 0 l0_0 l0_1 l1_0 l1_1 ([] : List Int) ([] : List (List Int))
theorem spec_stack.mono_l : ∀ k, (∀ y0 y1 y2 y3 y4 y5 y6 y7 y8, LeO (spec_stack.l0 k y0 y1 y2 y3 y4 y5 y6 y7 y8) (spec_stack.l0 (k + 1) y0 y1 y2 y3 y4 y5 y6 y7 y8)) ∧ (∀ y0 y1 y2 y3 y4 y5 y6 y7 y8 y9 y10 y11, LeO (spec_stack.l1 k y0 y1 y2 y3 y4 y5 y6 y7 y8 y9 y10 y11) (spec_stack.l1 (k + 1) y0 y1 y2 y3 y4 y5 y6 y7 y8 y9 y10 y11)) ∧ (∀ y0 y1 y2 y3 y4 y5 y6 y7 y8 y9 y10 y11 y12 y13, LeO (spec_stack.j2 k y0 y1 y2 y3 y4 y5 y6 y7 y8 y9 y10 y11 y12 y13) (spec_stack.j2 (k + 1) y0 y1 y2 y3 y4 y5 y6 y7 y8 y9 y10 y11 y12 y13)) ∧ (∀ y0 y1 y2 y3 y4 y5 y6 y7 y8 y9 y10 y11 y12, LeO (spec_stack.j3 k y0 y1 y2 y3 y4 y5 y6 y7 y8 y9 y10 y11 y12) (spec_stack.j3 (k + 1) y0 y1 y2 y3 y4 y5 y6 y7 y8 y9 y10 y11 y12))
 | 0 => ⟨fun _ _ _ _ _ _ _ _ _ r h => by simp [spec_stack.l0] at h, fun _ _ _ _ _ _ _ _ _ _ _ _ r h => by simp [spec_stack.l1] at h, fun _ _ _ _ _ _ _ _ _ _ _ _ _ _ r h => by simp [spec_stack.j2] at h, fun _ _ _ _ _ _ _ _ _ _ _ _ _ r h => by simp [spec_stack.j3] at h⟩
 | k + 1 => by
  obtain ⟨ih0, ih1, ih2, ih3⟩ := spec_stack.mono_l k
  refine ⟨?_, ?_, ?_, ?_⟩
  ·intro y0 y1 y2 y3 y4 y5 y6 y7 y8
   unfold spec_stack.l0
   repeat' first
   | (with_reducible exact ih0 _ _ _ _ _ _ _ _ _)
   | (with_reducible exact ih1 _ _ _ _ _ _ _ _ _ _ _ _)
   | (with_reducible exact ih2 _ _ _ _ _ _ _ _ _ _ _ _ _ _)
   | (with_reducible exact ih3 _ _ _ _ _ _ _ _ _ _ _ _ _)
   | (with_reducible exact spec_below.mono _ _ _ _)
   | (with_reducible exact spec_power.mono _ _)
   | (with_reducible exact LeO.refl _)
   | (with_reducible exact LeO.none _)
   | (with_reducible refine LeO.ite ?_ ?_)
   | (with_reducible refine LeO.bind ?_ (fun _ => ?_))
   | exact ih0 _ _ _ _ _ _ _ _ _
   | exact ih1 _ _ _ _ _ _ _ _ _ _ _ _
   | exact ih2 _ _ _ _ _ _ _ _ _ _ _ _ _ _
   | exact ih3 _ _ _ _ _ _ _ _ _ _ _ _ _
   | exact spec_below.mono _ _ _ _
   | exact spec_power.mono _ _
   | exact LeO.none _
   | refine LeO.ite ?_ ?_
   | refine LeO.bind ?_ (fun _ => ?_)
  ·intro y0 y1 y2 y3 y4 y5 y6 y7 y8 y9 y10 y11
   unfold spec_stack.l1
   repeat' first
   | (with_reducible exact ih0 _ _ _ _ _ _ _ _ _)
   | (with_reducible exact ih1 _ _ _ _ _ _ _ _ _ _ _ _)
   | (with_reducible exact ih2 _ _ _ _ _ _ _ _ _ _ _ _ _ _)
   | (with_reducible exact ih3 _ _ _ _ _ _ _ _ _ _ _ _ _)
   | (with_reducible exact spec_below.mono _ _ _ _)
   | (with_reducible exact spec_power.mono _ _)
   | (with_reducible exact LeO.refl _)
   | (with_reducible exact LeO.none _)
   | (with_reducible refine LeO.ite ?_ ?_)
   | (with_reducible refine LeO.bind ?_ (fun _ => ?_))
   | exact ih0 _ _ _ _ _ _ _ _ _
   | exact ih1 _ _ _ _ _ _ _ _ _ _ _ _
   | exact ih2 _ _ _ _ _ _ _ _ _ _ _ _ _ _
   | exact ih3 _ _ _ _ _ _ _ _ _ _ _ _ _
   | exact spec_below.mono _ _ _ _
   | exact spec_power.mono _ _
   | exact LeO.none _
   | refine LeO.ite ?_ ?_
   | refine LeO.bind ?_ (fun _ => ?_)
  ·intro y0 y1 y2 y3 y4 y5 y6 y7 y8 y9 y10 y11 y12 y13
   unfold spec_stack.j2
   repeat' first
   | (with_reducible exact ih0 _ _ _ _ _ _ _ _ _)
   | (with_reducible exact ih1 _ _ _ _ _ _ _ _ _ _ _ _)
   | (with_reducible exact ih2 _ _ _ _ _ _ _ _ _ _ _ _ _ _)
   | (with_reducible exact ih3 _ _ _ _ _ _ _ _ _ _ _ _ _)
   | (with_reducible exact spec_below.mono _ _ _ _)
   | (with_reducible exact spec_power.mono _ _)
   | (with_reducible exact LeO.refl _)
   | (with_reducible exact LeO.none _)
   | (with_reducible refine LeO.ite ?_ ?_)
   | (with_reducible refine LeO.bind ?_ (fun _ => ?_))
   | exact ih0 _ _ _ _ _ _ _ _ _
   | exact ih1 _ _ _ _ _ _ _ _ _ _ _ _
   | exact ih2 _ _ _ _ _ _ _ _ _ _ _ _ _ _
   | exact ih3 _ _ _ _ _ _ _ _ _ _ _ _ _
   | exact spec_below.mono _ _ _ _
   | exact spec_power.mono _ _
   | exact LeO.none _
   | refine LeO.ite ?_ ?_
   | refine LeO.bind ?_ (fun _ => ?_)
  ·intro y0 y1 y2 y3 y4 y5 y6 y7 y8 y9 y10 y11 y12
   unfold spec_stack.j3
   repeat' first
   | (with_reducible exact ih0 _ _ _ _ _ _ _ _ _)
   | (with_reducible exact ih1 _ _ _ _ _ _ _ _ _ _ _ _)
   | (with_reducible exact ih2 _ _ _ _ _ _ _ _ _ _ _ _ _ _)
   | (with_reducible exact ih3 _ _ _ _ _ _ _ _ _ _ _ _ _)
   | (with_reducible exact spec_below.mono _ _ _ _)
   | (with_reducible exact spec_power.mono _ _)
   | (with_reducible exact LeO.refl _)
   | (with_reducible exact LeO.none _)
   | (with_reducible refine LeO.ite ?_ ?_)
   | (with_reducible refine LeO.bind ?_ (fun _ => ?_))
   | exact ih0 _ _ _ _ _ _ _ _ _
   | exact ih1 _ _ _ _ _ _ _ _ _ _ _ _
   | exact ih2 _ _ _ _ _ _ _ _ _ _ _ _ _ _
   | exact ih3 _ _ _ _ _ _ _ _ _ _ _ _ _
   | exact spec_below.mono _ _ _ _
   | exact spec_power.mono _ _
   | exact LeO.none _
   | refine LeO.ite ?_ ?_
   | refine LeO.bind ?_ (fun _ => ?_)
theorem spec_stack.mono : ∀ a0 a1 a2 a3 k, LeO (spec_stack.f k a0 a1 a2 a3) (spec_stack.f (k + 1) a0 a1 a2 a3) := by
 intro a0 a1 a2 a3 k
 obtain ⟨ih0, ih1, ih2, ih3⟩ := spec_stack.mono_l k
 unfold spec_stack.f
 repeat' first
   | (with_reducible exact ih0 _ _ _ _ _ _ _ _ _)
   | (with_reducible exact ih1 _ _ _ _ _ _ _ _ _ _ _ _)
   | (with_reducible exact ih2 _ _ _ _ _ _ _ _ _ _ _ _ _ _)
   | (with_reducible exact ih3 _ _ _ _ _ _ _ _ _ _ _ _ _)
   | (with_reducible exact spec_below.mono _ _ _ _)
   | (with_reducible exact spec_power.mono _ _)
   | (with_reducible exact LeO.refl _)
   | (with_reducible exact LeO.none _)
   | (with_reducible refine LeO.ite ?_ ?_)
   | (with_reducible refine LeO.bind ?_ (fun _ => ?_))
   | exact ih0 _ _ _ _ _ _ _ _ _
   | exact ih1 _ _ _ _ _ _ _ _ _ _ _ _
   | exact ih2 _ _ _ _ _ _ _ _ _ _ _ _ _ _
   | exact ih3 _ _ _ _ _ _ _ _ _ _ _ _ _
   | exact spec_below.mono _ _ _ _
   | exact spec_power.mono _ _
   | exact LeO.none _
   | refine LeO.ite ?_ ?_
   | refine LeO.bind ?_ (fun _ => ?_)
set_option maxHeartbeats 8000000 in
set_option maxRecDepth 100000 in
theorem spec_stack.calls (k : Nat) (A0_0 : Option Addr) (c0_0 : Nat) (l0_0 : List Int) (A0_1 : Option Addr) (c0_1 : Nat) (l0_1 : List (List Int)) (A1_0 : Option Addr) (c1_0 : Nat) (l1_0 : List Int) (A1_1 : Option Addr) (c1_1 : Nat) (l1_1 : List (List Int)) (r1 : List Int) (r2 : List (List Int)) (w : World) (hr0_0 : Kd.C (Kd.int .i64) w A0_0 l0_0.length l0_0) (hc0_0 : l0_0.length ≤ c0_0) (hr0_1 : Kd.C (Kd.slice 3 (Kd.int .i64)) w A0_1 l0_1.length l0_1) (hc0_1 : l0_1.length ≤ c0_1) (hr1_0 : Kd.C (Kd.int .i64) w A1_0 l1_0.length l1_0) (hc1_0 : l1_0.length ≤ c1_0) (hr1_1 : Kd.C (Kd.slice 3 (Kd.int .i64)) w A1_1 l1_1.length l1_1) (hc1_1 : l1_1.length ≤ c1_1) (h : spec_stack.f k l0_0 l0_1 l1_0 l1_1 = some (r1, r2)) :
  Calls Try.prog 75 #[.agg #[.slice A0_0 l0_0.length c0_0, .slice A0_1 l0_1.length c0_1], .agg #[.slice A1_0 l1_0.length c1_0, .slice A1_1 l1_1.length c1_1]] w fun e w' => ∃ v0_ v1_ : Value, e = .returned (.agg #[v0_, v1_]) ∧ Kd.R (Kd.int .i64) 3 w' w.heap.size (fun _ => True) v0_ r1 ∧ Kd.S (Kd.slice 3 (Kd.int .i64)) 22 w' w.heap.size (fun k_ => some k_ ≠ (v0_ : Value).ownBlock) v1_ r2 ∧ Below w.heap.size w w' := by
 have hu25 := Try.underlying25
 have HR0_0 := Aside0.mk hr0_0
 have HC0_0 := Aside0.mk hc0_0
 clear hr0_0 hc0_0
 have HR0_1 := Aside0.mk hr0_1
 have HC0_1 := Aside0.mk hc0_1
 clear hr0_1 hc0_1
 have HR1_0 := Aside0.mk hr1_0
 have HC1_0 := Aside0.mk hc1_0
 clear hr1_0 hc1_0
 have HR1_1 := Aside0.mk hr1_1
 have HC1_1 := Aside0.mk hc1_1
 clear hr1_1 hc1_1
 have HB := Aside0.mk (Below.refl w.heap.size w)
 have H : (spec_stack.l0 k (wrap64 ((l0_0.length : Int) - 1)) (wrap64 ((wrap64 ((l0_0.length : Int) - 1)) + (l1_0.length : Int))) 0 l0_0 l0_1 l1_0 l1_1 ([] : List Int) ([] : List (List Int))) = some (r1, r2) := h
 clear h
 have H' := Aside0.mk H
 clear H
 go_enter Try.func75, Try.ntmps75
 go_wp2_with (first | ((with_reducible refine gate_dst (N := 2) rfl ?_); refine box_event ?hg (N := 2) ?hd (cs := #[.slice A0_0 l0_0.length c0_0, .slice A0_1 l0_1.length c0_1]) (t := 25) ?hr ?_; (case hd => rfl); (case hg => rfl); (case hr => first | (go_simp; done) | (go_simp; rfl)); intro gb611 hg w3 hbox hb; have n0_ := Aside0.mk (below_step (by repeat (first | (with_reducible first | exact HB.out | apply below_alloc | apply pw_below_drewN | apply below_drew1) | exact HB.out)) hb); have n1_ := Aside0.mk (hbox); have n2_ := Aside0.mk ((by rw [hg]; exact (below_size (by repeat (first | (with_reducible first | exact HB.out | apply below_alloc | apply pw_below_drewN | apply below_drew1) | exact HB.out))) : w.heap.size ≤ gb611)); have n3_ := Aside0.mk ((by rw [hg]; exact (below_size (by repeat (first | (with_reducible first | exact HB.out | apply below_alloc | apply pw_below_drewN | apply below_drew1) | exact HB.out))) : w.heap.size ≤ gb611)); clear HB; have HB := n0_; have BK611 := n1_; have GW611 := n2_; have GE611 := n3_; clear n0_ n1_ n2_ n3_; clear hb hbox hg) | ((with_reducible refine gate_dst (N := 3) rfl ?_); refine box_event ?hg (N := 3) ?hd (cs := #[.slice A1_0 l1_0.length c1_0, .slice A1_1 l1_1.length c1_1]) (t := 25) ?hr ?_; (case hd => rfl); (case hg => rfl); (case hr => first | (go_simp; done) | (go_simp; rfl)); intro gb612 hg w4 hbox hb; have n0_ := Aside0.mk (blk_below (g := gb611) (o := .cells #[.slice A0_0 l0_0.length c0_0, .slice A0_1 l0_1.length c0_1] 25 (0, 0)) (by (with_reducible repeat (first | refine blk_drewN ?_ _ | refine blk_drew ?_ | refine blk_alloc ?_ _)); exact BK611.out) hb); have n1_ := Aside0.mk (below_step (by repeat (first | (with_reducible first | exact HB.out | apply below_alloc | apply pw_below_drewN | apply below_drew1 | refine below_set ?_ GE611.out) | exact HB.out)) hb); have n2_ := Aside0.mk (hbox); have n3_ := Aside0.mk ((by rw [hg]; exact (below_size (by repeat (first | (with_reducible first | exact HB.out | apply below_alloc | apply pw_below_drewN | apply below_drew1 | refine below_set ?_ GE611.out) | exact HB.out))) : w.heap.size ≤ gb612)); have n4_ := Aside0.mk ((by rw [hg]; exact (below_size (by repeat (first | (with_reducible first | exact HB.out | apply below_alloc | apply pw_below_drewN | apply below_drew1 | refine below_set ?_ GE611.out) | exact HB.out))) : w.heap.size ≤ gb612)); have n5_ := Aside0.mk ((by rw [hg]; exact Nat.ne_of_lt (blk_lt (g := gb611) (o := .cells #[.slice A0_0 l0_0.length c0_0, .slice A0_1 l0_1.length c0_1] 25 (0, 0)) (by (with_reducible repeat (first | refine blk_drewN ?_ _ | refine blk_drew ?_ | refine blk_alloc ?_ _)); exact BK611.out)) : gb611 ≠ gb612)); have n6_ := Aside0.mk ((by rw [hg]; exact Nat.ne_of_gt (blk_lt (g := gb611) (o := .cells #[.slice A0_0 l0_0.length c0_0, .slice A0_1 l0_1.length c0_1] 25 (0, 0)) (by (with_reducible repeat (first | refine blk_drewN ?_ _ | refine blk_drew ?_ | refine blk_alloc ?_ _)); exact BK611.out)) : gb612 ≠ gb611)); clear BK611; clear HB; have BK611 := n0_; have HB := n1_; have BK612 := n2_; have GW612 := n3_; have GE612 := n4_; have NB611_612 := n5_; have NB612_611 := n6_; clear n0_ n1_ n2_ n3_ n4_ n5_ n6_; clear hb hbox hg) | ((with_reducible refine gate_dst (N := 4) rfl ?_); refine box_event ?hg (N := 4) ?hd (cs := #[.slice none 0 0, .slice none 0 0]) (t := 25) ?hr ?_; (case hd => rfl); (case hg => rfl); (case hr => first | (go_simp; done) | (go_simp; rfl)); intro gb613 hg w5 hbox hb; have n0_ := Aside0.mk (blk_below (g := gb611) (o := .cells #[.slice A0_0 l0_0.length c0_0, .slice A0_1 l0_1.length c0_1] 25 (0, 0)) (by (with_reducible repeat (first | refine blk_drewN ?_ _ | refine blk_drew ?_ | refine blk_alloc ?_ _)); exact BK611.out) hb); have n1_ := Aside0.mk (blk_below (g := gb612) (o := .cells #[.slice A1_0 l1_0.length c1_0, .slice A1_1 l1_1.length c1_1] 25 (0, 0)) (by (with_reducible repeat (first | refine blk_drewN ?_ _ | refine blk_drew ?_ | refine blk_alloc ?_ _)); exact BK612.out) hb); have n2_ := Aside0.mk (below_step (by repeat (first | (with_reducible first | exact HB.out | apply below_alloc | apply pw_below_drewN | apply below_drew1 | refine below_set ?_ GE611.out | refine below_set ?_ GE612.out) | exact HB.out)) hb); have n3_ := Aside0.mk (hbox); have n4_ := Aside0.mk ((by rw [hg]; exact (below_size (by repeat (first | (with_reducible first | exact HB.out | apply below_alloc | apply pw_below_drewN | apply below_drew1 | refine below_set ?_ GE611.out | refine below_set ?_ GE612.out) | exact HB.out))) : w.heap.size ≤ gb613)); have n5_ := Aside0.mk ((by rw [hg]; exact (below_size (by repeat (first | (with_reducible first | exact HB.out | apply below_alloc | apply pw_below_drewN | apply below_drew1 | refine below_set ?_ GE611.out | refine below_set ?_ GE612.out) | exact HB.out))) : w.heap.size ≤ gb613)); have n6_ := Aside0.mk ((by rw [hg]; exact Nat.ne_of_lt (blk_lt (g := gb611) (o := .cells #[.slice A0_0 l0_0.length c0_0, .slice A0_1 l0_1.length c0_1] 25 (0, 0)) (by (with_reducible repeat (first | refine blk_drewN ?_ _ | refine blk_drew ?_ | refine blk_alloc ?_ _)); exact BK611.out)) : gb611 ≠ gb613)); have n7_ := Aside0.mk ((by rw [hg]; exact Nat.ne_of_gt (blk_lt (g := gb611) (o := .cells #[.slice A0_0 l0_0.length c0_0, .slice A0_1 l0_1.length c0_1] 25 (0, 0)) (by (with_reducible repeat (first | refine blk_drewN ?_ _ | refine blk_drew ?_ | refine blk_alloc ?_ _)); exact BK611.out)) : gb613 ≠ gb611)); have n8_ := Aside0.mk ((by rw [hg]; exact Nat.ne_of_lt (blk_lt (g := gb612) (o := .cells #[.slice A1_0 l1_0.length c1_0, .slice A1_1 l1_1.length c1_1] 25 (0, 0)) (by (with_reducible repeat (first | refine blk_drewN ?_ _ | refine blk_drew ?_ | refine blk_alloc ?_ _)); exact BK612.out)) : gb612 ≠ gb613)); have n9_ := Aside0.mk ((by rw [hg]; exact Nat.ne_of_gt (blk_lt (g := gb612) (o := .cells #[.slice A1_0 l1_0.length c1_0, .slice A1_1 l1_1.length c1_1] 25 (0, 0)) (by (with_reducible repeat (first | refine blk_drewN ?_ _ | refine blk_drew ?_ | refine blk_alloc ?_ _)); exact BK612.out)) : gb613 ≠ gb612)); clear BK611; clear BK612; clear HB; have BK611 := n0_; have BK612 := n1_; have HB := n2_; have BK613 := n3_; have GW613 := n4_; have GE613 := n5_; have NB611_613 := n6_; have NB613_611 := n7_; have NB612_613 := n8_; have NB613_612 := n9_; clear n0_ n1_ n2_ n3_ n4_ n5_ n6_ n7_ n8_ n9_; clear hb hbox hg; have hnb6 := NB611_612.out; have hnc6 := NB612_611.out; have hnb7 := NB611_613.out; have hnc7 := NB613_611.out; have hcz8_0 : w5.cell? ⟨gb611, 0, none⟩ = some (.slice A0_0 l0_0.length c0_0) := (blk_cell BK611.out 0).trans rfl; have hcz8_1 : w5.cell? ⟨gb611, 1, none⟩ = some (.slice A0_1 l0_1.length c0_1) := (blk_cell BK611.out 1).trans rfl; have hfz8_0 := blk_frozen BK611.out 0; have hfz8_1 := blk_frozen BK611.out 1; have hnb9 := NB612_613.out; have hnc9 := NB613_612.out; have hcz10_0 : w5.cell? ⟨gb612, 0, none⟩ = some (.slice A1_0 l1_0.length c1_0) := (blk_cell BK612.out 0).trans rfl; have hcz10_1 : w5.cell? ⟨gb612, 1, none⟩ = some (.slice A1_1 l1_1.length c1_1) := (blk_cell BK612.out 1).trans rfl; have hfz10_0 := blk_frozen BK612.out 0; have hfz10_1 := blk_frozen BK612.out 1) | ((with_reducible refine gate_dst (N := 7) rfl ?_); refine box_event ?hg (N := 7) ?hd (cs := #[.slice none 0 0, .slice none 0 0]) (t := 25) ?hr ?_; (case hd => rfl); (case hg => rfl); (case hr => first | (go_simp; done) | (go_simp; rfl)); intro gb614 hg w11 hbox hb; have n0_ := Aside0.mk (blk_below (g := gb611) (o := .cells #[.slice A0_0 l0_0.length c0_0, .slice A0_1 l0_1.length c0_1] 25 (0, 0)) (by (with_reducible repeat (first | refine blk_drewN ?_ _ | refine blk_drew ?_ | refine blk_alloc ?_ _)); exact BK611.out) hb); have n1_ := Aside0.mk (blk_below (g := gb612) (o := .cells #[.slice A1_0 l1_0.length c1_0, .slice A1_1 l1_1.length c1_1] 25 (0, 0)) (by (with_reducible repeat (first | refine blk_drewN ?_ _ | refine blk_drew ?_ | refine blk_alloc ?_ _)); exact BK612.out) hb); have n2_ := Aside0.mk (blk_below (g := gb613) (o := .cells #[.slice none 0 0, .slice none 0 0] 25 (0, 0)) (by (with_reducible repeat (first | refine blk_drewN ?_ _ | refine blk_drew ?_ | refine blk_alloc ?_ _)); exact BK613.out) hb); have n3_ := Aside0.mk (below_step (by repeat (first | (with_reducible first | exact HB.out | apply below_alloc | apply pw_below_drewN | apply below_drew1 | refine below_set ?_ GE611.out | refine below_set ?_ GE612.out | refine below_set ?_ GE613.out) | exact HB.out)) hb); have n4_ := Aside0.mk (hbox); have n5_ := Aside0.mk ((by rw [hg]; exact (below_size (by repeat (first | (with_reducible first | exact HB.out | apply below_alloc | apply pw_below_drewN | apply below_drew1 | refine below_set ?_ GE611.out | refine below_set ?_ GE612.out | refine below_set ?_ GE613.out) | exact HB.out))) : w.heap.size ≤ gb614)); have n6_ := Aside0.mk ((by rw [hg]; exact (below_size (by repeat (first | (with_reducible first | exact HB.out | apply below_alloc | apply pw_below_drewN | apply below_drew1 | refine below_set ?_ GE611.out | refine below_set ?_ GE612.out | refine below_set ?_ GE613.out) | exact HB.out))) : w.heap.size ≤ gb614)); have n7_ := Aside0.mk ((by rw [hg]; exact Nat.ne_of_lt (blk_lt (g := gb611) (o := .cells #[.slice A0_0 l0_0.length c0_0, .slice A0_1 l0_1.length c0_1] 25 (0, 0)) (by (with_reducible repeat (first | refine blk_drewN ?_ _ | refine blk_drew ?_ | refine blk_alloc ?_ _)); exact BK611.out)) : gb611 ≠ gb614)); have n8_ := Aside0.mk ((by rw [hg]; exact Nat.ne_of_gt (blk_lt (g := gb611) (o := .cells #[.slice A0_0 l0_0.length c0_0, .slice A0_1 l0_1.length c0_1] 25 (0, 0)) (by (with_reducible repeat (first | refine blk_drewN ?_ _ | refine blk_drew ?_ | refine blk_alloc ?_ _)); exact BK611.out)) : gb614 ≠ gb611)); have n9_ := Aside0.mk ((by rw [hg]; exact Nat.ne_of_lt (blk_lt (g := gb612) (o := .cells #[.slice A1_0 l1_0.length c1_0, .slice A1_1 l1_1.length c1_1] 25 (0, 0)) (by (with_reducible repeat (first | refine blk_drewN ?_ _ | refine blk_drew ?_ | refine blk_alloc ?_ _)); exact BK612.out)) : gb612 ≠ gb614)); have n10_ := Aside0.mk ((by rw [hg]; exact Nat.ne_of_gt (blk_lt (g := gb612) (o := .cells #[.slice A1_0 l1_0.length c1_0, .slice A1_1 l1_1.length c1_1] 25 (0, 0)) (by (with_reducible repeat (first | refine blk_drewN ?_ _ | refine blk_drew ?_ | refine blk_alloc ?_ _)); exact BK612.out)) : gb614 ≠ gb612)); have n11_ := Aside0.mk ((by rw [hg]; exact Nat.ne_of_lt (blk_lt (g := gb613) (o := .cells #[.slice none 0 0, .slice none 0 0] 25 (0, 0)) (by (with_reducible repeat (first | refine blk_drewN ?_ _ | refine blk_drew ?_ | refine blk_alloc ?_ _)); exact BK613.out)) : gb613 ≠ gb614)); have n12_ := Aside0.mk ((by rw [hg]; exact Nat.ne_of_gt (blk_lt (g := gb613) (o := .cells #[.slice none 0 0, .slice none 0 0] 25 (0, 0)) (by (with_reducible repeat (first | refine blk_drewN ?_ _ | refine blk_drew ?_ | refine blk_alloc ?_ _)); exact BK613.out)) : gb614 ≠ gb613)); clear BK611; clear BK612; clear BK613; clear HB; have BK611 := n0_; have BK612 := n1_; have BK613 := n2_; have HB := n3_; have BK614 := n4_; have GW614 := n5_; have GE614 := n6_; have NB611_614 := n7_; have NB614_611 := n8_; have NB612_614 := n9_; have NB614_612 := n10_; have NB613_614 := n11_; have NB614_613 := n12_; clear n0_ n1_ n2_ n3_ n4_ n5_ n6_ n7_ n8_ n9_ n10_ n11_ n12_; clear hb hbox hg; have hnb12 := NB614_611.out; have hnc12 := NB611_614.out; have hnb13 := NB614_612.out; have hnc13 := NB612_614.out; have hnb14 := NB614_613.out; have hnc14 := NB613_614.out; have hcz15_0 : w11.cell? ⟨gb614, 0, none⟩ = some (.slice none 0 0) := (blk_cell BK614.out 0).trans rfl; have hcz15_1 : w11.cell? ⟨gb614, 1, none⟩ = some (.slice none 0 0) := (blk_cell BK614.out 1).trans rfl; have hfz15_0 := blk_frozen BK614.out 0; have hfz15_1 := blk_frozen BK614.out 1))
 go_loopg [8] k (fun kq v8 w' => ∃ (x8_1 : Int) (x615000_1 : List Int) (x615001_1 : List (List Int)) (u615000 : Value) (u615001 : Value), v8 = .int .i64 x8_1 ∧ Aside0 (spec_stack.l0 kq (wrap64 ((l0_0.length : Int) - 1)) (wrap64 ((wrap64 ((l0_0.length : Int) - 1)) + (l1_0.length : Int))) x8_1 l0_0 l0_1 l1_0 l1_1 x615000_1 x615001_1 = some (r1, r2)) ∧ Aside0 (kq ≤ k) ∧ Aside0 (Kd.R (Kd.int .i64) 3 w' w.heap.size (fun _ => True) u615000 x615000_1) ∧ Aside0 (Kd.S (Kd.slice 3 (Kd.int .i64)) 22 w' w.heap.size (fun k_ => some k_ ≠ (u615000 : Value).ownBlock) u615001 x615001_1) ∧ Aside0 (w'.heap[gb611]? = some (.cells #[(.slice A0_0 l0_0.length c0_0), (.slice A0_1 l0_1.length c0_1)] 25 (0, 0))) ∧ Aside0 (w'.heap[gb612]? = some (.cells #[(.slice A1_0 l1_0.length c1_0), (.slice A1_1 l1_1.length c1_1)] 25 (0, 0))) ∧ Aside0 (w'.heap[gb613]? = some (.cells #[(.slice none 0 0), (.slice none 0 0)] 25 (0, 0))) ∧ Aside0 (w'.heap[gb614]? = some (.cells #[u615000, u615001] 25 (0, 0))) ∧ Aside0 (Below w.heap.size w w'))
 case atStart => exact ⟨(0), (([] : List Int)), (([] : List (List Int))), (.slice none 0 0), (.slice none 0 0), (by first | rfl | (simp; done) | (simp [*]; done)), H', ⟨Nat.le_refl _⟩, ⟨by first | exact Kd.R_nil _ _ _ _ _ | exact Kd.N_nil _ _ _ _ _ | exact Kd.V_nil _ _ _ _ _ | exact Kd.Q_nil _ _ _ _ _ | exact Kd.S_nil _ _ _ _ _⟩, ⟨by first | exact Kd.S_nil _ _ _ _ _ | exact Kd.N_nil _ _ _ _ _ | exact Kd.V_nil _ _ _ _ _ | exact Kd.Q_nil _ _ _ _ _ | exact Kd.R_nil _ _ _ _ _⟩, ⟨by (with_reducible repeat (first | refine blk_drewN ?_ _ | refine blk_drew ?_ | refine blk_alloc ?_ _)); refine blk_far ?_ NB611_614.out _; (with_reducible repeat (first | refine blk_drewN ?_ _ | refine blk_drew ?_ | refine blk_alloc ?_ _)); refine blk_far ?_ NB611_614.out _; (with_reducible repeat (first | refine blk_drewN ?_ _ | refine blk_drew ?_ | refine blk_alloc ?_ _)); exact BK611.out⟩, ⟨by (with_reducible repeat (first | refine blk_drewN ?_ _ | refine blk_drew ?_ | refine blk_alloc ?_ _)); refine blk_far ?_ NB612_614.out _; (with_reducible repeat (first | refine blk_drewN ?_ _ | refine blk_drew ?_ | refine blk_alloc ?_ _)); refine blk_far ?_ NB612_614.out _; (with_reducible repeat (first | refine blk_drewN ?_ _ | refine blk_drew ?_ | refine blk_alloc ?_ _)); exact BK612.out⟩, ⟨by (with_reducible repeat (first | refine blk_drewN ?_ _ | refine blk_drew ?_ | refine blk_alloc ?_ _)); refine blk_far ?_ NB613_614.out _; (with_reducible repeat (first | refine blk_drewN ?_ _ | refine blk_drew ?_ | refine blk_alloc ?_ _)); refine blk_far ?_ NB613_614.out _; (with_reducible repeat (first | refine blk_drewN ?_ _ | refine blk_drew ?_ | refine blk_alloc ?_ _)); exact BK613.out⟩, ⟨by (with_reducible repeat (first | refine blk_drewN ?_ _ | refine blk_drew ?_ | refine blk_alloc ?_ _)); refine blk_put (cs := #[.slice none 0 0, .slice none 0 0]) ?_ 1 _ rfl; (with_reducible repeat (first | refine blk_drewN ?_ _ | refine blk_drew ?_ | refine blk_alloc ?_ _)); refine blk_put (cs := #[.slice none 0 0, .slice none 0 0]) ?_ 0 _ rfl; (with_reducible repeat (first | refine blk_drewN ?_ _ | refine blk_drew ?_ | refine blk_alloc ?_ _)); exact BK614.out⟩, ⟨by repeat (first | (with_reducible first | exact HB.out | apply below_alloc | apply pw_below_drewN | apply below_drew1 | refine below_set ?_ GE611.out | refine below_set ?_ GE612.out | refine below_set ?_ GE613.out | refine below_set ?_ GE614.out) | exact HB.out)⟩⟩
 case round =>
  clear H'
  try clear c1
  try clear p2
  try clear c6
  try clear p6
  try clear c7
  try clear c9
  try clear c12
  try clear c13
  try clear c14
  try clear hcz10_0
  try clear hcz10_1
  try clear hcz15_0
  try clear hcz15_1
  try clear hcz8_0
  try clear hcz8_1
  try clear hfz10_0
  try clear hfz10_1
  try clear hfz15_0
  try clear hfz15_1
  try clear hfz8_0
  try clear hfz8_1
  obtain ⟨x8_1, x615000_1, x615001_1, u615000, u615001, rfl, HA, HK1, HO_615000, HO_615001, BK611, BK612, BK613, BK614, HB⟩ := hrel
  cases gk with
  | zero => exact absurd HA.out (by simp [spec_stack.l0])
  | succ k1 =>
   have H := HA.out
   clear HA
   simp only [spec_stack.l0] at H
   by_cases c16 : x8_1 < (wrap64 ((wrap64 ((l0_0.length : Int) - 1)) + (l1_0.length : Int)))
   ·rw [if_pos c16] at H
    have c16b0 : decide (x8_1 < (wrap64 ((wrap64 ((l0_0.length : Int) - 1)) + (l1_0.length : Int)))) = true := decide_eq_true c16
    clear c16
    obtain ⟨y615, hy615⟩ : ∃ y_ : List Int, y_ = (([] : List Int)) := ⟨_, rfl⟩
    replace H : (spec_stack.l1 k1 (wrap64 ((l0_0.length : Int) - 1)) (wrap64 ((wrap64 ((l0_0.length : Int) - 1)) + (l1_0.length : Int))) x8_1 y615 0 0 l0_0 l0_1 l1_0 l1_1 x615000_1 x615001_1) = some (r1, r2) := by first | (rw [hy615]; with_reducible exact H) | (have H2_ := (Option.bind_some _ _).symm.trans H; rw [hy615]; with_reducible exact H2_) | (have H2_ := (Option.bind_some _ _).symm.trans H; with_reducible exact H2_) | with_reducible exact H | (rw [hy615]; exact H) | exact H
    have Ny615 := Aside0.mk hy615
    clear hy615
    have H' := Aside0.mk H
    clear H
    as_aux_lemma =>
     go_wp2_with (first | ((with_reducible refine gate_dst (N := 28) rfl ?_); refine Kd.R_lit (Kd.int .i64) _ 3 ?hg (N := 28) ?hd (xs := ([] : List Int)) (inner := []) (ok := fun _ => True) (okp := fun _ => True) ?hr ?hp (fun _ hk => hk) trivial (Below.refl _ _) (Nat.le_refl _) (by simp) ?_; (case hd => rfl); (case hg => rfl); (case hr => first | (go_simp; done) | (go_simp; rfl)); (case hp => exact (Reps.none _ _)); intro v616 w17 ho18 hb hg_ hnew_; clear hg_ hnew_; (first | rw [← Ny615.out] at ho18 | (simp only [Int.reduceToNat] at ho18; rw [← Ny615.out] at ho18)); have n0_ := Aside0.mk (Kd.R_elder' (by (with_reducible repeat (first | apply Kd.R_alloc | apply Kd.R_drewN | apply Kd.R_drew)); exact HO_615000.out) (Kd.R_base ho18) hb); have n1_ := Aside0.mk (Kd.S_elder' (by (with_reducible repeat (first | apply Kd.S_alloc | apply Kd.S_drewN | apply Kd.S_drew)); exact HO_615001.out) (Kd.R_base ho18) hb); have n2_ := Aside0.mk (Kd.R_lower (Kd.R_new' ho18 (Kd.R_lt (by (with_reducible repeat (first | apply Kd.R_alloc | apply Kd.R_drewN | apply Kd.R_drew)); exact HO_615000.out))) (below_size (by repeat (first | (with_reducible first | exact HB.out | apply below_alloc | apply pw_below_drewN | apply below_drew1 | refine below_set ?_ GE611.out | refine below_set ?_ GE612.out | refine below_set ?_ GE613.out | refine below_set ?_ GE614.out) | exact HB.out)))); have n3_ := Aside0.mk (blk_below (g := gb611) (o := .cells #[.slice A0_0 l0_0.length c0_0, .slice A0_1 l0_1.length c0_1] 25 (0, 0)) (by (with_reducible repeat (first | refine blk_drewN ?_ _ | refine blk_drew ?_ | refine blk_alloc ?_ _)); exact BK611.out) hb); have n4_ := Aside0.mk (blk_below (g := gb612) (o := .cells #[.slice A1_0 l1_0.length c1_0, .slice A1_1 l1_1.length c1_1] 25 (0, 0)) (by (with_reducible repeat (first | refine blk_drewN ?_ _ | refine blk_drew ?_ | refine blk_alloc ?_ _)); exact BK612.out) hb); have n5_ := Aside0.mk (blk_below (g := gb613) (o := .cells #[.slice none 0 0, .slice none 0 0] 25 (0, 0)) (by (with_reducible repeat (first | refine blk_drewN ?_ _ | refine blk_drew ?_ | refine blk_alloc ?_ _)); exact BK613.out) hb); have n6_ := Aside0.mk (blk_below (g := gb614) (o := .cells #[u615000, u615001] 25 (0, 0)) (by (with_reducible repeat (first | refine blk_drewN ?_ _ | refine blk_drew ?_ | refine blk_alloc ?_ _)); exact BK614.out) hb); have n7_ := Aside0.mk (below_step (by repeat (first | (with_reducible first | exact HB.out | apply below_alloc | apply pw_below_drewN | apply below_drew1 | refine below_set ?_ GE611.out | refine below_set ?_ GE612.out | refine below_set ?_ GE613.out | refine below_set ?_ GE614.out) | exact HB.out)) hb); clear HO_615000; clear HO_615001; clear BK611; clear BK612; clear BK613; clear BK614; clear HB; have HO_615000 := n0_; have HO_615001 := n1_; have HO617 := n2_; have BK611 := n3_; have BK612 := n4_; have BK613 := n5_; have BK614 := n6_; have HB := n7_; clear n0_ n1_ n2_ n3_ n4_ n5_ n6_ n7_; clear hb ho18))
     go_loopg [9, 10, 11] k1 (fun kq v9 v10 v11 w' => ∃ (x9_2 : List Int) (x10_2 : Int) (x11_2 : Int), v10 = .int .i64 x10_2 ∧ v11 = .int .i64 x11_2 ∧ Aside0 (spec_stack.l1 kq (wrap64 ((l0_0.length : Int) - 1)) (wrap64 ((wrap64 ((l0_0.length : Int) - 1)) + (l1_0.length : Int))) x8_1 x9_2 x10_2 x11_2 l0_0 l0_1 l1_0 l1_1 x615000_1 x615001_1 = some (r1, r2)) ∧ Aside0 (kq ≤ k1) ∧ Aside0 (Kd.R (Kd.int .i64) 3 w' w.heap.size (fun k_ => some k_ ≠ (u615000 : Value).ownBlock) v9 x9_2) ∧ Aside0 (Kd.R (Kd.int .i64) 3 w' w.heap.size (fun k_ => some k_ ≠ (v9 : Value).ownBlock) u615000 x615000_1) ∧ Aside0 (Kd.S (Kd.slice 3 (Kd.int .i64)) 22 w' w.heap.size (fun k_ => some k_ ≠ (v9 : Value).ownBlock ∧ some k_ ≠ (u615000 : Value).ownBlock) u615001 x615001_1) ∧ Aside0 (w'.heap[gb611]? = some (.cells #[(.slice A0_0 l0_0.length c0_0), (.slice A0_1 l0_1.length c0_1)] 25 (0, 0))) ∧ Aside0 (w'.heap[gb612]? = some (.cells #[(.slice A1_0 l1_0.length c1_0), (.slice A1_1 l1_1.length c1_1)] 25 (0, 0))) ∧ Aside0 (w'.heap[gb613]? = some (.cells #[(.slice none 0 0), (.slice none 0 0)] 25 (0, 0))) ∧ Aside0 (w'.heap[gb614]? = some (.cells #[u615000, u615001] 25 (0, 0))) ∧ Aside0 (Below w.heap.size w w'))
     case atStart => exact ⟨(y615), (0), (0), (by first | rfl | (simp; done) | (simp [*]; done)), (by first | rfl | (simp; done) | (simp [*]; done)), H', ⟨Nat.le_refl _⟩, ⟨by (with_reducible repeat (first | apply Kd.R_alloc | apply Kd.R_drewN | apply Kd.R_drew)); exact Kd.R_mono HO617.out (fun _ hk => hk.2)⟩, ⟨by (with_reducible repeat (first | apply Kd.R_alloc | apply Kd.R_drewN | apply Kd.R_drew)); exact Kd.R_mono HO_615000.out (fun _ hk => hk.2)⟩, ⟨by (with_reducible repeat (first | apply Kd.S_alloc | apply Kd.S_drewN | apply Kd.S_drew)); exact Kd.S_mono HO_615001.out (fun _ hk => ⟨hk.2, hk.1⟩)⟩, ⟨by (with_reducible repeat (first | refine blk_drewN ?_ _ | refine blk_drew ?_ | refine blk_alloc ?_ _)); exact BK611.out⟩, ⟨by (with_reducible repeat (first | refine blk_drewN ?_ _ | refine blk_drew ?_ | refine blk_alloc ?_ _)); exact BK612.out⟩, ⟨by (with_reducible repeat (first | refine blk_drewN ?_ _ | refine blk_drew ?_ | refine blk_alloc ?_ _)); exact BK613.out⟩, ⟨by (with_reducible repeat (first | refine blk_drewN ?_ _ | refine blk_drew ?_ | refine blk_alloc ?_ _)); exact BK614.out⟩, ⟨by repeat (first | (with_reducible first | exact HB.out | apply below_alloc | apply pw_below_drewN | apply below_drew1 | refine below_set ?_ GE611.out | refine below_set ?_ GE612.out | refine below_set ?_ GE613.out | refine below_set ?_ GE614.out) | exact HB.out)⟩⟩
     case round =>
      clear H'
      try clear c1
      try clear p2
      try clear c6
      try clear p6
      try clear c7
      try clear c9
      try clear c12
      try clear c13
      try clear c14
      try clear c16
      try clear c16b0
      try clear hcz10_0
      try clear hcz10_1
      try clear hcz15_0
      try clear hcz15_1
      try clear hcz8_0
      try clear hcz8_1
      try clear hfz10_0
      try clear hfz10_1
      try clear hfz15_0
      try clear hfz15_1
      try clear hfz8_0
      try clear hfz8_1
      try clear p2
      try clear p6
      obtain ⟨x9_2, x10_2, x11_2, rfl, rfl, HA, HK2, HO_9, HO_615000, HO_615001, BK611, BK612, BK613, BK614, HB⟩ := hrel
      cases gk with
      | zero => exact absurd HA.out (by simp [spec_stack.l1])
      | succ k2 =>
       have H := HA.out
       clear HA
       simp only [spec_stack.l1] at H
       by_cases c19 : x11_2 < (wrap64 ((wrap64 ((l0_0.length : Int) - 1)) + (l1_0.length : Int)))
       ·rw [if_pos c19] at H
        have c19b0 : decide (x11_2 < (wrap64 ((wrap64 ((l0_0.length : Int) - 1)) + (l1_0.length : Int)))) = true := decide_eq_true c19
        clear c19
        obtain ⟨ji20, hji20⟩ : ∃ j_ : Int, (mn x8_1 x11_2) = j_ := ⟨_, rfl⟩
        replace H : (if x8_1 < (wrap64 ((l0_0.length : Int) - 1)) then (spec_stack.j2 k2 (wrap64 ((l0_0.length : Int) - 1)) (wrap64 ((wrap64 ((l0_0.length : Int) - 1)) + (l1_0.length : Int))) x8_1 x9_2 x10_2 x11_2 ji20 (decide (x11_2 < (wrap64 ((l0_0.length : Int) - 1)))) l0_0 l0_1 l1_0 l1_1 x615000_1 x615001_1) else (spec_stack.j2 k2 (wrap64 ((l0_0.length : Int) - 1)) (wrap64 ((wrap64 ((l0_0.length : Int) - 1)) + (l1_0.length : Int))) x8_1 x9_2 x10_2 x11_2 ji20 false l0_0 l0_1 l1_0 l1_1 x615000_1 x615001_1)) = some (r1, r2) := by first | (rw [hji20] at H; exact H) | (simp only [hji20] at H ⊢; exact H)
        have hji20_ : (if x11_2 < x8_1 then x11_2 else x8_1) = ji20 := hji20
        have HC21 := Aside0.mk H
        clear H
        go_upto_region 13 with (fail)
        go_cut [44] (fun v44 wc => ∃ (kq : Nat) (x44_20 : Bool), v44 = .bool x44_20 ∧ Aside0 (spec_stack.j2 kq (wrap64 ((l0_0.length : Int) - 1)) (wrap64 ((wrap64 ((l0_0.length : Int) - 1)) + (l1_0.length : Int))) x8_1 x9_2 x10_2 x11_2 ji20 x44_20 l0_0 l0_1 l1_0 l1_1 x615000_1 x615001_1 = some (r1, r2)) ∧ Aside0 (kq ≤ k2) ∧ Aside0 (Kd.R (Kd.int .i64) 3 wc w.heap.size (fun k_ => some k_ ≠ (u615000 : Value).ownBlock) u9 x9_2) ∧ Aside0 (Kd.R (Kd.int .i64) 3 wc w.heap.size (fun k_ => some k_ ≠ (u9 : Value).ownBlock) u615000 x615000_1) ∧ Aside0 (Kd.S (Kd.slice 3 (Kd.int .i64)) 22 wc w.heap.size (fun k_ => some k_ ≠ (u9 : Value).ownBlock ∧ some k_ ≠ (u615000 : Value).ownBlock) u615001 x615001_1) ∧ Aside0 (wc.heap[gb611]? = some (.cells #[(.slice A0_0 l0_0.length c0_0), (.slice A0_1 l0_1.length c0_1)] 25 (0, 0))) ∧ Aside0 (wc.heap[gb612]? = some (.cells #[(.slice A1_0 l1_0.length c1_0), (.slice A1_1 l1_1.length c1_1)] 25 (0, 0))) ∧ Aside0 (wc.heap[gb613]? = some (.cells #[(.slice none 0 0), (.slice none 0 0)] 25 (0, 0))) ∧ Aside0 (wc.heap[gb614]? = some (.cells #[u615000, u615001] 25 (0, 0))) ∧ Aside0 (Below w.heap.size w wc))
        case first =>
         have H := HC21.out
         clear HC21
         by_cases c22 : x8_1 < (wrap64 ((l0_0.length : Int) - 1))
         ·rw [if_pos c22] at H
          have c22b0 : decide (x8_1 < (wrap64 ((l0_0.length : Int) - 1))) = true := decide_eq_true c22
          clear c22
          (first | rw [c22b0] | (simp only [i64_w, i32_w]; rw [c22b0]) | skip)
          have H' := Aside0.mk H
          clear H
          as_aux_lemma =>
           go_wp2
           go_meet
           case rel => exact ⟨_, (decide (x11_2 < (wrap64 ((l0_0.length : Int) - 1)))), (by first | rfl | (simp; done) | (simp [*]; done)), H', ⟨by have := HK1.out; have := HK2.out; first | omega | exact Nat.le_refl _⟩, ⟨by (with_reducible repeat (first | apply Kd.R_alloc | apply Kd.R_drewN | apply Kd.R_drew)); exact HO_9.out⟩, ⟨by (with_reducible repeat (first | apply Kd.R_alloc | apply Kd.R_drewN | apply Kd.R_drew)); exact HO_615000.out⟩, ⟨by (with_reducible repeat (first | apply Kd.S_alloc | apply Kd.S_drewN | apply Kd.S_drew)); exact HO_615001.out⟩, ⟨by (with_reducible repeat (first | refine blk_drewN ?_ _ | refine blk_drew ?_ | refine blk_alloc ?_ _)); exact BK611.out⟩, ⟨by (with_reducible repeat (first | refine blk_drewN ?_ _ | refine blk_drew ?_ | refine blk_alloc ?_ _)); exact BK612.out⟩, ⟨by (with_reducible repeat (first | refine blk_drewN ?_ _ | refine blk_drew ?_ | refine blk_alloc ?_ _)); exact BK613.out⟩, ⟨by (with_reducible repeat (first | refine blk_drewN ?_ _ | refine blk_drew ?_ | refine blk_alloc ?_ _)); exact BK614.out⟩, ⟨by repeat (first | (with_reducible first | exact HB.out | apply below_alloc | apply pw_below_drewN | apply below_drew1 | refine below_set ?_ GE611.out | refine below_set ?_ GE612.out | refine below_set ?_ GE613.out | refine below_set ?_ GE614.out) | exact HB.out)⟩⟩
         ·rw [if_neg c22] at H
          have c22b0 : decide (x8_1 < (wrap64 ((l0_0.length : Int) - 1))) = false := decide_eq_false c22
          clear c22
          (first | rw [c22b0] | (simp only [i64_w, i32_w]; rw [c22b0]) | skip)
          have H' := Aside0.mk H
          clear H
          as_aux_lemma =>
           go_wp2
           go_meet
           case rel => exact ⟨_, (false), (by first | rfl | (simp; done) | (simp [*]; done)), H', ⟨by have := HK1.out; have := HK2.out; first | omega | exact Nat.le_refl _⟩, ⟨by (with_reducible repeat (first | apply Kd.R_alloc | apply Kd.R_drewN | apply Kd.R_drew)); exact HO_9.out⟩, ⟨by (with_reducible repeat (first | apply Kd.R_alloc | apply Kd.R_drewN | apply Kd.R_drew)); exact HO_615000.out⟩, ⟨by (with_reducible repeat (first | apply Kd.S_alloc | apply Kd.S_drewN | apply Kd.S_drew)); exact HO_615001.out⟩, ⟨by (with_reducible repeat (first | refine blk_drewN ?_ _ | refine blk_drew ?_ | refine blk_alloc ?_ _)); exact BK611.out⟩, ⟨by (with_reducible repeat (first | refine blk_drewN ?_ _ | refine blk_drew ?_ | refine blk_alloc ?_ _)); exact BK612.out⟩, ⟨by (with_reducible repeat (first | refine blk_drewN ?_ _ | refine blk_drew ?_ | refine blk_alloc ?_ _)); exact BK613.out⟩, ⟨by (with_reducible repeat (first | refine blk_drewN ?_ _ | refine blk_drew ?_ | refine blk_alloc ?_ _)); exact BK614.out⟩, ⟨by repeat (first | (with_reducible first | exact HB.out | apply below_alloc | apply pw_below_drewN | apply below_drew1 | refine below_set ?_ GE611.out | refine below_set ?_ GE612.out | refine below_set ?_ GE613.out | refine below_set ?_ GE614.out) | exact HB.out)⟩⟩
        case rest =>
         clear HC21
         try clear c1
         try clear c2
         try clear p2
         try clear c6
         try clear p6
         try clear c7
         try clear c9
         try clear c12
         try clear c13
         try clear c14
         try clear c16
         try clear c16b0
         try clear c19
         try clear c19b0
         try clear c22
         try clear c22b0
         try clear hcz10_0
         try clear hcz10_1
         try clear hcz15_0
         try clear hcz15_1
         try clear hcz8_0
         try clear hcz8_1
         try clear hfz10_0
         try clear hfz10_1
         try clear hfz15_0
         try clear hfz15_1
         try clear hfz8_0
         try clear hfz8_1
         try clear p2
         try clear p6
         obtain ⟨kq, x44_20, rfl, HA, HJ20, HO_9, HO_615000, HO_615001, BK611, BK612, BK613, BK614, HB⟩ := hcut
         cases kq with
         | zero => exact absurd HA.out (by simp [spec_stack.j2])
         | succ kj20 =>
          have H := HA.out
          clear HA
          simp only [spec_stack.j2] at H
          have HC23 := Aside0.mk H
          clear H
          go_upto_if 44 with (fail)
          go_cut [12] (fun v12 wc => ∃ (kq : Nat) (x12_22 : Int), v12 = .int .i64 x12_22 ∧ Aside0 (spec_stack.j3 kq (wrap64 ((l0_0.length : Int) - 1)) (wrap64 ((wrap64 ((l0_0.length : Int) - 1)) + (l1_0.length : Int))) x8_1 x9_2 x10_2 x11_2 x12_22 l0_0 l0_1 l1_0 l1_1 x615000_1 x615001_1 = some (r1, r2)) ∧ Aside0 (kq ≤ kj20) ∧ Aside0 (Kd.R (Kd.int .i64) 3 wc w.heap.size (fun k_ => some k_ ≠ (u615000 : Value).ownBlock) u9 x9_2) ∧ Aside0 (Kd.R (Kd.int .i64) 3 wc w.heap.size (fun k_ => some k_ ≠ (u9 : Value).ownBlock) u615000 x615000_1) ∧ Aside0 (Kd.S (Kd.slice 3 (Kd.int .i64)) 22 wc w.heap.size (fun k_ => some k_ ≠ (u9 : Value).ownBlock ∧ some k_ ≠ (u615000 : Value).ownBlock) u615001 x615001_1) ∧ Aside0 (wc.heap[gb611]? = some (.cells #[(.slice A0_0 l0_0.length c0_0), (.slice A0_1 l0_1.length c0_1)] 25 (0, 0))) ∧ Aside0 (wc.heap[gb612]? = some (.cells #[(.slice A1_0 l1_0.length c1_0), (.slice A1_1 l1_1.length c1_1)] 25 (0, 0))) ∧ Aside0 (wc.heap[gb613]? = some (.cells #[(.slice none 0 0), (.slice none 0 0)] 25 (0, 0))) ∧ Aside0 (wc.heap[gb614]? = some (.cells #[u615000, u615001] 25 (0, 0))) ∧ Aside0 (Below w.heap.size w wc))
          case first =>
           have H := HC23.out
           clear HC23
           by_cases c24 : x44_20 = true
           ·subst c24
            have H1 : (if 0 ≤ x8_1 then (if x8_1 < (l0_1.length : Int) then (if 0 ≤ x11_2 then (if x11_2 < ((rd_L1 l0_1 x8_1).length : Int) then (spec_stack.j3 kj20 (wrap64 ((l0_0.length : Int) - 1)) (wrap64 ((wrap64 ((l0_0.length : Int) - 1)) + (l1_0.length : Int))) x8_1 x9_2 x10_2 x11_2 (rd (rd_L1 l0_1 x8_1) x11_2) l0_0 l0_1 l1_0 l1_1 x615000_1 x615001_1) else (none)) else (none)) else (none)) else (none)) = some (r1, r2) := by rw [if_pos rfl] at H; exact H
            clear H
            have H := H1
            clear H1
            by_cases c25 : 0 ≤ x8_1
            ·rw [if_pos c25] at H
             have c25b0 : decide (0 ≤ x8_1) = true := decide_eq_true c25
             clear c25
             (first | rw [c25b0] | (simp only [i64_w, i32_w]; rw [c25b0]) | skip)
             by_cases c26 : x8_1 < (l0_1.length : Int)
             ·rw [if_pos c26] at H
              have c26b0 : decide (x8_1 < (l0_1.length : Int)) = true := decide_eq_true c26
              clear c26
              by_cases c27 : 0 ≤ x11_2
              ·rw [if_pos c27] at H
               have c27b0 : decide (0 ≤ x11_2) = true := decide_eq_true c27
               clear c27
               by_cases c28 : x11_2 < ((rd_L1 l0_1 x8_1).length : Int)
               ·rw [if_pos c28] at H
                have c28b0 : decide (x11_2 < ((rd_L1 l0_1 x8_1).length : Int)) = true := decide_eq_true c28
                clear c28
                have H' := Aside0.mk H
                clear H
                have hnb29 := NB611_612.out
                have hnc29 := NB612_611.out
                have hnb30 := NB611_613.out
                have hnc30 := NB613_611.out
                have hnb31 := NB611_614.out
                have hnc31 := NB614_611.out
                have hcz32_0 : wc.cell? ⟨gb611, 0, none⟩ = some (.slice A0_0 l0_0.length c0_0) := (blk_cell BK611.out 0).trans rfl
                have hcz32_1 : wc.cell? ⟨gb611, 1, none⟩ = some (.slice A0_1 l0_1.length c0_1) := (blk_cell BK611.out 1).trans rfl
                have hfz32_0 := blk_frozen BK611.out 0
                have hfz32_1 := blk_frozen BK611.out 1
                have p624 : 0 ≤ (x8_1 : Int) := of_decide_eq_true (by first | (with_reducible assumption) | assumption)
                have q624 : x8_1 < (l0_1.length : Int) := of_decide_eq_true (by first | (with_reducible assumption) | assumption)
                obtain ⟨ad624, A624_0, c624_0, e624, hx624_0, hl624_0, hi624_0⟩ := at_L1 HR0_1.out x8_1 p624 q624
                cases e624
                replace hx624_0 := (HB.out.cell (World.block_lt_of_cell? w _ hx624_0)).trans hx624_0
                have HR624_0 := Aside0.mk hi624_0
                have HC624_0 := Aside0.mk hl624_0
                clear hi624_0 hl624_0
                replace p624 := eq_true p624
                replace q624 := eq_true q624
                have p625 : 0 ≤ (x11_2 : Int) := of_decide_eq_true (by first | (with_reducible assumption) | assumption)
                have q625 : x11_2 < ((rd_L1 l0_1 x8_1).length : Int) := of_decide_eq_true (by first | (with_reducible assumption) | assumption)
                obtain ⟨ad625, e625, hx625_0⟩ := Kd.at_int HR624_0.out x11_2 p625 q625
                cases e625
                replace hx625_0 := (HB.out.cell (World.block_lt_of_cell? w _ hx625_0)).trans hx625_0
                replace p625 := eq_true p625
                replace q625 := eq_true q625
                as_aux_lemma =>
                 go_wp2
                 go_meet
                 case rel => exact ⟨_, (rd (rd_L1 l0_1 x8_1) x11_2), (by first | rfl | (simp; done) | (simp [*]; done)), H', ⟨by have := HK1.out; have := HK2.out; have := HJ20.out; first | omega | exact Nat.le_refl _⟩, ⟨by (with_reducible repeat (first | apply Kd.R_alloc | apply Kd.R_drewN | apply Kd.R_drew)); exact HO_9.out⟩, ⟨by (with_reducible repeat (first | apply Kd.R_alloc | apply Kd.R_drewN | apply Kd.R_drew)); exact HO_615000.out⟩, ⟨by (with_reducible repeat (first | apply Kd.S_alloc | apply Kd.S_drewN | apply Kd.S_drew)); exact HO_615001.out⟩, ⟨by (with_reducible repeat (first | refine blk_drewN ?_ _ | refine blk_drew ?_ | refine blk_alloc ?_ _)); exact BK611.out⟩, ⟨by (with_reducible repeat (first | refine blk_drewN ?_ _ | refine blk_drew ?_ | refine blk_alloc ?_ _)); exact BK612.out⟩, ⟨by (with_reducible repeat (first | refine blk_drewN ?_ _ | refine blk_drew ?_ | refine blk_alloc ?_ _)); exact BK613.out⟩, ⟨by (with_reducible repeat (first | refine blk_drewN ?_ _ | refine blk_drew ?_ | refine blk_alloc ?_ _)); exact BK614.out⟩, ⟨by repeat (first | (with_reducible first | exact HB.out | apply below_alloc | apply pw_below_drewN | apply below_drew1 | refine below_set ?_ GE611.out | refine below_set ?_ GE612.out | refine below_set ?_ GE613.out | refine below_set ?_ GE614.out) | exact HB.out)⟩⟩
               ·rw [if_neg c28] at H
                exact absurd H (by simp)
              ·rw [if_neg c27] at H
               exact absurd H (by simp)
             ·rw [if_neg c26] at H
              exact absurd H (by simp)
            ·rw [if_neg c25] at H
             exact absurd H (by simp)
           ·replace c24 := Bool.eq_false_iff.mpr c24
            subst c24
            have H1 : (if x8_1 ≥ (wrap64 ((l0_0.length : Int) - 1)) then (if x11_2 ≥ (wrap64 ((l0_0.length : Int) - 1)) then (if 0 ≤ (wrap64 (x8_1 - (wrap64 ((l0_0.length : Int) - 1)))) then (if (wrap64 (x8_1 - (wrap64 ((l0_0.length : Int) - 1)))) < (l1_1.length : Int) then (if 0 ≤ (wrap64 (x11_2 - (wrap64 ((l0_0.length : Int) - 1)))) then (if (wrap64 (x11_2 - (wrap64 ((l0_0.length : Int) - 1)))) < ((rd_L1 l1_1 (wrap64 (x8_1 - (wrap64 ((l0_0.length : Int) - 1))))).length : Int) then (spec_stack.j3 kj20 (wrap64 ((l0_0.length : Int) - 1)) (wrap64 ((wrap64 ((l0_0.length : Int) - 1)) + (l1_0.length : Int))) x8_1 x9_2 x10_2 x11_2 (wrap64 ((wrap64 ((l0_0.length : Int) - 1)) + (rd (rd_L1 l1_1 (wrap64 (x8_1 - (wrap64 ((l0_0.length : Int) - 1))))) (wrap64 (x11_2 - (wrap64 ((l0_0.length : Int) - 1))))))) l0_0 l0_1 l1_0 l1_1 x615000_1 x615001_1) else (none)) else (none)) else (none)) else (none)) else (spec_stack.j3 kj20 (wrap64 ((l0_0.length : Int) - 1)) (wrap64 ((wrap64 ((l0_0.length : Int) - 1)) + (l1_0.length : Int))) x8_1 x9_2 x10_2 x11_2 ji20 l0_0 l0_1 l1_0 l1_1 x615000_1 x615001_1)) else (spec_stack.j3 kj20 (wrap64 ((l0_0.length : Int) - 1)) (wrap64 ((wrap64 ((l0_0.length : Int) - 1)) + (l1_0.length : Int))) x8_1 x9_2 x10_2 x11_2 ji20 l0_0 l0_1 l1_0 l1_1 x615000_1 x615001_1)) = some (r1, r2) := by rw [if_neg (show ¬ (false = true) by decide)] at H; exact H
            clear H
            have H := H1
            clear H1
            by_cases c33 : x8_1 ≥ (wrap64 ((l0_0.length : Int) - 1))
            ·rw [if_pos c33] at H
             have c33b0 : decide ((wrap64 ((l0_0.length : Int) - 1)) ≤ x8_1) = true := decide_eq_true c33
             clear c33
             by_cases c34 : x11_2 ≥ (wrap64 ((l0_0.length : Int) - 1))
             ·rw [if_pos c34] at H
              have c34b0 : decide ((wrap64 ((l0_0.length : Int) - 1)) ≤ x11_2) = true := decide_eq_true c34
              clear c34
              obtain ⟨ji35, hji35⟩ : ∃ j_ : Int, (wrap64 (x8_1 - (wrap64 ((l0_0.length : Int) - 1)))) = j_ := ⟨_, rfl⟩
              replace H : (if 0 ≤ (ji35) then (if (ji35) < (l1_1.length : Int) then (if 0 ≤ (wrap64 (x11_2 - (wrap64 ((l0_0.length : Int) - 1)))) then (if (wrap64 (x11_2 - (wrap64 ((l0_0.length : Int) - 1)))) < ((rd_L1 l1_1 (ji35)).length : Int) then (spec_stack.j3 kj20 (wrap64 ((l0_0.length : Int) - 1)) (wrap64 ((wrap64 ((l0_0.length : Int) - 1)) + (l1_0.length : Int))) x8_1 x9_2 x10_2 x11_2 (wrap64 ((wrap64 ((l0_0.length : Int) - 1)) + (rd (rd_L1 l1_1 (ji35)) (wrap64 (x11_2 - (wrap64 ((l0_0.length : Int) - 1))))))) l0_0 l0_1 l1_0 l1_1 x615000_1 x615001_1) else (none)) else (none)) else (none)) else (none)) = some (r1, r2) := by first | (rw [hji35] at H; exact H) | (simp only [hji35] at H ⊢; exact H)
              have hji35w : (IntKind.i64.wrap (x8_1 - (wrap64 ((l0_0.length : Int) - 1)))) = ji35 := (i64_w _).trans hji35
              by_cases c36 : 0 ≤ (ji35)
              ·rw [if_pos c36] at H
               have c36b0 : decide (0 ≤ (ji35)) = true := decide_eq_true c36
               clear c36
               by_cases c37 : (ji35) < (l1_1.length : Int)
               ·rw [if_pos c37] at H
                have c37b0 : decide ((ji35) < (l1_1.length : Int)) = true := decide_eq_true c37
                clear c37
                obtain ⟨ji38, hji38⟩ : ∃ j_ : Int, (wrap64 (x11_2 - (wrap64 ((l0_0.length : Int) - 1)))) = j_ := ⟨_, rfl⟩
                replace H : (if 0 ≤ (ji38) then (if (ji38) < ((rd_L1 l1_1 (ji35)).length : Int) then (spec_stack.j3 kj20 (wrap64 ((l0_0.length : Int) - 1)) (wrap64 ((wrap64 ((l0_0.length : Int) - 1)) + (l1_0.length : Int))) x8_1 x9_2 x10_2 x11_2 (wrap64 ((wrap64 ((l0_0.length : Int) - 1)) + (rd (rd_L1 l1_1 (ji35)) (ji38)))) l0_0 l0_1 l1_0 l1_1 x615000_1 x615001_1) else (none)) else (none)) = some (r1, r2) := by first | (rw [hji38] at H; exact H) | (simp only [hji38] at H ⊢; exact H)
                have hji38w : (IntKind.i64.wrap (x11_2 - (wrap64 ((l0_0.length : Int) - 1)))) = ji38 := (i64_w _).trans hji38
                by_cases c39 : 0 ≤ (ji38)
                ·rw [if_pos c39] at H
                 have c39b0 : decide (0 ≤ (ji38)) = true := decide_eq_true c39
                 clear c39
                 by_cases c40 : (ji38) < ((rd_L1 l1_1 (ji35)).length : Int)
                 ·rw [if_pos c40] at H
                  have c40b0 : decide ((ji38) < ((rd_L1 l1_1 (ji35)).length : Int)) = true := decide_eq_true c40
                  clear c40
                  have H' := Aside0.mk H
                  clear H
                  have hnb41 := NB612_611.out
                  have hnc41 := NB611_612.out
                  have hnb42 := NB612_613.out
                  have hnc42 := NB613_612.out
                  have hnb43 := NB612_614.out
                  have hnc43 := NB614_612.out
                  have hcz44_0 : wc.cell? ⟨gb612, 0, none⟩ = some (.slice A1_0 l1_0.length c1_0) := (blk_cell BK612.out 0).trans rfl
                  have hcz44_1 : wc.cell? ⟨gb612, 1, none⟩ = some (.slice A1_1 l1_1.length c1_1) := (blk_cell BK612.out 1).trans rfl
                  have hfz44_0 := blk_frozen BK612.out 0
                  have hfz44_1 := blk_frozen BK612.out 1
                  have p626 : 0 ≤ ((ji35) : Int) := of_decide_eq_true (by first | (with_reducible assumption) | assumption)
                  have q626 : (ji35) < (l1_1.length : Int) := of_decide_eq_true (by first | (with_reducible assumption) | assumption)
                  obtain ⟨ad626, A626_0, c626_0, e626, hx626_0, hl626_0, hi626_0⟩ := at_L1 HR1_1.out (ji35) p626 q626
                  cases e626
                  replace hx626_0 := (HB.out.cell (World.block_lt_of_cell? w _ hx626_0)).trans hx626_0
                  have HR626_0 := Aside0.mk hi626_0
                  have HC626_0 := Aside0.mk hl626_0
                  clear hi626_0 hl626_0
                  replace p626 := eq_true p626
                  replace q626 := eq_true q626
                  have p627 : 0 ≤ ((ji38) : Int) := of_decide_eq_true (by first | (with_reducible assumption) | assumption)
                  have q627 : (ji38) < ((rd_L1 l1_1 (ji35)).length : Int) := of_decide_eq_true (by first | (with_reducible assumption) | assumption)
                  obtain ⟨ad627, e627, hx627_0⟩ := Kd.at_int HR626_0.out (ji38) p627 q627
                  cases e627
                  replace hx627_0 := (HB.out.cell (World.block_lt_of_cell? w _ hx627_0)).trans hx627_0
                  replace p627 := eq_true p627
                  replace q627 := eq_true q627
                  as_aux_lemma =>
                   go_wp2
                   go_meet
                   case rel => exact ⟨_, (wrap64 ((wrap64 ((l0_0.length : Int) - 1)) + (rd (rd_L1 l1_1 (ji35)) (ji38)))), (by first | rfl | (simp; done) | (simp only [← hji35, ← hji38] <;> (first | rfl | simp)) | (simp [*]; done)), H', ⟨by have := HK1.out; have := HK2.out; have := HJ20.out; first | omega | exact Nat.le_refl _⟩, ⟨by (with_reducible repeat (first | apply Kd.R_alloc | apply Kd.R_drewN | apply Kd.R_drew)); exact HO_9.out⟩, ⟨by (with_reducible repeat (first | apply Kd.R_alloc | apply Kd.R_drewN | apply Kd.R_drew)); exact HO_615000.out⟩, ⟨by (with_reducible repeat (first | apply Kd.S_alloc | apply Kd.S_drewN | apply Kd.S_drew)); exact HO_615001.out⟩, ⟨by (with_reducible repeat (first | refine blk_drewN ?_ _ | refine blk_drew ?_ | refine blk_alloc ?_ _)); exact BK611.out⟩, ⟨by (with_reducible repeat (first | refine blk_drewN ?_ _ | refine blk_drew ?_ | refine blk_alloc ?_ _)); exact BK612.out⟩, ⟨by (with_reducible repeat (first | refine blk_drewN ?_ _ | refine blk_drew ?_ | refine blk_alloc ?_ _)); exact BK613.out⟩, ⟨by (with_reducible repeat (first | refine blk_drewN ?_ _ | refine blk_drew ?_ | refine blk_alloc ?_ _)); exact BK614.out⟩, ⟨by repeat (first | (with_reducible first | exact HB.out | apply below_alloc | apply pw_below_drewN | apply below_drew1 | refine below_set ?_ GE611.out | refine below_set ?_ GE612.out | refine below_set ?_ GE613.out | refine below_set ?_ GE614.out) | exact HB.out)⟩⟩
                 ·rw [if_neg c40] at H
                  exact absurd H (by simp)
                ·rw [if_neg c39] at H
                 exact absurd H (by simp)
               ·rw [if_neg c37] at H
                exact absurd H (by simp)
              ·rw [if_neg c36] at H
               exact absurd H (by simp)
             ·rw [if_neg c34] at H
              have c34b0 : decide ((wrap64 ((l0_0.length : Int) - 1)) ≤ x11_2) = false := decide_eq_false c34
              clear c34
              have H' := Aside0.mk H
              clear H
              as_aux_lemma =>
               go_wp2
               go_meet
               case rel => exact ⟨_, (ji20), (by first | rfl | (simp; done) | (simp only [← hji20] <;> (first | rfl | simp)) | (simp [*]; done)), H', ⟨by have := HK1.out; have := HK2.out; have := HJ20.out; first | omega | exact Nat.le_refl _⟩, ⟨by (with_reducible repeat (first | apply Kd.R_alloc | apply Kd.R_drewN | apply Kd.R_drew)); exact HO_9.out⟩, ⟨by (with_reducible repeat (first | apply Kd.R_alloc | apply Kd.R_drewN | apply Kd.R_drew)); exact HO_615000.out⟩, ⟨by (with_reducible repeat (first | apply Kd.S_alloc | apply Kd.S_drewN | apply Kd.S_drew)); exact HO_615001.out⟩, ⟨by (with_reducible repeat (first | refine blk_drewN ?_ _ | refine blk_drew ?_ | refine blk_alloc ?_ _)); exact BK611.out⟩, ⟨by (with_reducible repeat (first | refine blk_drewN ?_ _ | refine blk_drew ?_ | refine blk_alloc ?_ _)); exact BK612.out⟩, ⟨by (with_reducible repeat (first | refine blk_drewN ?_ _ | refine blk_drew ?_ | refine blk_alloc ?_ _)); exact BK613.out⟩, ⟨by (with_reducible repeat (first | refine blk_drewN ?_ _ | refine blk_drew ?_ | refine blk_alloc ?_ _)); exact BK614.out⟩, ⟨by repeat (first | (with_reducible first | exact HB.out | apply below_alloc | apply pw_below_drewN | apply below_drew1 | refine below_set ?_ GE611.out | refine below_set ?_ GE612.out | refine below_set ?_ GE613.out | refine below_set ?_ GE614.out) | exact HB.out)⟩⟩
            ·rw [if_neg c33] at H
             have c33b0 : decide ((wrap64 ((l0_0.length : Int) - 1)) ≤ x8_1) = false := decide_eq_false c33
             clear c33
             have H' := Aside0.mk H
             clear H
             as_aux_lemma =>
              go_wp2
              go_meet
              case rel => exact ⟨_, (ji20), (by first | rfl | (simp; done) | (simp only [← hji20] <;> (first | rfl | simp)) | (simp [*]; done)), H', ⟨by have := HK1.out; have := HK2.out; have := HJ20.out; first | omega | exact Nat.le_refl _⟩, ⟨by (with_reducible repeat (first | apply Kd.R_alloc | apply Kd.R_drewN | apply Kd.R_drew)); exact HO_9.out⟩, ⟨by (with_reducible repeat (first | apply Kd.R_alloc | apply Kd.R_drewN | apply Kd.R_drew)); exact HO_615000.out⟩, ⟨by (with_reducible repeat (first | apply Kd.S_alloc | apply Kd.S_drewN | apply Kd.S_drew)); exact HO_615001.out⟩, ⟨by (with_reducible repeat (first | refine blk_drewN ?_ _ | refine blk_drew ?_ | refine blk_alloc ?_ _)); exact BK611.out⟩, ⟨by (with_reducible repeat (first | refine blk_drewN ?_ _ | refine blk_drew ?_ | refine blk_alloc ?_ _)); exact BK612.out⟩, ⟨by (with_reducible repeat (first | refine blk_drewN ?_ _ | refine blk_drew ?_ | refine blk_alloc ?_ _)); exact BK613.out⟩, ⟨by (with_reducible repeat (first | refine blk_drewN ?_ _ | refine blk_drew ?_ | refine blk_alloc ?_ _)); exact BK614.out⟩, ⟨by repeat (first | (with_reducible first | exact HB.out | apply below_alloc | apply pw_below_drewN | apply below_drew1 | refine below_set ?_ GE611.out | refine below_set ?_ GE612.out | refine below_set ?_ GE613.out | refine below_set ?_ GE614.out) | exact HB.out)⟩⟩
          case rest =>
           clear HC23
           try clear c1
           try clear c2
           try clear p2
           try clear c3
           try clear c4
           try clear c6
           try clear p6
           try clear q6
           try clear hx6
           try clear c7
           try clear c9
           try clear c12
           try clear c13
           try clear c14
           try clear c16
           try clear c16b0
           try clear c19
           try clear c19b0
           try clear c22
           try clear c22b0
           try clear c24
           try clear c25
           try clear c25b0
           try clear c26
           try clear c26b0
           try clear c27
           try clear c27b0
           try clear c28
           try clear c28b0
           try clear c29
           try clear c30
           try clear c31
           try clear c33
           try clear c33b0
           try clear c34
           try clear c34b0
           try clear c36
           try clear c36b0
           try clear c37
           try clear c37b0
           try clear c39
           try clear c39b0
           try clear c40
           try clear c40b0
           try clear c41
           try clear c42
           try clear c43
           try clear hcz10_0
           try clear hcz10_1
           try clear hcz15_0
           try clear hcz15_1
           try clear hcz32_0
           try clear hcz32_1
           try clear hcz44_0
           try clear hcz44_1
           try clear hcz8_0
           try clear hcz8_1
           try clear hfz10_0
           try clear hfz10_1
           try clear hfz15_0
           try clear hfz15_1
           try clear hfz32_0
           try clear hfz32_1
           try clear hfz44_0
           try clear hfz44_1
           try clear hfz8_0
           try clear hfz8_1
           try clear hx624_0
           try clear hx625_0
           try clear hx626_0
           try clear hx627_0
           try clear p2
           try clear p6
           try clear p624
           try clear p625
           try clear p626
           try clear p627
           try clear q624
           try clear q625
           try clear q626
           try clear q627
           obtain ⟨kq, x12_22, rfl, HA, HJ22, HO_9, HO_615000, HO_615001, BK611, BK612, BK613, BK614, HB⟩ := hcut
           cases kq with
           | zero => exact absurd HA.out (by simp [spec_stack.j3])
           | succ kj22 =>
            have H := HA.out
            clear HA
            simp only [spec_stack.j3] at H
            by_cases c45 : x9_2.length < 17592186044416
            ·rw [if_pos c45] at H
             have LMc45 := Aside0.mk c45
             clear c45
             obtain ⟨y628, hy628⟩ : ∃ y_ : List Int, y_ = (x9_2 ++ [x12_22]) := ⟨_, rfl⟩
             replace H : (if x8_1 < (wrap64 ((l0_0.length : Int) - 1)) then (if x11_2 ≥ (wrap64 ((l0_0.length : Int) - 1)) then ((spec_power.f kj22 x11_2).bind fun t631 => (spec_stack.l1 kj22 (wrap64 ((l0_0.length : Int) - 1)) (wrap64 ((wrap64 ((l0_0.length : Int) - 1)) + (l1_0.length : Int))) x8_1 y628 (wrap64 (x10_2 + t631)) (wrap64 (x11_2 + 1)) l0_0 l0_1 l1_0 l1_1 x615000_1 x615001_1)) else (if x11_2 < (wrap64 ((l0_0.length : Int) - 1)) then ((spec_below.f kj22 l0_0 x8_1 x11_2).bind fun t632 => (if t632 = true then ((spec_power.f kj22 x11_2).bind fun t633 => (spec_stack.l1 kj22 (wrap64 ((l0_0.length : Int) - 1)) (wrap64 ((wrap64 ((l0_0.length : Int) - 1)) + (l1_0.length : Int))) x8_1 y628 (wrap64 (x10_2 + t633)) (wrap64 (x11_2 + 1)) l0_0 l0_1 l1_0 l1_1 x615000_1 x615001_1)) else (if x8_1 ≥ (wrap64 ((l0_0.length : Int) - 1)) then (spec_stack.l1 kj22 (wrap64 ((l0_0.length : Int) - 1)) (wrap64 ((wrap64 ((l0_0.length : Int) - 1)) + (l1_0.length : Int))) x8_1 y628 x10_2 (wrap64 (x11_2 + 1)) l0_0 l0_1 l1_0 l1_1 x615000_1 x615001_1) else (spec_stack.l1 kj22 (wrap64 ((l0_0.length : Int) - 1)) (wrap64 ((wrap64 ((l0_0.length : Int) - 1)) + (l1_0.length : Int))) x8_1 y628 x10_2 (wrap64 (x11_2 + 1)) l0_0 l0_1 l1_0 l1_1 x615000_1 x615001_1)))) else (if x8_1 ≥ (wrap64 ((l0_0.length : Int) - 1)) then (spec_stack.l1 kj22 (wrap64 ((l0_0.length : Int) - 1)) (wrap64 ((wrap64 ((l0_0.length : Int) - 1)) + (l1_0.length : Int))) x8_1 y628 x10_2 (wrap64 (x11_2 + 1)) l0_0 l0_1 l1_0 l1_1 x615000_1 x615001_1) else (spec_stack.l1 kj22 (wrap64 ((l0_0.length : Int) - 1)) (wrap64 ((wrap64 ((l0_0.length : Int) - 1)) + (l1_0.length : Int))) x8_1 y628 x10_2 (wrap64 (x11_2 + 1)) l0_0 l0_1 l1_0 l1_1 x615000_1 x615001_1)))) else (if x8_1 ≥ (wrap64 ((l0_0.length : Int) - 1)) then (if x11_2 ≥ (wrap64 ((l0_0.length : Int) - 1)) then ((spec_below.f kj22 l1_0 (wrap64 (x8_1 - (wrap64 ((l0_0.length : Int) - 1)))) (wrap64 (x11_2 - (wrap64 ((l0_0.length : Int) - 1))))).bind fun t634 => (if t634 = true then ((spec_power.f kj22 x11_2).bind fun t635 => (spec_stack.l1 kj22 (wrap64 ((l0_0.length : Int) - 1)) (wrap64 ((wrap64 ((l0_0.length : Int) - 1)) + (l1_0.length : Int))) x8_1 y628 (wrap64 (x10_2 + t635)) (wrap64 (x11_2 + 1)) l0_0 l0_1 l1_0 l1_1 x615000_1 x615001_1)) else (spec_stack.l1 kj22 (wrap64 ((l0_0.length : Int) - 1)) (wrap64 ((wrap64 ((l0_0.length : Int) - 1)) + (l1_0.length : Int))) x8_1 y628 x10_2 (wrap64 (x11_2 + 1)) l0_0 l0_1 l1_0 l1_1 x615000_1 x615001_1))) else (spec_stack.l1 kj22 (wrap64 ((l0_0.length : Int) - 1)) (wrap64 ((wrap64 ((l0_0.length : Int) - 1)) + (l1_0.length : Int))) x8_1 y628 x10_2 (wrap64 (x11_2 + 1)) l0_0 l0_1 l1_0 l1_1 x615000_1 x615001_1)) else (spec_stack.l1 kj22 (wrap64 ((l0_0.length : Int) - 1)) (wrap64 ((wrap64 ((l0_0.length : Int) - 1)) + (l1_0.length : Int))) x8_1 y628 x10_2 (wrap64 (x11_2 + 1)) l0_0 l0_1 l1_0 l1_1 x615000_1 x615001_1))) = some (r1, r2) := by first | (rw [hy628]; with_reducible exact H) | (have H2_ := (Option.bind_some _ _).symm.trans H; rw [hy628]; with_reducible exact H2_) | (have H2_ := (Option.bind_some _ _).symm.trans H; with_reducible exact H2_) | with_reducible exact H | (rw [hy628]; exact H) | exact H
             have Ny628 := Aside0.mk hy628
             clear hy628
             by_cases c46 : x8_1 < (wrap64 ((l0_0.length : Int) - 1))
             ·rw [if_pos c46] at H
              have c46b0 : decide (x8_1 < (wrap64 ((l0_0.length : Int) - 1))) = true := decide_eq_true c46
              clear c46
              by_cases c47 : x11_2 ≥ (wrap64 ((l0_0.length : Int) - 1))
              ·rw [if_pos c47] at H
               have c47b0 : decide ((wrap64 ((l0_0.length : Int) - 1)) ≤ x11_2) = true := decide_eq_true c47
               clear c47
               replace H := Option.bind_eq_some_iff.mp H
               obtain ⟨t631, A480, H⟩ := H
               replace H : (spec_stack.l1 kj22 (wrap64 ((l0_0.length : Int) - 1)) (wrap64 ((wrap64 ((l0_0.length : Int) - 1)) + (l1_0.length : Int))) x8_1 y628 (wrap64 (x10_2 + t631)) (wrap64 (x11_2 + 1)) l0_0 l0_1 l1_0 l1_1 x615000_1 x615001_1) = some (r1, r2) := H
               have A48 := Aside0.mk A480
               clear A480
               have H' := Aside0.mk H
               clear H
               as_aux_lemma =>
                go_wp2_with (first | ((with_reducible refine gate_builtin (b := .append) (xs := #[.tmp 75, .tmp 77]) rfl ?_); at_builtin; refine Kd.R_append (Kd.int .i64) (w0 := w) w.heap.size rfl (.tmp 75) (.tmp 77) 22 3 (.int .i64 0) 8 rfl Try.underlying22 info3 rfl (by decide) (by omega) u9 x9_2 x12_22 [.int .i64 x12_22] (fun k_ => some k_ ≠ (u615000 : Value).ownBlock) (fun _ => False) rfl rfl ?aP (fun _ hk => hk.elim) ?aF ?aO ?aB ?aS ?aL ?_; (case aP => exact rfl); (case aB => exact (by repeat (first | (with_reducible first | exact HB.out | apply below_alloc | apply pw_below_drewN | apply below_drew1 | refine below_set ?_ GE611.out | refine below_set ?_ GE612.out | refine below_set ?_ GE613.out | refine below_set ?_ GE614.out) | exact HB.out))); (case aF => exact (fun k_ hk => Kd.fresh' (Kd.R_lt (by (with_reducible repeat (first | apply Kd.R_alloc | apply Kd.R_drewN | apply Kd.R_drew)); exact HO_615000.out)) k_ hk)); (case aO => exact (by (with_reducible repeat (first | apply Kd.R_alloc | apply Kd.R_drewN | apply Kd.R_drew)); exact HO_9.out)); (case aS => exact (below_size (by repeat (first | (with_reducible first | exact HB.out | apply below_alloc | apply pw_below_drewN | apply below_drew1 | refine below_set ?_ GE611.out | refine below_set ?_ GE612.out | refine below_set ?_ GE613.out | refine below_set ?_ GE614.out) | exact HB.out)))); (case aL => have := LMc45.out; omega); intro v629 w49 ho hb hg hat; rw [← Ny628.out] at ho; have n0_ := Aside0.mk (Kd.R_after (ok := (fun _ => True)) (by (with_reducible repeat (first | apply Kd.R_alloc | apply Kd.R_drewN | apply Kd.R_drew)); exact Kd.R_mono HO_615000.out (fun _ hk => ⟨trivial, hk⟩)) hg hat); have n1_ := Aside0.mk (Kd.S_after (ok := (fun k_ => some k_ ≠ (u615000 : Value).ownBlock)) (by (with_reducible repeat (first | apply Kd.S_alloc | apply Kd.S_drewN | apply Kd.S_drew)); exact Kd.S_mono HO_615001.out (fun _ hk => ⟨hk.2, hk.1⟩)) hg hat); have n2_ := Aside0.mk (blk_grown (g := gb611) (o := .cells #[.slice A0_0 l0_0.length c0_0, .slice A0_1 l0_1.length c0_1] 25 (0, 0)) (by (with_reducible repeat (first | refine blk_drewN ?_ _ | refine blk_drew ?_ | refine blk_alloc ?_ _)); exact BK611.out) hg (Kd.R_ne HO_9.out BK611.out (by decide))); have n3_ := Aside0.mk (blk_grown (g := gb612) (o := .cells #[.slice A1_0 l1_0.length c1_0, .slice A1_1 l1_1.length c1_1] 25 (0, 0)) (by (with_reducible repeat (first | refine blk_drewN ?_ _ | refine blk_drew ?_ | refine blk_alloc ?_ _)); exact BK612.out) hg (Kd.R_ne HO_9.out BK612.out (by decide))); have n4_ := Aside0.mk (blk_grown (g := gb613) (o := .cells #[.slice none 0 0, .slice none 0 0] 25 (0, 0)) (by (with_reducible repeat (first | refine blk_drewN ?_ _ | refine blk_drew ?_ | refine blk_alloc ?_ _)); exact BK613.out) hg (Kd.R_ne HO_9.out BK613.out (by decide))); have n5_ := Aside0.mk (blk_grown (g := gb614) (o := .cells #[u615000, u615001] 25 (0, 0)) (by (with_reducible repeat (first | refine blk_drewN ?_ _ | refine blk_drew ?_ | refine blk_alloc ?_ _)); exact BK614.out) hg (Kd.R_ne HO_9.out BK614.out (by decide))); have n6_ := Aside0.mk (hb); have n7_ := Aside0.mk (ho); clear HO_615000; clear HO_615001; clear BK611; clear BK612; clear BK613; clear BK614; clear HB; clear HO_9; have HO_615000 := n0_; have HO_615001 := n1_; have BK611 := n2_; have BK612 := n3_; have BK613 := n4_; have BK614 := n5_; have HB := n6_; have HO630 := n7_; clear n0_ n1_ n2_ n3_ n4_ n5_ n6_ n7_; clear ho hb hg hat) | ((with_reducible refine gate_callee (f := 104) rfl ?_); refine goesL_ (some 127) rfl rfl Try.func104 (by kernel_rfl) rfl #[.int .i64 x11_2] rfl (by (try simp only [List.map_toArray, List.map_cons, List.map_nil]); first | done | rfl | (simp only [List.length_drop, List.length_take]; rfl)) ?_; (with_reducible refine (spec_power.calls kj22 x11_2 t631 _ A48.out).mono ?_); rintro e w' ⟨rfl, ⟨nd, rfl⟩⟩; refine ⟨_, rfl, ?_⟩))
                go_roundg kj22
                case measure => have := HK1.out; have := HK2.out; have := HJ20.out; have := HJ22.out; omega
                case rel => exact ⟨(y628), (wrap64 (x10_2 + t631)), (wrap64 (x11_2 + 1)), (by first | rfl | (simp; done) | (simp [*]; done)), (by first | rfl | (simp; done) | (simp [*]; done)), H', ⟨by have := HK1.out; have := HK2.out; have := HJ20.out; have := HJ22.out; omega⟩, ⟨by (with_reducible repeat (first | apply Kd.R_alloc | apply Kd.R_drewN | apply Kd.R_drew)); exact HO630.out⟩, ⟨by (with_reducible repeat (first | apply Kd.R_alloc | apply Kd.R_drewN | apply Kd.R_drew)); exact Kd.R_mono HO_615000.out (fun _ hk => hk.2)⟩, ⟨by (with_reducible repeat (first | apply Kd.S_alloc | apply Kd.S_drewN | apply Kd.S_drew)); exact Kd.S_mono HO_615001.out (fun _ hk => ⟨hk.2, hk.1⟩)⟩, ⟨by (with_reducible repeat (first | refine blk_drewN ?_ _ | refine blk_drew ?_ | refine blk_alloc ?_ _)); exact BK611.out⟩, ⟨by (with_reducible repeat (first | refine blk_drewN ?_ _ | refine blk_drew ?_ | refine blk_alloc ?_ _)); exact BK612.out⟩, ⟨by (with_reducible repeat (first | refine blk_drewN ?_ _ | refine blk_drew ?_ | refine blk_alloc ?_ _)); exact BK613.out⟩, ⟨by (with_reducible repeat (first | refine blk_drewN ?_ _ | refine blk_drew ?_ | refine blk_alloc ?_ _)); exact BK614.out⟩, ⟨by repeat (first | (with_reducible first | exact HB.out | apply below_alloc | apply pw_below_drewN | apply below_drew1 | refine below_set ?_ GE611.out | refine below_set ?_ GE612.out | refine below_set ?_ GE613.out | refine below_set ?_ GE614.out) | exact HB.out)⟩⟩
              ·rw [if_neg c47] at H
               have c47b0 : decide ((wrap64 ((l0_0.length : Int) - 1)) ≤ x11_2) = false := decide_eq_false c47
               clear c47
               by_cases c50 : x11_2 < (wrap64 ((l0_0.length : Int) - 1))
               ·rw [if_pos c50] at H
                have c50b0 : decide (x11_2 < (wrap64 ((l0_0.length : Int) - 1))) = true := decide_eq_true c50
                clear c50
                replace H := Option.bind_eq_some_iff.mp H
                obtain ⟨t632, A510, H⟩ := H
                replace H : (if t632 = true then ((spec_power.f kj22 x11_2).bind fun t633 => (spec_stack.l1 kj22 (wrap64 ((l0_0.length : Int) - 1)) (wrap64 ((wrap64 ((l0_0.length : Int) - 1)) + (l1_0.length : Int))) x8_1 y628 (wrap64 (x10_2 + t633)) (wrap64 (x11_2 + 1)) l0_0 l0_1 l1_0 l1_1 x615000_1 x615001_1)) else (if x8_1 ≥ (wrap64 ((l0_0.length : Int) - 1)) then (spec_stack.l1 kj22 (wrap64 ((l0_0.length : Int) - 1)) (wrap64 ((wrap64 ((l0_0.length : Int) - 1)) + (l1_0.length : Int))) x8_1 y628 x10_2 (wrap64 (x11_2 + 1)) l0_0 l0_1 l1_0 l1_1 x615000_1 x615001_1) else (spec_stack.l1 kj22 (wrap64 ((l0_0.length : Int) - 1)) (wrap64 ((wrap64 ((l0_0.length : Int) - 1)) + (l1_0.length : Int))) x8_1 y628 x10_2 (wrap64 (x11_2 + 1)) l0_0 l0_1 l1_0 l1_1 x615000_1 x615001_1))) = some (r1, r2) := H
                have A51 := Aside0.mk A510
                clear A510
                by_cases c52 : t632 = true
                ·subst c52
                 have H1 : ((spec_power.f kj22 x11_2).bind fun t633 => (spec_stack.l1 kj22 (wrap64 ((l0_0.length : Int) - 1)) (wrap64 ((wrap64 ((l0_0.length : Int) - 1)) + (l1_0.length : Int))) x8_1 y628 (wrap64 (x10_2 + t633)) (wrap64 (x11_2 + 1)) l0_0 l0_1 l1_0 l1_1 x615000_1 x615001_1)) = some (r1, r2) := by rw [if_pos rfl] at H; exact H
                 clear H
                 have H := H1
                 clear H1
                 replace H := Option.bind_eq_some_iff.mp H
                 obtain ⟨t633, A530, H⟩ := H
                 replace H : (spec_stack.l1 kj22 (wrap64 ((l0_0.length : Int) - 1)) (wrap64 ((wrap64 ((l0_0.length : Int) - 1)) + (l1_0.length : Int))) x8_1 y628 (wrap64 (x10_2 + t633)) (wrap64 (x11_2 + 1)) l0_0 l0_1 l1_0 l1_1 x615000_1 x615001_1) = some (r1, r2) := H
                 have A53 := Aside0.mk A530
                 clear A530
                 have H' := Aside0.mk H
                 clear H
                 as_aux_lemma =>
                  go_wp2_with (first | ((with_reducible refine gate_builtin (b := .append) (xs := #[.tmp 75, .tmp 77]) rfl ?_); at_builtin; refine Kd.R_append (Kd.int .i64) (w0 := w) w.heap.size rfl (.tmp 75) (.tmp 77) 22 3 (.int .i64 0) 8 rfl Try.underlying22 info3 rfl (by decide) (by omega) u9 x9_2 x12_22 [.int .i64 x12_22] (fun k_ => some k_ ≠ (u615000 : Value).ownBlock) (fun _ => False) rfl rfl ?aP (fun _ hk => hk.elim) ?aF ?aO ?aB ?aS ?aL ?_; (case aP => exact rfl); (case aB => exact (by repeat (first | (with_reducible first | exact HB.out | apply below_alloc | apply pw_below_drewN | apply below_drew1 | refine below_set ?_ GE611.out | refine below_set ?_ GE612.out | refine below_set ?_ GE613.out | refine below_set ?_ GE614.out) | exact HB.out))); (case aF => exact (fun k_ hk => Kd.fresh' (Kd.R_lt (by (with_reducible repeat (first | apply Kd.R_alloc | apply Kd.R_drewN | apply Kd.R_drew)); exact HO_615000.out)) k_ hk)); (case aO => exact (by (with_reducible repeat (first | apply Kd.R_alloc | apply Kd.R_drewN | apply Kd.R_drew)); exact HO_9.out)); (case aS => exact (below_size (by repeat (first | (with_reducible first | exact HB.out | apply below_alloc | apply pw_below_drewN | apply below_drew1 | refine below_set ?_ GE611.out | refine below_set ?_ GE612.out | refine below_set ?_ GE613.out | refine below_set ?_ GE614.out) | exact HB.out)))); (case aL => have := LMc45.out; omega); intro v629 w54 ho hb hg hat; rw [← Ny628.out] at ho; have n0_ := Aside0.mk (Kd.R_after (ok := (fun _ => True)) (by (with_reducible repeat (first | apply Kd.R_alloc | apply Kd.R_drewN | apply Kd.R_drew)); exact Kd.R_mono HO_615000.out (fun _ hk => ⟨trivial, hk⟩)) hg hat); have n1_ := Aside0.mk (Kd.S_after (ok := (fun k_ => some k_ ≠ (u615000 : Value).ownBlock)) (by (with_reducible repeat (first | apply Kd.S_alloc | apply Kd.S_drewN | apply Kd.S_drew)); exact Kd.S_mono HO_615001.out (fun _ hk => ⟨hk.2, hk.1⟩)) hg hat); have n2_ := Aside0.mk (blk_grown (g := gb611) (o := .cells #[.slice A0_0 l0_0.length c0_0, .slice A0_1 l0_1.length c0_1] 25 (0, 0)) (by (with_reducible repeat (first | refine blk_drewN ?_ _ | refine blk_drew ?_ | refine blk_alloc ?_ _)); exact BK611.out) hg (Kd.R_ne HO_9.out BK611.out (by decide))); have n3_ := Aside0.mk (blk_grown (g := gb612) (o := .cells #[.slice A1_0 l1_0.length c1_0, .slice A1_1 l1_1.length c1_1] 25 (0, 0)) (by (with_reducible repeat (first | refine blk_drewN ?_ _ | refine blk_drew ?_ | refine blk_alloc ?_ _)); exact BK612.out) hg (Kd.R_ne HO_9.out BK612.out (by decide))); have n4_ := Aside0.mk (blk_grown (g := gb613) (o := .cells #[.slice none 0 0, .slice none 0 0] 25 (0, 0)) (by (with_reducible repeat (first | refine blk_drewN ?_ _ | refine blk_drew ?_ | refine blk_alloc ?_ _)); exact BK613.out) hg (Kd.R_ne HO_9.out BK613.out (by decide))); have n5_ := Aside0.mk (blk_grown (g := gb614) (o := .cells #[u615000, u615001] 25 (0, 0)) (by (with_reducible repeat (first | refine blk_drewN ?_ _ | refine blk_drew ?_ | refine blk_alloc ?_ _)); exact BK614.out) hg (Kd.R_ne HO_9.out BK614.out (by decide))); have n6_ := Aside0.mk (hb); have n7_ := Aside0.mk (ho); clear HO_615000; clear HO_615001; clear BK611; clear BK612; clear BK613; clear BK614; clear HB; clear HO_9; have HO_615000 := n0_; have HO_615001 := n1_; have BK611 := n2_; have BK612 := n3_; have BK613 := n4_; have BK614 := n5_; have HB := n6_; have HO630 := n7_; clear n0_ n1_ n2_ n3_ n4_ n5_ n6_ n7_; clear ho hb hg hat; have hnb55 := NB611_612.out; have hnc55 := NB612_611.out; have hnb56 := NB611_613.out; have hnc56 := NB613_611.out; have hnb57 := NB611_614.out; have hnc57 := NB614_611.out; have hcz58_0 : w54.cell? ⟨gb611, 0, none⟩ = some (.slice A0_0 l0_0.length c0_0) := (blk_cell BK611.out 0).trans rfl; have hcz58_1 : w54.cell? ⟨gb611, 1, none⟩ = some (.slice A0_1 l0_1.length c0_1) := (blk_cell BK611.out 1).trans rfl; have hfz58_0 := blk_frozen BK611.out 0; have hfz58_1 := blk_frozen BK611.out 1) | (go_at_call 103; (with_reducible refine (spec_below.calls kj22 _ _ l0_0 x8_1 x11_2 true _ ?side1 ?side2 A51.out).mono ?_); (case side1 => repeat (first | exact (Kd.C_below HR0_0.out HB.out) | (with_reducible refine Kd.C_alloc ?_ _) | (with_reducible refine Kd.C_drewN ?_ _) | (with_reducible refine Kd.C_drew ?_))); (case side2 => exact HC0_0.out); rintro e w' ⟨rfl, ⟨nd, rfl⟩⟩) | ((with_reducible refine gate_callee (f := 104) rfl ?_); refine goesL_ (some 127) rfl rfl Try.func104 (by kernel_rfl) rfl #[.int .i64 x11_2] rfl (by (try simp only [List.map_toArray, List.map_cons, List.map_nil]); first | done | rfl | (simp only [List.length_drop, List.length_take]; rfl)) ?_; (with_reducible refine (spec_power.calls kj22 x11_2 t633 _ A53.out).mono ?_); rintro e w' ⟨rfl, ⟨nd, rfl⟩⟩; refine ⟨_, rfl, ?_⟩))
                  go_roundg kj22
                  case measure => have := HK1.out; have := HK2.out; have := HJ20.out; have := HJ22.out; omega
                  case rel => exact ⟨(y628), (wrap64 (x10_2 + t633)), (wrap64 (x11_2 + 1)), (by first | rfl | (simp; done) | (simp [*]; done)), (by first | rfl | (simp; done) | (simp [*]; done)), H', ⟨by have := HK1.out; have := HK2.out; have := HJ20.out; have := HJ22.out; omega⟩, ⟨by (with_reducible repeat (first | apply Kd.R_alloc | apply Kd.R_drewN | apply Kd.R_drew)); exact HO630.out⟩, ⟨by (with_reducible repeat (first | apply Kd.R_alloc | apply Kd.R_drewN | apply Kd.R_drew)); exact Kd.R_mono HO_615000.out (fun _ hk => hk.2)⟩, ⟨by (with_reducible repeat (first | apply Kd.S_alloc | apply Kd.S_drewN | apply Kd.S_drew)); exact Kd.S_mono HO_615001.out (fun _ hk => ⟨hk.2, hk.1⟩)⟩, ⟨by (with_reducible repeat (first | refine blk_drewN ?_ _ | refine blk_drew ?_ | refine blk_alloc ?_ _)); exact BK611.out⟩, ⟨by (with_reducible repeat (first | refine blk_drewN ?_ _ | refine blk_drew ?_ | refine blk_alloc ?_ _)); exact BK612.out⟩, ⟨by (with_reducible repeat (first | refine blk_drewN ?_ _ | refine blk_drew ?_ | refine blk_alloc ?_ _)); exact BK613.out⟩, ⟨by (with_reducible repeat (first | refine blk_drewN ?_ _ | refine blk_drew ?_ | refine blk_alloc ?_ _)); exact BK614.out⟩, ⟨by repeat (first | (with_reducible first | exact HB.out | apply below_alloc | apply pw_below_drewN | apply below_drew1 | refine below_set ?_ GE611.out | refine below_set ?_ GE612.out | refine below_set ?_ GE613.out | refine below_set ?_ GE614.out) | exact HB.out)⟩⟩
                ·replace c52 := Bool.eq_false_iff.mpr c52
                 subst c52
                 have H1 : (if x8_1 ≥ (wrap64 ((l0_0.length : Int) - 1)) then (spec_stack.l1 kj22 (wrap64 ((l0_0.length : Int) - 1)) (wrap64 ((wrap64 ((l0_0.length : Int) - 1)) + (l1_0.length : Int))) x8_1 y628 x10_2 (wrap64 (x11_2 + 1)) l0_0 l0_1 l1_0 l1_1 x615000_1 x615001_1) else (spec_stack.l1 kj22 (wrap64 ((l0_0.length : Int) - 1)) (wrap64 ((wrap64 ((l0_0.length : Int) - 1)) + (l1_0.length : Int))) x8_1 y628 x10_2 (wrap64 (x11_2 + 1)) l0_0 l0_1 l1_0 l1_1 x615000_1 x615001_1)) = some (r1, r2) := by rw [if_neg (show ¬ (false = true) by decide)] at H; exact H
                 clear H
                 have H := H1
                 clear H1
                 by_cases c59 : x8_1 ≥ (wrap64 ((l0_0.length : Int) - 1))
                 ·rw [if_pos c59] at H
                  have c59b0 : decide ((wrap64 ((l0_0.length : Int) - 1)) ≤ x8_1) = true := decide_eq_true c59
                  clear c59
                  have H' := Aside0.mk H
                  clear H
                  as_aux_lemma =>
                   go_wp2_with (first | ((with_reducible refine gate_builtin (b := .append) (xs := #[.tmp 75, .tmp 77]) rfl ?_); at_builtin; refine Kd.R_append (Kd.int .i64) (w0 := w) w.heap.size rfl (.tmp 75) (.tmp 77) 22 3 (.int .i64 0) 8 rfl Try.underlying22 info3 rfl (by decide) (by omega) u9 x9_2 x12_22 [.int .i64 x12_22] (fun k_ => some k_ ≠ (u615000 : Value).ownBlock) (fun _ => False) rfl rfl ?aP (fun _ hk => hk.elim) ?aF ?aO ?aB ?aS ?aL ?_; (case aP => exact rfl); (case aB => exact (by repeat (first | (with_reducible first | exact HB.out | apply below_alloc | apply pw_below_drewN | apply below_drew1 | refine below_set ?_ GE611.out | refine below_set ?_ GE612.out | refine below_set ?_ GE613.out | refine below_set ?_ GE614.out) | exact HB.out))); (case aF => exact (fun k_ hk => Kd.fresh' (Kd.R_lt (by (with_reducible repeat (first | apply Kd.R_alloc | apply Kd.R_drewN | apply Kd.R_drew)); exact HO_615000.out)) k_ hk)); (case aO => exact (by (with_reducible repeat (first | apply Kd.R_alloc | apply Kd.R_drewN | apply Kd.R_drew)); exact HO_9.out)); (case aS => exact (below_size (by repeat (first | (with_reducible first | exact HB.out | apply below_alloc | apply pw_below_drewN | apply below_drew1 | refine below_set ?_ GE611.out | refine below_set ?_ GE612.out | refine below_set ?_ GE613.out | refine below_set ?_ GE614.out) | exact HB.out)))); (case aL => have := LMc45.out; omega); intro v629 w60 ho hb hg hat; rw [← Ny628.out] at ho; have n0_ := Aside0.mk (Kd.R_after (ok := (fun _ => True)) (by (with_reducible repeat (first | apply Kd.R_alloc | apply Kd.R_drewN | apply Kd.R_drew)); exact Kd.R_mono HO_615000.out (fun _ hk => ⟨trivial, hk⟩)) hg hat); have n1_ := Aside0.mk (Kd.S_after (ok := (fun k_ => some k_ ≠ (u615000 : Value).ownBlock)) (by (with_reducible repeat (first | apply Kd.S_alloc | apply Kd.S_drewN | apply Kd.S_drew)); exact Kd.S_mono HO_615001.out (fun _ hk => ⟨hk.2, hk.1⟩)) hg hat); have n2_ := Aside0.mk (blk_grown (g := gb611) (o := .cells #[.slice A0_0 l0_0.length c0_0, .slice A0_1 l0_1.length c0_1] 25 (0, 0)) (by (with_reducible repeat (first | refine blk_drewN ?_ _ | refine blk_drew ?_ | refine blk_alloc ?_ _)); exact BK611.out) hg (Kd.R_ne HO_9.out BK611.out (by decide))); have n3_ := Aside0.mk (blk_grown (g := gb612) (o := .cells #[.slice A1_0 l1_0.length c1_0, .slice A1_1 l1_1.length c1_1] 25 (0, 0)) (by (with_reducible repeat (first | refine blk_drewN ?_ _ | refine blk_drew ?_ | refine blk_alloc ?_ _)); exact BK612.out) hg (Kd.R_ne HO_9.out BK612.out (by decide))); have n4_ := Aside0.mk (blk_grown (g := gb613) (o := .cells #[.slice none 0 0, .slice none 0 0] 25 (0, 0)) (by (with_reducible repeat (first | refine blk_drewN ?_ _ | refine blk_drew ?_ | refine blk_alloc ?_ _)); exact BK613.out) hg (Kd.R_ne HO_9.out BK613.out (by decide))); have n5_ := Aside0.mk (blk_grown (g := gb614) (o := .cells #[u615000, u615001] 25 (0, 0)) (by (with_reducible repeat (first | refine blk_drewN ?_ _ | refine blk_drew ?_ | refine blk_alloc ?_ _)); exact BK614.out) hg (Kd.R_ne HO_9.out BK614.out (by decide))); have n6_ := Aside0.mk (hb); have n7_ := Aside0.mk (ho); clear HO_615000; clear HO_615001; clear BK611; clear BK612; clear BK613; clear BK614; clear HB; clear HO_9; have HO_615000 := n0_; have HO_615001 := n1_; have BK611 := n2_; have BK612 := n3_; have BK613 := n4_; have BK614 := n5_; have HB := n6_; have HO630 := n7_; clear n0_ n1_ n2_ n3_ n4_ n5_ n6_ n7_; clear ho hb hg hat; have hnb61 := NB611_612.out; have hnc61 := NB612_611.out; have hnb62 := NB611_613.out; have hnc62 := NB613_611.out; have hnb63 := NB611_614.out; have hnc63 := NB614_611.out; have hcz64_0 : w60.cell? ⟨gb611, 0, none⟩ = some (.slice A0_0 l0_0.length c0_0) := (blk_cell BK611.out 0).trans rfl; have hcz64_1 : w60.cell? ⟨gb611, 1, none⟩ = some (.slice A0_1 l0_1.length c0_1) := (blk_cell BK611.out 1).trans rfl; have hfz64_0 := blk_frozen BK611.out 0; have hfz64_1 := blk_frozen BK611.out 1) | (go_at_call 103; (with_reducible refine (spec_below.calls kj22 _ _ l0_0 x8_1 x11_2 false _ ?side1 ?side2 A51.out).mono ?_); (case side1 => repeat (first | exact (Kd.C_below HR0_0.out HB.out) | (with_reducible refine Kd.C_alloc ?_ _) | (with_reducible refine Kd.C_drewN ?_ _) | (with_reducible refine Kd.C_drew ?_))); (case side2 => exact HC0_0.out); rintro e w' ⟨rfl, ⟨nd, rfl⟩⟩))
                   go_roundg kj22
                   case measure => have := HK1.out; have := HK2.out; have := HJ20.out; have := HJ22.out; omega
                   case rel => exact ⟨(y628), (x10_2), (wrap64 (x11_2 + 1)), (by first | rfl | (simp; done) | (simp [*]; done)), (by first | rfl | (simp; done) | (simp [*]; done)), H', ⟨by have := HK1.out; have := HK2.out; have := HJ20.out; have := HJ22.out; omega⟩, ⟨by (with_reducible repeat (first | apply Kd.R_alloc | apply Kd.R_drewN | apply Kd.R_drew)); exact HO630.out⟩, ⟨by (with_reducible repeat (first | apply Kd.R_alloc | apply Kd.R_drewN | apply Kd.R_drew)); exact Kd.R_mono HO_615000.out (fun _ hk => hk.2)⟩, ⟨by (with_reducible repeat (first | apply Kd.S_alloc | apply Kd.S_drewN | apply Kd.S_drew)); exact Kd.S_mono HO_615001.out (fun _ hk => ⟨hk.2, hk.1⟩)⟩, ⟨by (with_reducible repeat (first | refine blk_drewN ?_ _ | refine blk_drew ?_ | refine blk_alloc ?_ _)); exact BK611.out⟩, ⟨by (with_reducible repeat (first | refine blk_drewN ?_ _ | refine blk_drew ?_ | refine blk_alloc ?_ _)); exact BK612.out⟩, ⟨by (with_reducible repeat (first | refine blk_drewN ?_ _ | refine blk_drew ?_ | refine blk_alloc ?_ _)); exact BK613.out⟩, ⟨by (with_reducible repeat (first | refine blk_drewN ?_ _ | refine blk_drew ?_ | refine blk_alloc ?_ _)); exact BK614.out⟩, ⟨by repeat (first | (with_reducible first | exact HB.out | apply below_alloc | apply pw_below_drewN | apply below_drew1 | refine below_set ?_ GE611.out | refine below_set ?_ GE612.out | refine below_set ?_ GE613.out | refine below_set ?_ GE614.out) | exact HB.out)⟩⟩
                 ·rw [if_neg c59] at H
                  have c59b0 : decide ((wrap64 ((l0_0.length : Int) - 1)) ≤ x8_1) = false := decide_eq_false c59
                  clear c59
                  have H' := Aside0.mk H
                  clear H
                  as_aux_lemma =>
                   go_wp2_with (first | ((with_reducible refine gate_builtin (b := .append) (xs := #[.tmp 75, .tmp 77]) rfl ?_); at_builtin; refine Kd.R_append (Kd.int .i64) (w0 := w) w.heap.size rfl (.tmp 75) (.tmp 77) 22 3 (.int .i64 0) 8 rfl Try.underlying22 info3 rfl (by decide) (by omega) u9 x9_2 x12_22 [.int .i64 x12_22] (fun k_ => some k_ ≠ (u615000 : Value).ownBlock) (fun _ => False) rfl rfl ?aP (fun _ hk => hk.elim) ?aF ?aO ?aB ?aS ?aL ?_; (case aP => exact rfl); (case aB => exact (by repeat (first | (with_reducible first | exact HB.out | apply below_alloc | apply pw_below_drewN | apply below_drew1 | refine below_set ?_ GE611.out | refine below_set ?_ GE612.out | refine below_set ?_ GE613.out | refine below_set ?_ GE614.out) | exact HB.out))); (case aF => exact (fun k_ hk => Kd.fresh' (Kd.R_lt (by (with_reducible repeat (first | apply Kd.R_alloc | apply Kd.R_drewN | apply Kd.R_drew)); exact HO_615000.out)) k_ hk)); (case aO => exact (by (with_reducible repeat (first | apply Kd.R_alloc | apply Kd.R_drewN | apply Kd.R_drew)); exact HO_9.out)); (case aS => exact (below_size (by repeat (first | (with_reducible first | exact HB.out | apply below_alloc | apply pw_below_drewN | apply below_drew1 | refine below_set ?_ GE611.out | refine below_set ?_ GE612.out | refine below_set ?_ GE613.out | refine below_set ?_ GE614.out) | exact HB.out)))); (case aL => have := LMc45.out; omega); intro v629 w65 ho hb hg hat; rw [← Ny628.out] at ho; have n0_ := Aside0.mk (Kd.R_after (ok := (fun _ => True)) (by (with_reducible repeat (first | apply Kd.R_alloc | apply Kd.R_drewN | apply Kd.R_drew)); exact Kd.R_mono HO_615000.out (fun _ hk => ⟨trivial, hk⟩)) hg hat); have n1_ := Aside0.mk (Kd.S_after (ok := (fun k_ => some k_ ≠ (u615000 : Value).ownBlock)) (by (with_reducible repeat (first | apply Kd.S_alloc | apply Kd.S_drewN | apply Kd.S_drew)); exact Kd.S_mono HO_615001.out (fun _ hk => ⟨hk.2, hk.1⟩)) hg hat); have n2_ := Aside0.mk (blk_grown (g := gb611) (o := .cells #[.slice A0_0 l0_0.length c0_0, .slice A0_1 l0_1.length c0_1] 25 (0, 0)) (by (with_reducible repeat (first | refine blk_drewN ?_ _ | refine blk_drew ?_ | refine blk_alloc ?_ _)); exact BK611.out) hg (Kd.R_ne HO_9.out BK611.out (by decide))); have n3_ := Aside0.mk (blk_grown (g := gb612) (o := .cells #[.slice A1_0 l1_0.length c1_0, .slice A1_1 l1_1.length c1_1] 25 (0, 0)) (by (with_reducible repeat (first | refine blk_drewN ?_ _ | refine blk_drew ?_ | refine blk_alloc ?_ _)); exact BK612.out) hg (Kd.R_ne HO_9.out BK612.out (by decide))); have n4_ := Aside0.mk (blk_grown (g := gb613) (o := .cells #[.slice none 0 0, .slice none 0 0] 25 (0, 0)) (by (with_reducible repeat (first | refine blk_drewN ?_ _ | refine blk_drew ?_ | refine blk_alloc ?_ _)); exact BK613.out) hg (Kd.R_ne HO_9.out BK613.out (by decide))); have n5_ := Aside0.mk (blk_grown (g := gb614) (o := .cells #[u615000, u615001] 25 (0, 0)) (by (with_reducible repeat (first | refine blk_drewN ?_ _ | refine blk_drew ?_ | refine blk_alloc ?_ _)); exact BK614.out) hg (Kd.R_ne HO_9.out BK614.out (by decide))); have n6_ := Aside0.mk (hb); have n7_ := Aside0.mk (ho); clear HO_615000; clear HO_615001; clear BK611; clear BK612; clear BK613; clear BK614; clear HB; clear HO_9; have HO_615000 := n0_; have HO_615001 := n1_; have BK611 := n2_; have BK612 := n3_; have BK613 := n4_; have BK614 := n5_; have HB := n6_; have HO630 := n7_; clear n0_ n1_ n2_ n3_ n4_ n5_ n6_ n7_; clear ho hb hg hat; have hnb66 := NB611_612.out; have hnc66 := NB612_611.out; have hnb67 := NB611_613.out; have hnc67 := NB613_611.out; have hnb68 := NB611_614.out; have hnc68 := NB614_611.out; have hcz69_0 : w65.cell? ⟨gb611, 0, none⟩ = some (.slice A0_0 l0_0.length c0_0) := (blk_cell BK611.out 0).trans rfl; have hcz69_1 : w65.cell? ⟨gb611, 1, none⟩ = some (.slice A0_1 l0_1.length c0_1) := (blk_cell BK611.out 1).trans rfl; have hfz69_0 := blk_frozen BK611.out 0; have hfz69_1 := blk_frozen BK611.out 1) | (go_at_call 103; (with_reducible refine (spec_below.calls kj22 _ _ l0_0 x8_1 x11_2 false _ ?side1 ?side2 A51.out).mono ?_); (case side1 => repeat (first | exact (Kd.C_below HR0_0.out HB.out) | (with_reducible refine Kd.C_alloc ?_ _) | (with_reducible refine Kd.C_drewN ?_ _) | (with_reducible refine Kd.C_drew ?_))); (case side2 => exact HC0_0.out); rintro e w' ⟨rfl, ⟨nd, rfl⟩⟩))
                   go_roundg kj22
                   case measure => have := HK1.out; have := HK2.out; have := HJ20.out; have := HJ22.out; omega
                   case rel => exact ⟨(y628), (x10_2), (wrap64 (x11_2 + 1)), (by first | rfl | (simp; done) | (simp [*]; done)), (by first | rfl | (simp; done) | (simp [*]; done)), H', ⟨by have := HK1.out; have := HK2.out; have := HJ20.out; have := HJ22.out; omega⟩, ⟨by (with_reducible repeat (first | apply Kd.R_alloc | apply Kd.R_drewN | apply Kd.R_drew)); exact HO630.out⟩, ⟨by (with_reducible repeat (first | apply Kd.R_alloc | apply Kd.R_drewN | apply Kd.R_drew)); exact Kd.R_mono HO_615000.out (fun _ hk => hk.2)⟩, ⟨by (with_reducible repeat (first | apply Kd.S_alloc | apply Kd.S_drewN | apply Kd.S_drew)); exact Kd.S_mono HO_615001.out (fun _ hk => ⟨hk.2, hk.1⟩)⟩, ⟨by (with_reducible repeat (first | refine blk_drewN ?_ _ | refine blk_drew ?_ | refine blk_alloc ?_ _)); exact BK611.out⟩, ⟨by (with_reducible repeat (first | refine blk_drewN ?_ _ | refine blk_drew ?_ | refine blk_alloc ?_ _)); exact BK612.out⟩, ⟨by (with_reducible repeat (first | refine blk_drewN ?_ _ | refine blk_drew ?_ | refine blk_alloc ?_ _)); exact BK613.out⟩, ⟨by (with_reducible repeat (first | refine blk_drewN ?_ _ | refine blk_drew ?_ | refine blk_alloc ?_ _)); exact BK614.out⟩, ⟨by repeat (first | (with_reducible first | exact HB.out | apply below_alloc | apply pw_below_drewN | apply below_drew1 | refine below_set ?_ GE611.out | refine below_set ?_ GE612.out | refine below_set ?_ GE613.out | refine below_set ?_ GE614.out) | exact HB.out)⟩⟩
               ·rw [if_neg c50] at H
                have c50b0 : decide (x11_2 < (wrap64 ((l0_0.length : Int) - 1))) = false := decide_eq_false c50
                clear c50
                by_cases c70 : x8_1 ≥ (wrap64 ((l0_0.length : Int) - 1))
                ·rw [if_pos c70] at H
                 have c70b0 : decide ((wrap64 ((l0_0.length : Int) - 1)) ≤ x8_1) = true := decide_eq_true c70
                 clear c70
                 have H' := Aside0.mk H
                 clear H
                 as_aux_lemma =>
                  go_wp2_with (first | ((with_reducible refine gate_builtin (b := .append) (xs := #[.tmp 75, .tmp 77]) rfl ?_); at_builtin; refine Kd.R_append (Kd.int .i64) (w0 := w) w.heap.size rfl (.tmp 75) (.tmp 77) 22 3 (.int .i64 0) 8 rfl Try.underlying22 info3 rfl (by decide) (by omega) u9 x9_2 x12_22 [.int .i64 x12_22] (fun k_ => some k_ ≠ (u615000 : Value).ownBlock) (fun _ => False) rfl rfl ?aP (fun _ hk => hk.elim) ?aF ?aO ?aB ?aS ?aL ?_; (case aP => exact rfl); (case aB => exact (by repeat (first | (with_reducible first | exact HB.out | apply below_alloc | apply pw_below_drewN | apply below_drew1 | refine below_set ?_ GE611.out | refine below_set ?_ GE612.out | refine below_set ?_ GE613.out | refine below_set ?_ GE614.out) | exact HB.out))); (case aF => exact (fun k_ hk => Kd.fresh' (Kd.R_lt (by (with_reducible repeat (first | apply Kd.R_alloc | apply Kd.R_drewN | apply Kd.R_drew)); exact HO_615000.out)) k_ hk)); (case aO => exact (by (with_reducible repeat (first | apply Kd.R_alloc | apply Kd.R_drewN | apply Kd.R_drew)); exact HO_9.out)); (case aS => exact (below_size (by repeat (first | (with_reducible first | exact HB.out | apply below_alloc | apply pw_below_drewN | apply below_drew1 | refine below_set ?_ GE611.out | refine below_set ?_ GE612.out | refine below_set ?_ GE613.out | refine below_set ?_ GE614.out) | exact HB.out)))); (case aL => have := LMc45.out; omega); intro v629 w71 ho hb hg hat; rw [← Ny628.out] at ho; have n0_ := Aside0.mk (Kd.R_after (ok := (fun _ => True)) (by (with_reducible repeat (first | apply Kd.R_alloc | apply Kd.R_drewN | apply Kd.R_drew)); exact Kd.R_mono HO_615000.out (fun _ hk => ⟨trivial, hk⟩)) hg hat); have n1_ := Aside0.mk (Kd.S_after (ok := (fun k_ => some k_ ≠ (u615000 : Value).ownBlock)) (by (with_reducible repeat (first | apply Kd.S_alloc | apply Kd.S_drewN | apply Kd.S_drew)); exact Kd.S_mono HO_615001.out (fun _ hk => ⟨hk.2, hk.1⟩)) hg hat); have n2_ := Aside0.mk (blk_grown (g := gb611) (o := .cells #[.slice A0_0 l0_0.length c0_0, .slice A0_1 l0_1.length c0_1] 25 (0, 0)) (by (with_reducible repeat (first | refine blk_drewN ?_ _ | refine blk_drew ?_ | refine blk_alloc ?_ _)); exact BK611.out) hg (Kd.R_ne HO_9.out BK611.out (by decide))); have n3_ := Aside0.mk (blk_grown (g := gb612) (o := .cells #[.slice A1_0 l1_0.length c1_0, .slice A1_1 l1_1.length c1_1] 25 (0, 0)) (by (with_reducible repeat (first | refine blk_drewN ?_ _ | refine blk_drew ?_ | refine blk_alloc ?_ _)); exact BK612.out) hg (Kd.R_ne HO_9.out BK612.out (by decide))); have n4_ := Aside0.mk (blk_grown (g := gb613) (o := .cells #[.slice none 0 0, .slice none 0 0] 25 (0, 0)) (by (with_reducible repeat (first | refine blk_drewN ?_ _ | refine blk_drew ?_ | refine blk_alloc ?_ _)); exact BK613.out) hg (Kd.R_ne HO_9.out BK613.out (by decide))); have n5_ := Aside0.mk (blk_grown (g := gb614) (o := .cells #[u615000, u615001] 25 (0, 0)) (by (with_reducible repeat (first | refine blk_drewN ?_ _ | refine blk_drew ?_ | refine blk_alloc ?_ _)); exact BK614.out) hg (Kd.R_ne HO_9.out BK614.out (by decide))); have n6_ := Aside0.mk (hb); have n7_ := Aside0.mk (ho); clear HO_615000; clear HO_615001; clear BK611; clear BK612; clear BK613; clear BK614; clear HB; clear HO_9; have HO_615000 := n0_; have HO_615001 := n1_; have BK611 := n2_; have BK612 := n3_; have BK613 := n4_; have BK614 := n5_; have HB := n6_; have HO630 := n7_; clear n0_ n1_ n2_ n3_ n4_ n5_ n6_ n7_; clear ho hb hg hat))
                  go_roundg kj22
                  case measure => have := HK1.out; have := HK2.out; have := HJ20.out; have := HJ22.out; omega
                  case rel => exact ⟨(y628), (x10_2), (wrap64 (x11_2 + 1)), (by first | rfl | (simp; done) | (simp [*]; done)), (by first | rfl | (simp; done) | (simp [*]; done)), H', ⟨by have := HK1.out; have := HK2.out; have := HJ20.out; have := HJ22.out; omega⟩, ⟨by (with_reducible repeat (first | apply Kd.R_alloc | apply Kd.R_drewN | apply Kd.R_drew)); exact HO630.out⟩, ⟨by (with_reducible repeat (first | apply Kd.R_alloc | apply Kd.R_drewN | apply Kd.R_drew)); exact Kd.R_mono HO_615000.out (fun _ hk => hk.2)⟩, ⟨by (with_reducible repeat (first | apply Kd.S_alloc | apply Kd.S_drewN | apply Kd.S_drew)); exact Kd.S_mono HO_615001.out (fun _ hk => ⟨hk.2, hk.1⟩)⟩, ⟨by (with_reducible repeat (first | refine blk_drewN ?_ _ | refine blk_drew ?_ | refine blk_alloc ?_ _)); exact BK611.out⟩, ⟨by (with_reducible repeat (first | refine blk_drewN ?_ _ | refine blk_drew ?_ | refine blk_alloc ?_ _)); exact BK612.out⟩, ⟨by (with_reducible repeat (first | refine blk_drewN ?_ _ | refine blk_drew ?_ | refine blk_alloc ?_ _)); exact BK613.out⟩, ⟨by (with_reducible repeat (first | refine blk_drewN ?_ _ | refine blk_drew ?_ | refine blk_alloc ?_ _)); exact BK614.out⟩, ⟨by repeat (first | (with_reducible first | exact HB.out | apply below_alloc | apply pw_below_drewN | apply below_drew1 | refine below_set ?_ GE611.out | refine below_set ?_ GE612.out | refine below_set ?_ GE613.out | refine below_set ?_ GE614.out) | exact HB.out)⟩⟩
                ·rw [if_neg c70] at H
                 have c70b0 : decide ((wrap64 ((l0_0.length : Int) - 1)) ≤ x8_1) = false := decide_eq_false c70
                 clear c70
                 have H' := Aside0.mk H
                 clear H
                 as_aux_lemma =>
                  go_wp2_with (first | ((with_reducible refine gate_builtin (b := .append) (xs := #[.tmp 75, .tmp 77]) rfl ?_); at_builtin; refine Kd.R_append (Kd.int .i64) (w0 := w) w.heap.size rfl (.tmp 75) (.tmp 77) 22 3 (.int .i64 0) 8 rfl Try.underlying22 info3 rfl (by decide) (by omega) u9 x9_2 x12_22 [.int .i64 x12_22] (fun k_ => some k_ ≠ (u615000 : Value).ownBlock) (fun _ => False) rfl rfl ?aP (fun _ hk => hk.elim) ?aF ?aO ?aB ?aS ?aL ?_; (case aP => exact rfl); (case aB => exact (by repeat (first | (with_reducible first | exact HB.out | apply below_alloc | apply pw_below_drewN | apply below_drew1 | refine below_set ?_ GE611.out | refine below_set ?_ GE612.out | refine below_set ?_ GE613.out | refine below_set ?_ GE614.out) | exact HB.out))); (case aF => exact (fun k_ hk => Kd.fresh' (Kd.R_lt (by (with_reducible repeat (first | apply Kd.R_alloc | apply Kd.R_drewN | apply Kd.R_drew)); exact HO_615000.out)) k_ hk)); (case aO => exact (by (with_reducible repeat (first | apply Kd.R_alloc | apply Kd.R_drewN | apply Kd.R_drew)); exact HO_9.out)); (case aS => exact (below_size (by repeat (first | (with_reducible first | exact HB.out | apply below_alloc | apply pw_below_drewN | apply below_drew1 | refine below_set ?_ GE611.out | refine below_set ?_ GE612.out | refine below_set ?_ GE613.out | refine below_set ?_ GE614.out) | exact HB.out)))); (case aL => have := LMc45.out; omega); intro v629 w72 ho hb hg hat; rw [← Ny628.out] at ho; have n0_ := Aside0.mk (Kd.R_after (ok := (fun _ => True)) (by (with_reducible repeat (first | apply Kd.R_alloc | apply Kd.R_drewN | apply Kd.R_drew)); exact Kd.R_mono HO_615000.out (fun _ hk => ⟨trivial, hk⟩)) hg hat); have n1_ := Aside0.mk (Kd.S_after (ok := (fun k_ => some k_ ≠ (u615000 : Value).ownBlock)) (by (with_reducible repeat (first | apply Kd.S_alloc | apply Kd.S_drewN | apply Kd.S_drew)); exact Kd.S_mono HO_615001.out (fun _ hk => ⟨hk.2, hk.1⟩)) hg hat); have n2_ := Aside0.mk (blk_grown (g := gb611) (o := .cells #[.slice A0_0 l0_0.length c0_0, .slice A0_1 l0_1.length c0_1] 25 (0, 0)) (by (with_reducible repeat (first | refine blk_drewN ?_ _ | refine blk_drew ?_ | refine blk_alloc ?_ _)); exact BK611.out) hg (Kd.R_ne HO_9.out BK611.out (by decide))); have n3_ := Aside0.mk (blk_grown (g := gb612) (o := .cells #[.slice A1_0 l1_0.length c1_0, .slice A1_1 l1_1.length c1_1] 25 (0, 0)) (by (with_reducible repeat (first | refine blk_drewN ?_ _ | refine blk_drew ?_ | refine blk_alloc ?_ _)); exact BK612.out) hg (Kd.R_ne HO_9.out BK612.out (by decide))); have n4_ := Aside0.mk (blk_grown (g := gb613) (o := .cells #[.slice none 0 0, .slice none 0 0] 25 (0, 0)) (by (with_reducible repeat (first | refine blk_drewN ?_ _ | refine blk_drew ?_ | refine blk_alloc ?_ _)); exact BK613.out) hg (Kd.R_ne HO_9.out BK613.out (by decide))); have n5_ := Aside0.mk (blk_grown (g := gb614) (o := .cells #[u615000, u615001] 25 (0, 0)) (by (with_reducible repeat (first | refine blk_drewN ?_ _ | refine blk_drew ?_ | refine blk_alloc ?_ _)); exact BK614.out) hg (Kd.R_ne HO_9.out BK614.out (by decide))); have n6_ := Aside0.mk (hb); have n7_ := Aside0.mk (ho); clear HO_615000; clear HO_615001; clear BK611; clear BK612; clear BK613; clear BK614; clear HB; clear HO_9; have HO_615000 := n0_; have HO_615001 := n1_; have BK611 := n2_; have BK612 := n3_; have BK613 := n4_; have BK614 := n5_; have HB := n6_; have HO630 := n7_; clear n0_ n1_ n2_ n3_ n4_ n5_ n6_ n7_; clear ho hb hg hat))
                  go_roundg kj22
                  case measure => have := HK1.out; have := HK2.out; have := HJ20.out; have := HJ22.out; omega
                  case rel => exact ⟨(y628), (x10_2), (wrap64 (x11_2 + 1)), (by first | rfl | (simp; done) | (simp [*]; done)), (by first | rfl | (simp; done) | (simp [*]; done)), H', ⟨by have := HK1.out; have := HK2.out; have := HJ20.out; have := HJ22.out; omega⟩, ⟨by (with_reducible repeat (first | apply Kd.R_alloc | apply Kd.R_drewN | apply Kd.R_drew)); exact HO630.out⟩, ⟨by (with_reducible repeat (first | apply Kd.R_alloc | apply Kd.R_drewN | apply Kd.R_drew)); exact Kd.R_mono HO_615000.out (fun _ hk => hk.2)⟩, ⟨by (with_reducible repeat (first | apply Kd.S_alloc | apply Kd.S_drewN | apply Kd.S_drew)); exact Kd.S_mono HO_615001.out (fun _ hk => ⟨hk.2, hk.1⟩)⟩, ⟨by (with_reducible repeat (first | refine blk_drewN ?_ _ | refine blk_drew ?_ | refine blk_alloc ?_ _)); exact BK611.out⟩, ⟨by (with_reducible repeat (first | refine blk_drewN ?_ _ | refine blk_drew ?_ | refine blk_alloc ?_ _)); exact BK612.out⟩, ⟨by (with_reducible repeat (first | refine blk_drewN ?_ _ | refine blk_drew ?_ | refine blk_alloc ?_ _)); exact BK613.out⟩, ⟨by (with_reducible repeat (first | refine blk_drewN ?_ _ | refine blk_drew ?_ | refine blk_alloc ?_ _)); exact BK614.out⟩, ⟨by repeat (first | (with_reducible first | exact HB.out | apply below_alloc | apply pw_below_drewN | apply below_drew1 | refine below_set ?_ GE611.out | refine below_set ?_ GE612.out | refine below_set ?_ GE613.out | refine below_set ?_ GE614.out) | exact HB.out)⟩⟩
             ·rw [if_neg c46] at H
              have c46b0 : decide (x8_1 < (wrap64 ((l0_0.length : Int) - 1))) = false := decide_eq_false c46
              clear c46
              by_cases c73 : x8_1 ≥ (wrap64 ((l0_0.length : Int) - 1))
              ·rw [if_pos c73] at H
               have c73b0 : decide ((wrap64 ((l0_0.length : Int) - 1)) ≤ x8_1) = true := decide_eq_true c73
               clear c73
               by_cases c74 : x11_2 ≥ (wrap64 ((l0_0.length : Int) - 1))
               ·rw [if_pos c74] at H
                have c74b0 : decide ((wrap64 ((l0_0.length : Int) - 1)) ≤ x11_2) = true := decide_eq_true c74
                clear c74
                replace H := Option.bind_eq_some_iff.mp H
                obtain ⟨t634, A750, H⟩ := H
                replace H : (if t634 = true then ((spec_power.f kj22 x11_2).bind fun t635 => (spec_stack.l1 kj22 (wrap64 ((l0_0.length : Int) - 1)) (wrap64 ((wrap64 ((l0_0.length : Int) - 1)) + (l1_0.length : Int))) x8_1 y628 (wrap64 (x10_2 + t635)) (wrap64 (x11_2 + 1)) l0_0 l0_1 l1_0 l1_1 x615000_1 x615001_1)) else (spec_stack.l1 kj22 (wrap64 ((l0_0.length : Int) - 1)) (wrap64 ((wrap64 ((l0_0.length : Int) - 1)) + (l1_0.length : Int))) x8_1 y628 x10_2 (wrap64 (x11_2 + 1)) l0_0 l0_1 l1_0 l1_1 x615000_1 x615001_1)) = some (r1, r2) := H
                have A75 := Aside0.mk A750
                clear A750
                by_cases c76 : t634 = true
                ·subst c76
                 have H1 : ((spec_power.f kj22 x11_2).bind fun t635 => (spec_stack.l1 kj22 (wrap64 ((l0_0.length : Int) - 1)) (wrap64 ((wrap64 ((l0_0.length : Int) - 1)) + (l1_0.length : Int))) x8_1 y628 (wrap64 (x10_2 + t635)) (wrap64 (x11_2 + 1)) l0_0 l0_1 l1_0 l1_1 x615000_1 x615001_1)) = some (r1, r2) := by rw [if_pos rfl] at H; exact H
                 clear H
                 have H := H1
                 clear H1
                 replace H := Option.bind_eq_some_iff.mp H
                 obtain ⟨t635, A770, H⟩ := H
                 replace H : (spec_stack.l1 kj22 (wrap64 ((l0_0.length : Int) - 1)) (wrap64 ((wrap64 ((l0_0.length : Int) - 1)) + (l1_0.length : Int))) x8_1 y628 (wrap64 (x10_2 + t635)) (wrap64 (x11_2 + 1)) l0_0 l0_1 l1_0 l1_1 x615000_1 x615001_1) = some (r1, r2) := H
                 have A77 := Aside0.mk A770
                 clear A770
                 have H' := Aside0.mk H
                 clear H
                 as_aux_lemma =>
                  go_wp2_with (first | ((with_reducible refine gate_builtin (b := .append) (xs := #[.tmp 75, .tmp 77]) rfl ?_); at_builtin; refine Kd.R_append (Kd.int .i64) (w0 := w) w.heap.size rfl (.tmp 75) (.tmp 77) 22 3 (.int .i64 0) 8 rfl Try.underlying22 info3 rfl (by decide) (by omega) u9 x9_2 x12_22 [.int .i64 x12_22] (fun k_ => some k_ ≠ (u615000 : Value).ownBlock) (fun _ => False) rfl rfl ?aP (fun _ hk => hk.elim) ?aF ?aO ?aB ?aS ?aL ?_; (case aP => exact rfl); (case aB => exact (by repeat (first | (with_reducible first | exact HB.out | apply below_alloc | apply pw_below_drewN | apply below_drew1 | refine below_set ?_ GE611.out | refine below_set ?_ GE612.out | refine below_set ?_ GE613.out | refine below_set ?_ GE614.out) | exact HB.out))); (case aF => exact (fun k_ hk => Kd.fresh' (Kd.R_lt (by (with_reducible repeat (first | apply Kd.R_alloc | apply Kd.R_drewN | apply Kd.R_drew)); exact HO_615000.out)) k_ hk)); (case aO => exact (by (with_reducible repeat (first | apply Kd.R_alloc | apply Kd.R_drewN | apply Kd.R_drew)); exact HO_9.out)); (case aS => exact (below_size (by repeat (first | (with_reducible first | exact HB.out | apply below_alloc | apply pw_below_drewN | apply below_drew1 | refine below_set ?_ GE611.out | refine below_set ?_ GE612.out | refine below_set ?_ GE613.out | refine below_set ?_ GE614.out) | exact HB.out)))); (case aL => have := LMc45.out; omega); intro v629 w78 ho hb hg hat; rw [← Ny628.out] at ho; have n0_ := Aside0.mk (Kd.R_after (ok := (fun _ => True)) (by (with_reducible repeat (first | apply Kd.R_alloc | apply Kd.R_drewN | apply Kd.R_drew)); exact Kd.R_mono HO_615000.out (fun _ hk => ⟨trivial, hk⟩)) hg hat); have n1_ := Aside0.mk (Kd.S_after (ok := (fun k_ => some k_ ≠ (u615000 : Value).ownBlock)) (by (with_reducible repeat (first | apply Kd.S_alloc | apply Kd.S_drewN | apply Kd.S_drew)); exact Kd.S_mono HO_615001.out (fun _ hk => ⟨hk.2, hk.1⟩)) hg hat); have n2_ := Aside0.mk (blk_grown (g := gb611) (o := .cells #[.slice A0_0 l0_0.length c0_0, .slice A0_1 l0_1.length c0_1] 25 (0, 0)) (by (with_reducible repeat (first | refine blk_drewN ?_ _ | refine blk_drew ?_ | refine blk_alloc ?_ _)); exact BK611.out) hg (Kd.R_ne HO_9.out BK611.out (by decide))); have n3_ := Aside0.mk (blk_grown (g := gb612) (o := .cells #[.slice A1_0 l1_0.length c1_0, .slice A1_1 l1_1.length c1_1] 25 (0, 0)) (by (with_reducible repeat (first | refine blk_drewN ?_ _ | refine blk_drew ?_ | refine blk_alloc ?_ _)); exact BK612.out) hg (Kd.R_ne HO_9.out BK612.out (by decide))); have n4_ := Aside0.mk (blk_grown (g := gb613) (o := .cells #[.slice none 0 0, .slice none 0 0] 25 (0, 0)) (by (with_reducible repeat (first | refine blk_drewN ?_ _ | refine blk_drew ?_ | refine blk_alloc ?_ _)); exact BK613.out) hg (Kd.R_ne HO_9.out BK613.out (by decide))); have n5_ := Aside0.mk (blk_grown (g := gb614) (o := .cells #[u615000, u615001] 25 (0, 0)) (by (with_reducible repeat (first | refine blk_drewN ?_ _ | refine blk_drew ?_ | refine blk_alloc ?_ _)); exact BK614.out) hg (Kd.R_ne HO_9.out BK614.out (by decide))); have n6_ := Aside0.mk (hb); have n7_ := Aside0.mk (ho); clear HO_615000; clear HO_615001; clear BK611; clear BK612; clear BK613; clear BK614; clear HB; clear HO_9; have HO_615000 := n0_; have HO_615001 := n1_; have BK611 := n2_; have BK612 := n3_; have BK613 := n4_; have BK614 := n5_; have HB := n6_; have HO630 := n7_; clear n0_ n1_ n2_ n3_ n4_ n5_ n6_ n7_; clear ho hb hg hat; have hnb79 := NB612_611.out; have hnc79 := NB611_612.out; have hnb80 := NB612_613.out; have hnc80 := NB613_612.out; have hnb81 := NB612_614.out; have hnc81 := NB614_612.out; have hcz82_0 : w78.cell? ⟨gb612, 0, none⟩ = some (.slice A1_0 l1_0.length c1_0) := (blk_cell BK612.out 0).trans rfl; have hcz82_1 : w78.cell? ⟨gb612, 1, none⟩ = some (.slice A1_1 l1_1.length c1_1) := (blk_cell BK612.out 1).trans rfl; have hfz82_0 := blk_frozen BK612.out 0; have hfz82_1 := blk_frozen BK612.out 1) | (go_at_call 103; (with_reducible refine (spec_below.calls kj22 _ _ l1_0 (wrap64 (x8_1 - (wrap64 ((l0_0.length : Int) - 1)))) (wrap64 (x11_2 - (wrap64 ((l0_0.length : Int) - 1)))) true _ ?side1 ?side2 A75.out).mono ?_); (case side1 => repeat (first | exact (Kd.C_below HR1_0.out HB.out) | (with_reducible refine Kd.C_alloc ?_ _) | (with_reducible refine Kd.C_drewN ?_ _) | (with_reducible refine Kd.C_drew ?_))); (case side2 => exact HC1_0.out); rintro e w' ⟨rfl, ⟨nd, rfl⟩⟩) | ((with_reducible refine gate_callee (f := 104) rfl ?_); refine goesL_ (some 127) rfl rfl Try.func104 (by kernel_rfl) rfl #[.int .i64 x11_2] rfl (by (try simp only [List.map_toArray, List.map_cons, List.map_nil]); first | done | rfl | (simp only [List.length_drop, List.length_take]; rfl)) ?_; (with_reducible refine (spec_power.calls kj22 x11_2 t635 _ A77.out).mono ?_); rintro e w' ⟨rfl, ⟨nd, rfl⟩⟩; refine ⟨_, rfl, ?_⟩))
                  go_roundg kj22
                  case measure => have := HK1.out; have := HK2.out; have := HJ20.out; have := HJ22.out; omega
                  case rel => exact ⟨(y628), (wrap64 (x10_2 + t635)), (wrap64 (x11_2 + 1)), (by first | rfl | (simp; done) | (simp [*]; done)), (by first | rfl | (simp; done) | (simp [*]; done)), H', ⟨by have := HK1.out; have := HK2.out; have := HJ20.out; have := HJ22.out; omega⟩, ⟨by (with_reducible repeat (first | apply Kd.R_alloc | apply Kd.R_drewN | apply Kd.R_drew)); exact HO630.out⟩, ⟨by (with_reducible repeat (first | apply Kd.R_alloc | apply Kd.R_drewN | apply Kd.R_drew)); exact Kd.R_mono HO_615000.out (fun _ hk => hk.2)⟩, ⟨by (with_reducible repeat (first | apply Kd.S_alloc | apply Kd.S_drewN | apply Kd.S_drew)); exact Kd.S_mono HO_615001.out (fun _ hk => ⟨hk.2, hk.1⟩)⟩, ⟨by (with_reducible repeat (first | refine blk_drewN ?_ _ | refine blk_drew ?_ | refine blk_alloc ?_ _)); exact BK611.out⟩, ⟨by (with_reducible repeat (first | refine blk_drewN ?_ _ | refine blk_drew ?_ | refine blk_alloc ?_ _)); exact BK612.out⟩, ⟨by (with_reducible repeat (first | refine blk_drewN ?_ _ | refine blk_drew ?_ | refine blk_alloc ?_ _)); exact BK613.out⟩, ⟨by (with_reducible repeat (first | refine blk_drewN ?_ _ | refine blk_drew ?_ | refine blk_alloc ?_ _)); exact BK614.out⟩, ⟨by repeat (first | (with_reducible first | exact HB.out | apply below_alloc | apply pw_below_drewN | apply below_drew1 | refine below_set ?_ GE611.out | refine below_set ?_ GE612.out | refine below_set ?_ GE613.out | refine below_set ?_ GE614.out) | exact HB.out)⟩⟩
                ·replace c76 := Bool.eq_false_iff.mpr c76
                 subst c76
                 have H1 : (spec_stack.l1 kj22 (wrap64 ((l0_0.length : Int) - 1)) (wrap64 ((wrap64 ((l0_0.length : Int) - 1)) + (l1_0.length : Int))) x8_1 y628 x10_2 (wrap64 (x11_2 + 1)) l0_0 l0_1 l1_0 l1_1 x615000_1 x615001_1) = some (r1, r2) := by rw [if_neg (show ¬ (false = true) by decide)] at H; exact H
                 clear H
                 have H := H1
                 clear H1
                 have H' := Aside0.mk H
                 clear H
                 as_aux_lemma =>
                  go_wp2_with (first | ((with_reducible refine gate_builtin (b := .append) (xs := #[.tmp 75, .tmp 77]) rfl ?_); at_builtin; refine Kd.R_append (Kd.int .i64) (w0 := w) w.heap.size rfl (.tmp 75) (.tmp 77) 22 3 (.int .i64 0) 8 rfl Try.underlying22 info3 rfl (by decide) (by omega) u9 x9_2 x12_22 [.int .i64 x12_22] (fun k_ => some k_ ≠ (u615000 : Value).ownBlock) (fun _ => False) rfl rfl ?aP (fun _ hk => hk.elim) ?aF ?aO ?aB ?aS ?aL ?_; (case aP => exact rfl); (case aB => exact (by repeat (first | (with_reducible first | exact HB.out | apply below_alloc | apply pw_below_drewN | apply below_drew1 | refine below_set ?_ GE611.out | refine below_set ?_ GE612.out | refine below_set ?_ GE613.out | refine below_set ?_ GE614.out) | exact HB.out))); (case aF => exact (fun k_ hk => Kd.fresh' (Kd.R_lt (by (with_reducible repeat (first | apply Kd.R_alloc | apply Kd.R_drewN | apply Kd.R_drew)); exact HO_615000.out)) k_ hk)); (case aO => exact (by (with_reducible repeat (first | apply Kd.R_alloc | apply Kd.R_drewN | apply Kd.R_drew)); exact HO_9.out)); (case aS => exact (below_size (by repeat (first | (with_reducible first | exact HB.out | apply below_alloc | apply pw_below_drewN | apply below_drew1 | refine below_set ?_ GE611.out | refine below_set ?_ GE612.out | refine below_set ?_ GE613.out | refine below_set ?_ GE614.out) | exact HB.out)))); (case aL => have := LMc45.out; omega); intro v629 w83 ho hb hg hat; rw [← Ny628.out] at ho; have n0_ := Aside0.mk (Kd.R_after (ok := (fun _ => True)) (by (with_reducible repeat (first | apply Kd.R_alloc | apply Kd.R_drewN | apply Kd.R_drew)); exact Kd.R_mono HO_615000.out (fun _ hk => ⟨trivial, hk⟩)) hg hat); have n1_ := Aside0.mk (Kd.S_after (ok := (fun k_ => some k_ ≠ (u615000 : Value).ownBlock)) (by (with_reducible repeat (first | apply Kd.S_alloc | apply Kd.S_drewN | apply Kd.S_drew)); exact Kd.S_mono HO_615001.out (fun _ hk => ⟨hk.2, hk.1⟩)) hg hat); have n2_ := Aside0.mk (blk_grown (g := gb611) (o := .cells #[.slice A0_0 l0_0.length c0_0, .slice A0_1 l0_1.length c0_1] 25 (0, 0)) (by (with_reducible repeat (first | refine blk_drewN ?_ _ | refine blk_drew ?_ | refine blk_alloc ?_ _)); exact BK611.out) hg (Kd.R_ne HO_9.out BK611.out (by decide))); have n3_ := Aside0.mk (blk_grown (g := gb612) (o := .cells #[.slice A1_0 l1_0.length c1_0, .slice A1_1 l1_1.length c1_1] 25 (0, 0)) (by (with_reducible repeat (first | refine blk_drewN ?_ _ | refine blk_drew ?_ | refine blk_alloc ?_ _)); exact BK612.out) hg (Kd.R_ne HO_9.out BK612.out (by decide))); have n4_ := Aside0.mk (blk_grown (g := gb613) (o := .cells #[.slice none 0 0, .slice none 0 0] 25 (0, 0)) (by (with_reducible repeat (first | refine blk_drewN ?_ _ | refine blk_drew ?_ | refine blk_alloc ?_ _)); exact BK613.out) hg (Kd.R_ne HO_9.out BK613.out (by decide))); have n5_ := Aside0.mk (blk_grown (g := gb614) (o := .cells #[u615000, u615001] 25 (0, 0)) (by (with_reducible repeat (first | refine blk_drewN ?_ _ | refine blk_drew ?_ | refine blk_alloc ?_ _)); exact BK614.out) hg (Kd.R_ne HO_9.out BK614.out (by decide))); have n6_ := Aside0.mk (hb); have n7_ := Aside0.mk (ho); clear HO_615000; clear HO_615001; clear BK611; clear BK612; clear BK613; clear BK614; clear HB; clear HO_9; have HO_615000 := n0_; have HO_615001 := n1_; have BK611 := n2_; have BK612 := n3_; have BK613 := n4_; have BK614 := n5_; have HB := n6_; have HO630 := n7_; clear n0_ n1_ n2_ n3_ n4_ n5_ n6_ n7_; clear ho hb hg hat; have hnb84 := NB612_611.out; have hnc84 := NB611_612.out; have hnb85 := NB612_613.out; have hnc85 := NB613_612.out; have hnb86 := NB612_614.out; have hnc86 := NB614_612.out; have hcz87_0 : w83.cell? ⟨gb612, 0, none⟩ = some (.slice A1_0 l1_0.length c1_0) := (blk_cell BK612.out 0).trans rfl; have hcz87_1 : w83.cell? ⟨gb612, 1, none⟩ = some (.slice A1_1 l1_1.length c1_1) := (blk_cell BK612.out 1).trans rfl; have hfz87_0 := blk_frozen BK612.out 0; have hfz87_1 := blk_frozen BK612.out 1) | (go_at_call 103; (with_reducible refine (spec_below.calls kj22 _ _ l1_0 (wrap64 (x8_1 - (wrap64 ((l0_0.length : Int) - 1)))) (wrap64 (x11_2 - (wrap64 ((l0_0.length : Int) - 1)))) false _ ?side1 ?side2 A75.out).mono ?_); (case side1 => repeat (first | exact (Kd.C_below HR1_0.out HB.out) | (with_reducible refine Kd.C_alloc ?_ _) | (with_reducible refine Kd.C_drewN ?_ _) | (with_reducible refine Kd.C_drew ?_))); (case side2 => exact HC1_0.out); rintro e w' ⟨rfl, ⟨nd, rfl⟩⟩))
                  go_roundg kj22
                  case measure => have := HK1.out; have := HK2.out; have := HJ20.out; have := HJ22.out; omega
                  case rel => exact ⟨(y628), (x10_2), (wrap64 (x11_2 + 1)), (by first | rfl | (simp; done) | (simp [*]; done)), (by first | rfl | (simp; done) | (simp [*]; done)), H', ⟨by have := HK1.out; have := HK2.out; have := HJ20.out; have := HJ22.out; omega⟩, ⟨by (with_reducible repeat (first | apply Kd.R_alloc | apply Kd.R_drewN | apply Kd.R_drew)); exact HO630.out⟩, ⟨by (with_reducible repeat (first | apply Kd.R_alloc | apply Kd.R_drewN | apply Kd.R_drew)); exact Kd.R_mono HO_615000.out (fun _ hk => hk.2)⟩, ⟨by (with_reducible repeat (first | apply Kd.S_alloc | apply Kd.S_drewN | apply Kd.S_drew)); exact Kd.S_mono HO_615001.out (fun _ hk => ⟨hk.2, hk.1⟩)⟩, ⟨by (with_reducible repeat (first | refine blk_drewN ?_ _ | refine blk_drew ?_ | refine blk_alloc ?_ _)); exact BK611.out⟩, ⟨by (with_reducible repeat (first | refine blk_drewN ?_ _ | refine blk_drew ?_ | refine blk_alloc ?_ _)); exact BK612.out⟩, ⟨by (with_reducible repeat (first | refine blk_drewN ?_ _ | refine blk_drew ?_ | refine blk_alloc ?_ _)); exact BK613.out⟩, ⟨by (with_reducible repeat (first | refine blk_drewN ?_ _ | refine blk_drew ?_ | refine blk_alloc ?_ _)); exact BK614.out⟩, ⟨by repeat (first | (with_reducible first | exact HB.out | apply below_alloc | apply pw_below_drewN | apply below_drew1 | refine below_set ?_ GE611.out | refine below_set ?_ GE612.out | refine below_set ?_ GE613.out | refine below_set ?_ GE614.out) | exact HB.out)⟩⟩
               ·rw [if_neg c74] at H
                have c74b0 : decide ((wrap64 ((l0_0.length : Int) - 1)) ≤ x11_2) = false := decide_eq_false c74
                clear c74
                have H' := Aside0.mk H
                clear H
                as_aux_lemma =>
                 go_wp2_with (first | ((with_reducible refine gate_builtin (b := .append) (xs := #[.tmp 75, .tmp 77]) rfl ?_); at_builtin; refine Kd.R_append (Kd.int .i64) (w0 := w) w.heap.size rfl (.tmp 75) (.tmp 77) 22 3 (.int .i64 0) 8 rfl Try.underlying22 info3 rfl (by decide) (by omega) u9 x9_2 x12_22 [.int .i64 x12_22] (fun k_ => some k_ ≠ (u615000 : Value).ownBlock) (fun _ => False) rfl rfl ?aP (fun _ hk => hk.elim) ?aF ?aO ?aB ?aS ?aL ?_; (case aP => exact rfl); (case aB => exact (by repeat (first | (with_reducible first | exact HB.out | apply below_alloc | apply pw_below_drewN | apply below_drew1 | refine below_set ?_ GE611.out | refine below_set ?_ GE612.out | refine below_set ?_ GE613.out | refine below_set ?_ GE614.out) | exact HB.out))); (case aF => exact (fun k_ hk => Kd.fresh' (Kd.R_lt (by (with_reducible repeat (first | apply Kd.R_alloc | apply Kd.R_drewN | apply Kd.R_drew)); exact HO_615000.out)) k_ hk)); (case aO => exact (by (with_reducible repeat (first | apply Kd.R_alloc | apply Kd.R_drewN | apply Kd.R_drew)); exact HO_9.out)); (case aS => exact (below_size (by repeat (first | (with_reducible first | exact HB.out | apply below_alloc | apply pw_below_drewN | apply below_drew1 | refine below_set ?_ GE611.out | refine below_set ?_ GE612.out | refine below_set ?_ GE613.out | refine below_set ?_ GE614.out) | exact HB.out)))); (case aL => have := LMc45.out; omega); intro v629 w88 ho hb hg hat; rw [← Ny628.out] at ho; have n0_ := Aside0.mk (Kd.R_after (ok := (fun _ => True)) (by (with_reducible repeat (first | apply Kd.R_alloc | apply Kd.R_drewN | apply Kd.R_drew)); exact Kd.R_mono HO_615000.out (fun _ hk => ⟨trivial, hk⟩)) hg hat); have n1_ := Aside0.mk (Kd.S_after (ok := (fun k_ => some k_ ≠ (u615000 : Value).ownBlock)) (by (with_reducible repeat (first | apply Kd.S_alloc | apply Kd.S_drewN | apply Kd.S_drew)); exact Kd.S_mono HO_615001.out (fun _ hk => ⟨hk.2, hk.1⟩)) hg hat); have n2_ := Aside0.mk (blk_grown (g := gb611) (o := .cells #[.slice A0_0 l0_0.length c0_0, .slice A0_1 l0_1.length c0_1] 25 (0, 0)) (by (with_reducible repeat (first | refine blk_drewN ?_ _ | refine blk_drew ?_ | refine blk_alloc ?_ _)); exact BK611.out) hg (Kd.R_ne HO_9.out BK611.out (by decide))); have n3_ := Aside0.mk (blk_grown (g := gb612) (o := .cells #[.slice A1_0 l1_0.length c1_0, .slice A1_1 l1_1.length c1_1] 25 (0, 0)) (by (with_reducible repeat (first | refine blk_drewN ?_ _ | refine blk_drew ?_ | refine blk_alloc ?_ _)); exact BK612.out) hg (Kd.R_ne HO_9.out BK612.out (by decide))); have n4_ := Aside0.mk (blk_grown (g := gb613) (o := .cells #[.slice none 0 0, .slice none 0 0] 25 (0, 0)) (by (with_reducible repeat (first | refine blk_drewN ?_ _ | refine blk_drew ?_ | refine blk_alloc ?_ _)); exact BK613.out) hg (Kd.R_ne HO_9.out BK613.out (by decide))); have n5_ := Aside0.mk (blk_grown (g := gb614) (o := .cells #[u615000, u615001] 25 (0, 0)) (by (with_reducible repeat (first | refine blk_drewN ?_ _ | refine blk_drew ?_ | refine blk_alloc ?_ _)); exact BK614.out) hg (Kd.R_ne HO_9.out BK614.out (by decide))); have n6_ := Aside0.mk (hb); have n7_ := Aside0.mk (ho); clear HO_615000; clear HO_615001; clear BK611; clear BK612; clear BK613; clear BK614; clear HB; clear HO_9; have HO_615000 := n0_; have HO_615001 := n1_; have BK611 := n2_; have BK612 := n3_; have BK613 := n4_; have BK614 := n5_; have HB := n6_; have HO630 := n7_; clear n0_ n1_ n2_ n3_ n4_ n5_ n6_ n7_; clear ho hb hg hat))
                 go_roundg kj22
                 case measure => have := HK1.out; have := HK2.out; have := HJ20.out; have := HJ22.out; omega
                 case rel => exact ⟨(y628), (x10_2), (wrap64 (x11_2 + 1)), (by first | rfl | (simp; done) | (simp [*]; done)), (by first | rfl | (simp; done) | (simp [*]; done)), H', ⟨by have := HK1.out; have := HK2.out; have := HJ20.out; have := HJ22.out; omega⟩, ⟨by (with_reducible repeat (first | apply Kd.R_alloc | apply Kd.R_drewN | apply Kd.R_drew)); exact HO630.out⟩, ⟨by (with_reducible repeat (first | apply Kd.R_alloc | apply Kd.R_drewN | apply Kd.R_drew)); exact Kd.R_mono HO_615000.out (fun _ hk => hk.2)⟩, ⟨by (with_reducible repeat (first | apply Kd.S_alloc | apply Kd.S_drewN | apply Kd.S_drew)); exact Kd.S_mono HO_615001.out (fun _ hk => ⟨hk.2, hk.1⟩)⟩, ⟨by (with_reducible repeat (first | refine blk_drewN ?_ _ | refine blk_drew ?_ | refine blk_alloc ?_ _)); exact BK611.out⟩, ⟨by (with_reducible repeat (first | refine blk_drewN ?_ _ | refine blk_drew ?_ | refine blk_alloc ?_ _)); exact BK612.out⟩, ⟨by (with_reducible repeat (first | refine blk_drewN ?_ _ | refine blk_drew ?_ | refine blk_alloc ?_ _)); exact BK613.out⟩, ⟨by (with_reducible repeat (first | refine blk_drewN ?_ _ | refine blk_drew ?_ | refine blk_alloc ?_ _)); exact BK614.out⟩, ⟨by repeat (first | (with_reducible first | exact HB.out | apply below_alloc | apply pw_below_drewN | apply below_drew1 | refine below_set ?_ GE611.out | refine below_set ?_ GE612.out | refine below_set ?_ GE613.out | refine below_set ?_ GE614.out) | exact HB.out)⟩⟩
              ·rw [if_neg c73] at H
               have c73b0 : decide ((wrap64 ((l0_0.length : Int) - 1)) ≤ x8_1) = false := decide_eq_false c73
               clear c73
               have H' := Aside0.mk H
               clear H
               as_aux_lemma =>
                go_wp2_with (first | ((with_reducible refine gate_builtin (b := .append) (xs := #[.tmp 75, .tmp 77]) rfl ?_); at_builtin; refine Kd.R_append (Kd.int .i64) (w0 := w) w.heap.size rfl (.tmp 75) (.tmp 77) 22 3 (.int .i64 0) 8 rfl Try.underlying22 info3 rfl (by decide) (by omega) u9 x9_2 x12_22 [.int .i64 x12_22] (fun k_ => some k_ ≠ (u615000 : Value).ownBlock) (fun _ => False) rfl rfl ?aP (fun _ hk => hk.elim) ?aF ?aO ?aB ?aS ?aL ?_; (case aP => exact rfl); (case aB => exact (by repeat (first | (with_reducible first | exact HB.out | apply below_alloc | apply pw_below_drewN | apply below_drew1 | refine below_set ?_ GE611.out | refine below_set ?_ GE612.out | refine below_set ?_ GE613.out | refine below_set ?_ GE614.out) | exact HB.out))); (case aF => exact (fun k_ hk => Kd.fresh' (Kd.R_lt (by (with_reducible repeat (first | apply Kd.R_alloc | apply Kd.R_drewN | apply Kd.R_drew)); exact HO_615000.out)) k_ hk)); (case aO => exact (by (with_reducible repeat (first | apply Kd.R_alloc | apply Kd.R_drewN | apply Kd.R_drew)); exact HO_9.out)); (case aS => exact (below_size (by repeat (first | (with_reducible first | exact HB.out | apply below_alloc | apply pw_below_drewN | apply below_drew1 | refine below_set ?_ GE611.out | refine below_set ?_ GE612.out | refine below_set ?_ GE613.out | refine below_set ?_ GE614.out) | exact HB.out)))); (case aL => have := LMc45.out; omega); intro v629 w89 ho hb hg hat; rw [← Ny628.out] at ho; have n0_ := Aside0.mk (Kd.R_after (ok := (fun _ => True)) (by (with_reducible repeat (first | apply Kd.R_alloc | apply Kd.R_drewN | apply Kd.R_drew)); exact Kd.R_mono HO_615000.out (fun _ hk => ⟨trivial, hk⟩)) hg hat); have n1_ := Aside0.mk (Kd.S_after (ok := (fun k_ => some k_ ≠ (u615000 : Value).ownBlock)) (by (with_reducible repeat (first | apply Kd.S_alloc | apply Kd.S_drewN | apply Kd.S_drew)); exact Kd.S_mono HO_615001.out (fun _ hk => ⟨hk.2, hk.1⟩)) hg hat); have n2_ := Aside0.mk (blk_grown (g := gb611) (o := .cells #[.slice A0_0 l0_0.length c0_0, .slice A0_1 l0_1.length c0_1] 25 (0, 0)) (by (with_reducible repeat (first | refine blk_drewN ?_ _ | refine blk_drew ?_ | refine blk_alloc ?_ _)); exact BK611.out) hg (Kd.R_ne HO_9.out BK611.out (by decide))); have n3_ := Aside0.mk (blk_grown (g := gb612) (o := .cells #[.slice A1_0 l1_0.length c1_0, .slice A1_1 l1_1.length c1_1] 25 (0, 0)) (by (with_reducible repeat (first | refine blk_drewN ?_ _ | refine blk_drew ?_ | refine blk_alloc ?_ _)); exact BK612.out) hg (Kd.R_ne HO_9.out BK612.out (by decide))); have n4_ := Aside0.mk (blk_grown (g := gb613) (o := .cells #[.slice none 0 0, .slice none 0 0] 25 (0, 0)) (by (with_reducible repeat (first | refine blk_drewN ?_ _ | refine blk_drew ?_ | refine blk_alloc ?_ _)); exact BK613.out) hg (Kd.R_ne HO_9.out BK613.out (by decide))); have n5_ := Aside0.mk (blk_grown (g := gb614) (o := .cells #[u615000, u615001] 25 (0, 0)) (by (with_reducible repeat (first | refine blk_drewN ?_ _ | refine blk_drew ?_ | refine blk_alloc ?_ _)); exact BK614.out) hg (Kd.R_ne HO_9.out BK614.out (by decide))); have n6_ := Aside0.mk (hb); have n7_ := Aside0.mk (ho); clear HO_615000; clear HO_615001; clear BK611; clear BK612; clear BK613; clear BK614; clear HB; clear HO_9; have HO_615000 := n0_; have HO_615001 := n1_; have BK611 := n2_; have BK612 := n3_; have BK613 := n4_; have BK614 := n5_; have HB := n6_; have HO630 := n7_; clear n0_ n1_ n2_ n3_ n4_ n5_ n6_ n7_; clear ho hb hg hat))
                go_roundg kj22
                case measure => have := HK1.out; have := HK2.out; have := HJ20.out; have := HJ22.out; omega
                case rel => exact ⟨(y628), (x10_2), (wrap64 (x11_2 + 1)), (by first | rfl | (simp; done) | (simp [*]; done)), (by first | rfl | (simp; done) | (simp [*]; done)), H', ⟨by have := HK1.out; have := HK2.out; have := HJ20.out; have := HJ22.out; omega⟩, ⟨by (with_reducible repeat (first | apply Kd.R_alloc | apply Kd.R_drewN | apply Kd.R_drew)); exact HO630.out⟩, ⟨by (with_reducible repeat (first | apply Kd.R_alloc | apply Kd.R_drewN | apply Kd.R_drew)); exact Kd.R_mono HO_615000.out (fun _ hk => hk.2)⟩, ⟨by (with_reducible repeat (first | apply Kd.S_alloc | apply Kd.S_drewN | apply Kd.S_drew)); exact Kd.S_mono HO_615001.out (fun _ hk => ⟨hk.2, hk.1⟩)⟩, ⟨by (with_reducible repeat (first | refine blk_drewN ?_ _ | refine blk_drew ?_ | refine blk_alloc ?_ _)); exact BK611.out⟩, ⟨by (with_reducible repeat (first | refine blk_drewN ?_ _ | refine blk_drew ?_ | refine blk_alloc ?_ _)); exact BK612.out⟩, ⟨by (with_reducible repeat (first | refine blk_drewN ?_ _ | refine blk_drew ?_ | refine blk_alloc ?_ _)); exact BK613.out⟩, ⟨by (with_reducible repeat (first | refine blk_drewN ?_ _ | refine blk_drew ?_ | refine blk_alloc ?_ _)); exact BK614.out⟩, ⟨by repeat (first | (with_reducible first | exact HB.out | apply below_alloc | apply pw_below_drewN | apply below_drew1 | refine below_set ?_ GE611.out | refine below_set ?_ GE612.out | refine below_set ?_ GE613.out | refine below_set ?_ GE614.out) | exact HB.out)⟩⟩
            ·rw [if_neg c45] at H
             exact absurd H (by simp)
       ·rw [if_neg c19] at H
        have c19b0 : decide (x11_2 < (wrap64 ((wrap64 ((l0_0.length : Int) - 1)) + (l1_0.length : Int)))) = false := decide_eq_false c19
        clear c19
        by_cases c90 : x615001_1.length < 5864062014805
        ·rw [if_pos c90] at H
         have LMc90 := Aside0.mk c90
         clear c90
         obtain ⟨y618, hy618⟩ : ∃ y_ : List (List Int), y_ = (x615001_1 ++ [x9_2]) := ⟨_, rfl⟩
         replace H : (if x615000_1.length < 17592186044416 then (spec_stack.l0 k2 (wrap64 ((l0_0.length : Int) - 1)) (wrap64 ((wrap64 ((l0_0.length : Int) - 1)) + (l1_0.length : Int))) (wrap64 (x8_1 + 1)) l0_0 l0_1 l1_0 l1_1 (x615000_1 ++ [x10_2]) y618) else (none)) = some (r1, r2) := by first | (rw [hy618]; with_reducible exact H) | (have H2_ := (Option.bind_some _ _).symm.trans H; rw [hy618]; with_reducible exact H2_) | (have H2_ := (Option.bind_some _ _).symm.trans H; with_reducible exact H2_) | with_reducible exact H | (rw [hy618]; exact H) | exact H
         have Ny618 := Aside0.mk hy618
         clear hy618
         by_cases c91 : x615000_1.length < 17592186044416
         ·rw [if_pos c91] at H
          have LMc91 := Aside0.mk c91
          clear c91
          obtain ⟨y621, hy621⟩ : ∃ y_ : List Int, y_ = (x615000_1 ++ [x10_2]) := ⟨_, rfl⟩
          replace H : (spec_stack.l0 k2 (wrap64 ((l0_0.length : Int) - 1)) (wrap64 ((wrap64 ((l0_0.length : Int) - 1)) + (l1_0.length : Int))) (wrap64 (x8_1 + 1)) l0_0 l0_1 l1_0 l1_1 y621 y618) = some (r1, r2) := by first | (rw [hy621]; with_reducible exact H) | (have H2_ := (Option.bind_some _ _).symm.trans H; rw [hy621]; with_reducible exact H2_) | (have H2_ := (Option.bind_some _ _).symm.trans H; with_reducible exact H2_) | with_reducible exact H | (rw [hy621]; exact H) | exact H
          have Ny621 := Aside0.mk hy621
          clear hy621
          have H' := Aside0.mk H
          clear H
          have hnb92 := NB614_611.out
          have hnc92 := NB611_614.out
          have hnb93 := NB614_612.out
          have hnc93 := NB612_614.out
          have hnb94 := NB614_613.out
          have hnc94 := NB613_614.out
          have hcz95_0 : wr.cell? ⟨gb614, 0, none⟩ = some (u615000) := (blk_cell BK614.out 0).trans rfl
          have hcz95_1 : wr.cell? ⟨gb614, 1, none⟩ = some (u615001) := (blk_cell BK614.out 1).trans rfl
          have hfz95_0 := blk_frozen BK614.out 0
          have hfz95_1 := blk_frozen BK614.out 1
          obtain ⟨Ao97, co97, eo97⟩ := Kd.R_slice HO_9.out
          subst eo97
          as_aux_lemma =>
           go_wp2_with (first | ((with_reducible refine gate_builtin (b := .append) (xs := #[.tmp 130, .tmp 132]) rfl ?_); at_builtin; refine Kd.S_append (Kd.slice 3 (Kd.int .i64)) (w0 := w) w.heap.size rfl (.tmp 130) (.tmp 132) 23 22 (.slice none 0 0) 24 rfl Try.underlying23 info22 rfl (by decide) (by omega) u615001 x615001_1 x9_2 [.slice Ao97 x9_2.length co97] (fun k_ => some k_ ≠ (u615000 : Value).ownBlock) (fun k_ => some k_ = (.slice Ao97 x9_2.length co97 : Value).ownBlock) rfl rfl ?aP (fun k_ hk_ => ((Kd.R_mono (ok' := fun k_ => ((fun k_ => some k_ ≠ (u615000 : Value).ownBlock)) k_ ∧ some k_ ≠ (u615001 : Value).ownBlock) (Kd.R_apart' (HO_9.out) (Kd.S_typed HO_615001.out) (by decide)) (fun k_ hk => ⟨hk.1, hk.2⟩))).1 k_ hk_.symm) ?aF ?aO ?aB ?aS ?aL ?_; (case aP => exact Kd.M_row (Kd.R_mono (Kd.R_tight rfl (Kd.R_mono (ok' := fun k_ => ((fun k_ => some k_ ≠ (u615000 : Value).ownBlock)) k_ ∧ some k_ ≠ (u615001 : Value).ownBlock) (Kd.R_apart' (HO_9.out) (Kd.S_typed HO_615001.out) (by decide)) (fun k_ hk => ⟨hk.1, hk.2⟩))) (fun _ h_ => h_))); (case aB => exact (by repeat (first | (with_reducible first | exact HB.out | apply below_alloc | apply pw_below_drewN | apply below_drew1 | refine below_set ?_ GE611.out | refine below_set ?_ GE612.out | refine below_set ?_ GE613.out | refine below_set ?_ GE614.out) | exact HB.out))); (case aF => exact (fun k_ hk => Kd.fresh' (Kd.R_lt (by (with_reducible repeat (first | apply Kd.R_alloc | apply Kd.R_drewN | apply Kd.R_drew)); exact HO_615000.out)) k_ hk)); (case aO => exact (by (with_reducible repeat (first | apply Kd.S_alloc | apply Kd.S_drewN | apply Kd.S_drew)); exact Kd.S_mono HO_615001.out (fun k_ hk => ⟨hk.2, fun e_ => hk.1 e_⟩))); (case aS => exact (below_size (by repeat (first | (with_reducible first | exact HB.out | apply below_alloc | apply pw_below_drewN | apply below_drew1 | refine below_set ?_ GE611.out | refine below_set ?_ GE612.out | refine below_set ?_ GE613.out | refine below_set ?_ GE614.out) | exact HB.out)))); (case aL => have := LMc90.out; omega); intro v619 w96 ho hb hg hat; rw [← Ny618.out] at ho; have n0_ := Aside0.mk (Kd.R_over' (by (with_reducible repeat (first | apply Kd.R_alloc | apply Kd.R_drewN | apply Kd.R_drew)); exact HO_615000.out) (Kd.S_typed (by (with_reducible repeat (first | apply Kd.S_alloc | apply Kd.S_drewN | apply Kd.S_drew)); exact HO_615001.out)) (by decide) hg); have n1_ := Aside0.mk (blk_grown (g := gb611) (o := .cells #[.slice A0_0 l0_0.length c0_0, .slice A0_1 l0_1.length c0_1] 25 (0, 0)) (by (with_reducible repeat (first | refine blk_drewN ?_ _ | refine blk_drew ?_ | refine blk_alloc ?_ _)); exact BK611.out) hg (Kd.S_ne HO_615001.out BK611.out (by decide))); have n2_ := Aside0.mk (blk_grown (g := gb612) (o := .cells #[.slice A1_0 l1_0.length c1_0, .slice A1_1 l1_1.length c1_1] 25 (0, 0)) (by (with_reducible repeat (first | refine blk_drewN ?_ _ | refine blk_drew ?_ | refine blk_alloc ?_ _)); exact BK612.out) hg (Kd.S_ne HO_615001.out BK612.out (by decide))); have n3_ := Aside0.mk (blk_grown (g := gb613) (o := .cells #[.slice none 0 0, .slice none 0 0] 25 (0, 0)) (by (with_reducible repeat (first | refine blk_drewN ?_ _ | refine blk_drew ?_ | refine blk_alloc ?_ _)); exact BK613.out) hg (Kd.S_ne HO_615001.out BK613.out (by decide))); have n4_ := Aside0.mk (blk_grown (g := gb614) (o := .cells #[u615000, u615001] 25 (0, 0)) (by (with_reducible repeat (first | refine blk_drewN ?_ _ | refine blk_drew ?_ | refine blk_alloc ?_ _)); exact BK614.out) hg (Kd.S_ne HO_615001.out BK614.out (by decide))); have n5_ := Aside0.mk (hb); have n6_ := Aside0.mk (ho); clear HO_615000; clear BK611; clear BK612; clear BK613; clear BK614; clear HB; clear HO_615001; clear HO_9; have HO_615000 := n0_; have BK611 := n1_; have BK612 := n2_; have BK613 := n3_; have BK614 := n4_; have HB := n5_; have HO620 := n6_; clear n0_ n1_ n2_ n3_ n4_ n5_ n6_; clear ho hb hg hat; obtain ⟨Ao98, co98, eo98⟩ := Kd.S_slice HO620.out; subst eo98; have hcz99_0 : w96.cell? ⟨gb614, 0, none⟩ = some (u615000) := (blk_cell BK614.out 0).trans rfl; have hcz99_1 : w96.cell? ⟨gb614, 1, none⟩ = some (u615001) := (blk_cell BK614.out 1).trans rfl; have hfz99_0 := blk_frozen BK614.out 0; have hfz99_1 := blk_frozen BK614.out 1) | ((with_reducible refine gate_builtin (b := .append) (xs := #[.tmp 136, .tmp 138]) rfl ?_); at_builtin; refine Kd.R_append (Kd.int .i64) (w0 := w) w.heap.size rfl (.tmp 136) (.tmp 138) 22 3 (.int .i64 0) 8 rfl Try.underlying22 info3 rfl (by decide) (by omega) u615000 x615000_1 x10_2 [.int .i64 x10_2] (fun _ => True) (fun _ => False) rfl (by first | (go_simp; done) | (go_simp; rfl)) ?aP (fun _ hk => hk.elim) ?aF ?aO ?aB ?aS ?aL ?_; (case aP => exact rfl); (case aB => exact (by repeat (first | (with_reducible first | exact HB.out | apply below_alloc | apply pw_below_drewN | apply below_drew1 | refine below_set ?_ GE611.out | refine below_set ?_ GE612.out | refine below_set ?_ GE613.out | refine below_set ?_ GE614.out) | exact HB.out))); (case aF => exact (fun _ _ => trivial)); (case aO => exact (by (with_reducible repeat (first | apply Kd.R_alloc | apply Kd.R_drewN | apply Kd.R_drew)); exact Kd.R_mono (Kd.R_far (p := ⟨gb614, 1, none⟩) (Kd.R_types HO_615000.out BK614.out (by decide)) (fun _ hk => hk.2) (.slice Ao98 y618.length co98)) (fun _ hk => trivial))); (case aS => exact (below_size (by repeat (first | (with_reducible first | exact HB.out | apply below_alloc | apply pw_below_drewN | apply below_drew1 | refine below_set ?_ GE611.out | refine below_set ?_ GE612.out | refine below_set ?_ GE613.out | refine below_set ?_ GE614.out) | exact HB.out)))); (case aL => have := LMc91.out; omega); intro v622 w100 ho hb hg hat; rw [← Ny621.out] at ho; have n0_ := Aside0.mk (blk_grown (g := gb611) (o := .cells #[.slice A0_0 l0_0.length c0_0, .slice A0_1 l0_1.length c0_1] 25 (0, 0)) (by (with_reducible repeat (first | refine blk_drewN ?_ _ | refine blk_drew ?_ | refine blk_alloc ?_ _)); refine blk_far ?_ NB611_614.out _; (with_reducible repeat (first | refine blk_drewN ?_ _ | refine blk_drew ?_ | refine blk_alloc ?_ _)); exact BK611.out) hg (Kd.R_ne HO_615000.out BK611.out (by decide))); have n1_ := Aside0.mk (blk_grown (g := gb612) (o := .cells #[.slice A1_0 l1_0.length c1_0, .slice A1_1 l1_1.length c1_1] 25 (0, 0)) (by (with_reducible repeat (first | refine blk_drewN ?_ _ | refine blk_drew ?_ | refine blk_alloc ?_ _)); refine blk_far ?_ NB612_614.out _; (with_reducible repeat (first | refine blk_drewN ?_ _ | refine blk_drew ?_ | refine blk_alloc ?_ _)); exact BK612.out) hg (Kd.R_ne HO_615000.out BK612.out (by decide))); have n2_ := Aside0.mk (blk_grown (g := gb613) (o := .cells #[.slice none 0 0, .slice none 0 0] 25 (0, 0)) (by (with_reducible repeat (first | refine blk_drewN ?_ _ | refine blk_drew ?_ | refine blk_alloc ?_ _)); refine blk_far ?_ NB613_614.out _; (with_reducible repeat (first | refine blk_drewN ?_ _ | refine blk_drew ?_ | refine blk_alloc ?_ _)); exact BK613.out) hg (Kd.R_ne HO_615000.out BK613.out (by decide))); have n3_ := Aside0.mk (blk_grown (g := gb614) (o := .cells #[u615000, .slice Ao98 y618.length co98] 25 (0, 0)) (by (with_reducible repeat (first | refine blk_drewN ?_ _ | refine blk_drew ?_ | refine blk_alloc ?_ _)); refine blk_put (cs := #[u615000, u615001]) ?_ 1 _ rfl; (with_reducible repeat (first | refine blk_drewN ?_ _ | refine blk_drew ?_ | refine blk_alloc ?_ _)); exact BK614.out) hg (Kd.R_ne HO_615000.out BK614.out (by decide))); have n4_ := Aside0.mk (Kd.S_after (ok := (fun _ => True)) (by (with_reducible repeat (first | apply Kd.S_alloc | apply Kd.S_drewN | apply Kd.S_drew)); exact Kd.S_mono (Kd.S_far (p := ⟨gb614, 1, none⟩) (Kd.S_types HO620.out BK614.out (by decide)) (fun _ hk => hk.2) (.slice Ao98 y618.length co98)) (fun _ hk => ⟨trivial, hk.1⟩)) hg hat); have n5_ := Aside0.mk (hb); have n6_ := Aside0.mk (ho); clear BK611; clear BK612; clear BK613; clear BK614; clear HO620; clear HB; clear HO_615000; have BK611 := n0_; have BK612 := n1_; have BK613 := n2_; have BK614 := n3_; have HO620 := n4_; have HB := n5_; have HO623 := n6_; clear n0_ n1_ n2_ n3_ n4_ n5_ n6_; clear ho hb hg hat; obtain ⟨Ao101, co101, eo101⟩ := Kd.R_slice HO623.out; subst eo101; have hcz102_0 : w100.cell? ⟨gb614, 0, none⟩ = some (u615000) := (blk_cell BK614.out 0).trans rfl; have hcz102_1 : w100.cell? ⟨gb614, 1, none⟩ = some (.slice Ao98 y618.length co98) := (blk_cell BK614.out 1).trans rfl; have hfz102_0 := blk_frozen BK614.out 0; have hfz102_1 := blk_frozen BK614.out 1))
           go_roundg k2
           case measure => have := HK1.out; have := HK2.out; omega
           case rel => exact ⟨(wrap64 (x8_1 + 1)), (y621), (y618), (.slice Ao101 y621.length co101), (.slice Ao98 y618.length co98), (by first | rfl | (simp; done) | (simp [*]; done)), H', ⟨by have := HK1.out; have := HK2.out; omega⟩, ⟨by (with_reducible repeat (first | apply Kd.R_alloc | apply Kd.R_drewN | apply Kd.R_drew)); exact Kd.R_mono (Kd.R_far (p := ⟨gb614, 0, none⟩) (Kd.R_types HO623.out BK614.out (by decide)) (fun _ hk => hk.2) (.slice Ao101 y621.length co101)) (fun _ hk => trivial)⟩, ⟨by (with_reducible repeat (first | apply Kd.S_alloc | apply Kd.S_drewN | apply Kd.S_drew)); exact Kd.S_mono (Kd.S_far (p := ⟨gb614, 0, none⟩) (Kd.S_types HO620.out BK614.out (by decide)) (fun _ hk => hk.2) (.slice Ao101 y621.length co101)) (fun _ hk => hk.1.2)⟩, ⟨by (with_reducible repeat (first | refine blk_drewN ?_ _ | refine blk_drew ?_ | refine blk_alloc ?_ _)); refine blk_far ?_ NB611_614.out _; (with_reducible repeat (first | refine blk_drewN ?_ _ | refine blk_drew ?_ | refine blk_alloc ?_ _)); exact BK611.out⟩, ⟨by (with_reducible repeat (first | refine blk_drewN ?_ _ | refine blk_drew ?_ | refine blk_alloc ?_ _)); refine blk_far ?_ NB612_614.out _; (with_reducible repeat (first | refine blk_drewN ?_ _ | refine blk_drew ?_ | refine blk_alloc ?_ _)); exact BK612.out⟩, ⟨by (with_reducible repeat (first | refine blk_drewN ?_ _ | refine blk_drew ?_ | refine blk_alloc ?_ _)); refine blk_far ?_ NB613_614.out _; (with_reducible repeat (first | refine blk_drewN ?_ _ | refine blk_drew ?_ | refine blk_alloc ?_ _)); exact BK613.out⟩, ⟨by (with_reducible repeat (first | refine blk_drewN ?_ _ | refine blk_drew ?_ | refine blk_alloc ?_ _)); refine blk_put (cs := #[u615000, .slice Ao98 y618.length co98]) ?_ 0 _ rfl; (with_reducible repeat (first | refine blk_drewN ?_ _ | refine blk_drew ?_ | refine blk_alloc ?_ _)); exact BK614.out⟩, ⟨by repeat (first | (with_reducible first | exact HB.out | apply below_alloc | apply pw_below_drewN | apply below_drew1 | refine below_set ?_ GE611.out | refine below_set ?_ GE612.out | refine below_set ?_ GE613.out | refine below_set ?_ GE614.out) | exact HB.out)⟩⟩
         ·rw [if_neg c91] at H
          exact absurd H (by simp)
        ·rw [if_neg c90] at H
         exact absurd H (by simp)
   ·rw [if_neg c16] at H
    have c16b0 : decide (x8_1 < (wrap64 ((wrap64 ((l0_0.length : Int) - 1)) + (l1_0.length : Int)))) = false := decide_eq_false c16
    clear c16
    simp only [Option.some.injEq, Prod.mk.injEq] at H
    obtain ⟨rfl, rfl⟩ := H
    have hnb103 := NB614_611.out
    have hnc103 := NB611_614.out
    have hnb104 := NB614_612.out
    have hnc104 := NB612_614.out
    have hnb105 := NB614_613.out
    have hnc105 := NB613_614.out
    have hcz106_0 : wr.cell? ⟨gb614, 0, none⟩ = some (u615000) := (blk_cell BK614.out 0).trans rfl
    have hcz106_1 : wr.cell? ⟨gb614, 1, none⟩ = some (u615001) := (blk_cell BK614.out 1).trans rfl
    have hfz106_0 := blk_frozen BK614.out 0
    have hfz106_1 := blk_frozen BK614.out 1
    obtain ⟨Ao107, co107, eo107⟩ := Kd.R_slice HO_615000.out
    subst eo107
    have hnb108 := NB613_611.out
    have hnc108 := NB611_613.out
    have hnb109 := NB613_612.out
    have hnc109 := NB612_613.out
    have hcz110_0 : wr.cell? ⟨gb613, 0, none⟩ = some (.slice none 0 0) := (blk_cell BK613.out 0).trans rfl
    have hcz110_1 : wr.cell? ⟨gb613, 1, none⟩ = some (.slice none 0 0) := (blk_cell BK613.out 1).trans rfl
    have hfz110_0 := blk_frozen BK613.out 0
    have hfz110_1 := blk_frozen BK613.out 1
    obtain ⟨Ao111, co111, eo111⟩ := Kd.S_slice HO_615001.out
    subst eo111
    as_aux_lemma =>
     go_wp2
     refine bodyPost_ret (results_cell_row rfl _ _ gb613 25 #[.slice Ao107 x615000_1.length co107, .slice Ao111 x615001_1.length co111] (0, 0) _ rfl (by (with_reducible repeat (first | refine blk_drewN ?_ _ | refine blk_drew ?_ | refine blk_alloc ?_ _)); refine blk_put (cs := #[.slice Ao107 x615000_1.length co107, .slice none 0 0]) ?_ 1 _ rfl; (with_reducible repeat (first | refine blk_drewN ?_ _ | refine blk_drew ?_ | refine blk_alloc ?_ _)); refine blk_put (cs := #[.slice none 0 0, .slice none 0 0]) ?_ 0 _ rfl; (with_reducible repeat (first | refine blk_drewN ?_ _ | refine blk_drew ?_ | refine blk_alloc ?_ _)); exact BK613.out) Try.underlying25 rfl (by kernel_rfl)) rfl ?_
     exact ⟨_, _, by first | rfl | (simp [errW_none, errW_some] <;> rfl) | (simp [*, errW_none, errW_some] <;> rfl), by (with_reducible repeat (first | apply Kd.R_alloc | apply Kd.R_drewN | apply Kd.R_drew)); exact Kd.R_mono (Kd.R_far (p := ⟨gb613, 1, none⟩) (Kd.R_far (p := ⟨gb613, 0, none⟩) (Kd.R_types HO_615000.out BK613.out (by decide)) (fun _ hk => hk.2) (.slice Ao107 x615000_1.length co107)) (fun _ hk => hk.2) (.slice Ao111 x615001_1.length co111)) (fun _ hk => trivial), by (with_reducible repeat (first | apply Kd.S_alloc | apply Kd.S_drewN | apply Kd.S_drew)); exact Kd.S_mono (Kd.S_far (p := ⟨gb613, 1, none⟩) (Kd.S_far (p := ⟨gb613, 0, none⟩) (Kd.S_types HO_615001.out BK613.out (by decide)) (fun _ hk => hk.2) (.slice Ao107 x615000_1.length co107)) (fun _ hk => hk.2) (.slice Ao111 x615001_1.length co111)) (fun _ hk => hk.1), by repeat (first | (with_reducible first | exact HB.out | apply below_alloc | apply pw_below_drewN | apply below_drew1 | refine below_set ?_ GE611.out | refine below_set ?_ GE612.out | refine below_set ?_ GE613.out | refine below_set ?_ GE614.out) | exact HB.out)⟩

end Go.Proofs.Ytjidbgmkhapklaa.P

-- shrunk
