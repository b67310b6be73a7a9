-- Printed by this session's wip/print2.py (the kit's print.py, widened) out of the translation. Lean checks it.
import Derived.Test.YtjidbgmkhapklaaP0
import Derived.Test.YtjidbgmkhapklaaP10
namespace Go.Proofs.Ytjidbgmkhapklaa.P
open Go.RowKit Go.Proofs.YtjidbgmkhapklaaW.PrintWords Go.Proofs.YtjidbgmkhapklaaW.PrintLast Go.Proofs.YtjidbgmkhapklaaW.PrintMore
attribute [local go_sem] max2_int min2_int max_two min_two max_three min_three max_four min_four   -- for this text's walks alone
set_option linter.unusedVariables false
set_option linter.unusedSimpArgs false

/-! ### spec_stack: function 75 -/
mutual
def spec_stack.l0 : Nat → Int → Int → Int → List Int → List (List Int) → List Int → List (List Int) → List Int → List (List Int) → Option (List Int × (List (List Int)))
 | 0, _, _, _, _, _, _, _, _, _ => none
 | k + 1, x5, x6, x8, x203000, x203001, x204000, x204001, x206000, x206001 => if x8 < x6 then (spec_stack.l1 k x5 x6 x8 (([] : List Int)) 0 0 x203000 x203001 x204000 x204001 x206000 x206001) else (some (x206000, x206001))
def spec_stack.l1 : Nat → Int → Int → Int → List Int → Int → Int → List Int → List (List Int) → List Int → List (List Int) → List Int → List (List Int) → Option (List Int × (List (List Int)))
 | 0, _, _, _, _, _, _, _, _, _, _, _, _ => none
 | k + 1, x5, x6, x8, x9, x10, x11, x203000, x203001, x204000, x204001, x206000, x206001 => if x11 < x6 then (if x8 < x5 then (spec_stack.j2 k x5 x6 x8 x9 x10 x11 (mn x8 x11) (decide (x11 < x5)) x203000 x203001 x204000 x204001 x206000 x206001) else (spec_stack.j2 k x5 x6 x8 x9 x10 x11 (mn x8 x11) false x203000 x203001 x204000 x204001 x206000 x206001)) else (if x206001.length < 5864062014805 then (if x206000.length < 17592186044416 then (spec_stack.l0 k x5 x6 (wrap64 (x8 + 1)) x203000 x203001 x204000 x204001 (x206000 ++ [x10]) (x206001 ++ [x9])) else (none)) else (none))
def spec_stack.j2 : Nat → Int → Int → Int → List Int → Int → Int → Int → Bool → List Int → List (List Int) → List Int → List (List Int) → List Int → List (List Int) → Option (List Int × (List (List Int)))
 | 0, _, _, _, _, _, _, _, _, _, _, _, _, _, _ => none
 | k + 1, x5, x6, x8, x9, x10, x11, x12, x44, x203000, x203001, x204000, x204001, x206000, x206001 => if x44 = true then (if 0 ≤ x8 then (if x8 < (x203001.length : Int) then (if 0 ≤ x11 then (if x11 < ((rd_L1 x203001 x8).length : Int) then (spec_stack.j3 k x5 x6 x8 x9 x10 x11 (rd (rd_L1 x203001 x8) x11) x203000 x203001 x204000 x204001 x206000 x206001) else (none)) else (none)) else (none)) else (none)) else (if x8 ≥ x5 then (if x11 ≥ x5 then (if 0 ≤ (wrap64 (x8 - x5)) then (if (wrap64 (x8 - x5)) < (x204001.length : Int) then (if 0 ≤ (wrap64 (x11 - x5)) then (if (wrap64 (x11 - x5)) < ((rd_L1 x204001 (wrap64 (x8 - x5))).length : Int) then (spec_stack.j3 k x5 x6 x8 x9 x10 x11 (wrap64 (x5 + (rd (rd_L1 x204001 (wrap64 (x8 - x5))) (wrap64 (x11 - x5))))) x203000 x203001 x204000 x204001 x206000 x206001) else (none)) else (none)) else (none)) else (none)) else (spec_stack.j3 k x5 x6 x8 x9 x10 x11 x12 x203000 x203001 x204000 x204001 x206000 x206001)) else (spec_stack.j3 k x5 x6 x8 x9 x10 x11 x12 x203000 x203001 x204000 x204001 x206000 x206001))
def spec_stack.j3 : Nat → Int → Int → Int → List Int → Int → Int → Int → List Int → List (List Int) → List Int → List (List Int) → List Int → List (List Int) → Option (List Int × (List (List Int)))
 | 0, _, _, _, _, _, _, _, _, _, _, _, _, _ => none
 | k + 1, x5, x6, x8, x9, x10, x11, x12, x203000, x203001, x204000, x204001, x206000, x206001 => if x9.length < 17592186044416 then ((some (x9 ++ [x12] : List Int)).bind fun y219 => (if x8 < x5 then (if x11 ≥ x5 then ((spec_power.f k x11).bind fun t222 => (spec_stack.l1 k x5 x6 x8 y219 (wrap64 (x10 + t222)) (wrap64 (x11 + 1)) x203000 x203001 x204000 x204001 x206000 x206001)) else (if x11 < x5 then ((spec_below.f k x203000 x8 x11).bind fun t223 => (if t223 = true then ((spec_power.f k x11).bind fun t224 => (spec_stack.l1 k x5 x6 x8 y219 (wrap64 (x10 + t224)) (wrap64 (x11 + 1)) x203000 x203001 x204000 x204001 x206000 x206001)) else (if x8 ≥ x5 then (spec_stack.l1 k x5 x6 x8 y219 x10 (wrap64 (x11 + 1)) x203000 x203001 x204000 x204001 x206000 x206001) else (spec_stack.l1 k x5 x6 x8 y219 x10 (wrap64 (x11 + 1)) x203000 x203001 x204000 x204001 x206000 x206001)))) else (if x8 ≥ x5 then (spec_stack.l1 k x5 x6 x8 y219 x10 (wrap64 (x11 + 1)) x203000 x203001 x204000 x204001 x206000 x206001) else (spec_stack.l1 k x5 x6 x8 y219 x10 (wrap64 (x11 + 1)) x203000 x203001 x204000 x204001 x206000 x206001)))) else (if x8 ≥ x5 then (if x11 ≥ x5 then ((spec_below.f k x204000 (wrap64 (x8 - x5)) (wrap64 (x11 - x5))).bind fun t225 => (if t225 = true then ((spec_power.f k x11).bind fun t226 => (spec_stack.l1 k x5 x6 x8 y219 (wrap64 (x10 + t226)) (wrap64 (x11 + 1)) x203000 x203001 x204000 x204001 x206000 x206001)) else (spec_stack.l1 k x5 x6 x8 y219 x10 (wrap64 (x11 + 1)) x203000 x203001 x204000 x204001 x206000 x206001))) else (spec_stack.l1 k x5 x6 x8 y219 x10 (wrap64 (x11 + 1)) x203000 x203001 x204000 x204001 x206000 x206001)) else (spec_stack.l1 k x5 x6 x8 y219 x10 (wrap64 (x11 + 1)) x203000 x203001 x204000 x204001 x206000 x206001)))) else (none)
end
def spec_stack.f (k : Nat) (l0_0 : List Int) (l0_1 : List (List Int)) (l1_0 : List Int) (l1_1 : List (List Int)) : Option (List Int × (List (List Int))) := spec_stack.l0 k (wrap64 ((l0_0.length : Int) - 1)) (wrap64 ((wrap64 ((l0_0.length : Int) - 1)) + (l1_0.length : Int))) 0 l0_0 l0_1 l1_0 l1_1 ([] : List Int) ([] : List (List Int))
set_option maxHeartbeats 8000000 in
set_option maxRecDepth 100000 in
theorem spec_stack.calls (k : Nat) (A0_0 : Option Addr) (c0_0 : Nat) (l0_0 : List Int) (A0_1 : Option Addr) (c0_1 : Nat) (l0_1 : List (List Int)) (A1_0 : Option Addr) (c1_0 : Nat) (l1_0 : List Int) (A1_1 : Option Addr) (c1_1 : Nat) (l1_1 : List (List Int)) (r1 : List Int) (r2 : List (List Int)) (w : World) (hr0_0 : Kd.C (Kd.int .i64) w A0_0 l0_0.length l0_0) (hc0_0 : l0_0.length ≤ c0_0) (hr0_1 : Kd.C (Kd.slice 3 (Kd.int .i64)) w A0_1 l0_1.length l0_1) (hc0_1 : l0_1.length ≤ c0_1) (hr1_0 : Kd.C (Kd.int .i64) w A1_0 l1_0.length l1_0) (hc1_0 : l1_0.length ≤ c1_0) (hr1_1 : Kd.C (Kd.slice 3 (Kd.int .i64)) w A1_1 l1_1.length l1_1) (hc1_1 : l1_1.length ≤ c1_1) (h : spec_stack.f k l0_0 l0_1 l1_0 l1_1 = some (r1, r2)) :
  Calls Try.prog 75 #[.agg #[.slice A0_0 l0_0.length c0_0, .slice A0_1 l0_1.length c0_1], .agg #[.slice A1_0 l1_0.length c1_0, .slice A1_1 l1_1.length c1_1]] w fun e w' => ∃ v0_ v1_ : Value, e = .returned (.agg #[v0_, v1_]) ∧ Kd.R (Kd.int .i64) 3 w' w.heap.size (fun _ => True) v0_ r1 ∧ Kd.S (Kd.slice 3 (Kd.int .i64)) 22 w' w.heap.size (fun k_ => some k_ ≠ (v0_ : Value).ownBlock) v1_ r2 ∧ Below w.heap.size w w' := by
 have hu25 := Try.underlying25
 have HR0_0 := ak hr0_0
 have HC0_0 := ak hc0_0
 clear hr0_0 hc0_0
 have HR0_1 := ak hr0_1
 have HC0_1 := ak hc0_1
 clear hr0_1 hc0_1
 have HR1_0 := ak hr1_0
 have HC1_0 := ak hc1_0
 clear hr1_0 hc1_0
 have HR1_1 := ak hr1_1
 have HC1_1 := ak hc1_1
 clear hr1_1 hc1_1
 have HB := ak (Below.refl w.heap.size w)
 have H : (spec_stack.l0 k (wrap64 ((l0_0.length : Int) - 1)) (wrap64 ((wrap64 ((l0_0.length : Int) - 1)) + (l1_0.length : Int))) 0 l0_0 l0_1 l1_0 l1_1 ([] : List Int) ([] : List (List Int))) = some (r1, r2) := h
 clear h
 have H' := ak H
 clear H
 go_enter Try.func75, Try.ntmps75
 go_wp2_with (first | ((with_reducible refine gate_dst (N := 2) rfl ?_); refine box_event ?hg (N := 2) ?hd (cs := #[.slice A0_0 l0_0.length c0_0, .slice A0_1 l0_1.length c0_1]) (t := 25) ?hr ?_; (case hd => rfl); (case hg => rfl); (case hr => first | (go_simp; done) | (go_simp; rfl)); intro gb202 hg w3 hbox hb; have BK202 := ak (hbox); have GW202 := ak ((by rw [hg]; exact (below_size (bB HB.out)) : w.heap.size ≤ gb202)); have GE202 := ak ((by rw [hg]; exact (below_size (bB HB.out)) : w.heap.size ≤ gb202)); replace HB := ak (below_step (bB HB.out) hb); clear hb hbox hg) | ((with_reducible refine gate_dst (N := 3) rfl ?_); refine box_event ?hg (N := 3) ?hd (cs := #[.slice A1_0 l1_0.length c1_0, .slice A1_1 l1_1.length c1_1]) (t := 25) ?hr ?_; (case hd => rfl); (case hg => rfl); (case hr => first | (go_simp; done) | (go_simp; rfl)); intro gb203 hg w4 hbox hb; have BK203 := ak (hbox); have GW203 := ak ((by rw [hg]; exact (below_size (bB HB.out)) : w.heap.size ≤ gb203)); have GE203 := ak ((by rw [hg]; exact (below_size (bB HB.out)) : w.heap.size ≤ gb203)); replace HB := ak (below_step (bB HB.out) hb); have NB202_203 := ak ((ne_box hg (kK BK202.out))); have NB203_202 := ak ((ne_box' hg (kK BK202.out))); replace BK202 := ak (blk_below (kK BK202.out) hb); clear hb hbox hg) | ((with_reducible refine gate_dst (N := 4) rfl ?_); refine box_event ?hg (N := 4) ?hd (cs := #[.slice none 0 0, .slice none 0 0]) (t := 25) ?hr ?_; (case hd => rfl); (case hg => rfl); (case hr => first | (go_simp; done) | (go_simp; rfl)); intro gb204 hg w5 hbox hb; have BK204 := ak (hbox); have GW204 := ak ((by rw [hg]; exact (below_size (bB HB.out)) : w.heap.size ≤ gb204)); have GE204 := ak ((by rw [hg]; exact (below_size (bB HB.out)) : w.heap.size ≤ gb204)); replace HB := ak (below_step (bB HB.out) hb); have NB202_204 := ak ((ne_box hg (kK BK202.out))); have NB204_202 := ak ((ne_box' hg (kK BK202.out))); replace BK202 := ak (blk_below (kK BK202.out) hb); have NB203_204 := ak ((ne_box hg (kK BK203.out))); have NB204_203 := ak ((ne_box' hg (kK BK203.out))); replace BK203 := ak (blk_below (kK BK203.out) hb); clear hb hbox hg; have hnb6 := NB202_203.out; have hnc6 := NB203_202.out; have hnb7 := NB202_204.out; have hnc7 := NB204_202.out; have hcz8_0 : w5.cell? ⟨gb202, 0, none⟩ = some (.slice A0_0 l0_0.length c0_0) := (blk_cell BK202.out 0).trans rfl; have hcz8_1 : w5.cell? ⟨gb202, 1, none⟩ = some (.slice A0_1 l0_1.length c0_1) := (blk_cell BK202.out 1).trans rfl; have hfz8_0 := blk_frozen BK202.out 0; have hfz8_1 := blk_frozen BK202.out 1; have hnb9 := NB203_204.out; have hnc9 := NB204_203.out; have hcz10_0 : w5.cell? ⟨gb203, 0, none⟩ = some (.slice A1_0 l1_0.length c1_0) := (blk_cell BK203.out 0).trans rfl; have hcz10_1 : w5.cell? ⟨gb203, 1, none⟩ = some (.slice A1_1 l1_1.length c1_1) := (blk_cell BK203.out 1).trans rfl; have hfz10_0 := blk_frozen BK203.out 0; have hfz10_1 := blk_frozen BK203.out 1) | ((with_reducible refine gate_dst (N := 7) rfl ?_); refine box_event ?hg (N := 7) ?hd (cs := #[.slice none 0 0, .slice none 0 0]) (t := 25) ?hr ?_; (case hd => rfl); (case hg => rfl); (case hr => first | (go_simp; done) | (go_simp; rfl)); intro gb205 hg w11 hbox hb; have BK205 := ak (hbox); have GW205 := ak ((by rw [hg]; exact (below_size (bB HB.out)) : w.heap.size ≤ gb205)); have GE205 := ak ((by rw [hg]; exact (below_size (bB HB.out)) : w.heap.size ≤ gb205)); replace HB := ak (below_step (bB HB.out) hb); have NB202_205 := ak ((ne_box hg (kK BK202.out))); have NB205_202 := ak ((ne_box' hg (kK BK202.out))); replace BK202 := ak (blk_below (kK BK202.out) hb); have NB203_205 := ak ((ne_box hg (kK BK203.out))); have NB205_203 := ak ((ne_box' hg (kK BK203.out))); replace BK203 := ak (blk_below (kK BK203.out) hb); have NB204_205 := ak ((ne_box hg (kK BK204.out))); have NB205_204 := ak ((ne_box' hg (kK BK204.out))); replace BK204 := ak (blk_below (kK BK204.out) hb); clear hb hbox hg; have hnb12 := NB205_202.out; have hnc12 := NB202_205.out; have hnb13 := NB205_203.out; have hnc13 := NB203_205.out; have hnb14 := NB205_204.out; have hnc14 := NB204_205.out; have hcz15_0 : w11.cell? ⟨gb205, 0, none⟩ = some (.slice none 0 0) := (blk_cell BK205.out 0).trans rfl; have hcz15_1 : w11.cell? ⟨gb205, 1, none⟩ = some (.slice none 0 0) := (blk_cell BK205.out 1).trans rfl; have hfz15_0 := blk_frozen BK205.out 0; have hfz15_1 := blk_frozen BK205.out 1))
 go_loopg [8] k (fun kq v8 w' => ∃ (x8_1 : Int) (x206000_1 : List Int) (x206001_1 : List (List Int)) (u206000 : Value) (u206001 : Value), v8 = .int .i64 x8_1 ∧ Aside0 (spec_stack.l0 kq (wrap64 ((l0_0.length : Int) - 1)) (wrap64 ((wrap64 ((l0_0.length : Int) - 1)) + (l1_0.length : Int))) x8_1 l0_0 l0_1 l1_0 l1_1 x206000_1 x206001_1 = some (r1, r2)) ∧ Aside0 (kq ≤ k) ∧ Aside0 (Kd.R (Kd.int .i64) 3 w' w.heap.size (fun _ => True) u206000 x206000_1) ∧ Aside0 (Kd.S (Kd.slice 3 (Kd.int .i64)) 22 w' w.heap.size (fun k_ => some k_ ≠ (u206000 : Value).ownBlock) u206001 x206001_1) ∧ Aside0 (w'.heap[gb202]? = some (.cells #[(.slice A0_0 l0_0.length c0_0), (.slice A0_1 l0_1.length c0_1)] 25 (0, 0))) ∧ Aside0 (w'.heap[gb203]? = some (.cells #[(.slice A1_0 l1_0.length c1_0), (.slice A1_1 l1_1.length c1_1)] 25 (0, 0))) ∧ Aside0 (w'.heap[gb204]? = some (.cells #[(.slice none 0 0), (.slice none 0 0)] 25 (0, 0))) ∧ Aside0 (w'.heap[gb205]? = some (.cells #[u206000, u206001] 25 (0, 0))) ∧ Aside0 (Below w.heap.size w w'))
 case atStart => exact ⟨(0), (([] : List Int)), (([] : List (List Int))), (.slice none 0 0), (.slice none 0 0), (by first | rfl | (simp; done) | (simp [*]; done)), H', ⟨Nat.le_refl _⟩, ⟨by first | exact Kd.R_nil _ _ _ _ _ | exact Kd.N_nil _ _ _ _ _ | exact Kd.V_nil _ _ _ _ _ | exact Kd.Q_nil _ _ _ _ _ | exact Kd.S_nil _ _ _ _ _⟩, ⟨by first | exact Kd.S_nil _ _ _ _ _ | exact Kd.N_nil _ _ _ _ _ | exact Kd.V_nil _ _ _ _ _ | exact Kd.Q_nil _ _ _ _ _ | exact Kd.R_nil _ _ _ _ _⟩, ⟨by (with_reducible repeat (first | refine blk_drewN ?_ _ | refine blk_drew ?_ | refine blk_alloc ?_ _)); refine blk_far ?_ NB202_205.out _; (with_reducible repeat (first | refine blk_drewN ?_ _ | refine blk_drew ?_ | refine blk_alloc ?_ _)); refine blk_far ?_ NB202_205.out _; (with_reducible repeat (first | refine blk_drewN ?_ _ | refine blk_drew ?_ | refine blk_alloc ?_ _)); exact BK202.out⟩, ⟨by (with_reducible repeat (first | refine blk_drewN ?_ _ | refine blk_drew ?_ | refine blk_alloc ?_ _)); refine blk_far ?_ NB203_205.out _; (with_reducible repeat (first | refine blk_drewN ?_ _ | refine blk_drew ?_ | refine blk_alloc ?_ _)); refine blk_far ?_ NB203_205.out _; (with_reducible repeat (first | refine blk_drewN ?_ _ | refine blk_drew ?_ | refine blk_alloc ?_ _)); exact BK203.out⟩, ⟨by (with_reducible repeat (first | refine blk_drewN ?_ _ | refine blk_drew ?_ | refine blk_alloc ?_ _)); refine blk_far ?_ NB204_205.out _; (with_reducible repeat (first | refine blk_drewN ?_ _ | refine blk_drew ?_ | refine blk_alloc ?_ _)); refine blk_far ?_ NB204_205.out _; (with_reducible repeat (first | refine blk_drewN ?_ _ | refine blk_drew ?_ | refine blk_alloc ?_ _)); exact BK204.out⟩, ⟨by (with_reducible repeat (first | refine blk_drewN ?_ _ | refine blk_drew ?_ | refine blk_alloc ?_ _)); refine blk_put (cs := #[.slice none 0 0, .slice none 0 0]) ?_ 1 _ rfl; (with_reducible repeat (first | refine blk_drewN ?_ _ | refine blk_drew ?_ | refine blk_alloc ?_ _)); refine blk_put (cs := #[.slice none 0 0, .slice none 0 0]) ?_ 0 _ rfl; (with_reducible repeat (first | refine blk_drewN ?_ _ | refine blk_drew ?_ | refine blk_alloc ?_ _)); exact BK205.out⟩, ⟨by repeat (first | (with_reducible first | exact HB.out | apply below_alloc | apply pw_below_drewN | apply below_drew1 | refine below_set ?_ GE202.out | refine below_set ?_ GE203.out | refine below_set ?_ GE204.out | refine below_set ?_ GE205.out) | exact HB.out)⟩⟩
 case round =>
  clear H'
  try clear c1
  try clear p2
  try clear c6
  try clear p6
  try clear c7
  try clear c9
  try clear c12
  try clear c13
  try clear c14
  try clear hcz10_0
  try clear hcz10_1
  try clear hcz15_0
  try clear hcz15_1
  try clear hcz8_0
  try clear hcz8_1
  try clear hfz10_0
  try clear hfz10_1
  try clear hfz15_0
  try clear hfz15_1
  try clear hfz8_0
  try clear hfz8_1
  obtain ⟨x8_1, x206000_1, x206001_1, u206000, u206001, rfl, HA, HK1, HO_206000, HO_206001, BK202, BK203, BK204, BK205, HB⟩ := hrel
  cases gk with
  | zero => exact absurd HA.out (by simp [spec_stack.l0])
  | succ k1 =>
   have H := HA.out
   clear HA
   simp only [spec_stack.l0] at H
   by_cases c16 : x8_1 < (wrap64 ((wrap64 ((l0_0.length : Int) - 1)) + (l1_0.length : Int)))
   rotate_left
   ·rw [if_neg c16] at H
    have c16b0 : decide (x8_1 < (wrap64 ((wrap64 ((l0_0.length : Int) - 1)) + (l1_0.length : Int)))) = false := decide_eq_false c16
    clear c16
    simp only [Option.some.injEq, Prod.mk.injEq] at H
    obtain ⟨rfl, rfl⟩ := H
    have hnb103 := NB205_202.out
    have hnc103 := NB202_205.out
    have hnb104 := NB205_203.out
    have hnc104 := NB203_205.out
    have hnb105 := NB205_204.out
    have hnc105 := NB204_205.out
    have hcz106_0 : wr.cell? ⟨gb205, 0, none⟩ = some (u206000) := (blk_cell BK205.out 0).trans rfl
    have hcz106_1 : wr.cell? ⟨gb205, 1, none⟩ = some (u206001) := (blk_cell BK205.out 1).trans rfl
    have hfz106_0 := blk_frozen BK205.out 0
    have hfz106_1 := blk_frozen BK205.out 1
    obtain ⟨Ao107, co107, eo107⟩ := Kd.R_slice HO_206000.out
    subst eo107
    have hnb108 := NB204_202.out
    have hnc108 := NB202_204.out
    have hnb109 := NB204_203.out
    have hnc109 := NB203_204.out
    have hcz110_0 : wr.cell? ⟨gb204, 0, none⟩ = some (.slice none 0 0) := (blk_cell BK204.out 0).trans rfl
    have hcz110_1 : wr.cell? ⟨gb204, 1, none⟩ = some (.slice none 0 0) := (blk_cell BK204.out 1).trans rfl
    have hfz110_0 := blk_frozen BK204.out 0
    have hfz110_1 := blk_frozen BK204.out 1
    obtain ⟨Ao111, co111, eo111⟩ := Kd.S_slice HO_206001.out
    subst eo111
    as_aux_lemma =>
     go_wp2
     refine bodyPost_ret (results_cell_row rfl _ _ gb204 25 #[.slice Ao107 x206000_1.length co107, .slice Ao111 x206001_1.length co111] (0, 0) _ rfl (by (with_reducible repeat (first | refine blk_drewN ?_ _ | refine blk_drew ?_ | refine blk_alloc ?_ _)); refine blk_put (cs := #[.slice Ao107 x206000_1.length co107, .slice none 0 0]) ?_ 1 _ rfl; (with_reducible repeat (first | refine blk_drewN ?_ _ | refine blk_drew ?_ | refine blk_alloc ?_ _)); refine blk_put (cs := #[.slice none 0 0, .slice none 0 0]) ?_ 0 _ rfl; (with_reducible repeat (first | refine blk_drewN ?_ _ | refine blk_drew ?_ | refine blk_alloc ?_ _)); exact BK204.out) Try.underlying25 rfl (by kernel_rfl)) rfl ?_
     exact ⟨_, _, by first | rfl | (simp [errW_none, errW_some] <;> rfl) | (simp [*, errW_none, errW_some] <;> rfl), by (with_reducible repeat (first | apply Kd.R_alloc | apply Kd.R_drewN | apply Kd.R_drew)); exact Kd.R_mono (Kd.R_far (p := ⟨gb204, 1, none⟩) (Kd.R_far (p := ⟨gb204, 0, none⟩) (Kd.R_types HO_206000.out BK204.out (by decide)) (fun _ hk => hk.2) (.slice Ao107 x206000_1.length co107)) (fun _ hk => hk.2) (.slice Ao111 x206001_1.length co111)) (fun _ hk => trivial), by (with_reducible repeat (first | apply Kd.S_alloc | apply Kd.S_drewN | apply Kd.S_drew)); exact Kd.S_mono (Kd.S_far (p := ⟨gb204, 1, none⟩) (Kd.S_far (p := ⟨gb204, 0, none⟩) (Kd.S_types HO_206001.out BK204.out (by decide)) (fun _ hk => hk.2) (.slice Ao107 x206000_1.length co107)) (fun _ hk => hk.2) (.slice Ao111 x206001_1.length co111)) (fun _ hk => hk.1), by repeat (first | (with_reducible first | exact HB.out | apply below_alloc | apply pw_below_drewN | apply below_drew1 | refine below_set ?_ GE202.out | refine below_set ?_ GE203.out | refine below_set ?_ GE204.out | refine below_set ?_ GE205.out) | exact HB.out)⟩
   rw [if_pos c16] at H
   have c16b0 : decide (x8_1 < (wrap64 ((wrap64 ((l0_0.length : Int) - 1)) + (l1_0.length : Int)))) = true := decide_eq_true c16
   clear c16
   obtain ⟨y206, hy206⟩ : ∃ y_ : List Int, y_ = (([] : List Int)) := ⟨_, rfl⟩
   replace H : (spec_stack.l1 k1 (wrap64 ((l0_0.length : Int) - 1)) (wrap64 ((wrap64 ((l0_0.length : Int) - 1)) + (l1_0.length : Int))) x8_1 y206 0 0 l0_0 l0_1 l1_0 l1_1 x206000_1 x206001_1) = some (r1, r2) := by first | (rw [hy206]; with_reducible exact H) | (have H2_ := (Option.bind_some _ _).symm.trans H; rw [hy206]; with_reducible exact H2_) | (have H2_ := (Option.bind_some _ _).symm.trans H; with_reducible exact H2_) | with_reducible exact H | (rw [hy206]; exact H) | exact H
   have Ny206 := ak hy206
   clear hy206
   have H' := ak H
   clear H
   as_aux_lemma =>
    go_wp2_with (first | ((with_reducible refine gate_dst (N := 28) rfl ?_); refine Kd.R_lit (Kd.int .i64) _ 3 ?hg (N := 28) ?hd (xs := ([] : List Int)) (inner := []) (ok := fun _ => True) (okp := fun _ => True) ?hr ?hp (fun _ hk => hk) trivial (Below.refl _ _) (Nat.le_refl _) (by simp) ?_; (case hd => rfl); (case hg => rfl); (case hr => first | (go_simp; done) | (go_simp; rfl)); (case hp => exact (Reps.none _ _)); intro v207 w17 ho18 hb hg_ hnew_; clear hg_ hnew_; (first | rw [← Ny206.out] at ho18 | (simp only [Int.reduceToNat] at ho18; rw [← Ny206.out] at ho18)); replace HO_206001 := ak (Kd.S_elder' (kS HO_206001.out) (Kd.R_base ho18) hb); have HO208 := ak (Kd.R_lower (Kd.R_new' ho18 (Kd.R_lt (kR HO_206000.out))) (below_size (bB HB.out))); replace HO_206000 := ak (Kd.R_elder' (kR HO_206000.out) (Kd.R_base ho18) hb); replace BK202 := ak (blk_below (kK BK202.out) hb); replace BK203 := ak (blk_below (kK BK203.out) hb); replace BK204 := ak (blk_below (kK BK204.out) hb); replace BK205 := ak (blk_below (kK BK205.out) hb); replace HB := ak (below_step (bB HB.out) hb); clear hb ho18))
    go_loopg [9, 10, 11] k1 (fun kq v9 v10 v11 w' => ∃ (x9_2 : List Int) (x10_2 : Int) (x11_2 : Int), v10 = .int .i64 x10_2 ∧ v11 = .int .i64 x11_2 ∧ Aside0 (spec_stack.l1 kq (wrap64 ((l0_0.length : Int) - 1)) (wrap64 ((wrap64 ((l0_0.length : Int) - 1)) + (l1_0.length : Int))) x8_1 x9_2 x10_2 x11_2 l0_0 l0_1 l1_0 l1_1 x206000_1 x206001_1 = some (r1, r2)) ∧ Aside0 (kq ≤ k1) ∧ Aside0 (Kd.R (Kd.int .i64) 3 w' w.heap.size (fun k_ => some k_ ≠ (u206000 : Value).ownBlock) v9 x9_2) ∧ Aside0 (Kd.R (Kd.int .i64) 3 w' w.heap.size (fun k_ => some k_ ≠ (v9 : Value).ownBlock) u206000 x206000_1) ∧ Aside0 (Kd.S (Kd.slice 3 (Kd.int .i64)) 22 w' w.heap.size (fun k_ => some k_ ≠ (v9 : Value).ownBlock ∧ some k_ ≠ (u206000 : Value).ownBlock) u206001 x206001_1) ∧ Aside0 (w'.heap[gb202]? = some (.cells #[(.slice A0_0 l0_0.length c0_0), (.slice A0_1 l0_1.length c0_1)] 25 (0, 0))) ∧ Aside0 (w'.heap[gb203]? = some (.cells #[(.slice A1_0 l1_0.length c1_0), (.slice A1_1 l1_1.length c1_1)] 25 (0, 0))) ∧ Aside0 (w'.heap[gb204]? = some (.cells #[(.slice none 0 0), (.slice none 0 0)] 25 (0, 0))) ∧ Aside0 (w'.heap[gb205]? = some (.cells #[u206000, u206001] 25 (0, 0))) ∧ Aside0 (Below w.heap.size w w'))
    case atStart => exact ⟨(y206), (0), (0), (by first | rfl | (simp; done) | (simp [*]; done)), (by first | rfl | (simp; done) | (simp [*]; done)), H', ⟨Nat.le_refl _⟩, ⟨by (with_reducible repeat (first | apply Kd.R_alloc | apply Kd.R_drewN | apply Kd.R_drew)); exact Kd.R_mono HO208.out (fun _ hk => hk.2)⟩, ⟨by (with_reducible repeat (first | apply Kd.R_alloc | apply Kd.R_drewN | apply Kd.R_drew)); exact Kd.R_mono HO_206000.out (fun _ hk => hk.2)⟩, ⟨by (with_reducible repeat (first | apply Kd.S_alloc | apply Kd.S_drewN | apply Kd.S_drew)); exact Kd.S_mono HO_206001.out (fun _ hk => ⟨hk.2, hk.1⟩)⟩, ⟨by (with_reducible repeat (first | refine blk_drewN ?_ _ | refine blk_drew ?_ | refine blk_alloc ?_ _)); exact BK202.out⟩, ⟨by (with_reducible repeat (first | refine blk_drewN ?_ _ | refine blk_drew ?_ | refine blk_alloc ?_ _)); exact BK203.out⟩, ⟨by (with_reducible repeat (first | refine blk_drewN ?_ _ | refine blk_drew ?_ | refine blk_alloc ?_ _)); exact BK204.out⟩, ⟨by (with_reducible repeat (first | refine blk_drewN ?_ _ | refine blk_drew ?_ | refine blk_alloc ?_ _)); exact BK205.out⟩, ⟨by repeat (first | (with_reducible first | exact HB.out | apply below_alloc | apply pw_below_drewN | apply below_drew1 | refine below_set ?_ GE202.out | refine below_set ?_ GE203.out | refine below_set ?_ GE204.out | refine below_set ?_ GE205.out) | exact HB.out)⟩⟩
    case round =>
     clear H'
     try clear c1
     try clear p2
     try clear c6
     try clear p6
     try clear c7
     try clear c9
     try clear c12
     try clear c13
     try clear c14
     try clear c16
     try clear c16b0
     try clear hcz10_0
     try clear hcz10_1
     try clear hcz15_0
     try clear hcz15_1
     try clear hcz8_0
     try clear hcz8_1
     try clear hfz10_0
     try clear hfz10_1
     try clear hfz15_0
     try clear hfz15_1
     try clear hfz8_0
     try clear hfz8_1
     try clear p2
     try clear p6
     obtain ⟨x9_2, x10_2, x11_2, rfl, rfl, HA, HK2, HO_9, HO_206000, HO_206001, BK202, BK203, BK204, BK205, HB⟩ := hrel
     cases gk with
     | zero => exact absurd HA.out (by simp [spec_stack.l1])
     | succ k2 =>
      have H := HA.out
      clear HA
      simp only [spec_stack.l1] at H
      by_cases c19 : x11_2 < (wrap64 ((wrap64 ((l0_0.length : Int) - 1)) + (l1_0.length : Int)))
      rotate_left
      ·rw [if_neg c19] at H
       have c19b0 : decide (x11_2 < (wrap64 ((wrap64 ((l0_0.length : Int) - 1)) + (l1_0.length : Int)))) = false := decide_eq_false c19
       clear c19
       replace H := oi H
       obtain ⟨c90, H⟩ := H
       have LMc90 := ak c90
       clear c90
       obtain ⟨y209, hy209⟩ : ∃ y_ : List (List Int), y_ = (x206001_1 ++ [x9_2]) := ⟨_, rfl⟩
       replace H : (if x206000_1.length < 17592186044416 then (spec_stack.l0 k2 (wrap64 ((l0_0.length : Int) - 1)) (wrap64 ((wrap64 ((l0_0.length : Int) - 1)) + (l1_0.length : Int))) (wrap64 (x8_1 + 1)) l0_0 l0_1 l1_0 l1_1 (x206000_1 ++ [x10_2]) y209) else (none)) = some (r1, r2) := by first | (rw [hy209]; with_reducible exact H) | (have H2_ := (Option.bind_some _ _).symm.trans H; rw [hy209]; with_reducible exact H2_) | (have H2_ := (Option.bind_some _ _).symm.trans H; with_reducible exact H2_) | with_reducible exact H | (rw [hy209]; exact H) | exact H
       have Ny209 := ak hy209
       clear hy209
       replace H := oi H
       obtain ⟨c91, H⟩ := H
       have LMc91 := ak c91
       clear c91
       obtain ⟨y212, hy212⟩ : ∃ y_ : List Int, y_ = (x206000_1 ++ [x10_2]) := ⟨_, rfl⟩
       replace H : (spec_stack.l0 k2 (wrap64 ((l0_0.length : Int) - 1)) (wrap64 ((wrap64 ((l0_0.length : Int) - 1)) + (l1_0.length : Int))) (wrap64 (x8_1 + 1)) l0_0 l0_1 l1_0 l1_1 y212 y209) = some (r1, r2) := by first | (rw [hy212]; with_reducible exact H) | (have H2_ := (Option.bind_some _ _).symm.trans H; rw [hy212]; with_reducible exact H2_) | (have H2_ := (Option.bind_some _ _).symm.trans H; with_reducible exact H2_) | with_reducible exact H | (rw [hy212]; exact H) | exact H
       have Ny212 := ak hy212
       clear hy212
       have H' := ak H
       clear H
       have hnb92 := NB205_202.out
       have hnc92 := NB202_205.out
       have hnb93 := NB205_203.out
       have hnc93 := NB203_205.out
       have hnb94 := NB205_204.out
       have hnc94 := NB204_205.out
       have hcz95_0 : wr.cell? ⟨gb205, 0, none⟩ = some (u206000) := (blk_cell BK205.out 0).trans rfl
       have hcz95_1 : wr.cell? ⟨gb205, 1, none⟩ = some (u206001) := (blk_cell BK205.out 1).trans rfl
       have hfz95_0 := blk_frozen BK205.out 0
       have hfz95_1 := blk_frozen BK205.out 1
       obtain ⟨Ao97, co97, eo97⟩ := Kd.R_slice HO_9.out
       subst eo97
       as_aux_lemma =>
        go_wp2_with (first | ((with_reducible refine gate_builtin (b := .append) (xs := #[.tmp 130, .tmp 132]) rfl ?_); at_builtin; refine Kd.S_append (Kd.slice 3 (Kd.int .i64)) (w0 := w) w.heap.size rfl (.tmp 130) (.tmp 132) 23 22 (.slice none 0 0) 24 rfl Try.underlying23 info22 rfl (by decide) (by omega) u206001 x206001_1 x9_2 [.slice Ao97 x9_2.length co97] (fun k_ => some k_ ≠ (u206000 : Value).ownBlock) (fun k_ => some k_ = (.slice Ao97 x9_2.length co97 : Value).ownBlock) rfl rfl ?aP (fun k_ hk_ => ((Kd.R_mono (ok' := fun k_ => ((fun k_ => some k_ ≠ (u206000 : Value).ownBlock)) k_ ∧ some k_ ≠ (u206001 : Value).ownBlock) (Kd.R_apart' (HO_9.out) (Kd.S_typed HO_206001.out) (by decide)) (fun k_ hk => ⟨hk.1, hk.2⟩))).1 k_ hk_.symm) ?aF ?aO ?aB ?aS ?aL ?_; (case aP => exact Kd.M_row (Kd.R_mono (Kd.R_tight rfl (Kd.R_mono (ok' := fun k_ => ((fun k_ => some k_ ≠ (u206000 : Value).ownBlock)) k_ ∧ some k_ ≠ (u206001 : Value).ownBlock) (Kd.R_apart' (HO_9.out) (Kd.S_typed HO_206001.out) (by decide)) (fun k_ hk => ⟨hk.1, hk.2⟩))) (fun _ h_ => h_))); (case aB => exact (bB HB.out)); (case aF => exact (fun k_ hk => Kd.fresh' (Kd.R_lt (kR HO_206000.out)) k_ hk)); (case aO => exact (kS (Kd.S_mono HO_206001.out (fun k_ hk => ⟨hk.2, fun e_ => hk.1 e_⟩)))); (case aS => exact (below_size (bB HB.out))); (case aL => have := LMc90.out; omega); intro v210 w96 ho hb hg hat; rw [← Ny209.out] at ho; replace HO_206000 := ak (Kd.R_over' (kR HO_206000.out) (Kd.S_typed (kS HO_206001.out)) (by decide) hg); replace BK202 := ak (blk_grown (g := gb202) (o := .cells #[.slice A0_0 l0_0.length c0_0, .slice A0_1 l0_1.length c0_1] 25 (0, 0)) (kK BK202.out) hg (Kd.S_ne HO_206001.out BK202.out (by decide))); replace BK203 := ak (blk_grown (g := gb203) (o := .cells #[.slice A1_0 l1_0.length c1_0, .slice A1_1 l1_1.length c1_1] 25 (0, 0)) (kK BK203.out) hg (Kd.S_ne HO_206001.out BK203.out (by decide))); replace BK204 := ak (blk_grown (g := gb204) (o := .cells #[.slice none 0 0, .slice none 0 0] 25 (0, 0)) (kK BK204.out) hg (Kd.S_ne HO_206001.out BK204.out (by decide))); replace BK205 := ak (blk_grown (g := gb205) (o := .cells #[u206000, u206001] 25 (0, 0)) (kK BK205.out) hg (Kd.S_ne HO_206001.out BK205.out (by decide))); replace HB := ak (hb); have HO211 := ak (ho); clear HO_206001 HO_9; clear ho hb hg hat; obtain ⟨Ao98, co98, eo98⟩ := Kd.S_slice HO211.out; subst eo98; have hcz99_0 : w96.cell? ⟨gb205, 0, none⟩ = some (u206000) := (blk_cell BK205.out 0).trans rfl; have hcz99_1 : w96.cell? ⟨gb205, 1, none⟩ = some (u206001) := (blk_cell BK205.out 1).trans rfl; have hfz99_0 := blk_frozen BK205.out 0; have hfz99_1 := blk_frozen BK205.out 1) | ((with_reducible refine gate_builtin (b := .append) (xs := #[.tmp 136, .tmp 138]) rfl ?_); at_builtin; refine Kd.R_append (Kd.int .i64) (w0 := w) w.heap.size rfl (.tmp 136) (.tmp 138) 22 3 (.int .i64 0) 8 rfl Try.underlying22 info3 rfl (by decide) (by omega) u206000 x206000_1 x10_2 [.int .i64 x10_2] (fun _ => True) (fun _ => False) rfl (by first | (go_simp; done) | (go_simp; rfl)) ?aP (fun _ hk => hk.elim) ?aF ?aO ?aB ?aS ?aL ?_; (case aP => exact rfl); (case aB => exact (bB HB.out)); (case aF => exact (fun _ _ => trivial)); (case aO => exact (kR (Kd.R_mono (Kd.R_far (p := ⟨gb205, 1, none⟩) (Kd.R_types HO_206000.out BK205.out (by decide)) (fun _ hk => hk.2) (.slice Ao98 y209.length co98)) (fun _ hk => trivial)))); (case aS => exact (below_size (bB HB.out))); (case aL => have := LMc91.out; omega); intro v213 w100 ho hb hg hat; rw [← Ny212.out] at ho; replace BK202 := ak (blk_grown (g := gb202) (o := .cells #[.slice A0_0 l0_0.length c0_0, .slice A0_1 l0_1.length c0_1] 25 (0, 0)) (by (with_reducible repeat (first | refine blk_drewN ?_ _ | refine blk_drew ?_ | refine blk_alloc ?_ _)); refine blk_far ?_ NB202_205.out _; (with_reducible repeat (first | refine blk_drewN ?_ _ | refine blk_drew ?_ | refine blk_alloc ?_ _)); exact BK202.out) hg (Kd.R_ne HO_206000.out BK202.out (by decide))); replace BK203 := ak (blk_grown (g := gb203) (o := .cells #[.slice A1_0 l1_0.length c1_0, .slice A1_1 l1_1.length c1_1] 25 (0, 0)) (by (with_reducible repeat (first | refine blk_drewN ?_ _ | refine blk_drew ?_ | refine blk_alloc ?_ _)); refine blk_far ?_ NB203_205.out _; (with_reducible repeat (first | refine blk_drewN ?_ _ | refine blk_drew ?_ | refine blk_alloc ?_ _)); exact BK203.out) hg (Kd.R_ne HO_206000.out BK203.out (by decide))); replace BK204 := ak (blk_grown (g := gb204) (o := .cells #[.slice none 0 0, .slice none 0 0] 25 (0, 0)) (by (with_reducible repeat (first | refine blk_drewN ?_ _ | refine blk_drew ?_ | refine blk_alloc ?_ _)); refine blk_far ?_ NB204_205.out _; (with_reducible repeat (first | refine blk_drewN ?_ _ | refine blk_drew ?_ | refine blk_alloc ?_ _)); exact BK204.out) hg (Kd.R_ne HO_206000.out BK204.out (by decide))); replace HO211 := ak (Kd.S_after (ok := (fun _ => True)) (kS (Kd.S_mono (Kd.S_far (p := ⟨gb205, 1, none⟩) (Kd.S_types HO211.out BK205.out (by decide)) (fun _ hk => hk.2) (.slice Ao98 y209.length co98)) (fun _ hk => ⟨trivial, hk.1⟩))) hg hat); replace BK205 := ak (blk_grown (g := gb205) (o := .cells #[u206000, .slice Ao98 y209.length co98] 25 (0, 0)) (by (with_reducible repeat (first | refine blk_drewN ?_ _ | refine blk_drew ?_ | refine blk_alloc ?_ _)); refine blk_put (cs := #[u206000, u206001]) ?_ 1 _ rfl; (with_reducible repeat (first | refine blk_drewN ?_ _ | refine blk_drew ?_ | refine blk_alloc ?_ _)); exact BK205.out) hg (Kd.R_ne HO_206000.out BK205.out (by decide))); replace HB := ak (hb); have HO214 := ak (ho); clear HO_206000; clear ho hb hg hat; obtain ⟨Ao101, co101, eo101⟩ := Kd.R_slice HO214.out; subst eo101; have hcz102_0 : w100.cell? ⟨gb205, 0, none⟩ = some (u206000) := (blk_cell BK205.out 0).trans rfl; have hcz102_1 : w100.cell? ⟨gb205, 1, none⟩ = some (.slice Ao98 y209.length co98) := (blk_cell BK205.out 1).trans rfl; have hfz102_0 := blk_frozen BK205.out 0; have hfz102_1 := blk_frozen BK205.out 1))
        go_roundg k2
        case measure => have := HK1.out; have := HK2.out; omega
        case rel => exact ⟨(wrap64 (x8_1 + 1)), (y212), (y209), (.slice Ao101 y212.length co101), (.slice Ao98 y209.length co98), (by first | rfl | (simp; done) | (simp [*]; done)), H', ⟨by have := HK1.out; have := HK2.out; omega⟩, ⟨by (with_reducible repeat (first | apply Kd.R_alloc | apply Kd.R_drewN | apply Kd.R_drew)); exact Kd.R_mono (Kd.R_far (p := ⟨gb205, 0, none⟩) (Kd.R_types HO214.out BK205.out (by decide)) (fun _ hk => hk.2) (.slice Ao101 y212.length co101)) (fun _ hk => trivial)⟩, ⟨by (with_reducible repeat (first | apply Kd.S_alloc | apply Kd.S_drewN | apply Kd.S_drew)); exact Kd.S_mono (Kd.S_far (p := ⟨gb205, 0, none⟩) (Kd.S_types HO211.out BK205.out (by decide)) (fun _ hk => hk.2) (.slice Ao101 y212.length co101)) (fun _ hk => hk.1.2)⟩, ⟨by (with_reducible repeat (first | refine blk_drewN ?_ _ | refine blk_drew ?_ | refine blk_alloc ?_ _)); refine blk_far ?_ NB202_205.out _; (with_reducible repeat (first | refine blk_drewN ?_ _ | refine blk_drew ?_ | refine blk_alloc ?_ _)); exact BK202.out⟩, ⟨by (with_reducible repeat (first | refine blk_drewN ?_ _ | refine blk_drew ?_ | refine blk_alloc ?_ _)); refine blk_far ?_ NB203_205.out _; (with_reducible repeat (first | refine blk_drewN ?_ _ | refine blk_drew ?_ | refine blk_alloc ?_ _)); exact BK203.out⟩, ⟨by (with_reducible repeat (first | refine blk_drewN ?_ _ | refine blk_drew ?_ | refine blk_alloc ?_ _)); refine blk_far ?_ NB204_205.out _; (with_reducible repeat (first | refine blk_drewN ?_ _ | refine blk_drew ?_ | refine blk_alloc ?_ _)); exact BK204.out⟩, ⟨by (with_reducible repeat (first | refine blk_drewN ?_ _ | refine blk_drew ?_ | refine blk_alloc ?_ _)); refine blk_put (cs := #[u206000, .slice Ao98 y209.length co98]) ?_ 0 _ rfl; (with_reducible repeat (first | refine blk_drewN ?_ _ | refine blk_drew ?_ | refine blk_alloc ?_ _)); exact BK205.out⟩, ⟨by repeat (first | (with_reducible first | exact HB.out | apply below_alloc | apply pw_below_drewN | apply below_drew1 | refine below_set ?_ GE202.out | refine below_set ?_ GE203.out | refine below_set ?_ GE204.out | refine below_set ?_ GE205.out) | exact HB.out)⟩⟩
      rw [if_pos c19] at H
      have c19b0 : decide (x11_2 < (wrap64 ((wrap64 ((l0_0.length : Int) - 1)) + (l1_0.length : Int)))) = true := decide_eq_true c19
      clear c19
      obtain ⟨ji20, hji20⟩ : ∃ j_ : Int, (mn x8_1 x11_2) = j_ := ⟨_, rfl⟩
      replace H : (if x8_1 < (wrap64 ((l0_0.length : Int) - 1)) then (spec_stack.j2 k2 (wrap64 ((l0_0.length : Int) - 1)) (wrap64 ((wrap64 ((l0_0.length : Int) - 1)) + (l1_0.length : Int))) x8_1 x9_2 x10_2 x11_2 ji20 (decide (x11_2 < (wrap64 ((l0_0.length : Int) - 1)))) l0_0 l0_1 l1_0 l1_1 x206000_1 x206001_1) else (spec_stack.j2 k2 (wrap64 ((l0_0.length : Int) - 1)) (wrap64 ((wrap64 ((l0_0.length : Int) - 1)) + (l1_0.length : Int))) x8_1 x9_2 x10_2 x11_2 ji20 false l0_0 l0_1 l1_0 l1_1 x206000_1 x206001_1)) = some (r1, r2) := by first | (rw [hji20] at H; exact H) | (simp only [hji20] at H ⊢; exact H)
      have hji20_ : (if x11_2 < x8_1 then x11_2 else x8_1) = ji20 := hji20
      have HC21 := ak H
      clear H
      go_upto_region 13 with (fail)
      go_cut [44] (fun v44 wc => ∃ (kq : Nat) (x44_20 : Bool), v44 = .bool x44_20 ∧ Aside0 (spec_stack.j2 kq (wrap64 ((l0_0.length : Int) - 1)) (wrap64 ((wrap64 ((l0_0.length : Int) - 1)) + (l1_0.length : Int))) x8_1 x9_2 x10_2 x11_2 ji20 x44_20 l0_0 l0_1 l1_0 l1_1 x206000_1 x206001_1 = some (r1, r2)) ∧ Aside0 (kq ≤ k2) ∧ Aside0 (Kd.R (Kd.int .i64) 3 wc w.heap.size (fun k_ => some k_ ≠ (u206000 : Value).ownBlock) u9 x9_2) ∧ Aside0 (Kd.R (Kd.int .i64) 3 wc w.heap.size (fun k_ => some k_ ≠ (u9 : Value).ownBlock) u206000 x206000_1) ∧ Aside0 (Kd.S (Kd.slice 3 (Kd.int .i64)) 22 wc w.heap.size (fun k_ => some k_ ≠ (u9 : Value).ownBlock ∧ some k_ ≠ (u206000 : Value).ownBlock) u206001 x206001_1) ∧ Aside0 (wc.heap[gb202]? = some (.cells #[(.slice A0_0 l0_0.length c0_0), (.slice A0_1 l0_1.length c0_1)] 25 (0, 0))) ∧ Aside0 (wc.heap[gb203]? = some (.cells #[(.slice A1_0 l1_0.length c1_0), (.slice A1_1 l1_1.length c1_1)] 25 (0, 0))) ∧ Aside0 (wc.heap[gb204]? = some (.cells #[(.slice none 0 0), (.slice none 0 0)] 25 (0, 0))) ∧ Aside0 (wc.heap[gb205]? = some (.cells #[u206000, u206001] 25 (0, 0))) ∧ Aside0 (Below w.heap.size w wc))
      case first =>
       have H := HC21.out
       clear HC21
       by_cases c22 : x8_1 < (wrap64 ((l0_0.length : Int) - 1))
       ·rw [if_pos c22] at H
        have c22b0 : decide (x8_1 < (wrap64 ((l0_0.length : Int) - 1))) = true := decide_eq_true c22
        clear c22
        (first | rw [c22b0] | (simp only [i64_w, i32_w]; rw [c22b0]) | skip)
        have H' := ak H
        clear H
        as_aux_lemma =>
         go_wp2
         go_meet
         case rel => exact ⟨_, (decide (x11_2 < (wrap64 ((l0_0.length : Int) - 1)))), (by first | rfl | (simp; done) | (simp [*]; done)), H', ⟨by have := HK1.out; have := HK2.out; first | omega | exact Nat.le_refl _⟩, ⟨by (with_reducible repeat (first | apply Kd.R_alloc | apply Kd.R_drewN | apply Kd.R_drew)); exact HO_9.out⟩, ⟨by (with_reducible repeat (first | apply Kd.R_alloc | apply Kd.R_drewN | apply Kd.R_drew)); exact HO_206000.out⟩, ⟨by (with_reducible repeat (first | apply Kd.S_alloc | apply Kd.S_drewN | apply Kd.S_drew)); exact HO_206001.out⟩, ⟨by (with_reducible repeat (first | refine blk_drewN ?_ _ | refine blk_drew ?_ | refine blk_alloc ?_ _)); exact BK202.out⟩, ⟨by (with_reducible repeat (first | refine blk_drewN ?_ _ | refine blk_drew ?_ | refine blk_alloc ?_ _)); exact BK203.out⟩, ⟨by (with_reducible repeat (first | refine blk_drewN ?_ _ | refine blk_drew ?_ | refine blk_alloc ?_ _)); exact BK204.out⟩, ⟨by (with_reducible repeat (first | refine blk_drewN ?_ _ | refine blk_drew ?_ | refine blk_alloc ?_ _)); exact BK205.out⟩, ⟨by repeat (first | (with_reducible first | exact HB.out | apply below_alloc | apply pw_below_drewN | apply below_drew1 | refine below_set ?_ GE202.out | refine below_set ?_ GE203.out | refine below_set ?_ GE204.out | refine below_set ?_ GE205.out) | exact HB.out)⟩⟩
       rw [if_neg c22] at H
       have c22b0 : decide (x8_1 < (wrap64 ((l0_0.length : Int) - 1))) = false := decide_eq_false c22
       clear c22
       (first | rw [c22b0] | (simp only [i64_w, i32_w]; rw [c22b0]) | skip)
       have H' := ak H
       clear H
       as_aux_lemma =>
        go_wp2
        go_meet
        case rel => exact ⟨_, (false), (by first | rfl | (simp; done) | (simp [*]; done)), H', ⟨by have := HK1.out; have := HK2.out; first | omega | exact Nat.le_refl _⟩, ⟨by (with_reducible repeat (first | apply Kd.R_alloc | apply Kd.R_drewN | apply Kd.R_drew)); exact HO_9.out⟩, ⟨by (with_reducible repeat (first | apply Kd.R_alloc | apply Kd.R_drewN | apply Kd.R_drew)); exact HO_206000.out⟩, ⟨by (with_reducible repeat (first | apply Kd.S_alloc | apply Kd.S_drewN | apply Kd.S_drew)); exact HO_206001.out⟩, ⟨by (with_reducible repeat (first | refine blk_drewN ?_ _ | refine blk_drew ?_ | refine blk_alloc ?_ _)); exact BK202.out⟩, ⟨by (with_reducible repeat (first | refine blk_drewN ?_ _ | refine blk_drew ?_ | refine blk_alloc ?_ _)); exact BK203.out⟩, ⟨by (with_reducible repeat (first | refine blk_drewN ?_ _ | refine blk_drew ?_ | refine blk_alloc ?_ _)); exact BK204.out⟩, ⟨by (with_reducible repeat (first | refine blk_drewN ?_ _ | refine blk_drew ?_ | refine blk_alloc ?_ _)); exact BK205.out⟩, ⟨by repeat (first | (with_reducible first | exact HB.out | apply below_alloc | apply pw_below_drewN | apply below_drew1 | refine below_set ?_ GE202.out | refine below_set ?_ GE203.out | refine below_set ?_ GE204.out | refine below_set ?_ GE205.out) | exact HB.out)⟩⟩
      case rest =>
       clear HC21
       try clear c1
       try clear c2
       try clear p2
       try clear c6
       try clear p6
       try clear c7
       try clear c9
       try clear c12
       try clear c13
       try clear c14
       try clear c16
       try clear c16b0
       try clear c19
       try clear c19b0
       try clear c22
       try clear c22b0
       try clear hcz10_0
       try clear hcz10_1
       try clear hcz15_0
       try clear hcz15_1
       try clear hcz8_0
       try clear hcz8_1
       try clear hfz10_0
       try clear hfz10_1
       try clear hfz15_0
       try clear hfz15_1
       try clear hfz8_0
       try clear hfz8_1
       try clear p2
       try clear p6
       obtain ⟨kq, x44_20, rfl, HA, HJ20, HO_9, HO_206000, HO_206001, BK202, BK203, BK204, BK205, HB⟩ := hcut
       cases kq with
       | zero => exact absurd HA.out (by simp [spec_stack.j2])
       | succ kj20 =>
        have H := HA.out
        clear HA
        simp only [spec_stack.j2] at H
        have HC23 := ak H
        clear H
        go_upto_if 44 with (fail)
        go_cut [12] (fun v12 wc => ∃ (kq : Nat) (x12_22 : Int), v12 = .int .i64 x12_22 ∧ Aside0 (spec_stack.j3 kq (wrap64 ((l0_0.length : Int) - 1)) (wrap64 ((wrap64 ((l0_0.length : Int) - 1)) + (l1_0.length : Int))) x8_1 x9_2 x10_2 x11_2 x12_22 l0_0 l0_1 l1_0 l1_1 x206000_1 x206001_1 = some (r1, r2)) ∧ Aside0 (kq ≤ kj20) ∧ Aside0 (Kd.R (Kd.int .i64) 3 wc w.heap.size (fun k_ => some k_ ≠ (u206000 : Value).ownBlock) u9 x9_2) ∧ Aside0 (Kd.R (Kd.int .i64) 3 wc w.heap.size (fun k_ => some k_ ≠ (u9 : Value).ownBlock) u206000 x206000_1) ∧ Aside0 (Kd.S (Kd.slice 3 (Kd.int .i64)) 22 wc w.heap.size (fun k_ => some k_ ≠ (u9 : Value).ownBlock ∧ some k_ ≠ (u206000 : Value).ownBlock) u206001 x206001_1) ∧ Aside0 (wc.heap[gb202]? = some (.cells #[(.slice A0_0 l0_0.length c0_0), (.slice A0_1 l0_1.length c0_1)] 25 (0, 0))) ∧ Aside0 (wc.heap[gb203]? = some (.cells #[(.slice A1_0 l1_0.length c1_0), (.slice A1_1 l1_1.length c1_1)] 25 (0, 0))) ∧ Aside0 (wc.heap[gb204]? = some (.cells #[(.slice none 0 0), (.slice none 0 0)] 25 (0, 0))) ∧ Aside0 (wc.heap[gb205]? = some (.cells #[u206000, u206001] 25 (0, 0))) ∧ Aside0 (Below w.heap.size w wc))
        case first =>
         have H := HC23.out
         clear HC23
         by_cases c24 : x44_20 = true
         ·subst c24
          rw [if_pos rfl] at H
          replace H := oi H
          obtain ⟨c25, H⟩ := H
          have c25b0 : decide (0 ≤ x8_1) = true := decide_eq_true c25
          clear c25
          (first | rw [c25b0] | (simp only [i64_w, i32_w]; rw [c25b0]) | skip)
          replace H := oi H
          obtain ⟨c26, H⟩ := H
          have c26b0 : decide (x8_1 < (l0_1.length : Int)) = true := decide_eq_true c26
          clear c26
          replace H := oi H
          obtain ⟨c27, H⟩ := H
          have c27b0 : decide (0 ≤ x11_2) = true := decide_eq_true c27
          clear c27
          replace H := oi H
          obtain ⟨c28, H⟩ := H
          have c28b0 : decide (x11_2 < ((rd_L1 l0_1 x8_1).length : Int)) = true := decide_eq_true c28
          clear c28
          have H' := ak H
          clear H
          have hnb29 := NB202_203.out
          have hnc29 := NB203_202.out
          have hnb30 := NB202_204.out
          have hnc30 := NB204_202.out
          have hnb31 := NB202_205.out
          have hnc31 := NB205_202.out
          have hcz32_0 : wc.cell? ⟨gb202, 0, none⟩ = some (.slice A0_0 l0_0.length c0_0) := (blk_cell BK202.out 0).trans rfl
          have hcz32_1 : wc.cell? ⟨gb202, 1, none⟩ = some (.slice A0_1 l0_1.length c0_1) := (blk_cell BK202.out 1).trans rfl
          have hfz32_0 := blk_frozen BK202.out 0
          have hfz32_1 := blk_frozen BK202.out 1
          have p215 : 0 ≤ (x8_1 : Int) := of_decide_eq_true (by first | (with_reducible assumption) | assumption)
          have q215 : x8_1 < (l0_1.length : Int) := of_decide_eq_true (by first | (with_reducible assumption) | assumption)
          obtain ⟨ad215, A215_0, c215_0, e215, hx215_0, hl215_0, hi215_0⟩ := at_L1 HR0_1.out x8_1 p215 q215
          cases e215
          replace hx215_0 := (HB.out.cell (World.block_lt_of_cell? w _ hx215_0)).trans hx215_0
          have HR215_0 := ak hi215_0
          have HC215_0 := ak hl215_0
          clear hi215_0 hl215_0
          replace p215 := eq_true p215
          replace q215 := eq_true q215
          have p216 : 0 ≤ (x11_2 : Int) := of_decide_eq_true (by first | (with_reducible assumption) | assumption)
          have q216 : x11_2 < ((rd_L1 l0_1 x8_1).length : Int) := of_decide_eq_true (by first | (with_reducible assumption) | assumption)
          obtain ⟨ad216, e216, hx216_0⟩ := Kd.at_int HR215_0.out x11_2 p216 q216
          cases e216
          replace hx216_0 := (HB.out.cell (World.block_lt_of_cell? w _ hx216_0)).trans hx216_0
          replace p216 := eq_true p216
          replace q216 := eq_true q216
          as_aux_lemma =>
           go_wp2
           go_meet
           case rel => exact ⟨_, (rd (rd_L1 l0_1 x8_1) x11_2), (by first | rfl | (simp; done) | (simp [*]; done)), H', ⟨by have := HK1.out; have := HK2.out; have := HJ20.out; first | omega | exact Nat.le_refl _⟩, ⟨by (with_reducible repeat (first | apply Kd.R_alloc | apply Kd.R_drewN | apply Kd.R_drew)); exact HO_9.out⟩, ⟨by (with_reducible repeat (first | apply Kd.R_alloc | apply Kd.R_drewN | apply Kd.R_drew)); exact HO_206000.out⟩, ⟨by (with_reducible repeat (first | apply Kd.S_alloc | apply Kd.S_drewN | apply Kd.S_drew)); exact HO_206001.out⟩, ⟨by (with_reducible repeat (first | refine blk_drewN ?_ _ | refine blk_drew ?_ | refine blk_alloc ?_ _)); exact BK202.out⟩, ⟨by (with_reducible repeat (first | refine blk_drewN ?_ _ | refine blk_drew ?_ | refine blk_alloc ?_ _)); exact BK203.out⟩, ⟨by (with_reducible repeat (first | refine blk_drewN ?_ _ | refine blk_drew ?_ | refine blk_alloc ?_ _)); exact BK204.out⟩, ⟨by (with_reducible repeat (first | refine blk_drewN ?_ _ | refine blk_drew ?_ | refine blk_alloc ?_ _)); exact BK205.out⟩, ⟨by repeat (first | (with_reducible first | exact HB.out | apply below_alloc | apply pw_below_drewN | apply below_drew1 | refine below_set ?_ GE202.out | refine below_set ?_ GE203.out | refine below_set ?_ GE204.out | refine below_set ?_ GE205.out) | exact HB.out)⟩⟩
         replace c24 := Bool.eq_false_iff.mpr c24
         subst c24
         rw [if_neg (show ¬ (false = true) by decide)] at H
         by_cases c33 : x8_1 ≥ (wrap64 ((l0_0.length : Int) - 1))
         rotate_left
         ·rw [if_neg c33] at H
          have c33b0 : decide ((wrap64 ((l0_0.length : Int) - 1)) ≤ x8_1) = false := decide_eq_false c33
          clear c33
          have H' := ak H
          clear H
          as_aux_lemma =>
           go_wp2
           go_meet
           case rel => exact ⟨_, (ji20), (by first | rfl | (simp; done) | (simp only [← hji20] <;> (first | rfl | simp)) | (simp [*]; done)), H', ⟨by have := HK1.out; have := HK2.out; have := HJ20.out; first | omega | exact Nat.le_refl _⟩, ⟨by (with_reducible repeat (first | apply Kd.R_alloc | apply Kd.R_drewN | apply Kd.R_drew)); exact HO_9.out⟩, ⟨by (with_reducible repeat (first | apply Kd.R_alloc | apply Kd.R_drewN | apply Kd.R_drew)); exact HO_206000.out⟩, ⟨by (with_reducible repeat (first | apply Kd.S_alloc | apply Kd.S_drewN | apply Kd.S_drew)); exact HO_206001.out⟩, ⟨by (with_reducible repeat (first | refine blk_drewN ?_ _ | refine blk_drew ?_ | refine blk_alloc ?_ _)); exact BK202.out⟩, ⟨by (with_reducible repeat (first | refine blk_drewN ?_ _ | refine blk_drew ?_ | refine blk_alloc ?_ _)); exact BK203.out⟩, ⟨by (with_reducible repeat (first | refine blk_drewN ?_ _ | refine blk_drew ?_ | refine blk_alloc ?_ _)); exact BK204.out⟩, ⟨by (with_reducible repeat (first | refine blk_drewN ?_ _ | refine blk_drew ?_ | refine blk_alloc ?_ _)); exact BK205.out⟩, ⟨by repeat (first | (with_reducible first | exact HB.out | apply below_alloc | apply pw_below_drewN | apply below_drew1 | refine below_set ?_ GE202.out | refine below_set ?_ GE203.out | refine below_set ?_ GE204.out | refine below_set ?_ GE205.out) | exact HB.out)⟩⟩
         rw [if_pos c33] at H
         have c33b0 : decide ((wrap64 ((l0_0.length : Int) - 1)) ≤ x8_1) = true := decide_eq_true c33
         clear c33
         by_cases c34 : x11_2 ≥ (wrap64 ((l0_0.length : Int) - 1))
         rotate_left
         ·rw [if_neg c34] at H
          have c34b0 : decide ((wrap64 ((l0_0.length : Int) - 1)) ≤ x11_2) = false := decide_eq_false c34
          clear c34
          have H' := ak H
          clear H
          as_aux_lemma =>
           go_wp2
           go_meet
           case rel => exact ⟨_, (ji20), (by first | rfl | (simp; done) | (simp only [← hji20] <;> (first | rfl | simp)) | (simp [*]; done)), H', ⟨by have := HK1.out; have := HK2.out; have := HJ20.out; first | omega | exact Nat.le_refl _⟩, ⟨by (with_reducible repeat (first | apply Kd.R_alloc | apply Kd.R_drewN | apply Kd.R_drew)); exact HO_9.out⟩, ⟨by (with_reducible repeat (first | apply Kd.R_alloc | apply Kd.R_drewN | apply Kd.R_drew)); exact HO_206000.out⟩, ⟨by (with_reducible repeat (first | apply Kd.S_alloc | apply Kd.S_drewN | apply Kd.S_drew)); exact HO_206001.out⟩, ⟨by (with_reducible repeat (first | refine blk_drewN ?_ _ | refine blk_drew ?_ | refine blk_alloc ?_ _)); exact BK202.out⟩, ⟨by (with_reducible repeat (first | refine blk_drewN ?_ _ | refine blk_drew ?_ | refine blk_alloc ?_ _)); exact BK203.out⟩, ⟨by (with_reducible repeat (first | refine blk_drewN ?_ _ | refine blk_drew ?_ | refine blk_alloc ?_ _)); exact BK204.out⟩, ⟨by (with_reducible repeat (first | refine blk_drewN ?_ _ | refine blk_drew ?_ | refine blk_alloc ?_ _)); exact BK205.out⟩, ⟨by repeat (first | (with_reducible first | exact HB.out | apply below_alloc | apply pw_below_drewN | apply below_drew1 | refine below_set ?_ GE202.out | refine below_set ?_ GE203.out | refine below_set ?_ GE204.out | refine below_set ?_ GE205.out) | exact HB.out)⟩⟩
         rw [if_pos c34] at H
         have c34b0 : decide ((wrap64 ((l0_0.length : Int) - 1)) ≤ x11_2) = true := decide_eq_true c34
         clear c34
         obtain ⟨ji35, hji35⟩ : ∃ j_ : Int, (wrap64 (x8_1 - (wrap64 ((l0_0.length : Int) - 1)))) = j_ := ⟨_, rfl⟩
         replace H : (if 0 ≤ (ji35) then (if (ji35) < (l1_1.length : Int) then (if 0 ≤ (wrap64 (x11_2 - (wrap64 ((l0_0.length : Int) - 1)))) then (if (wrap64 (x11_2 - (wrap64 ((l0_0.length : Int) - 1)))) < ((rd_L1 l1_1 (ji35)).length : Int) then (spec_stack.j3 kj20 (wrap64 ((l0_0.length : Int) - 1)) (wrap64 ((wrap64 ((l0_0.length : Int) - 1)) + (l1_0.length : Int))) x8_1 x9_2 x10_2 x11_2 (wrap64 ((wrap64 ((l0_0.length : Int) - 1)) + (rd (rd_L1 l1_1 (ji35)) (wrap64 (x11_2 - (wrap64 ((l0_0.length : Int) - 1))))))) l0_0 l0_1 l1_0 l1_1 x206000_1 x206001_1) else (none)) else (none)) else (none)) else (none)) = some (r1, r2) := by first | (rw [hji35] at H; exact H) | (simp only [hji35] at H ⊢; exact H)
         have hji35w : (IntKind.i64.wrap (x8_1 - (wrap64 ((l0_0.length : Int) - 1)))) = ji35 := (i64_w _).trans hji35
         replace H := oi H
         obtain ⟨c36, H⟩ := H
         have c36b0 : decide (0 ≤ (ji35)) = true := decide_eq_true c36
         clear c36
         replace H := oi H
         obtain ⟨c37, H⟩ := H
         have c37b0 : decide ((ji35) < (l1_1.length : Int)) = true := decide_eq_true c37
         clear c37
         obtain ⟨ji38, hji38⟩ : ∃ j_ : Int, (wrap64 (x11_2 - (wrap64 ((l0_0.length : Int) - 1)))) = j_ := ⟨_, rfl⟩
         replace H : (if 0 ≤ (ji38) then (if (ji38) < ((rd_L1 l1_1 (ji35)).length : Int) then (spec_stack.j3 kj20 (wrap64 ((l0_0.length : Int) - 1)) (wrap64 ((wrap64 ((l0_0.length : Int) - 1)) + (l1_0.length : Int))) x8_1 x9_2 x10_2 x11_2 (wrap64 ((wrap64 ((l0_0.length : Int) - 1)) + (rd (rd_L1 l1_1 (ji35)) (ji38)))) l0_0 l0_1 l1_0 l1_1 x206000_1 x206001_1) else (none)) else (none)) = some (r1, r2) := by first | (rw [hji38] at H; exact H) | (simp only [hji38] at H ⊢; exact H)
         have hji38w : (IntKind.i64.wrap (x11_2 - (wrap64 ((l0_0.length : Int) - 1)))) = ji38 := (i64_w _).trans hji38
         replace H := oi H
         obtain ⟨c39, H⟩ := H
         have c39b0 : decide (0 ≤ (ji38)) = true := decide_eq_true c39
         clear c39
         replace H := oi H
         obtain ⟨c40, H⟩ := H
         have c40b0 : decide ((ji38) < ((rd_L1 l1_1 (ji35)).length : Int)) = true := decide_eq_true c40
         clear c40
         have H' := ak H
         clear H
         have hnb41 := NB203_202.out
         have hnc41 := NB202_203.out
         have hnb42 := NB203_204.out
         have hnc42 := NB204_203.out
         have hnb43 := NB203_205.out
         have hnc43 := NB205_203.out
         have hcz44_0 : wc.cell? ⟨gb203, 0, none⟩ = some (.slice A1_0 l1_0.length c1_0) := (blk_cell BK203.out 0).trans rfl
         have hcz44_1 : wc.cell? ⟨gb203, 1, none⟩ = some (.slice A1_1 l1_1.length c1_1) := (blk_cell BK203.out 1).trans rfl
         have hfz44_0 := blk_frozen BK203.out 0
         have hfz44_1 := blk_frozen BK203.out 1
         have p217 : 0 ≤ ((ji35) : Int) := of_decide_eq_true (by first | (with_reducible assumption) | assumption)
         have q217 : (ji35) < (l1_1.length : Int) := of_decide_eq_true (by first | (with_reducible assumption) | assumption)
         obtain ⟨ad217, A217_0, c217_0, e217, hx217_0, hl217_0, hi217_0⟩ := at_L1 HR1_1.out (ji35) p217 q217
         cases e217
         replace hx217_0 := (HB.out.cell (World.block_lt_of_cell? w _ hx217_0)).trans hx217_0
         have HR217_0 := ak hi217_0
         have HC217_0 := ak hl217_0
         clear hi217_0 hl217_0
         replace p217 := eq_true p217
         replace q217 := eq_true q217
         have p218 : 0 ≤ ((ji38) : Int) := of_decide_eq_true (by first | (with_reducible assumption) | assumption)
         have q218 : (ji38) < ((rd_L1 l1_1 (ji35)).length : Int) := of_decide_eq_true (by first | (with_reducible assumption) | assumption)
         obtain ⟨ad218, e218, hx218_0⟩ := Kd.at_int HR217_0.out (ji38) p218 q218
         cases e218
         replace hx218_0 := (HB.out.cell (World.block_lt_of_cell? w _ hx218_0)).trans hx218_0
         replace p218 := eq_true p218
         replace q218 := eq_true q218
         as_aux_lemma =>
          go_wp2
          go_meet
          case rel => exact ⟨_, (wrap64 ((wrap64 ((l0_0.length : Int) - 1)) + (rd (rd_L1 l1_1 (ji35)) (ji38)))), (by first | rfl | (simp; done) | (simp only [← hji35, ← hji38] <;> (first | rfl | simp)) | (simp [*]; done)), H', ⟨by have := HK1.out; have := HK2.out; have := HJ20.out; first | omega | exact Nat.le_refl _⟩, ⟨by (with_reducible repeat (first | apply Kd.R_alloc | apply Kd.R_drewN | apply Kd.R_drew)); exact HO_9.out⟩, ⟨by (with_reducible repeat (first | apply Kd.R_alloc | apply Kd.R_drewN | apply Kd.R_drew)); exact HO_206000.out⟩, ⟨by (with_reducible repeat (first | apply Kd.S_alloc | apply Kd.S_drewN | apply Kd.S_drew)); exact HO_206001.out⟩, ⟨by (with_reducible repeat (first | refine blk_drewN ?_ _ | refine blk_drew ?_ | refine blk_alloc ?_ _)); exact BK202.out⟩, ⟨by (with_reducible repeat (first | refine blk_drewN ?_ _ | refine blk_drew ?_ | refine blk_alloc ?_ _)); exact BK203.out⟩, ⟨by (with_reducible repeat (first | refine blk_drewN ?_ _ | refine blk_drew ?_ | refine blk_alloc ?_ _)); exact BK204.out⟩, ⟨by (with_reducible repeat (first | refine blk_drewN ?_ _ | refine blk_drew ?_ | refine blk_alloc ?_ _)); exact BK205.out⟩, ⟨by repeat (first | (with_reducible first | exact HB.out | apply below_alloc | apply pw_below_drewN | apply below_drew1 | refine below_set ?_ GE202.out | refine below_set ?_ GE203.out | refine below_set ?_ GE204.out | refine below_set ?_ GE205.out) | exact HB.out)⟩⟩
        case rest =>
         clear HC23
         try clear c1
         try clear c2
         try clear p2
         try clear q2
         try clear hx2
         try clear c3
         try clear c4
         try clear c6
         try clear p6
         try clear c7
         try clear c9
         try clear c12
         try clear c13
         try clear c14
         try clear c16
         try clear c16b0
         try clear c19
         try clear c19b0
         try clear c21
         try clear p21
         try clear q21
         try clear hx21
         try clear c22
         try clear c22b0
         try clear c24
         try clear c25
         try clear c25b0
         try clear c26
         try clear c26b0
         try clear c27
         try clear c27b0
         try clear c28
         try clear c28b0
         try clear c29
         try clear c30
         try clear c31
         try clear c33
         try clear c33b0
         try clear c34
         try clear c34b0
         try clear c36
         try clear c36b0
         try clear c37
         try clear c37b0
         try clear c39
         try clear c39b0
         try clear c40
         try clear c40b0
         try clear c41
         try clear c42
         try clear c43
         try clear hcz10_0
         try clear hcz10_1
         try clear hcz15_0
         try clear hcz15_1
         try clear hcz32_0
         try clear hcz32_1
         try clear hcz44_0
         try clear hcz44_1
         try clear hcz8_0
         try clear hcz8_1
         try clear hfz10_0
         try clear hfz10_1
         try clear hfz15_0
         try clear hfz15_1
         try clear hfz32_0
         try clear hfz32_1
         try clear hfz44_0
         try clear hfz44_1
         try clear hfz8_0
         try clear hfz8_1
         try clear hx215_0
         try clear hx216_0
         try clear hx217_0
         try clear hx218_0
         try clear p2
         try clear p215
         try clear p216
         try clear p217
         try clear p218
         try clear p6
         try clear q215
         try clear q216
         try clear q217
         try clear q218
         obtain ⟨kq, x12_22, rfl, HA, HJ22, HO_9, HO_206000, HO_206001, BK202, BK203, BK204, BK205, HB⟩ := hcut
         cases kq with
         | zero => exact absurd HA.out (by simp [spec_stack.j3])
         | succ kj22 =>
          have H := HA.out
          clear HA
          simp only [spec_stack.j3] at H
          replace H := oi H
          obtain ⟨c45, H⟩ := H
          have LMc45 := ak c45
          clear c45
          obtain ⟨y219, hy219⟩ : ∃ y_ : List Int, y_ = (x9_2 ++ [x12_22]) := ⟨_, rfl⟩
          replace H : (if x8_1 < (wrap64 ((l0_0.length : Int) - 1)) then (if x11_2 ≥ (wrap64 ((l0_0.length : Int) - 1)) then ((spec_power.f kj22 x11_2).bind fun t222 => (spec_stack.l1 kj22 (wrap64 ((l0_0.length : Int) - 1)) (wrap64 ((wrap64 ((l0_0.length : Int) - 1)) + (l1_0.length : Int))) x8_1 y219 (wrap64 (x10_2 + t222)) (wrap64 (x11_2 + 1)) l0_0 l0_1 l1_0 l1_1 x206000_1 x206001_1)) else (if x11_2 < (wrap64 ((l0_0.length : Int) - 1)) then ((spec_below.f kj22 l0_0 x8_1 x11_2).bind fun t223 => (if t223 = true then ((spec_power.f kj22 x11_2).bind fun t224 => (spec_stack.l1 kj22 (wrap64 ((l0_0.length : Int) - 1)) (wrap64 ((wrap64 ((l0_0.length : Int) - 1)) + (l1_0.length : Int))) x8_1 y219 (wrap64 (x10_2 + t224)) (wrap64 (x11_2 + 1)) l0_0 l0_1 l1_0 l1_1 x206000_1 x206001_1)) else (if x8_1 ≥ (wrap64 ((l0_0.length : Int) - 1)) then (spec_stack.l1 kj22 (wrap64 ((l0_0.length : Int) - 1)) (wrap64 ((wrap64 ((l0_0.length : Int) - 1)) + (l1_0.length : Int))) x8_1 y219 x10_2 (wrap64 (x11_2 + 1)) l0_0 l0_1 l1_0 l1_1 x206000_1 x206001_1) else (spec_stack.l1 kj22 (wrap64 ((l0_0.length : Int) - 1)) (wrap64 ((wrap64 ((l0_0.length : Int) - 1)) + (l1_0.length : Int))) x8_1 y219 x10_2 (wrap64 (x11_2 + 1)) l0_0 l0_1 l1_0 l1_1 x206000_1 x206001_1)))) else (if x8_1 ≥ (wrap64 ((l0_0.length : Int) - 1)) then (spec_stack.l1 kj22 (wrap64 ((l0_0.length : Int) - 1)) (wrap64 ((wrap64 ((l0_0.length : Int) - 1)) + (l1_0.length : Int))) x8_1 y219 x10_2 (wrap64 (x11_2 + 1)) l0_0 l0_1 l1_0 l1_1 x206000_1 x206001_1) else (spec_stack.l1 kj22 (wrap64 ((l0_0.length : Int) - 1)) (wrap64 ((wrap64 ((l0_0.length : Int) - 1)) + (l1_0.length : Int))) x8_1 y219 x10_2 (wrap64 (x11_2 + 1)) l0_0 l0_1 l1_0 l1_1 x206000_1 x206001_1)))) else (if x8_1 ≥ (wrap64 ((l0_0.length : Int) - 1)) then (if x11_2 ≥ (wrap64 ((l0_0.length : Int) - 1)) then ((spec_below.f kj22 l1_0 (wrap64 (x8_1 - (wrap64 ((l0_0.length : Int) - 1)))) (wrap64 (x11_2 - (wrap64 ((l0_0.length : Int) - 1))))).bind fun t225 => (if t225 = true then ((spec_power.f kj22 x11_2).bind fun t226 => (spec_stack.l1 kj22 (wrap64 ((l0_0.length : Int) - 1)) (wrap64 ((wrap64 ((l0_0.length : Int) - 1)) + (l1_0.length : Int))) x8_1 y219 (wrap64 (x10_2 + t226)) (wrap64 (x11_2 + 1)) l0_0 l0_1 l1_0 l1_1 x206000_1 x206001_1)) else (spec_stack.l1 kj22 (wrap64 ((l0_0.length : Int) - 1)) (wrap64 ((wrap64 ((l0_0.length : Int) - 1)) + (l1_0.length : Int))) x8_1 y219 x10_2 (wrap64 (x11_2 + 1)) l0_0 l0_1 l1_0 l1_1 x206000_1 x206001_1))) else (spec_stack.l1 kj22 (wrap64 ((l0_0.length : Int) - 1)) (wrap64 ((wrap64 ((l0_0.length : Int) - 1)) + (l1_0.length : Int))) x8_1 y219 x10_2 (wrap64 (x11_2 + 1)) l0_0 l0_1 l1_0 l1_1 x206000_1 x206001_1)) else (spec_stack.l1 kj22 (wrap64 ((l0_0.length : Int) - 1)) (wrap64 ((wrap64 ((l0_0.length : Int) - 1)) + (l1_0.length : Int))) x8_1 y219 x10_2 (wrap64 (x11_2 + 1)) l0_0 l0_1 l1_0 l1_1 x206000_1 x206001_1))) = some (r1, r2) := by first | (rw [hy219]; with_reducible exact H) | (have H2_ := (Option.bind_some _ _).symm.trans H; rw [hy219]; with_reducible exact H2_) | (have H2_ := (Option.bind_some _ _).symm.trans H; with_reducible exact H2_) | with_reducible exact H | (rw [hy219]; exact H) | exact H
          have Ny219 := ak hy219
          clear hy219
          by_cases c46 : x8_1 < (wrap64 ((l0_0.length : Int) - 1))
          rotate_left
          ·rw [if_neg c46] at H
           have c46b0 : decide (x8_1 < (wrap64 ((l0_0.length : Int) - 1))) = false := decide_eq_false c46
           clear c46
           by_cases c73 : x8_1 ≥ (wrap64 ((l0_0.length : Int) - 1))
           rotate_left
           ·rw [if_neg c73] at H
            have c73b0 : decide ((wrap64 ((l0_0.length : Int) - 1)) ≤ x8_1) = false := decide_eq_false c73
            clear c73
            have H' := ak H
            clear H
            as_aux_lemma =>
             go_wp2_with (first | ((with_reducible refine gate_builtin (b := .append) (xs := #[.tmp 75, .tmp 77]) rfl ?_); at_builtin; refine Kd.R_append (Kd.int .i64) (w0 := w) w.heap.size rfl (.tmp 75) (.tmp 77) 22 3 (.int .i64 0) 8 rfl Try.underlying22 info3 rfl (by decide) (by omega) u9 x9_2 x12_22 [.int .i64 x12_22] (fun k_ => some k_ ≠ (u206000 : Value).ownBlock) (fun _ => False) rfl rfl ?aP (fun _ hk => hk.elim) ?aF ?aO ?aB ?aS ?aL ?_; (case aP => exact rfl); (case aB => exact (bB HB.out)); (case aF => exact (fun k_ hk => Kd.fresh' (Kd.R_lt (kR HO_206000.out)) k_ hk)); (case aO => exact (kR HO_9.out)); (case aS => exact (below_size (bB HB.out))); (case aL => have := LMc45.out; omega); intro v220 w89 ho hb hg hat; rw [← Ny219.out] at ho; replace HO_206000 := ak (Kd.R_after (ok := (fun _ => True)) (kR (Kd.R_mono HO_206000.out (fun _ hk => ⟨trivial, hk⟩))) hg hat); replace HO_206001 := ak (Kd.S_after (ok := (fun k_ => some k_ ≠ (u206000 : Value).ownBlock)) (kS (Kd.S_mono HO_206001.out (fun _ hk => ⟨hk.2, hk.1⟩))) hg hat); replace BK202 := ak (blk_grown (g := gb202) (o := .cells #[.slice A0_0 l0_0.length c0_0, .slice A0_1 l0_1.length c0_1] 25 (0, 0)) (kK BK202.out) hg (Kd.R_ne HO_9.out BK202.out (by decide))); replace BK203 := ak (blk_grown (g := gb203) (o := .cells #[.slice A1_0 l1_0.length c1_0, .slice A1_1 l1_1.length c1_1] 25 (0, 0)) (kK BK203.out) hg (Kd.R_ne HO_9.out BK203.out (by decide))); replace BK204 := ak (blk_grown (g := gb204) (o := .cells #[.slice none 0 0, .slice none 0 0] 25 (0, 0)) (kK BK204.out) hg (Kd.R_ne HO_9.out BK204.out (by decide))); replace BK205 := ak (blk_grown (g := gb205) (o := .cells #[u206000, u206001] 25 (0, 0)) (kK BK205.out) hg (Kd.R_ne HO_9.out BK205.out (by decide))); replace HB := ak (hb); have HO221 := ak (ho); clear HO_9; clear ho hb hg hat))
             go_roundg kj22
             case measure => have := HK1.out; have := HK2.out; have := HJ20.out; have := HJ22.out; omega
             case rel => exact ⟨(y219), (x10_2), (wrap64 (x11_2 + 1)), (by first | rfl | (simp; done) | (simp [*]; done)), (by first | rfl | (simp; done) | (simp [*]; done)), H', ⟨by have := HK1.out; have := HK2.out; have := HJ20.out; have := HJ22.out; omega⟩, ⟨by (with_reducible repeat (first | apply Kd.R_alloc | apply Kd.R_drewN | apply Kd.R_drew)); exact HO221.out⟩, ⟨by (with_reducible repeat (first | apply Kd.R_alloc | apply Kd.R_drewN | apply Kd.R_drew)); exact Kd.R_mono HO_206000.out (fun _ hk => hk.2)⟩, ⟨by (with_reducible repeat (first | apply Kd.S_alloc | apply Kd.S_drewN | apply Kd.S_drew)); exact Kd.S_mono HO_206001.out (fun _ hk => ⟨hk.2, hk.1⟩)⟩, ⟨by (with_reducible repeat (first | refine blk_drewN ?_ _ | refine blk_drew ?_ | refine blk_alloc ?_ _)); exact BK202.out⟩, ⟨by (with_reducible repeat (first | refine blk_drewN ?_ _ | refine blk_drew ?_ | refine blk_alloc ?_ _)); exact BK203.out⟩, ⟨by (with_reducible repeat (first | refine blk_drewN ?_ _ | refine blk_drew ?_ | refine blk_alloc ?_ _)); exact BK204.out⟩, ⟨by (with_reducible repeat (first | refine blk_drewN ?_ _ | refine blk_drew ?_ | refine blk_alloc ?_ _)); exact BK205.out⟩, ⟨by repeat (first | (with_reducible first | exact HB.out | apply below_alloc | apply pw_below_drewN | apply below_drew1 | refine below_set ?_ GE202.out | refine below_set ?_ GE203.out | refine below_set ?_ GE204.out | refine below_set ?_ GE205.out) | exact HB.out)⟩⟩
           rw [if_pos c73] at H
           have c73b0 : decide ((wrap64 ((l0_0.length : Int) - 1)) ≤ x8_1) = true := decide_eq_true c73
           clear c73
           by_cases c74 : x11_2 ≥ (wrap64 ((l0_0.length : Int) - 1))
           rotate_left
           ·rw [if_neg c74] at H
            have c74b0 : decide ((wrap64 ((l0_0.length : Int) - 1)) ≤ x11_2) = false := decide_eq_false c74
            clear c74
            have H' := ak H
            clear H
            as_aux_lemma =>
             go_wp2_with (first | ((with_reducible refine gate_builtin (b := .append) (xs := #[.tmp 75, .tmp 77]) rfl ?_); at_builtin; refine Kd.R_append (Kd.int .i64) (w0 := w) w.heap.size rfl (.tmp 75) (.tmp 77) 22 3 (.int .i64 0) 8 rfl Try.underlying22 info3 rfl (by decide) (by omega) u9 x9_2 x12_22 [.int .i64 x12_22] (fun k_ => some k_ ≠ (u206000 : Value).ownBlock) (fun _ => False) rfl rfl ?aP (fun _ hk => hk.elim) ?aF ?aO ?aB ?aS ?aL ?_; (case aP => exact rfl); (case aB => exact (bB HB.out)); (case aF => exact (fun k_ hk => Kd.fresh' (Kd.R_lt (kR HO_206000.out)) k_ hk)); (case aO => exact (kR HO_9.out)); (case aS => exact (below_size (bB HB.out))); (case aL => have := LMc45.out; omega); intro v220 w88 ho hb hg hat; rw [← Ny219.out] at ho; replace HO_206000 := ak (Kd.R_after (ok := (fun _ => True)) (kR (Kd.R_mono HO_206000.out (fun _ hk => ⟨trivial, hk⟩))) hg hat); replace HO_206001 := ak (Kd.S_after (ok := (fun k_ => some k_ ≠ (u206000 : Value).ownBlock)) (kS (Kd.S_mono HO_206001.out (fun _ hk => ⟨hk.2, hk.1⟩))) hg hat); replace BK202 := ak (blk_grown (g := gb202) (o := .cells #[.slice A0_0 l0_0.length c0_0, .slice A0_1 l0_1.length c0_1] 25 (0, 0)) (kK BK202.out) hg (Kd.R_ne HO_9.out BK202.out (by decide))); replace BK203 := ak (blk_grown (g := gb203) (o := .cells #[.slice A1_0 l1_0.length c1_0, .slice A1_1 l1_1.length c1_1] 25 (0, 0)) (kK BK203.out) hg (Kd.R_ne HO_9.out BK203.out (by decide))); replace BK204 := ak (blk_grown (g := gb204) (o := .cells #[.slice none 0 0, .slice none 0 0] 25 (0, 0)) (kK BK204.out) hg (Kd.R_ne HO_9.out BK204.out (by decide))); replace BK205 := ak (blk_grown (g := gb205) (o := .cells #[u206000, u206001] 25 (0, 0)) (kK BK205.out) hg (Kd.R_ne HO_9.out BK205.out (by decide))); replace HB := ak (hb); have HO221 := ak (ho); clear HO_9; clear ho hb hg hat))
             go_roundg kj22
             case measure => have := HK1.out; have := HK2.out; have := HJ20.out; have := HJ22.out; omega
             case rel => exact ⟨(y219), (x10_2), (wrap64 (x11_2 + 1)), (by first | rfl | (simp; done) | (simp [*]; done)), (by first | rfl | (simp; done) | (simp [*]; done)), H', ⟨by have := HK1.out; have := HK2.out; have := HJ20.out; have := HJ22.out; omega⟩, ⟨by (with_reducible repeat (first | apply Kd.R_alloc | apply Kd.R_drewN | apply Kd.R_drew)); exact HO221.out⟩, ⟨by (with_reducible repeat (first | apply Kd.R_alloc | apply Kd.R_drewN | apply Kd.R_drew)); exact Kd.R_mono HO_206000.out (fun _ hk => hk.2)⟩, ⟨by (with_reducible repeat (first | apply Kd.S_alloc | apply Kd.S_drewN | apply Kd.S_drew)); exact Kd.S_mono HO_206001.out (fun _ hk => ⟨hk.2, hk.1⟩)⟩, ⟨by (with_reducible repeat (first | refine blk_drewN ?_ _ | refine blk_drew ?_ | refine blk_alloc ?_ _)); exact BK202.out⟩, ⟨by (with_reducible repeat (first | refine blk_drewN ?_ _ | refine blk_drew ?_ | refine blk_alloc ?_ _)); exact BK203.out⟩, ⟨by (with_reducible repeat (first | refine blk_drewN ?_ _ | refine blk_drew ?_ | refine blk_alloc ?_ _)); exact BK204.out⟩, ⟨by (with_reducible repeat (first | refine blk_drewN ?_ _ | refine blk_drew ?_ | refine blk_alloc ?_ _)); exact BK205.out⟩, ⟨by repeat (first | (with_reducible first | exact HB.out | apply below_alloc | apply pw_below_drewN | apply below_drew1 | refine below_set ?_ GE202.out | refine below_set ?_ GE203.out | refine below_set ?_ GE204.out | refine below_set ?_ GE205.out) | exact HB.out)⟩⟩
           rw [if_pos c74] at H
           have c74b0 : decide ((wrap64 ((l0_0.length : Int) - 1)) ≤ x11_2) = true := decide_eq_true c74
           clear c74
           replace H := bi H
           obtain ⟨t225, A750, H⟩ := H
           try dsimp only at H
           have A75 := ak A750
           clear A750
           by_cases c76 : t225 = true
           rotate_left
           ·replace c76 := Bool.eq_false_iff.mpr c76
            subst c76
            rw [if_neg (show ¬ (false = true) by decide)] at H
            have H' := ak H
            clear H
            as_aux_lemma =>
             go_wp2_with (first | ((with_reducible refine gate_builtin (b := .append) (xs := #[.tmp 75, .tmp 77]) rfl ?_); at_builtin; refine Kd.R_append (Kd.int .i64) (w0 := w) w.heap.size rfl (.tmp 75) (.tmp 77) 22 3 (.int .i64 0) 8 rfl Try.underlying22 info3 rfl (by decide) (by omega) u9 x9_2 x12_22 [.int .i64 x12_22] (fun k_ => some k_ ≠ (u206000 : Value).ownBlock) (fun _ => False) rfl rfl ?aP (fun _ hk => hk.elim) ?aF ?aO ?aB ?aS ?aL ?_; (case aP => exact rfl); (case aB => exact (bB HB.out)); (case aF => exact (fun k_ hk => Kd.fresh' (Kd.R_lt (kR HO_206000.out)) k_ hk)); (case aO => exact (kR HO_9.out)); (case aS => exact (below_size (bB HB.out))); (case aL => have := LMc45.out; omega); intro v220 w83 ho hb hg hat; rw [← Ny219.out] at ho; replace HO_206000 := ak (Kd.R_after (ok := (fun _ => True)) (kR (Kd.R_mono HO_206000.out (fun _ hk => ⟨trivial, hk⟩))) hg hat); replace HO_206001 := ak (Kd.S_after (ok := (fun k_ => some k_ ≠ (u206000 : Value).ownBlock)) (kS (Kd.S_mono HO_206001.out (fun _ hk => ⟨hk.2, hk.1⟩))) hg hat); replace BK202 := ak (blk_grown (g := gb202) (o := .cells #[.slice A0_0 l0_0.length c0_0, .slice A0_1 l0_1.length c0_1] 25 (0, 0)) (kK BK202.out) hg (Kd.R_ne HO_9.out BK202.out (by decide))); replace BK203 := ak (blk_grown (g := gb203) (o := .cells #[.slice A1_0 l1_0.length c1_0, .slice A1_1 l1_1.length c1_1] 25 (0, 0)) (kK BK203.out) hg (Kd.R_ne HO_9.out BK203.out (by decide))); replace BK204 := ak (blk_grown (g := gb204) (o := .cells #[.slice none 0 0, .slice none 0 0] 25 (0, 0)) (kK BK204.out) hg (Kd.R_ne HO_9.out BK204.out (by decide))); replace BK205 := ak (blk_grown (g := gb205) (o := .cells #[u206000, u206001] 25 (0, 0)) (kK BK205.out) hg (Kd.R_ne HO_9.out BK205.out (by decide))); replace HB := ak (hb); have HO221 := ak (ho); clear HO_9; clear ho hb hg hat; have hnb84 := NB203_202.out; have hnc84 := NB202_203.out; have hnb85 := NB203_204.out; have hnc85 := NB204_203.out; have hnb86 := NB203_205.out; have hnc86 := NB205_203.out; have hcz87_0 : w83.cell? ⟨gb203, 0, none⟩ = some (.slice A1_0 l1_0.length c1_0) := (blk_cell BK203.out 0).trans rfl; have hcz87_1 : w83.cell? ⟨gb203, 1, none⟩ = some (.slice A1_1 l1_1.length c1_1) := (blk_cell BK203.out 1).trans rfl; have hfz87_0 := blk_frozen BK203.out 0; have hfz87_1 := blk_frozen BK203.out 1) | (go_at_call 103; (with_reducible refine (spec_below.calls kj22 _ _ l1_0 (wrap64 (x8_1 - (wrap64 ((l0_0.length : Int) - 1)))) (wrap64 (x11_2 - (wrap64 ((l0_0.length : Int) - 1)))) false _ ?side1 ?side2 A75.out).mono ?_); (case side1 => exact kC (Kd.C_below HR1_0.out HB.out)); (case side2 => exact HC1_0.out); rintro e w' ⟨rfl, ⟨nd, rfl⟩⟩))
             go_roundg kj22
             case measure => have := HK1.out; have := HK2.out; have := HJ20.out; have := HJ22.out; omega
             case rel => exact ⟨(y219), (x10_2), (wrap64 (x11_2 + 1)), (by first | rfl | (simp; done) | (simp [*]; done)), (by first | rfl | (simp; done) | (simp [*]; done)), H', ⟨by have := HK1.out; have := HK2.out; have := HJ20.out; have := HJ22.out; omega⟩, ⟨by (with_reducible repeat (first | apply Kd.R_alloc | apply Kd.R_drewN | apply Kd.R_drew)); exact HO221.out⟩, ⟨by (with_reducible repeat (first | apply Kd.R_alloc | apply Kd.R_drewN | apply Kd.R_drew)); exact Kd.R_mono HO_206000.out (fun _ hk => hk.2)⟩, ⟨by (with_reducible repeat (first | apply Kd.S_alloc | apply Kd.S_drewN | apply Kd.S_drew)); exact Kd.S_mono HO_206001.out (fun _ hk => ⟨hk.2, hk.1⟩)⟩, ⟨by (with_reducible repeat (first | refine blk_drewN ?_ _ | refine blk_drew ?_ | refine blk_alloc ?_ _)); exact BK202.out⟩, ⟨by (with_reducible repeat (first | refine blk_drewN ?_ _ | refine blk_drew ?_ | refine blk_alloc ?_ _)); exact BK203.out⟩, ⟨by (with_reducible repeat (first | refine blk_drewN ?_ _ | refine blk_drew ?_ | refine blk_alloc ?_ _)); exact BK204.out⟩, ⟨by (with_reducible repeat (first | refine blk_drewN ?_ _ | refine blk_drew ?_ | refine blk_alloc ?_ _)); exact BK205.out⟩, ⟨by repeat (first | (with_reducible first | exact HB.out | apply below_alloc | apply pw_below_drewN | apply below_drew1 | refine below_set ?_ GE202.out | refine below_set ?_ GE203.out | refine below_set ?_ GE204.out | refine below_set ?_ GE205.out) | exact HB.out)⟩⟩
           subst c76
           rw [if_pos rfl] at H
           replace H := bi H
           obtain ⟨t226, A770, H⟩ := H
           try dsimp only at H
           have A77 := ak A770
           clear A770
           have H' := ak H
           clear H
           as_aux_lemma =>
            go_wp2_with (first | ((with_reducible refine gate_builtin (b := .append) (xs := #[.tmp 75, .tmp 77]) rfl ?_); at_builtin; refine Kd.R_append (Kd.int .i64) (w0 := w) w.heap.size rfl (.tmp 75) (.tmp 77) 22 3 (.int .i64 0) 8 rfl Try.underlying22 info3 rfl (by decide) (by omega) u9 x9_2 x12_22 [.int .i64 x12_22] (fun k_ => some k_ ≠ (u206000 : Value).ownBlock) (fun _ => False) rfl rfl ?aP (fun _ hk => hk.elim) ?aF ?aO ?aB ?aS ?aL ?_; (case aP => exact rfl); (case aB => exact (bB HB.out)); (case aF => exact (fun k_ hk => Kd.fresh' (Kd.R_lt (kR HO_206000.out)) k_ hk)); (case aO => exact (kR HO_9.out)); (case aS => exact (below_size (bB HB.out))); (case aL => have := LMc45.out; omega); intro v220 w78 ho hb hg hat; rw [← Ny219.out] at ho; replace HO_206000 := ak (Kd.R_after (ok := (fun _ => True)) (kR (Kd.R_mono HO_206000.out (fun _ hk => ⟨trivial, hk⟩))) hg hat); replace HO_206001 := ak (Kd.S_after (ok := (fun k_ => some k_ ≠ (u206000 : Value).ownBlock)) (kS (Kd.S_mono HO_206001.out (fun _ hk => ⟨hk.2, hk.1⟩))) hg hat); replace BK202 := ak (blk_grown (g := gb202) (o := .cells #[.slice A0_0 l0_0.length c0_0, .slice A0_1 l0_1.length c0_1] 25 (0, 0)) (kK BK202.out) hg (Kd.R_ne HO_9.out BK202.out (by decide))); replace BK203 := ak (blk_grown (g := gb203) (o := .cells #[.slice A1_0 l1_0.length c1_0, .slice A1_1 l1_1.length c1_1] 25 (0, 0)) (kK BK203.out) hg (Kd.R_ne HO_9.out BK203.out (by decide))); replace BK204 := ak (blk_grown (g := gb204) (o := .cells #[.slice none 0 0, .slice none 0 0] 25 (0, 0)) (kK BK204.out) hg (Kd.R_ne HO_9.out BK204.out (by decide))); replace BK205 := ak (blk_grown (g := gb205) (o := .cells #[u206000, u206001] 25 (0, 0)) (kK BK205.out) hg (Kd.R_ne HO_9.out BK205.out (by decide))); replace HB := ak (hb); have HO221 := ak (ho); clear HO_9; clear ho hb hg hat; have hnb79 := NB203_202.out; have hnc79 := NB202_203.out; have hnb80 := NB203_204.out; have hnc80 := NB204_203.out; have hnb81 := NB203_205.out; have hnc81 := NB205_203.out; have hcz82_0 : w78.cell? ⟨gb203, 0, none⟩ = some (.slice A1_0 l1_0.length c1_0) := (blk_cell BK203.out 0).trans rfl; have hcz82_1 : w78.cell? ⟨gb203, 1, none⟩ = some (.slice A1_1 l1_1.length c1_1) := (blk_cell BK203.out 1).trans rfl; have hfz82_0 := blk_frozen BK203.out 0; have hfz82_1 := blk_frozen BK203.out 1) | (go_at_call 103; (with_reducible refine (spec_below.calls kj22 _ _ l1_0 (wrap64 (x8_1 - (wrap64 ((l0_0.length : Int) - 1)))) (wrap64 (x11_2 - (wrap64 ((l0_0.length : Int) - 1)))) true _ ?side1 ?side2 A75.out).mono ?_); (case side1 => exact kC (Kd.C_below HR1_0.out HB.out)); (case side2 => exact HC1_0.out); rintro e w' ⟨rfl, ⟨nd, rfl⟩⟩) | ((with_reducible refine gate_callee (f := 104) rfl ?_); refine goesL_ (some 127) rfl rfl Try.func104 (by kernel_rfl) rfl #[.int .i64 x11_2] rfl (by (try simp only [List.map_toArray, List.map_cons, List.map_nil]); first | done | rfl | (simp only [List.length_drop, List.length_take]; rfl)) ?_; (with_reducible refine (spec_power.calls kj22 x11_2 t226 _ A77.out).mono ?_); rintro e w' ⟨rfl, ⟨nd, rfl⟩⟩; refine ⟨_, rfl, ?_⟩))
            go_roundg kj22
            case measure => have := HK1.out; have := HK2.out; have := HJ20.out; have := HJ22.out; omega
            case rel => exact ⟨(y219), (wrap64 (x10_2 + t226)), (wrap64 (x11_2 + 1)), (by first | rfl | (simp; done) | (simp [*]; done)), (by first | rfl | (simp; done) | (simp [*]; done)), H', ⟨by have := HK1.out; have := HK2.out; have := HJ20.out; have := HJ22.out; omega⟩, ⟨by (with_reducible repeat (first | apply Kd.R_alloc | apply Kd.R_drewN | apply Kd.R_drew)); exact HO221.out⟩, ⟨by (with_reducible repeat (first | apply Kd.R_alloc | apply Kd.R_drewN | apply Kd.R_drew)); exact Kd.R_mono HO_206000.out (fun _ hk => hk.2)⟩, ⟨by (with_reducible repeat (first | apply Kd.S_alloc | apply Kd.S_drewN | apply Kd.S_drew)); exact Kd.S_mono HO_206001.out (fun _ hk => ⟨hk.2, hk.1⟩)⟩, ⟨by (with_reducible repeat (first | refine blk_drewN ?_ _ | refine blk_drew ?_ | refine blk_alloc ?_ _)); exact BK202.out⟩, ⟨by (with_reducible repeat (first | refine blk_drewN ?_ _ | refine blk_drew ?_ | refine blk_alloc ?_ _)); exact BK203.out⟩, ⟨by (with_reducible repeat (first | refine blk_drewN ?_ _ | refine blk_drew ?_ | refine blk_alloc ?_ _)); exact BK204.out⟩, ⟨by (with_reducible repeat (first | refine blk_drewN ?_ _ | refine blk_drew ?_ | refine blk_alloc ?_ _)); exact BK205.out⟩, ⟨by repeat (first | (with_reducible first | exact HB.out | apply below_alloc | apply pw_below_drewN | apply below_drew1 | refine below_set ?_ GE202.out | refine below_set ?_ GE203.out | refine below_set ?_ GE204.out | refine below_set ?_ GE205.out) | exact HB.out)⟩⟩
          rw [if_pos c46] at H
          have c46b0 : decide (x8_1 < (wrap64 ((l0_0.length : Int) - 1))) = true := decide_eq_true c46
          clear c46
          by_cases c47 : x11_2 ≥ (wrap64 ((l0_0.length : Int) - 1))
          ·rw [if_pos c47] at H
           have c47b0 : decide ((wrap64 ((l0_0.length : Int) - 1)) ≤ x11_2) = true := decide_eq_true c47
           clear c47
           replace H := bi H
           obtain ⟨t222, A480, H⟩ := H
           try dsimp only at H
           have A48 := ak A480
           clear A480
           have H' := ak H
           clear H
           as_aux_lemma =>
            go_wp2_with (first | ((with_reducible refine gate_builtin (b := .append) (xs := #[.tmp 75, .tmp 77]) rfl ?_); at_builtin; refine Kd.R_append (Kd.int .i64) (w0 := w) w.heap.size rfl (.tmp 75) (.tmp 77) 22 3 (.int .i64 0) 8 rfl Try.underlying22 info3 rfl (by decide) (by omega) u9 x9_2 x12_22 [.int .i64 x12_22] (fun k_ => some k_ ≠ (u206000 : Value).ownBlock) (fun _ => False) rfl rfl ?aP (fun _ hk => hk.elim) ?aF ?aO ?aB ?aS ?aL ?_; (case aP => exact rfl); (case aB => exact (bB HB.out)); (case aF => exact (fun k_ hk => Kd.fresh' (Kd.R_lt (kR HO_206000.out)) k_ hk)); (case aO => exact (kR HO_9.out)); (case aS => exact (below_size (bB HB.out))); (case aL => have := LMc45.out; omega); intro v220 w49 ho hb hg hat; rw [← Ny219.out] at ho; replace HO_206000 := ak (Kd.R_after (ok := (fun _ => True)) (kR (Kd.R_mono HO_206000.out (fun _ hk => ⟨trivial, hk⟩))) hg hat); replace HO_206001 := ak (Kd.S_after (ok := (fun k_ => some k_ ≠ (u206000 : Value).ownBlock)) (kS (Kd.S_mono HO_206001.out (fun _ hk => ⟨hk.2, hk.1⟩))) hg hat); replace BK202 := ak (blk_grown (g := gb202) (o := .cells #[.slice A0_0 l0_0.length c0_0, .slice A0_1 l0_1.length c0_1] 25 (0, 0)) (kK BK202.out) hg (Kd.R_ne HO_9.out BK202.out (by decide))); replace BK203 := ak (blk_grown (g := gb203) (o := .cells #[.slice A1_0 l1_0.length c1_0, .slice A1_1 l1_1.length c1_1] 25 (0, 0)) (kK BK203.out) hg (Kd.R_ne HO_9.out BK203.out (by decide))); replace BK204 := ak (blk_grown (g := gb204) (o := .cells #[.slice none 0 0, .slice none 0 0] 25 (0, 0)) (kK BK204.out) hg (Kd.R_ne HO_9.out BK204.out (by decide))); replace BK205 := ak (blk_grown (g := gb205) (o := .cells #[u206000, u206001] 25 (0, 0)) (kK BK205.out) hg (Kd.R_ne HO_9.out BK205.out (by decide))); replace HB := ak (hb); have HO221 := ak (ho); clear HO_9; clear ho hb hg hat) | ((with_reducible refine gate_callee (f := 104) rfl ?_); refine goesL_ (some 127) rfl rfl Try.func104 (by kernel_rfl) rfl #[.int .i64 x11_2] rfl (by (try simp only [List.map_toArray, List.map_cons, List.map_nil]); first | done | rfl | (simp only [List.length_drop, List.length_take]; rfl)) ?_; (with_reducible refine (spec_power.calls kj22 x11_2 t222 _ A48.out).mono ?_); rintro e w' ⟨rfl, ⟨nd, rfl⟩⟩; refine ⟨_, rfl, ?_⟩))
            go_roundg kj22
            case measure => have := HK1.out; have := HK2.out; have := HJ20.out; have := HJ22.out; omega
            case rel => exact ⟨(y219), (wrap64 (x10_2 + t222)), (wrap64 (x11_2 + 1)), (by first | rfl | (simp; done) | (simp [*]; done)), (by first | rfl | (simp; done) | (simp [*]; done)), H', ⟨by have := HK1.out; have := HK2.out; have := HJ20.out; have := HJ22.out; omega⟩, ⟨by (with_reducible repeat (first | apply Kd.R_alloc | apply Kd.R_drewN | apply Kd.R_drew)); exact HO221.out⟩, ⟨by (with_reducible repeat (first | apply Kd.R_alloc | apply Kd.R_drewN | apply Kd.R_drew)); exact Kd.R_mono HO_206000.out (fun _ hk => hk.2)⟩, ⟨by (with_reducible repeat (first | apply Kd.S_alloc | apply Kd.S_drewN | apply Kd.S_drew)); exact Kd.S_mono HO_206001.out (fun _ hk => ⟨hk.2, hk.1⟩)⟩, ⟨by (with_reducible repeat (first | refine blk_drewN ?_ _ | refine blk_drew ?_ | refine blk_alloc ?_ _)); exact BK202.out⟩, ⟨by (with_reducible repeat (first | refine blk_drewN ?_ _ | refine blk_drew ?_ | refine blk_alloc ?_ _)); exact BK203.out⟩, ⟨by (with_reducible repeat (first | refine blk_drewN ?_ _ | refine blk_drew ?_ | refine blk_alloc ?_ _)); exact BK204.out⟩, ⟨by (with_reducible repeat (first | refine blk_drewN ?_ _ | refine blk_drew ?_ | refine blk_alloc ?_ _)); exact BK205.out⟩, ⟨by repeat (first | (with_reducible first | exact HB.out | apply below_alloc | apply pw_below_drewN | apply below_drew1 | refine below_set ?_ GE202.out | refine below_set ?_ GE203.out | refine below_set ?_ GE204.out | refine below_set ?_ GE205.out) | exact HB.out)⟩⟩
          rw [if_neg c47] at H
          have c47b0 : decide ((wrap64 ((l0_0.length : Int) - 1)) ≤ x11_2) = false := decide_eq_false c47
          clear c47
          by_cases c50 : x11_2 < (wrap64 ((l0_0.length : Int) - 1))
          rotate_left
          ·rw [if_neg c50] at H
           have c50b0 : decide (x11_2 < (wrap64 ((l0_0.length : Int) - 1))) = false := decide_eq_false c50
           clear c50
           by_cases c70 : x8_1 ≥ (wrap64 ((l0_0.length : Int) - 1))
           ·rw [if_pos c70] at H
            have c70b0 : decide ((wrap64 ((l0_0.length : Int) - 1)) ≤ x8_1) = true := decide_eq_true c70
            clear c70
            have H' := ak H
            clear H
            as_aux_lemma =>
             go_wp2_with (first | ((with_reducible refine gate_builtin (b := .append) (xs := #[.tmp 75, .tmp 77]) rfl ?_); at_builtin; refine Kd.R_append (Kd.int .i64) (w0 := w) w.heap.size rfl (.tmp 75) (.tmp 77) 22 3 (.int .i64 0) 8 rfl Try.underlying22 info3 rfl (by decide) (by omega) u9 x9_2 x12_22 [.int .i64 x12_22] (fun k_ => some k_ ≠ (u206000 : Value).ownBlock) (fun _ => False) rfl rfl ?aP (fun _ hk => hk.elim) ?aF ?aO ?aB ?aS ?aL ?_; (case aP => exact rfl); (case aB => exact (bB HB.out)); (case aF => exact (fun k_ hk => Kd.fresh' (Kd.R_lt (kR HO_206000.out)) k_ hk)); (case aO => exact (kR HO_9.out)); (case aS => exact (below_size (bB HB.out))); (case aL => have := LMc45.out; omega); intro v220 w71 ho hb hg hat; rw [← Ny219.out] at ho; replace HO_206000 := ak (Kd.R_after (ok := (fun _ => True)) (kR (Kd.R_mono HO_206000.out (fun _ hk => ⟨trivial, hk⟩))) hg hat); replace HO_206001 := ak (Kd.S_after (ok := (fun k_ => some k_ ≠ (u206000 : Value).ownBlock)) (kS (Kd.S_mono HO_206001.out (fun _ hk => ⟨hk.2, hk.1⟩))) hg hat); replace BK202 := ak (blk_grown (g := gb202) (o := .cells #[.slice A0_0 l0_0.length c0_0, .slice A0_1 l0_1.length c0_1] 25 (0, 0)) (kK BK202.out) hg (Kd.R_ne HO_9.out BK202.out (by decide))); replace BK203 := ak (blk_grown (g := gb203) (o := .cells #[.slice A1_0 l1_0.length c1_0, .slice A1_1 l1_1.length c1_1] 25 (0, 0)) (kK BK203.out) hg (Kd.R_ne HO_9.out BK203.out (by decide))); replace BK204 := ak (blk_grown (g := gb204) (o := .cells #[.slice none 0 0, .slice none 0 0] 25 (0, 0)) (kK BK204.out) hg (Kd.R_ne HO_9.out BK204.out (by decide))); replace BK205 := ak (blk_grown (g := gb205) (o := .cells #[u206000, u206001] 25 (0, 0)) (kK BK205.out) hg (Kd.R_ne HO_9.out BK205.out (by decide))); replace HB := ak (hb); have HO221 := ak (ho); clear HO_9; clear ho hb hg hat))
             go_roundg kj22
             case measure => have := HK1.out; have := HK2.out; have := HJ20.out; have := HJ22.out; omega
             case rel => exact ⟨(y219), (x10_2), (wrap64 (x11_2 + 1)), (by first | rfl | (simp; done) | (simp [*]; done)), (by first | rfl | (simp; done) | (simp [*]; done)), H', ⟨by have := HK1.out; have := HK2.out; have := HJ20.out; have := HJ22.out; omega⟩, ⟨by (with_reducible repeat (first | apply Kd.R_alloc | apply Kd.R_drewN | apply Kd.R_drew)); exact HO221.out⟩, ⟨by (with_reducible repeat (first | apply Kd.R_alloc | apply Kd.R_drewN | apply Kd.R_drew)); exact Kd.R_mono HO_206000.out (fun _ hk => hk.2)⟩, ⟨by (with_reducible repeat (first | apply Kd.S_alloc | apply Kd.S_drewN | apply Kd.S_drew)); exact Kd.S_mono HO_206001.out (fun _ hk => ⟨hk.2, hk.1⟩)⟩, ⟨by (with_reducible repeat (first | refine blk_drewN ?_ _ | refine blk_drew ?_ | refine blk_alloc ?_ _)); exact BK202.out⟩, ⟨by (with_reducible repeat (first | refine blk_drewN ?_ _ | refine blk_drew ?_ | refine blk_alloc ?_ _)); exact BK203.out⟩, ⟨by (with_reducible repeat (first | refine blk_drewN ?_ _ | refine blk_drew ?_ | refine blk_alloc ?_ _)); exact BK204.out⟩, ⟨by (with_reducible repeat (first | refine blk_drewN ?_ _ | refine blk_drew ?_ | refine blk_alloc ?_ _)); exact BK205.out⟩, ⟨by repeat (first | (with_reducible first | exact HB.out | apply below_alloc | apply pw_below_drewN | apply below_drew1 | refine below_set ?_ GE202.out | refine below_set ?_ GE203.out | refine below_set ?_ GE204.out | refine below_set ?_ GE205.out) | exact HB.out)⟩⟩
           rw [if_neg c70] at H
           have c70b0 : decide ((wrap64 ((l0_0.length : Int) - 1)) ≤ x8_1) = false := decide_eq_false c70
           clear c70
           have H' := ak H
           clear H
           as_aux_lemma =>
            go_wp2_with (first | ((with_reducible refine gate_builtin (b := .append) (xs := #[.tmp 75, .tmp 77]) rfl ?_); at_builtin; refine Kd.R_append (Kd.int .i64) (w0 := w) w.heap.size rfl (.tmp 75) (.tmp 77) 22 3 (.int .i64 0) 8 rfl Try.underlying22 info3 rfl (by decide) (by omega) u9 x9_2 x12_22 [.int .i64 x12_22] (fun k_ => some k_ ≠ (u206000 : Value).ownBlock) (fun _ => False) rfl rfl ?aP (fun _ hk => hk.elim) ?aF ?aO ?aB ?aS ?aL ?_; (case aP => exact rfl); (case aB => exact (bB HB.out)); (case aF => exact (fun k_ hk => Kd.fresh' (Kd.R_lt (kR HO_206000.out)) k_ hk)); (case aO => exact (kR HO_9.out)); (case aS => exact (below_size (bB HB.out))); (case aL => have := LMc45.out; omega); intro v220 w72 ho hb hg hat; rw [← Ny219.out] at ho; replace HO_206000 := ak (Kd.R_after (ok := (fun _ => True)) (kR (Kd.R_mono HO_206000.out (fun _ hk => ⟨trivial, hk⟩))) hg hat); replace HO_206001 := ak (Kd.S_after (ok := (fun k_ => some k_ ≠ (u206000 : Value).ownBlock)) (kS (Kd.S_mono HO_206001.out (fun _ hk => ⟨hk.2, hk.1⟩))) hg hat); replace BK202 := ak (blk_grown (g := gb202) (o := .cells #[.slice A0_0 l0_0.length c0_0, .slice A0_1 l0_1.length c0_1] 25 (0, 0)) (kK BK202.out) hg (Kd.R_ne HO_9.out BK202.out (by decide))); replace BK203 := ak (blk_grown (g := gb203) (o := .cells #[.slice A1_0 l1_0.length c1_0, .slice A1_1 l1_1.length c1_1] 25 (0, 0)) (kK BK203.out) hg (Kd.R_ne HO_9.out BK203.out (by decide))); replace BK204 := ak (blk_grown (g := gb204) (o := .cells #[.slice none 0 0, .slice none 0 0] 25 (0, 0)) (kK BK204.out) hg (Kd.R_ne HO_9.out BK204.out (by decide))); replace BK205 := ak (blk_grown (g := gb205) (o := .cells #[u206000, u206001] 25 (0, 0)) (kK BK205.out) hg (Kd.R_ne HO_9.out BK205.out (by decide))); replace HB := ak (hb); have HO221 := ak (ho); clear HO_9; clear ho hb hg hat))
            go_roundg kj22
            case measure => have := HK1.out; have := HK2.out; have := HJ20.out; have := HJ22.out; omega
            case rel => exact ⟨(y219), (x10_2), (wrap64 (x11_2 + 1)), (by first | rfl | (simp; done) | (simp [*]; done)), (by first | rfl | (simp; done) | (simp [*]; done)), H', ⟨by have := HK1.out; have := HK2.out; have := HJ20.out; have := HJ22.out; omega⟩, ⟨by (with_reducible repeat (first | apply Kd.R_alloc | apply Kd.R_drewN | apply Kd.R_drew)); exact HO221.out⟩, ⟨by (with_reducible repeat (first | apply Kd.R_alloc | apply Kd.R_drewN | apply Kd.R_drew)); exact Kd.R_mono HO_206000.out (fun _ hk => hk.2)⟩, ⟨by (with_reducible repeat (first | apply Kd.S_alloc | apply Kd.S_drewN | apply Kd.S_drew)); exact Kd.S_mono HO_206001.out (fun _ hk => ⟨hk.2, hk.1⟩)⟩, ⟨by (with_reducible repeat (first | refine blk_drewN ?_ _ | refine blk_drew ?_ | refine blk_alloc ?_ _)); exact BK202.out⟩, ⟨by (with_reducible repeat (first | refine blk_drewN ?_ _ | refine blk_drew ?_ | refine blk_alloc ?_ _)); exact BK203.out⟩, ⟨by (with_reducible repeat (first | refine blk_drewN ?_ _ | refine blk_drew ?_ | refine blk_alloc ?_ _)); exact BK204.out⟩, ⟨by (with_reducible repeat (first | refine blk_drewN ?_ _ | refine blk_drew ?_ | refine blk_alloc ?_ _)); exact BK205.out⟩, ⟨by repeat (first | (with_reducible first | exact HB.out | apply below_alloc | apply pw_below_drewN | apply below_drew1 | refine below_set ?_ GE202.out | refine below_set ?_ GE203.out | refine below_set ?_ GE204.out | refine below_set ?_ GE205.out) | exact HB.out)⟩⟩
          rw [if_pos c50] at H
          have c50b0 : decide (x11_2 < (wrap64 ((l0_0.length : Int) - 1))) = true := decide_eq_true c50
          clear c50
          replace H := bi H
          obtain ⟨t223, A510, H⟩ := H
          try dsimp only at H
          have A51 := ak A510
          clear A510
          by_cases c52 : t223 = true
          ·subst c52
           rw [if_pos rfl] at H
           replace H := bi H
           obtain ⟨t224, A530, H⟩ := H
           try dsimp only at H
           have A53 := ak A530
           clear A530
           have H' := ak H
           clear H
           as_aux_lemma =>
            go_wp2_with (first | ((with_reducible refine gate_builtin (b := .append) (xs := #[.tmp 75, .tmp 77]) rfl ?_); at_builtin; refine Kd.R_append (Kd.int .i64) (w0 := w) w.heap.size rfl (.tmp 75) (.tmp 77) 22 3 (.int .i64 0) 8 rfl Try.underlying22 info3 rfl (by decide) (by omega) u9 x9_2 x12_22 [.int .i64 x12_22] (fun k_ => some k_ ≠ (u206000 : Value).ownBlock) (fun _ => False) rfl rfl ?aP (fun _ hk => hk.elim) ?aF ?aO ?aB ?aS ?aL ?_; (case aP => exact rfl); (case aB => exact (bB HB.out)); (case aF => exact (fun k_ hk => Kd.fresh' (Kd.R_lt (kR HO_206000.out)) k_ hk)); (case aO => exact (kR HO_9.out)); (case aS => exact (below_size (bB HB.out))); (case aL => have := LMc45.out; omega); intro v220 w54 ho hb hg hat; rw [← Ny219.out] at ho; replace HO_206000 := ak (Kd.R_after (ok := (fun _ => True)) (kR (Kd.R_mono HO_206000.out (fun _ hk => ⟨trivial, hk⟩))) hg hat); replace HO_206001 := ak (Kd.S_after (ok := (fun k_ => some k_ ≠ (u206000 : Value).ownBlock)) (kS (Kd.S_mono HO_206001.out (fun _ hk => ⟨hk.2, hk.1⟩))) hg hat); replace BK202 := ak (blk_grown (g := gb202) (o := .cells #[.slice A0_0 l0_0.length c0_0, .slice A0_1 l0_1.length c0_1] 25 (0, 0)) (kK BK202.out) hg (Kd.R_ne HO_9.out BK202.out (by decide))); replace BK203 := ak (blk_grown (g := gb203) (o := .cells #[.slice A1_0 l1_0.length c1_0, .slice A1_1 l1_1.length c1_1] 25 (0, 0)) (kK BK203.out) hg (Kd.R_ne HO_9.out BK203.out (by decide))); replace BK204 := ak (blk_grown (g := gb204) (o := .cells #[.slice none 0 0, .slice none 0 0] 25 (0, 0)) (kK BK204.out) hg (Kd.R_ne HO_9.out BK204.out (by decide))); replace BK205 := ak (blk_grown (g := gb205) (o := .cells #[u206000, u206001] 25 (0, 0)) (kK BK205.out) hg (Kd.R_ne HO_9.out BK205.out (by decide))); replace HB := ak (hb); have HO221 := ak (ho); clear HO_9; clear ho hb hg hat; have hnb55 := NB202_203.out; have hnc55 := NB203_202.out; have hnb56 := NB202_204.out; have hnc56 := NB204_202.out; have hnb57 := NB202_205.out; have hnc57 := NB205_202.out; have hcz58_0 : w54.cell? ⟨gb202, 0, none⟩ = some (.slice A0_0 l0_0.length c0_0) := (blk_cell BK202.out 0).trans rfl; have hcz58_1 : w54.cell? ⟨gb202, 1, none⟩ = some (.slice A0_1 l0_1.length c0_1) := (blk_cell BK202.out 1).trans rfl; have hfz58_0 := blk_frozen BK202.out 0; have hfz58_1 := blk_frozen BK202.out 1) | (go_at_call 103; (with_reducible refine (spec_below.calls kj22 _ _ l0_0 x8_1 x11_2 true _ ?side1 ?side2 A51.out).mono ?_); (case side1 => exact kC (Kd.C_below HR0_0.out HB.out)); (case side2 => exact HC0_0.out); rintro e w' ⟨rfl, ⟨nd, rfl⟩⟩) | ((with_reducible refine gate_callee (f := 104) rfl ?_); refine goesL_ (some 127) rfl rfl Try.func104 (by kernel_rfl) rfl #[.int .i64 x11_2] rfl (by (try simp only [List.map_toArray, List.map_cons, List.map_nil]); first | done | rfl | (simp only [List.length_drop, List.length_take]; rfl)) ?_; (with_reducible refine (spec_power.calls kj22 x11_2 t224 _ A53.out).mono ?_); rintro e w' ⟨rfl, ⟨nd, rfl⟩⟩; refine ⟨_, rfl, ?_⟩))
            go_roundg kj22
            case measure => have := HK1.out; have := HK2.out; have := HJ20.out; have := HJ22.out; omega
            case rel => exact ⟨(y219), (wrap64 (x10_2 + t224)), (wrap64 (x11_2 + 1)), (by first | rfl | (simp; done) | (simp [*]; done)), (by first | rfl | (simp; done) | (simp [*]; done)), H', ⟨by have := HK1.out; have := HK2.out; have := HJ20.out; have := HJ22.out; omega⟩, ⟨by (with_reducible repeat (first | apply Kd.R_alloc | apply Kd.R_drewN | apply Kd.R_drew)); exact HO221.out⟩, ⟨by (with_reducible repeat (first | apply Kd.R_alloc | apply Kd.R_drewN | apply Kd.R_drew)); exact Kd.R_mono HO_206000.out (fun _ hk => hk.2)⟩, ⟨by (with_reducible repeat (first | apply Kd.S_alloc | apply Kd.S_drewN | apply Kd.S_drew)); exact Kd.S_mono HO_206001.out (fun _ hk => ⟨hk.2, hk.1⟩)⟩, ⟨by (with_reducible repeat (first | refine blk_drewN ?_ _ | refine blk_drew ?_ | refine blk_alloc ?_ _)); exact BK202.out⟩, ⟨by (with_reducible repeat (first | refine blk_drewN ?_ _ | refine blk_drew ?_ | refine blk_alloc ?_ _)); exact BK203.out⟩, ⟨by (with_reducible repeat (first | refine blk_drewN ?_ _ | refine blk_drew ?_ | refine blk_alloc ?_ _)); exact BK204.out⟩, ⟨by (with_reducible repeat (first | refine blk_drewN ?_ _ | refine blk_drew ?_ | refine blk_alloc ?_ _)); exact BK205.out⟩, ⟨by repeat (first | (with_reducible first | exact HB.out | apply below_alloc | apply pw_below_drewN | apply below_drew1 | refine below_set ?_ GE202.out | refine below_set ?_ GE203.out | refine below_set ?_ GE204.out | refine below_set ?_ GE205.out) | exact HB.out)⟩⟩
          replace c52 := Bool.eq_false_iff.mpr c52
          subst c52
          rw [if_neg (show ¬ (false = true) by decide)] at H
          by_cases c59 : x8_1 ≥ (wrap64 ((l0_0.length : Int) - 1))
          ·rw [if_pos c59] at H
           have c59b0 : decide ((wrap64 ((l0_0.length : Int) - 1)) ≤ x8_1) = true := decide_eq_true c59
           clear c59
           have H' := ak H
           clear H
           as_aux_lemma =>
            go_wp2_with (first | ((with_reducible refine gate_builtin (b := .append) (xs := #[.tmp 75, .tmp 77]) rfl ?_); at_builtin; refine Kd.R_append (Kd.int .i64) (w0 := w) w.heap.size rfl (.tmp 75) (.tmp 77) 22 3 (.int .i64 0) 8 rfl Try.underlying22 info3 rfl (by decide) (by omega) u9 x9_2 x12_22 [.int .i64 x12_22] (fun k_ => some k_ ≠ (u206000 : Value).ownBlock) (fun _ => False) rfl rfl ?aP (fun _ hk => hk.elim) ?aF ?aO ?aB ?aS ?aL ?_; (case aP => exact rfl); (case aB => exact (bB HB.out)); (case aF => exact (fun k_ hk => Kd.fresh' (Kd.R_lt (kR HO_206000.out)) k_ hk)); (case aO => exact (kR HO_9.out)); (case aS => exact (below_size (bB HB.out))); (case aL => have := LMc45.out; omega); intro v220 w60 ho hb hg hat; rw [← Ny219.out] at ho; replace HO_206000 := ak (Kd.R_after (ok := (fun _ => True)) (kR (Kd.R_mono HO_206000.out (fun _ hk => ⟨trivial, hk⟩))) hg hat); replace HO_206001 := ak (Kd.S_after (ok := (fun k_ => some k_ ≠ (u206000 : Value).ownBlock)) (kS (Kd.S_mono HO_206001.out (fun _ hk => ⟨hk.2, hk.1⟩))) hg hat); replace BK202 := ak (blk_grown (g := gb202) (o := .cells #[.slice A0_0 l0_0.length c0_0, .slice A0_1 l0_1.length c0_1] 25 (0, 0)) (kK BK202.out) hg (Kd.R_ne HO_9.out BK202.out (by decide))); replace BK203 := ak (blk_grown (g := gb203) (o := .cells #[.slice A1_0 l1_0.length c1_0, .slice A1_1 l1_1.length c1_1] 25 (0, 0)) (kK BK203.out) hg (Kd.R_ne HO_9.out BK203.out (by decide))); replace BK204 := ak (blk_grown (g := gb204) (o := .cells #[.slice none 0 0, .slice none 0 0] 25 (0, 0)) (kK BK204.out) hg (Kd.R_ne HO_9.out BK204.out (by decide))); replace BK205 := ak (blk_grown (g := gb205) (o := .cells #[u206000, u206001] 25 (0, 0)) (kK BK205.out) hg (Kd.R_ne HO_9.out BK205.out (by decide))); replace HB := ak (hb); have HO221 := ak (ho); clear HO_9; clear ho hb hg hat; have hnb61 := NB202_203.out; have hnc61 := NB203_202.out; have hnb62 := NB202_204.out; have hnc62 := NB204_202.out; have hnb63 := NB202_205.out; have hnc63 := NB205_202.out; have hcz64_0 : w60.cell? ⟨gb202, 0, none⟩ = some (.slice A0_0 l0_0.length c0_0) := (blk_cell BK202.out 0).trans rfl; have hcz64_1 : w60.cell? ⟨gb202, 1, none⟩ = some (.slice A0_1 l0_1.length c0_1) := (blk_cell BK202.out 1).trans rfl; have hfz64_0 := blk_frozen BK202.out 0; have hfz64_1 := blk_frozen BK202.out 1) | (go_at_call 103; (with_reducible refine (spec_below.calls kj22 _ _ l0_0 x8_1 x11_2 false _ ?side1 ?side2 A51.out).mono ?_); (case side1 => exact kC (Kd.C_below HR0_0.out HB.out)); (case side2 => exact HC0_0.out); rintro e w' ⟨rfl, ⟨nd, rfl⟩⟩))
            go_roundg kj22
            case measure => have := HK1.out; have := HK2.out; have := HJ20.out; have := HJ22.out; omega
            case rel => exact ⟨(y219), (x10_2), (wrap64 (x11_2 + 1)), (by first | rfl | (simp; done) | (simp [*]; done)), (by first | rfl | (simp; done) | (simp [*]; done)), H', ⟨by have := HK1.out; have := HK2.out; have := HJ20.out; have := HJ22.out; omega⟩, ⟨by (with_reducible repeat (first | apply Kd.R_alloc | apply Kd.R_drewN | apply Kd.R_drew)); exact HO221.out⟩, ⟨by (with_reducible repeat (first | apply Kd.R_alloc | apply Kd.R_drewN | apply Kd.R_drew)); exact Kd.R_mono HO_206000.out (fun _ hk => hk.2)⟩, ⟨by (with_reducible repeat (first | apply Kd.S_alloc | apply Kd.S_drewN | apply Kd.S_drew)); exact Kd.S_mono HO_206001.out (fun _ hk => ⟨hk.2, hk.1⟩)⟩, ⟨by (with_reducible repeat (first | refine blk_drewN ?_ _ | refine blk_drew ?_ | refine blk_alloc ?_ _)); exact BK202.out⟩, ⟨by (with_reducible repeat (first | refine blk_drewN ?_ _ | refine blk_drew ?_ | refine blk_alloc ?_ _)); exact BK203.out⟩, ⟨by (with_reducible repeat (first | refine blk_drewN ?_ _ | refine blk_drew ?_ | refine blk_alloc ?_ _)); exact BK204.out⟩, ⟨by (with_reducible repeat (first | refine blk_drewN ?_ _ | refine blk_drew ?_ | refine blk_alloc ?_ _)); exact BK205.out⟩, ⟨by repeat (first | (with_reducible first | exact HB.out | apply below_alloc | apply pw_below_drewN | apply below_drew1 | refine below_set ?_ GE202.out | refine below_set ?_ GE203.out | refine below_set ?_ GE204.out | refine below_set ?_ GE205.out) | exact HB.out)⟩⟩
          rw [if_neg c59] at H
          have c59b0 : decide ((wrap64 ((l0_0.length : Int) - 1)) ≤ x8_1) = false := decide_eq_false c59
          clear c59
          have H' := ak H
          clear H
          as_aux_lemma =>
           go_wp2_with (first | ((with_reducible refine gate_builtin (b := .append) (xs := #[.tmp 75, .tmp 77]) rfl ?_); at_builtin; refine Kd.R_append (Kd.int .i64) (w0 := w) w.heap.size rfl (.tmp 75) (.tmp 77) 22 3 (.int .i64 0) 8 rfl Try.underlying22 info3 rfl (by decide) (by omega) u9 x9_2 x12_22 [.int .i64 x12_22] (fun k_ => some k_ ≠ (u206000 : Value).ownBlock) (fun _ => False) rfl rfl ?aP (fun _ hk => hk.elim) ?aF ?aO ?aB ?aS ?aL ?_; (case aP => exact rfl); (case aB => exact (bB HB.out)); (case aF => exact (fun k_ hk => Kd.fresh' (Kd.R_lt (kR HO_206000.out)) k_ hk)); (case aO => exact (kR HO_9.out)); (case aS => exact (below_size (bB HB.out))); (case aL => have := LMc45.out; omega); intro v220 w65 ho hb hg hat; rw [← Ny219.out] at ho; replace HO_206000 := ak (Kd.R_after (ok := (fun _ => True)) (kR (Kd.R_mono HO_206000.out (fun _ hk => ⟨trivial, hk⟩))) hg hat); replace HO_206001 := ak (Kd.S_after (ok := (fun k_ => some k_ ≠ (u206000 : Value).ownBlock)) (kS (Kd.S_mono HO_206001.out (fun _ hk => ⟨hk.2, hk.1⟩))) hg hat); replace BK202 := ak (blk_grown (g := gb202) (o := .cells #[.slice A0_0 l0_0.length c0_0, .slice A0_1 l0_1.length c0_1] 25 (0, 0)) (kK BK202.out) hg (Kd.R_ne HO_9.out BK202.out (by decide))); replace BK203 := ak (blk_grown (g := gb203) (o := .cells #[.slice A1_0 l1_0.length c1_0, .slice A1_1 l1_1.length c1_1] 25 (0, 0)) (kK BK203.out) hg (Kd.R_ne HO_9.out BK203.out (by decide))); replace BK204 := ak (blk_grown (g := gb204) (o := .cells #[.slice none 0 0, .slice none 0 0] 25 (0, 0)) (kK BK204.out) hg (Kd.R_ne HO_9.out BK204.out (by decide))); replace BK205 := ak (blk_grown (g := gb205) (o := .cells #[u206000, u206001] 25 (0, 0)) (kK BK205.out) hg (Kd.R_ne HO_9.out BK205.out (by decide))); replace HB := ak (hb); have HO221 := ak (ho); clear HO_9; clear ho hb hg hat; have hnb66 := NB202_203.out; have hnc66 := NB203_202.out; have hnb67 := NB202_204.out; have hnc67 := NB204_202.out; have hnb68 := NB202_205.out; have hnc68 := NB205_202.out; have hcz69_0 : w65.cell? ⟨gb202, 0, none⟩ = some (.slice A0_0 l0_0.length c0_0) := (blk_cell BK202.out 0).trans rfl; have hcz69_1 : w65.cell? ⟨gb202, 1, none⟩ = some (.slice A0_1 l0_1.length c0_1) := (blk_cell BK202.out 1).trans rfl; have hfz69_0 := blk_frozen BK202.out 0; have hfz69_1 := blk_frozen BK202.out 1) | (go_at_call 103; (with_reducible refine (spec_below.calls kj22 _ _ l0_0 x8_1 x11_2 false _ ?side1 ?side2 A51.out).mono ?_); (case side1 => exact kC (Kd.C_below HR0_0.out HB.out)); (case side2 => exact HC0_0.out); rintro e w' ⟨rfl, ⟨nd, rfl⟩⟩))
           go_roundg kj22
           case measure => have := HK1.out; have := HK2.out; have := HJ20.out; have := HJ22.out; omega
           case rel => exact ⟨(y219), (x10_2), (wrap64 (x11_2 + 1)), (by first | rfl | (simp; done) | (simp [*]; done)), (by first | rfl | (simp; done) | (simp [*]; done)), H', ⟨by have := HK1.out; have := HK2.out; have := HJ20.out; have := HJ22.out; omega⟩, ⟨by (with_reducible repeat (first | apply Kd.R_alloc | apply Kd.R_drewN | apply Kd.R_drew)); exact HO221.out⟩, ⟨by (with_reducible repeat (first | apply Kd.R_alloc | apply Kd.R_drewN | apply Kd.R_drew)); exact Kd.R_mono HO_206000.out (fun _ hk => hk.2)⟩, ⟨by (with_reducible repeat (first | apply Kd.S_alloc | apply Kd.S_drewN | apply Kd.S_drew)); exact Kd.S_mono HO_206001.out (fun _ hk => ⟨hk.2, hk.1⟩)⟩, ⟨by (with_reducible repeat (first | refine blk_drewN ?_ _ | refine blk_drew ?_ | refine blk_alloc ?_ _)); exact BK202.out⟩, ⟨by (with_reducible repeat (first | refine blk_drewN ?_ _ | refine blk_drew ?_ | refine blk_alloc ?_ _)); exact BK203.out⟩, ⟨by (with_reducible repeat (first | refine blk_drewN ?_ _ | refine blk_drew ?_ | refine blk_alloc ?_ _)); exact BK204.out⟩, ⟨by (with_reducible repeat (first | refine blk_drewN ?_ _ | refine blk_drew ?_ | refine blk_alloc ?_ _)); exact BK205.out⟩, ⟨by repeat (first | (with_reducible first | exact HB.out | apply below_alloc | apply pw_below_drewN | apply below_drew1 | refine below_set ?_ GE202.out | refine below_set ?_ GE203.out | refine below_set ?_ GE204.out | refine below_set ?_ GE205.out) | exact HB.out)⟩⟩
end Go.Proofs.Ytjidbgmkhapklaa.P

-- shrunk
