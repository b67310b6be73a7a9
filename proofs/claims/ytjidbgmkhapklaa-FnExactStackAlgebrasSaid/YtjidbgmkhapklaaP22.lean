-- Printed by this session's wip/print2.py (the kit's print.py, widened) out of the translation. Lean checks it.
import Derived.Test.YtjidbgmkhapklaaP0
import Derived.Test.YtjidbgmkhapklaaP19
import Derived.Test.YtjidbgmkhapklaaP20
import Derived.Test.YtjidbgmkhapklaaP21
namespace Go.Proofs.Ytjidbgmkhapklaa.P
open Go.RowKit Go.Proofs.YtjidbgmkhapklaaW.PrintWords Go.Proofs.YtjidbgmkhapklaaW.PrintLast Go.Proofs.YtjidbgmkhapklaaW.PrintMore
attribute [local go_sem] max2_int min2_int max_two min_two max_three min_three max_four min_four   -- for this text's walks alone
set_option linter.unusedVariables false
set_option linter.unusedSimpArgs false

/-! ### impl_ValidAlgebra: function 33 -/
mutual
def impl_ValidAlgebra.j0 : Nat → Bool → List Int → List (List Int) → Int → Option (Bool)
 | 0, _, _, _, _ => none
 | k + 1, x22, x260000, x260001, x261000 => if x22 = true then (some false) else (impl_ValidAlgebra.l0 k x260001 (x260001.length : Int) 0 x260000 x260001 x261000)
def impl_ValidAlgebra.l0 : Nat → List (List Int) → Int → Int → List Int → List (List Int) → Int → Option (Bool)
 | 0, _, _, _, _, _, _ => none
 | k + 1, x24, x25, x26, x260000, x260001, x261000 => if x26 < x25 then (if 0 ≤ x26 then (if x26 < (x24.length : Int) then (if ((rd_L1 x24 x26).length : Int) = x261000 then ((cf_ValidAlgebra_1.f (rd_L1 x24 x26) x261000).bind fun t263 => (if t263 = true then (some false) else (impl_ValidAlgebra.l0 k x24 x25 (wrap64 (x26 + 1)) x260000 x260001 x261000))) else (some false)) else (none)) else (none)) else (impl_ValidAlgebra.l1 k (x260000.length : Int) 0 x260000 x260001 x261000)
def impl_ValidAlgebra.l1 : Nat → Int → Int → List Int → List (List Int) → Int → Option (Bool)
 | 0, _, _, _, _, _ => none
 | k + 1, x42, x43, x260000, x260001, x261000 => if x43 < x42 then (if 0 ≤ x43 then (if x43 < (x260001.length : Int) then (if 0 ≤ (wrap64 (x261000 - 1)) then (if (wrap64 (x261000 - 1)) < ((rd_L1 x260001 x43).length : Int) then (if (rd (rd_L1 x260001 x43) (wrap64 (x261000 - 1))) = x43 then (if 0 < ((rd_L1 x260001 x43).length : Int) then (impl_ValidAlgebra.j3 k x43 x42 x43 ((rd (rd_L1 x260001 x43) 0) != 0) x260000 x260001 x261000) else (none)) else (impl_ValidAlgebra.j3 k x43 x42 x43 true x260000 x260001 x261000)) else (none)) else (none)) else (none)) else (none)) else (some true)
def impl_ValidAlgebra.j3 : Nat → Int → Int → Int → Bool → List Int → List (List Int) → Int → Option (Bool)
 | 0, _, _, _, _, _, _, _ => none
 | k + 1, x6, x42, x43, x66, x260000, x260001, x261000 => if x66 = true then (some false) else (impl_ValidAlgebra.l2 k x6 x42 x43 (x260000.length : Int) 0 x260000 x260001 x261000)
def impl_ValidAlgebra.l2 : Nat → Int → Int → Int → Int → Int → List Int → List (List Int) → Int → Option (Bool)
 | 0, _, _, _, _, _, _, _, _ => none
 | k + 1, x6, x42, x43, x69, x70, x260000, x260001, x261000 => if x70 < x69 then (if 0 ≤ x6 then (if x6 < (x260001.length : Int) then (if 0 ≤ x70 then (if x70 < ((rd_L1 x260001 x6).length : Int) then (if x70 < (x260001.length : Int) then (if x6 < ((rd_L1 x260001 x70).length : Int) then (if (rd (rd_L1 x260001 x6) x70) = (rd (rd_L1 x260001 x70) x6) then (impl_ValidAlgebra.l3 k x6 x70 x42 x43 x69 x70 (x260000.length : Int) 0 x260000 x260001 x261000) else (some false)) else (none)) else (none)) else (none)) else (none)) else (none)) else (none)) else (impl_ValidAlgebra.l1 k x42 (wrap64 (x43 + 1)) x260000 x260001 x261000)
def impl_ValidAlgebra.l3 : Nat → Int → Int → Int → Int → Int → Int → Int → Int → List Int → List (List Int) → Int → Option (Bool)
 | 0, _, _, _, _, _, _, _, _, _, _, _ => none
 | k + 1, x6, x7, x42, x43, x69, x70, x92, x93, x260000, x260001, x261000 => if x93 < x92 then (if 0 ≤ x6 then (if x6 < (x260001.length : Int) then (if 0 ≤ x7 then (if x7 < ((rd_L1 x260001 x6).length : Int) then (if 0 ≤ (rd (rd_L1 x260001 x6) x7) then (if (rd (rd_L1 x260001 x6) x7) < (x260001.length : Int) then (if 0 ≤ x93 then (if x93 < ((rd_L1 x260001 (rd (rd_L1 x260001 x6) x7)).length : Int) then (if x7 < (x260001.length : Int) then (if x93 < ((rd_L1 x260001 x7).length : Int) then (if 0 ≤ (rd (rd_L1 x260001 x7) x93) then (if (rd (rd_L1 x260001 x7) x93) < ((rd_L1 x260001 x6).length : Int) then (if (rd (rd_L1 x260001 (rd (rd_L1 x260001 x6) x7)) x93) = (rd (rd_L1 x260001 x6) (rd (rd_L1 x260001 x7) x93)) then ((impl_join.f k x260000 x7 x93).bind fun t281 => (if 0 ≤ t281 then (if t281 < ((rd_L1 x260001 x6).length : Int) then (if x93 < ((rd_L1 x260001 x6).length : Int) then ((impl_join.f k x260000 (rd (rd_L1 x260001 x6) x7) (rd (rd_L1 x260001 x6) x93)).bind fun t287 => (if (rd (rd_L1 x260001 x6) t281) = t287 then (impl_ValidAlgebra.l3 k x6 x7 x42 x43 x69 x70 x92 (wrap64 (x93 + 1)) x260000 x260001 x261000) else (some false))) else (none)) else (none)) else (none))) else (some false)) else (none)) else (none)) else (none)) else (none)) else (none)) else (none)) else (none)) else (none)) else (none)) else (none)) else (none)) else (none)) else (impl_ValidAlgebra.l2 k x6 x42 x43 x69 (wrap64 (x70 + 1)) x260000 x260001 x261000)
end
def impl_ValidAlgebra.f (k : Nat) (l0_0 : List Int) (l0_1 : List (List Int)) : Option (Bool) := (impl_ValidLattice.f k l0_0).bind fun t261 => (if t261 = true then (impl_ValidAlgebra.j0 k ((l0_1.length : Int) != (l0_0.length : Int)) l0_0 l0_1 (l0_0.length : Int)) else (impl_ValidAlgebra.j0 k true l0_0 l0_1 (l0_0.length : Int)))
set_option maxHeartbeats 8000000 in
set_option maxRecDepth 100000 in
theorem impl_ValidAlgebra.calls (k : Nat) (A0_0 : Option Addr) (c0_0 : Nat) (l0_0 : List Int) (A0_1 : Option Addr) (c0_1 : Nat) (l0_1 : List (List Int)) (r : Bool) (w : World) (hr0_0 : Kd.C (Kd.int .i64) w A0_0 l0_0.length l0_0) (hc0_0 : l0_0.length ≤ c0_0) (hr0_1 : Kd.C (Kd.slice 3 (Kd.int .i64)) w A0_1 l0_1.length l0_1) (hc0_1 : l0_1.length ≤ c0_1) (h : impl_ValidAlgebra.f k l0_0 l0_1 = some r) :
  Calls Try.prog 33 #[.agg #[.slice A0_0 l0_0.length c0_0, .slice A0_1 l0_1.length c0_1]] w fun e w' => e = .returned (.bool r) ∧ Below w.heap.size w w' := by
 have hu25 := Try.underlying25
 have HR0_0 := ak hr0_0
 have HC0_0 := ak hc0_0
 clear hr0_0 hc0_0
 have HR0_1 := ak hr0_1
 have HC0_1 := ak hc0_1
 clear hr0_1 hc0_1
 have HB := ak (Below.refl w.heap.size w)
 have H : ((impl_ValidLattice.f k l0_0).bind fun t261 => (if t261 = true then (impl_ValidAlgebra.j0 k ((l0_1.length : Int) != (l0_0.length : Int)) l0_0 l0_1 (l0_0.length : Int)) else (impl_ValidAlgebra.j0 k true l0_0 l0_1 (l0_0.length : Int)))) = some r := h
 clear h
 have HC2 := ak H
 clear H
 have hmf : ∀ (fn : Fn) (first cap : Array Value) (w : World), (Instr.makeFunc fn first cap).run Try.prog w = .ok (.func fn first cap) w := fun _ _ _ _ => rfl
 go_enter Try.func33, Try.ntmps33
 go_upto_region 2 with (first | ((with_reducible refine gate_dst (N := 1) rfl ?_); (try (refine gate_guard (by rfl) ?_; dsimp only)); refine box_event ?hg (N := 1) ?hd (cs := #[.slice A0_0 l0_0.length c0_0, .slice A0_1 l0_1.length c0_1]) (t := 25) ?hr ?_; (case hd => rfl); (case hg => rfl); (case hr => first | (go_simp; done) | (go_simp; rfl)); intro gb259 hg w3 hbox hb; have BK259 := ak (hbox); have GW259 := ak ((by rw [hg]; exact (below_size (bB HB.out)) : w.heap.size ≤ gb259)); have GE259 := ak ((by rw [hg]; exact (below_size (bB HB.out)) : w.heap.size ≤ gb259)); replace HB := ak (below_step (bB HB.out) hb); clear hb hbox hg; have hcz4_0 : w3.cell? ⟨gb259, 0, none⟩ = some (.slice A0_0 l0_0.length c0_0) := (blk_cell BK259.out 0).trans rfl; have hcz4_1 : w3.cell? ⟨gb259, 1, none⟩ = some (.slice A0_1 l0_1.length c0_1) := (blk_cell BK259.out 1).trans rfl; have hfz4_0 := blk_frozen BK259.out 0; have hfz4_1 := blk_frozen BK259.out 1) | ((with_reducible refine gate_dst (N := 3) rfl ?_); (try (refine gate_guard (by rfl) ?_; dsimp only)); refine box_event ?hg (N := 3) ?hd (cs := #[.int .i64 0]) (t := 3) ?hr ?_; (case hd => rfl); (case hg => rfl); (case hr => first | (go_simp; done) | (go_simp; rfl)); intro gb260 hg w5 hbox hb; have BK260 := ak (hbox); have GW260 := ak ((by rw [hg]; exact (below_size (bB HB.out)) : w.heap.size ≤ gb260)); have GE260 := ak ((by rw [hg]; exact (below_size (bB HB.out)) : w.heap.size ≤ gb260)); replace HB := ak (below_step (bB HB.out) hb); have NB259_260 := ak ((ne_box hg (kK BK259.out))); have NB260_259 := ak ((ne_box' hg (kK BK259.out))); replace BK259 := ak (blk_below (kK BK259.out) hb); clear hb hbox hg; have hnb6 := NB260_259.out; have hnc6 := NB259_260.out; have hcz7_0 : w5.cell? ⟨gb260, 0, none⟩ = some (.int .i64 0) := (blk_cell BK260.out 0).trans rfl; have hfz7_0 := blk_frozen BK260.out 0))
 repeat ((refine wp_region_quiet_lit ?_ ?_ ?_; kernel_rfl; kernel_rfl; (repeat (first | go_big_quiet_step (first | ((with_reducible refine gate_dst (N := 1) rfl ?_); (try (refine gate_guard (by rfl) ?_; dsimp only)); refine box_event ?hg (N := 1) ?hd (cs := #[.slice A0_0 l0_0.length c0_0, .slice A0_1 l0_1.length c0_1]) (t := 25) ?hr ?_; (case hd => rfl); (case hg => rfl); (case hr => first | (go_simp; done) | (go_simp; rfl)); intro gb259 hg w3 hbox hb; have BK259 := ak (hbox); have GW259 := ak ((by rw [hg]; exact (below_size (bB HB.out)) : w.heap.size ≤ gb259)); have GE259 := ak ((by rw [hg]; exact (below_size (bB HB.out)) : w.heap.size ≤ gb259)); replace HB := ak (below_step (bB HB.out) hb); clear hb hbox hg; have hcz4_0 : w3.cell? ⟨gb259, 0, none⟩ = some (.slice A0_0 l0_0.length c0_0) := (blk_cell BK259.out 0).trans rfl; have hcz4_1 : w3.cell? ⟨gb259, 1, none⟩ = some (.slice A0_1 l0_1.length c0_1) := (blk_cell BK259.out 1).trans rfl; have hfz4_0 := blk_frozen BK259.out 0; have hfz4_1 := blk_frozen BK259.out 1) | ((with_reducible refine gate_dst (N := 3) rfl ?_); (try (refine gate_guard (by rfl) ?_; dsimp only)); refine box_event ?hg (N := 3) ?hd (cs := #[.int .i64 0]) (t := 3) ?hr ?_; (case hd => rfl); (case hg => rfl); (case hr => first | (go_simp; done) | (go_simp; rfl)); intro gb260 hg w5 hbox hb; have BK260 := ak (hbox); have GW260 := ak ((by rw [hg]; exact (below_size (bB HB.out)) : w.heap.size ≤ gb260)); have GE260 := ak ((by rw [hg]; exact (below_size (bB HB.out)) : w.heap.size ≤ gb260)); replace HB := ak (below_step (bB HB.out) hb); have NB259_260 := ak ((ne_box hg (kK BK259.out))); have NB260_259 := ak ((ne_box' hg (kK BK259.out))); replace BK259 := ak (blk_below (kK BK259.out) hb); clear hb hbox hg; have hnb6 := NB260_259.out; have hnc6 := NB259_260.out; have hcz7_0 : w5.cell? ⟨gb260, 0, none⟩ = some (.int .i64 0) := (blk_cell BK260.out 0).trans rfl; have hfz7_0 := blk_frozen BK260.out 0)) | (refine wpQuiet_step (fun K hK => ?_); go_simp; refine hK _ ?_; clear hK K))); refine wpQuiet_nil ?_; intro _ hw'; obtain ⟨nq, hw''⟩ := hw'; subst hw''); go_upto_region 2 with (first | ((with_reducible refine gate_dst (N := 1) rfl ?_); (try (refine gate_guard (by rfl) ?_; dsimp only)); refine box_event ?hg (N := 1) ?hd (cs := #[.slice A0_0 l0_0.length c0_0, .slice A0_1 l0_1.length c0_1]) (t := 25) ?hr ?_; (case hd => rfl); (case hg => rfl); (case hr => first | (go_simp; done) | (go_simp; rfl)); intro gb259 hg w3 hbox hb; have BK259 := ak (hbox); have GW259 := ak ((by rw [hg]; exact (below_size (bB HB.out)) : w.heap.size ≤ gb259)); have GE259 := ak ((by rw [hg]; exact (below_size (bB HB.out)) : w.heap.size ≤ gb259)); replace HB := ak (below_step (bB HB.out) hb); clear hb hbox hg; have hcz4_0 : w3.cell? ⟨gb259, 0, none⟩ = some (.slice A0_0 l0_0.length c0_0) := (blk_cell BK259.out 0).trans rfl; have hcz4_1 : w3.cell? ⟨gb259, 1, none⟩ = some (.slice A0_1 l0_1.length c0_1) := (blk_cell BK259.out 1).trans rfl; have hfz4_0 := blk_frozen BK259.out 0; have hfz4_1 := blk_frozen BK259.out 1) | ((with_reducible refine gate_dst (N := 3) rfl ?_); (try (refine gate_guard (by rfl) ?_; dsimp only)); refine box_event ?hg (N := 3) ?hd (cs := #[.int .i64 0]) (t := 3) ?hr ?_; (case hd => rfl); (case hg => rfl); (case hr => first | (go_simp; done) | (go_simp; rfl)); intro gb260 hg w5 hbox hb; have BK260 := ak (hbox); have GW260 := ak ((by rw [hg]; exact (below_size (bB HB.out)) : w.heap.size ≤ gb260)); have GE260 := ak ((by rw [hg]; exact (below_size (bB HB.out)) : w.heap.size ≤ gb260)); replace HB := ak (below_step (bB HB.out) hb); have NB259_260 := ak ((ne_box hg (kK BK259.out))); have NB260_259 := ak ((ne_box' hg (kK BK259.out))); replace BK259 := ak (blk_below (kK BK259.out) hb); clear hb hbox hg; have hnb6 := NB260_259.out; have hnc6 := NB259_260.out; have hcz7_0 : w5.cell? ⟨gb260, 0, none⟩ = some (.int .i64 0) := (blk_cell BK260.out 0).trans rfl; have hfz7_0 := blk_frozen BK260.out 0)))
 (try simp only [Act.put, List.setIfInBounds_toArray, List.set_cons_zero, List.set_cons_succ])
 go_cut [22] (fun v22 wc => ∃ (kq : Nat) (x22_1 : Bool), v22 = .bool x22_1 ∧ Aside0 (impl_ValidAlgebra.j0 kq x22_1 l0_0 l0_1 (l0_0.length : Int) = some r) ∧ Aside0 (kq ≤ k) ∧ Aside0 (wc.heap[gb259]? = some (.cells #[(.slice A0_0 l0_0.length c0_0), (.slice A0_1 l0_1.length c0_1)] 25 (0, 0))) ∧ Aside0 (wc.heap[gb260]? = some (.cells #[.int .i64 (l0_0.length : Int)] 3 (0, 0))) ∧ Aside0 (Below w.heap.size w wc))
 case first =>
  have H := HC2.out
  clear HC2
  replace H := bi H
  obtain ⟨t261, A80, H⟩ := H
  try dsimp only at H
  have A8 := ak A80
  clear A80
  by_cases c9 : t261 = true
  rotate_left
  ·replace c9 := Bool.eq_false_iff.mpr c9
   subst c9
   rw [if_neg (show ¬ (false = true) by decide)] at H
   have H' := ak H
   clear H
   have hnb13 := NB259_260.out
   have hnc13 := NB260_259.out
   have hcz14_0 : w5.cell? ⟨gb259, 0, none⟩ = some (.slice A0_0 l0_0.length c0_0) := (blk_cell BK259.out 0).trans rfl
   have hcz14_1 : w5.cell? ⟨gb259, 1, none⟩ = some (.slice A0_1 l0_1.length c0_1) := (blk_cell BK259.out 1).trans rfl
   have hfz14_0 := blk_frozen BK259.out 0
   have hfz14_1 := blk_frozen BK259.out 1
   as_aux_lemma =>
    go_wp2_with (first | (go_at_call 45; (with_reducible refine (impl_ValidLattice.calls k _ _ l0_0 false _ ?side1 ?side2 A8.out).mono ?_); (case side1 => exact Kd.C_below HR0_0.out (bB HB.out)); (case side2 => exact HC0_0.out); rintro e w' ⟨rfl, ⟨nd, rfl⟩⟩; (try first | exact ⟨rfl, _, World.drewN_drewN _ _ _⟩ | exact ⟨rfl, _, Eq.trans (World.drewN_drewN _ _ _) (congrArg (World.drewN _) (Nat.add_assoc _ _ _))⟩)))
    repeat ((refine wp_region_quiet_lit ?_ ?_ ?_; kernel_rfl; kernel_rfl; (repeat (first | go_big_quiet_step (first | (go_at_call 45; (with_reducible refine (impl_ValidLattice.calls k _ _ l0_0 false _ ?side1 ?side2 A8.out).mono ?_); (case side1 => exact Kd.C_below HR0_0.out (bB HB.out)); (case side2 => exact HC0_0.out); rintro e w' ⟨rfl, ⟨nd, rfl⟩⟩; (try first | exact ⟨rfl, _, World.drewN_drewN _ _ _⟩ | exact ⟨rfl, _, Eq.trans (World.drewN_drewN _ _ _) (congrArg (World.drewN _) (Nat.add_assoc _ _ _))⟩))) | (refine wpQuiet_step (fun K hK => ?_); go_simp; refine hK _ ?_; clear hK K))); refine wpQuiet_nil ?_; intro _ hw'; obtain ⟨nq, hw''⟩ := hw'; subst hw''); try go_wp2_with (first | (go_at_call 45; (with_reducible refine (impl_ValidLattice.calls k _ _ l0_0 false _ ?side1 ?side2 A8.out).mono ?_); (case side1 => exact Kd.C_below HR0_0.out (bB HB.out)); (case side2 => exact HC0_0.out); rintro e w' ⟨rfl, ⟨nd, rfl⟩⟩; (try first | exact ⟨rfl, _, World.drewN_drewN _ _ _⟩ | exact ⟨rfl, _, Eq.trans (World.drewN_drewN _ _ _) (congrArg (World.drewN _) (Nat.add_assoc _ _ _))⟩))))
    go_meet
    case rel => exact ⟨_, (true), (by first | rfl | (simp; done) | (simp [*]; done)), H', ⟨by first | omega | exact Nat.le_refl _⟩, ⟨by (with_reducible repeat (first | refine blk_drewN ?_ _ | refine blk_drew ?_ | refine blk_alloc ?_ _)); refine blk_far ?_ NB259_260.out _; (with_reducible repeat (first | refine blk_drewN ?_ _ | refine blk_drew ?_ | refine blk_alloc ?_ _)); exact BK259.out⟩, ⟨by (with_reducible repeat (first | refine blk_drewN ?_ _ | refine blk_drew ?_ | refine blk_alloc ?_ _)); refine blk_put (cs := #[.int .i64 0]) ?_ 0 _ rfl; (with_reducible repeat (first | refine blk_drewN ?_ _ | refine blk_drew ?_ | refine blk_alloc ?_ _)); exact BK260.out⟩, ⟨by repeat (first | (with_reducible first | exact HB.out | apply below_alloc | apply pw_below_drewN | apply below_drew1 | refine below_set ?_ GE259.out | refine below_set ?_ GE260.out) | exact HB.out)⟩⟩
  subst c9
  rw [if_pos rfl] at H
  have H' := ak H
  clear H
  have hnb10 := NB259_260.out
  have hnc10 := NB260_259.out
  have hcz11_0 : w5.cell? ⟨gb259, 0, none⟩ = some (.slice A0_0 l0_0.length c0_0) := (blk_cell BK259.out 0).trans rfl
  have hcz11_1 : w5.cell? ⟨gb259, 1, none⟩ = some (.slice A0_1 l0_1.length c0_1) := (blk_cell BK259.out 1).trans rfl
  have hfz11_0 := blk_frozen BK259.out 0
  have hfz11_1 := blk_frozen BK259.out 1
  have hcz12_0 : w5.cell? ⟨gb260, 0, none⟩ = some (.int .i64 0) := (blk_cell BK260.out 0).trans rfl
  have hfz12_0 := blk_frozen BK260.out 0
  as_aux_lemma =>
   go_wp2_with (first | (go_at_call 45; (with_reducible refine (impl_ValidLattice.calls k _ _ l0_0 true _ ?side1 ?side2 A8.out).mono ?_); (case side1 => exact Kd.C_below HR0_0.out (bB HB.out)); (case side2 => exact HC0_0.out); rintro e w' ⟨rfl, ⟨nd, rfl⟩⟩; (try first | exact ⟨rfl, _, World.drewN_drewN _ _ _⟩ | exact ⟨rfl, _, Eq.trans (World.drewN_drewN _ _ _) (congrArg (World.drewN _) (Nat.add_assoc _ _ _))⟩)))
   repeat ((refine wp_region_quiet_lit ?_ ?_ ?_; kernel_rfl; kernel_rfl; (repeat (first | go_big_quiet_step (first | (go_at_call 45; (with_reducible refine (impl_ValidLattice.calls k _ _ l0_0 true _ ?side1 ?side2 A8.out).mono ?_); (case side1 => exact Kd.C_below HR0_0.out (bB HB.out)); (case side2 => exact HC0_0.out); rintro e w' ⟨rfl, ⟨nd, rfl⟩⟩; (try first | exact ⟨rfl, _, World.drewN_drewN _ _ _⟩ | exact ⟨rfl, _, Eq.trans (World.drewN_drewN _ _ _) (congrArg (World.drewN _) (Nat.add_assoc _ _ _))⟩))) | (refine wpQuiet_step (fun K hK => ?_); go_simp; refine hK _ ?_; clear hK K))); refine wpQuiet_nil ?_; intro _ hw'; obtain ⟨nq, hw''⟩ := hw'; subst hw''); try go_wp2_with (first | (go_at_call 45; (with_reducible refine (impl_ValidLattice.calls k _ _ l0_0 true _ ?side1 ?side2 A8.out).mono ?_); (case side1 => exact Kd.C_below HR0_0.out (bB HB.out)); (case side2 => exact HC0_0.out); rintro e w' ⟨rfl, ⟨nd, rfl⟩⟩; (try first | exact ⟨rfl, _, World.drewN_drewN _ _ _⟩ | exact ⟨rfl, _, Eq.trans (World.drewN_drewN _ _ _) (congrArg (World.drewN _) (Nat.add_assoc _ _ _))⟩))))
   go_meet
   case rel => exact ⟨_, (((l0_1.length : Int) != (l0_0.length : Int))), (by first | rfl | (simp; done) | (simp [*]; done)), H', ⟨by first | omega | exact Nat.le_refl _⟩, ⟨by (with_reducible repeat (first | refine blk_drewN ?_ _ | refine blk_drew ?_ | refine blk_alloc ?_ _)); refine blk_far ?_ NB259_260.out _; (with_reducible repeat (first | refine blk_drewN ?_ _ | refine blk_drew ?_ | refine blk_alloc ?_ _)); exact BK259.out⟩, ⟨by (with_reducible repeat (first | refine blk_drewN ?_ _ | refine blk_drew ?_ | refine blk_alloc ?_ _)); refine blk_put (cs := #[.int .i64 0]) ?_ 0 _ rfl; (with_reducible repeat (first | refine blk_drewN ?_ _ | refine blk_drew ?_ | refine blk_alloc ?_ _)); exact BK260.out⟩, ⟨by repeat (first | (with_reducible first | exact HB.out | apply below_alloc | apply pw_below_drewN | apply below_drew1 | refine below_set ?_ GE259.out | refine below_set ?_ GE260.out) | exact HB.out)⟩⟩
 case rest =>
  clear HC2
  try clear c1
  try clear p2
  try clear c3
  try clear c6
  try clear c9
  try clear c10
  try clear c13
  try clear hcz11_0
  try clear hcz11_1
  try clear hcz12_0
  try clear hcz14_0
  try clear hcz14_1
  try clear hcz4_0
  try clear hcz4_1
  try clear hcz7_0
  try clear hfz11_0
  try clear hfz11_1
  try clear hfz12_0
  try clear hfz14_0
  try clear hfz14_1
  try clear hfz4_0
  try clear hfz4_1
  try clear hfz7_0
  obtain ⟨kq, x22_1, rfl, HA, HJ1, BK259, BK260, HB⟩ := hcut
  cases kq with
  | zero => exact absurd HA.out (by simp [impl_ValidAlgebra.j0])
  | succ kj1 =>
   have H := HA.out
   clear HA
   simp only [impl_ValidAlgebra.j0] at H
   by_cases c15 : x22_1 = true
   ·subst c15
    rw [if_pos rfl] at H
    obtain rfl := Option.some.inj H
    as_aux_lemma =>
     go_wp2
     repeat ((refine wp_region_quiet_lit ?_ ?_ ?_; kernel_rfl; kernel_rfl; (repeat (first | go_big_quiet_step (fail) | (refine wpQuiet_step (fun K hK => ?_); go_simp; refine hK _ ?_; clear hK K))); refine wpQuiet_nil ?_; intro _ hw'; obtain ⟨nq, hw''⟩ := hw'; subst hw''); try go_wp2)
     go_ret
     exact ⟨by first | rfl | (simp [errW_none, errW_some] <;> rfl) | (simp [*, errW_none, errW_some] <;> rfl), by repeat (first | (with_reducible first | exact HB.out | apply below_alloc | apply pw_below_drewN | apply below_drew1 | refine below_set ?_ GE259.out | refine below_set ?_ GE260.out) | exact HB.out)⟩
   replace c15 := Bool.eq_false_iff.mpr c15
   subst c15
   rw [if_neg (show ¬ (false = true) by decide)] at H
   have H' := ak H
   clear H
   have hnb16 := NB259_260.out
   have hnc16 := NB260_259.out
   have hcz17_0 : wc.cell? ⟨gb259, 0, none⟩ = some (.slice A0_0 l0_0.length c0_0) := (blk_cell BK259.out 0).trans rfl
   have hcz17_1 : wc.cell? ⟨gb259, 1, none⟩ = some (.slice A0_1 l0_1.length c0_1) := (blk_cell BK259.out 1).trans rfl
   have hfz17_0 := blk_frozen BK259.out 0
   have hfz17_1 := blk_frozen BK259.out 1
   as_aux_lemma =>
    go_wp2
    repeat ((refine wp_region_quiet_lit ?_ ?_ ?_; kernel_rfl; kernel_rfl; (repeat (first | go_big_quiet_step (fail) | (refine wpQuiet_step (fun K hK => ?_); go_simp; refine hK _ ?_; clear hK K))); refine wpQuiet_nil ?_; intro _ hw'; obtain ⟨nq, hw''⟩ := hw'; subst hw''); try go_wp2)
    go_loopg [26] kj1 (fun kq v26 w' => ∃ (x26_2 : Int), v26 = .int .i64 x26_2 ∧ Aside0 (impl_ValidAlgebra.l0 kq l0_1 (l0_1.length : Int) x26_2 l0_0 l0_1 (l0_0.length : Int) = some r) ∧ Aside0 (kq ≤ kj1) ∧ Aside0 (w'.heap[gb259]? = some (.cells #[(.slice A0_0 l0_0.length c0_0), (.slice A0_1 l0_1.length c0_1)] 25 (0, 0))) ∧ Aside0 (w'.heap[gb260]? = some (.cells #[.int .i64 (l0_0.length : Int)] 3 (0, 0))) ∧ Aside0 (Below w.heap.size w w'))
    case atStart => exact ⟨(0), (by first | rfl | (simp; done) | (simp [*]; done)), H', ⟨Nat.le_refl _⟩, ⟨by (with_reducible repeat (first | refine blk_drewN ?_ _ | refine blk_drew ?_ | refine blk_alloc ?_ _)); exact BK259.out⟩, ⟨by (with_reducible repeat (first | refine blk_drewN ?_ _ | refine blk_drew ?_ | refine blk_alloc ?_ _)); exact BK260.out⟩, ⟨by repeat (first | (with_reducible first | exact HB.out | apply below_alloc | apply pw_below_drewN | apply below_drew1 | refine below_set ?_ GE259.out | refine below_set ?_ GE260.out) | exact HB.out)⟩⟩
    case round =>
     clear H'
     try clear c1
     try clear p2
     try clear c3
     try clear c6
     try clear c9
     try clear c10
     try clear c13
     try clear c15
     try clear c16
     try clear hcz11_0
     try clear hcz11_1
     try clear hcz12_0
     try clear hcz14_0
     try clear hcz14_1
     try clear hcz17_0
     try clear hcz17_1
     try clear hcz4_0
     try clear hcz4_1
     try clear hcz7_0
     try clear hfz11_0
     try clear hfz11_1
     try clear hfz12_0
     try clear hfz14_0
     try clear hfz14_1
     try clear hfz17_0
     try clear hfz17_1
     try clear hfz4_0
     try clear hfz4_1
     try clear hfz7_0
     try clear p2
     obtain ⟨x26_2, rfl, HA, HK2, BK259, BK260, HB⟩ := hrel
     cases gk with
     | zero => exact absurd HA.out (by simp [impl_ValidAlgebra.l0])
     | succ k2 =>
      have H := HA.out
      clear HA
      simp only [impl_ValidAlgebra.l0] at H
      by_cases c18 : x26_2 < (l0_1.length : Int)
      ·rw [if_pos c18] at H
       have c18b0 : decide (x26_2 < (l0_1.length : Int)) = true := decide_eq_true c18
       clear c18
       replace H := oi H
       obtain ⟨c19, H⟩ := H
       have c19b0 : decide (0 ≤ x26_2) = true := decide_eq_true c19
       clear c19
       replace H := oi H
       obtain ⟨c20, H⟩ := H
       have c20b0 : decide (x26_2 < (l0_1.length : Int)) = true := decide_eq_true c20
       clear c20
       by_cases c21 : ((rd_L1 l0_1 x26_2).length : Int) = (l0_0.length : Int)
       rotate_left
       ·rw [if_neg c21] at H
        have c21b0 : (((rd_L1 l0_1 x26_2).length : Int) == (l0_0.length : Int)) = false := beq_eq_false_iff_ne.mpr c21
        have c21b1 : (((rd_L1 l0_1 x26_2).length : Int) != (l0_0.length : Int)) = true := bne_iff_ne.mpr c21
        have c21b2 : ((rd_L1 l0_1 x26_2).length == l0_0.length) = false := by first | simpa using c21 | (simp at c21 ⊢; omega)
        obtain rfl := Option.some.inj H
        have p262 : 0 ≤ (x26_2 : Int) := of_decide_eq_true (by first | (with_reducible assumption) | assumption)
        have q262 : x26_2 < (l0_1.length : Int) := of_decide_eq_true (by first | (with_reducible assumption) | assumption)
        obtain ⟨ad262, A262_0, c262_0, e262, hx262_0, hl262_0, hi262_0⟩ := at_L1 HR0_1.out x26_2 p262 q262
        cases e262
        replace hx262_0 := (HB.out.cell (World.block_lt_of_cell? w _ hx262_0)).trans hx262_0
        have HR262_0 := ak hi262_0
        have HC262_0 := ak hl262_0
        clear hi262_0 hl262_0
        replace p262 := eq_true p262
        replace q262 := eq_true q262
        have hnb28 := NB260_259.out
        have hnc28 := NB259_260.out
        have hcz29_0 : wr.cell? ⟨gb260, 0, none⟩ = some (.int .i64 (l0_0.length : Int)) := (blk_cell BK260.out 0).trans rfl
        have hfz29_0 := blk_frozen BK260.out 0
        as_aux_lemma =>
         go_wp2
         repeat ((refine wp_region_quiet_lit ?_ ?_ ?_; kernel_rfl; kernel_rfl; (repeat (first | go_big_quiet_step (fail) | (refine wpQuiet_step (fun K hK => ?_); go_simp; refine hK _ ?_; clear hK K))); refine wpQuiet_nil ?_; intro _ hw'; obtain ⟨nq, hw''⟩ := hw'; subst hw''); try go_wp2)
         go_ret
         exact ⟨by first | rfl | (simp [errW_none, errW_some] <;> rfl) | (simp [*, errW_none, errW_some] <;> rfl), by repeat (first | (with_reducible first | exact HB.out | apply below_alloc | apply pw_below_drewN | apply below_drew1 | refine below_set ?_ GE259.out | refine below_set ?_ GE260.out) | exact HB.out)⟩
       rw [if_pos c21] at H
       have c21b0 : (((rd_L1 l0_1 x26_2).length : Int) == (l0_0.length : Int)) = true := beq_iff_eq.mpr c21
       have c21b1 : (((rd_L1 l0_1 x26_2).length : Int) != (l0_0.length : Int)) = false := bne_eq_false_iff_eq.mpr c21
       have c21b2 : ((rd_L1 l0_1 x26_2).length == l0_0.length) = true := by first | simpa using c21 | (simp at c21 ⊢; omega)
       clear c21
       replace H := bi H
       obtain ⟨t263, A220, H⟩ := H
       try dsimp only at H
       have A22 := ak A220
       clear A220
       by_cases c23 : t263 = true
       ·subst c23
        rw [if_pos rfl] at H
        obtain rfl := Option.some.inj H
        have p262 : 0 ≤ (x26_2 : Int) := of_decide_eq_true (by first | (with_reducible assumption) | assumption)
        have q262 : x26_2 < (l0_1.length : Int) := of_decide_eq_true (by first | (with_reducible assumption) | assumption)
        obtain ⟨ad262, A262_0, c262_0, e262, hx262_0, hl262_0, hi262_0⟩ := at_L1 HR0_1.out x26_2 p262 q262
        cases e262
        replace hx262_0 := (HB.out.cell (World.block_lt_of_cell? w _ hx262_0)).trans hx262_0
        have HR262_0 := ak hi262_0
        have HC262_0 := ak hl262_0
        clear hi262_0 hl262_0
        replace p262 := eq_true p262
        replace q262 := eq_true q262
        have hnb24 := NB260_259.out
        have hnc24 := NB259_260.out
        have hcz25_0 : wr.cell? ⟨gb260, 0, none⟩ = some (.int .i64 (l0_0.length : Int)) := (blk_cell BK260.out 0).trans rfl
        have hfz25_0 := blk_frozen BK260.out 0
        as_aux_lemma =>
         go_wp2_with (first | (go_at_call 81; (with_reducible refine (cf_ValidAlgebra_1.calls _ _ (rd_L1 l0_1 x26_2) gb260 (l0_0.length : Int) true _ ?side1 ?side2 ?side3 A22.out).mono ?_); (case side1 => exact kC (Kd.C_below HR262_0.out HB.out)); (case side2 => exact HC262_0.out); (case side3 => exact (show _ from by (with_reducible repeat (first | refine blk_drewN ?_ _ | refine blk_drew ?_ | refine blk_alloc ?_ _)); exact BK260.out)); rintro e w' ⟨rfl, ⟨nd, rfl⟩⟩; (try first | exact ⟨rfl, _, World.drewN_drewN _ _ _⟩ | exact ⟨rfl, _, Eq.trans (World.drewN_drewN _ _ _) (congrArg (World.drewN _) (Nat.add_assoc _ _ _))⟩)))
         repeat ((refine wp_region_quiet_lit ?_ ?_ ?_; kernel_rfl; kernel_rfl; (repeat (first | go_big_quiet_step (first | (go_at_call 81; (with_reducible refine (cf_ValidAlgebra_1.calls _ _ (rd_L1 l0_1 x26_2) gb260 (l0_0.length : Int) true _ ?side1 ?side2 ?side3 A22.out).mono ?_); (case side1 => exact kC (Kd.C_below HR262_0.out HB.out)); (case side2 => exact HC262_0.out); (case side3 => exact (show _ from by (with_reducible repeat (first | refine blk_drewN ?_ _ | refine blk_drew ?_ | refine blk_alloc ?_ _)); exact BK260.out)); rintro e w' ⟨rfl, ⟨nd, rfl⟩⟩; (try first | exact ⟨rfl, _, World.drewN_drewN _ _ _⟩ | exact ⟨rfl, _, Eq.trans (World.drewN_drewN _ _ _) (congrArg (World.drewN _) (Nat.add_assoc _ _ _))⟩))) | (refine wpQuiet_step (fun K hK => ?_); go_simp; refine hK _ ?_; clear hK K))); refine wpQuiet_nil ?_; intro _ hw'; obtain ⟨nq, hw''⟩ := hw'; subst hw''); try go_wp2_with (first | (go_at_call 81; (with_reducible refine (cf_ValidAlgebra_1.calls _ _ (rd_L1 l0_1 x26_2) gb260 (l0_0.length : Int) true _ ?side1 ?side2 ?side3 A22.out).mono ?_); (case side1 => exact kC (Kd.C_below HR262_0.out HB.out)); (case side2 => exact HC262_0.out); (case side3 => exact (show _ from by (with_reducible repeat (first | refine blk_drewN ?_ _ | refine blk_drew ?_ | refine blk_alloc ?_ _)); exact BK260.out)); rintro e w' ⟨rfl, ⟨nd, rfl⟩⟩; (try first | exact ⟨rfl, _, World.drewN_drewN _ _ _⟩ | exact ⟨rfl, _, Eq.trans (World.drewN_drewN _ _ _) (congrArg (World.drewN _) (Nat.add_assoc _ _ _))⟩))))
         go_ret
         exact ⟨by first | rfl | (simp [errW_none, errW_some] <;> rfl) | (simp [*, errW_none, errW_some] <;> rfl), by repeat (first | (with_reducible first | exact HB.out | apply below_alloc | apply pw_below_drewN | apply below_drew1 | refine below_set ?_ GE259.out | refine below_set ?_ GE260.out) | exact HB.out)⟩
       replace c23 := Bool.eq_false_iff.mpr c23
       subst c23
       rw [if_neg (show ¬ (false = true) by decide)] at H
       have H' := ak H
       clear H
       have p262 : 0 ≤ (x26_2 : Int) := of_decide_eq_true (by first | (with_reducible assumption) | assumption)
       have q262 : x26_2 < (l0_1.length : Int) := of_decide_eq_true (by first | (with_reducible assumption) | assumption)
       obtain ⟨ad262, A262_0, c262_0, e262, hx262_0, hl262_0, hi262_0⟩ := at_L1 HR0_1.out x26_2 p262 q262
       cases e262
       replace hx262_0 := (HB.out.cell (World.block_lt_of_cell? w _ hx262_0)).trans hx262_0
       have HR262_0 := ak hi262_0
       have HC262_0 := ak hl262_0
       clear hi262_0 hl262_0
       replace p262 := eq_true p262
       replace q262 := eq_true q262
       have hnb26 := NB260_259.out
       have hnc26 := NB259_260.out
       have hcz27_0 : wr.cell? ⟨gb260, 0, none⟩ = some (.int .i64 (l0_0.length : Int)) := (blk_cell BK260.out 0).trans rfl
       have hfz27_0 := blk_frozen BK260.out 0
       as_aux_lemma =>
        go_wp2_with (first | (go_at_call 81; (with_reducible refine (cf_ValidAlgebra_1.calls _ _ (rd_L1 l0_1 x26_2) gb260 (l0_0.length : Int) false _ ?side1 ?side2 ?side3 A22.out).mono ?_); (case side1 => exact kC (Kd.C_below HR262_0.out HB.out)); (case side2 => exact HC262_0.out); (case side3 => exact (show _ from by (with_reducible repeat (first | refine blk_drewN ?_ _ | refine blk_drew ?_ | refine blk_alloc ?_ _)); exact BK260.out)); rintro e w' ⟨rfl, ⟨nd, rfl⟩⟩; (try first | exact ⟨rfl, _, World.drewN_drewN _ _ _⟩ | exact ⟨rfl, _, Eq.trans (World.drewN_drewN _ _ _) (congrArg (World.drewN _) (Nat.add_assoc _ _ _))⟩)))
        repeat ((refine wp_region_quiet_lit ?_ ?_ ?_; kernel_rfl; kernel_rfl; (repeat (first | go_big_quiet_step (first | (go_at_call 81; (with_reducible refine (cf_ValidAlgebra_1.calls _ _ (rd_L1 l0_1 x26_2) gb260 (l0_0.length : Int) false _ ?side1 ?side2 ?side3 A22.out).mono ?_); (case side1 => exact kC (Kd.C_below HR262_0.out HB.out)); (case side2 => exact HC262_0.out); (case side3 => exact (show _ from by (with_reducible repeat (first | refine blk_drewN ?_ _ | refine blk_drew ?_ | refine blk_alloc ?_ _)); exact BK260.out)); rintro e w' ⟨rfl, ⟨nd, rfl⟩⟩; (try first | exact ⟨rfl, _, World.drewN_drewN _ _ _⟩ | exact ⟨rfl, _, Eq.trans (World.drewN_drewN _ _ _) (congrArg (World.drewN _) (Nat.add_assoc _ _ _))⟩))) | (refine wpQuiet_step (fun K hK => ?_); go_simp; refine hK _ ?_; clear hK K))); refine wpQuiet_nil ?_; intro _ hw'; obtain ⟨nq, hw''⟩ := hw'; subst hw''); try go_wp2_with (first | (go_at_call 81; (with_reducible refine (cf_ValidAlgebra_1.calls _ _ (rd_L1 l0_1 x26_2) gb260 (l0_0.length : Int) false _ ?side1 ?side2 ?side3 A22.out).mono ?_); (case side1 => exact kC (Kd.C_below HR262_0.out HB.out)); (case side2 => exact HC262_0.out); (case side3 => exact (show _ from by (with_reducible repeat (first | refine blk_drewN ?_ _ | refine blk_drew ?_ | refine blk_alloc ?_ _)); exact BK260.out)); rintro e w' ⟨rfl, ⟨nd, rfl⟩⟩; (try first | exact ⟨rfl, _, World.drewN_drewN _ _ _⟩ | exact ⟨rfl, _, Eq.trans (World.drewN_drewN _ _ _) (congrArg (World.drewN _) (Nat.add_assoc _ _ _))⟩))))
        go_roundg k2
        case measure => have := HJ1.out; have := HK2.out; omega
        case rel => exact ⟨(wrap64 (x26_2 + 1)), (by first | rfl | (simp; done) | (simp [*]; done)), H', ⟨by have := HJ1.out; have := HK2.out; omega⟩, ⟨by (with_reducible repeat (first | refine blk_drewN ?_ _ | refine blk_drew ?_ | refine blk_alloc ?_ _)); exact BK259.out⟩, ⟨by (with_reducible repeat (first | refine blk_drewN ?_ _ | refine blk_drew ?_ | refine blk_alloc ?_ _)); exact BK260.out⟩, ⟨by repeat (first | (with_reducible first | exact HB.out | apply below_alloc | apply pw_below_drewN | apply below_drew1 | refine below_set ?_ GE259.out | refine below_set ?_ GE260.out) | exact HB.out)⟩⟩
      rw [if_neg c18] at H
      have c18b0 : decide (x26_2 < (l0_1.length : Int)) = false := decide_eq_false c18
      clear c18
      have H' := ak H
      clear H
      have hnb30 := NB259_260.out
      have hnc30 := NB260_259.out
      have hcz31_0 : wr.cell? ⟨gb259, 0, none⟩ = some (.slice A0_0 l0_0.length c0_0) := (blk_cell BK259.out 0).trans rfl
      have hcz31_1 : wr.cell? ⟨gb259, 1, none⟩ = some (.slice A0_1 l0_1.length c0_1) := (blk_cell BK259.out 1).trans rfl
      have hfz31_0 := blk_frozen BK259.out 0
      have hfz31_1 := blk_frozen BK259.out 1
      as_aux_lemma =>
       go_wp2
       repeat ((refine wp_region_quiet_lit ?_ ?_ ?_; kernel_rfl; kernel_rfl; (repeat (first | go_big_quiet_step (fail) | (refine wpQuiet_step (fun K hK => ?_); go_simp; refine hK _ ?_; clear hK K))); refine wpQuiet_nil ?_; intro _ hw'; obtain ⟨nq, hw''⟩ := hw'; subst hw''); try go_wp2)
       go_loopg [43] k2 (fun kq v43 w' => ∃ (x43_3 : Int), v43 = .int .i64 x43_3 ∧ Aside0 (impl_ValidAlgebra.l1 kq (l0_0.length : Int) x43_3 l0_0 l0_1 (l0_0.length : Int) = some r) ∧ Aside0 (kq ≤ k2) ∧ Aside0 (w'.heap[gb259]? = some (.cells #[(.slice A0_0 l0_0.length c0_0), (.slice A0_1 l0_1.length c0_1)] 25 (0, 0))) ∧ Aside0 (w'.heap[gb260]? = some (.cells #[.int .i64 (l0_0.length : Int)] 3 (0, 0))) ∧ Aside0 (Below w.heap.size w w'))
       case atStart => exact ⟨(0), (by first | rfl | (simp; done) | (simp [*]; done)), H', ⟨Nat.le_refl _⟩, ⟨by (with_reducible repeat (first | refine blk_drewN ?_ _ | refine blk_drew ?_ | refine blk_alloc ?_ _)); exact BK259.out⟩, ⟨by (with_reducible repeat (first | refine blk_drewN ?_ _ | refine blk_drew ?_ | refine blk_alloc ?_ _)); exact BK260.out⟩, ⟨by repeat (first | (with_reducible first | exact HB.out | apply below_alloc | apply pw_below_drewN | apply below_drew1 | refine below_set ?_ GE259.out | refine below_set ?_ GE260.out) | exact HB.out)⟩⟩
       case round =>
        clear H'
        try clear c1
        try clear c2
        try clear p2
        try clear q2
        try clear hx2
        try clear c3
        try clear c6
        try clear p6
        try clear c9
        try clear c10
        try clear c13
        try clear c15
        try clear c16
        try clear c18
        try clear c18b0
        try clear c19
        try clear c19b0
        try clear c20
        try clear c20b0
        try clear c21
        try clear c21b0
        try clear c21b1
        try clear c21b2
        try clear c23
        try clear c24
        try clear c26
        try clear p26
        try clear q26
        try clear hx26
        try clear c28
        try clear c30
        try clear hcz11_0
        try clear hcz11_1
        try clear hcz12_0
        try clear hcz14_0
        try clear hcz14_1
        try clear hcz17_0
        try clear hcz17_1
        try clear hcz25_0
        try clear hcz27_0
        try clear hcz29_0
        try clear hcz31_0
        try clear hcz31_1
        try clear hcz4_0
        try clear hcz4_1
        try clear hcz7_0
        try clear hfz11_0
        try clear hfz11_1
        try clear hfz12_0
        try clear hfz14_0
        try clear hfz14_1
        try clear hfz17_0
        try clear hfz17_1
        try clear hfz25_0
        try clear hfz27_0
        try clear hfz29_0
        try clear hfz31_0
        try clear hfz31_1
        try clear hfz4_0
        try clear hfz4_1
        try clear hfz7_0
        try clear hx262_0
        try clear p2
        try clear p262
        try clear q262
        obtain ⟨x43_3, rfl, HA, HK3, BK259, BK260, HB⟩ := hrel
        cases gk with
        | zero => exact absurd HA.out (by simp [impl_ValidAlgebra.l1])
        | succ k3 =>
         have H := HA.out
         clear HA
         simp only [impl_ValidAlgebra.l1] at H
         by_cases c32 : x43_3 < (l0_0.length : Int)
         rotate_left
         ·rw [if_neg c32] at H
          have c32b0 : decide (x43_3 < (l0_0.length : Int)) = false := decide_eq_false c32
          clear c32
          obtain rfl := Option.some.inj H
          as_aux_lemma =>
           go_wp2
           repeat ((refine wp_region_quiet_lit ?_ ?_ ?_; kernel_rfl; kernel_rfl; (repeat (first | go_big_quiet_step (fail) | (refine wpQuiet_step (fun K hK => ?_); go_simp; refine hK _ ?_; clear hK K))); refine wpQuiet_nil ?_; intro _ hw'; obtain ⟨nq, hw''⟩ := hw'; subst hw''); try go_wp2)
           go_ret
           exact ⟨by first | rfl | (simp [errW_none, errW_some] <;> rfl) | (simp [*, errW_none, errW_some] <;> rfl), by repeat (first | (with_reducible first | exact HB.out | apply below_alloc | apply pw_below_drewN | apply below_drew1 | refine below_set ?_ GE259.out | refine below_set ?_ GE260.out) | exact HB.out)⟩
         rw [if_pos c32] at H
         have c32b0 : decide (x43_3 < (l0_0.length : Int)) = true := decide_eq_true c32
         clear c32
         have HC33 := ak H
         clear H
         go_upto_region 13 with (fail)
         repeat ((refine wp_region_quiet_lit ?_ ?_ ?_; kernel_rfl; kernel_rfl; (repeat (first | go_big_quiet_step (fail) | (refine wpQuiet_step (fun K hK => ?_); go_simp; refine hK _ ?_; clear hK K))); refine wpQuiet_nil ?_; intro _ hw'; obtain ⟨nq, hw''⟩ := hw'; subst hw''); go_upto_region 13 with (fail))
         go_cut [66] (fun v66 wc => ∃ (kq : Nat) (x66_32 : Bool), v66 = .bool x66_32 ∧ Aside0 (impl_ValidAlgebra.j3 kq x43_3 (l0_0.length : Int) x43_3 x66_32 l0_0 l0_1 (l0_0.length : Int) = some r) ∧ Aside0 (kq ≤ k3) ∧ Aside0 (wc.heap[gb259]? = some (.cells #[(.slice A0_0 l0_0.length c0_0), (.slice A0_1 l0_1.length c0_1)] 25 (0, 0))) ∧ Aside0 (wc.heap[gb260]? = some (.cells #[.int .i64 (l0_0.length : Int)] 3 (0, 0))) ∧ Aside0 (Below w.heap.size w wc))
         case first =>
          have H := HC33.out
          clear HC33
          replace H := oi H
          obtain ⟨c34, H⟩ := H
          have c34b0 : decide (0 ≤ x43_3) = true := decide_eq_true c34
          clear c34
          (first | rw [c34b0] | (simp only [i64_w, i32_w]; rw [c34b0]) | skip)
          replace H := oi H
          obtain ⟨c35, H⟩ := H
          have c35b0 : decide (x43_3 < (l0_1.length : Int)) = true := decide_eq_true c35
          clear c35
          obtain ⟨ji36, hji36⟩ : ∃ j_ : Int, (wrap64 ((l0_0.length : Int) - 1)) = j_ := ⟨_, rfl⟩
          replace H : (if 0 ≤ (ji36) then (if (ji36) < ((rd_L1 l0_1 x43_3).length : Int) then (if (rd (rd_L1 l0_1 x43_3) (ji36)) = x43_3 then (if 0 < ((rd_L1 l0_1 x43_3).length : Int) then (impl_ValidAlgebra.j3 k3 x43_3 (l0_0.length : Int) x43_3 ((rd (rd_L1 l0_1 x43_3) 0) != 0) l0_0 l0_1 (l0_0.length : Int)) else (none)) else (impl_ValidAlgebra.j3 k3 x43_3 (l0_0.length : Int) x43_3 true l0_0 l0_1 (l0_0.length : Int))) else (none)) else (none)) = some r := by first | (rw [hji36] at H; exact H) | (simp only [hji36] at H ⊢; exact H)
          have hji36w : (IntKind.i64.wrap ((l0_0.length : Int) - 1)) = ji36 := (i64_w _).trans hji36
          replace H := oi H
          obtain ⟨c37, H⟩ := H
          have c37b0 : decide (0 ≤ (ji36)) = true := decide_eq_true c37
          clear c37
          replace H := oi H
          obtain ⟨c38, H⟩ := H
          have c38b0 : decide ((ji36) < ((rd_L1 l0_1 x43_3).length : Int)) = true := decide_eq_true c38
          clear c38
          by_cases c39 : (rd (rd_L1 l0_1 x43_3) (ji36)) = x43_3
          rotate_left
          ·rw [if_neg c39] at H
           have c39b0 : ((rd (rd_L1 l0_1 x43_3) (ji36)) == x43_3) = false := beq_eq_false_iff_ne.mpr c39
           have c39b1 : ((rd (rd_L1 l0_1 x43_3) (ji36)) != x43_3) = true := bne_iff_ne.mpr c39
           have H' := ak H
           clear H
           have hnb44 := NB259_260.out
           have hnc44 := NB260_259.out
           have hcz45_0 : wr.cell? ⟨gb259, 0, none⟩ = some (.slice A0_0 l0_0.length c0_0) := (blk_cell BK259.out 0).trans rfl
           have hcz45_1 : wr.cell? ⟨gb259, 1, none⟩ = some (.slice A0_1 l0_1.length c0_1) := (blk_cell BK259.out 1).trans rfl
           have hfz45_0 := blk_frozen BK259.out 0
           have hfz45_1 := blk_frozen BK259.out 1
           have p264 : 0 ≤ (x43_3 : Int) := of_decide_eq_true (by first | (with_reducible assumption) | assumption)
           have q264 : x43_3 < (l0_1.length : Int) := of_decide_eq_true (by first | (with_reducible assumption) | assumption)
           obtain ⟨ad264, A264_0, c264_0, e264, hx264_0, hl264_0, hi264_0⟩ := at_L1 HR0_1.out x43_3 p264 q264
           cases e264
           replace hx264_0 := (HB.out.cell (World.block_lt_of_cell? w _ hx264_0)).trans hx264_0
           have HR264_0 := ak hi264_0
           have HC264_0 := ak hl264_0
           clear hi264_0 hl264_0
           replace p264 := eq_true p264
           replace q264 := eq_true q264
           have hcz46_0 : wr.cell? ⟨gb260, 0, none⟩ = some (.int .i64 (l0_0.length : Int)) := (blk_cell BK260.out 0).trans rfl
           have hfz46_0 := blk_frozen BK260.out 0
           have p265 : 0 ≤ ((ji36) : Int) := of_decide_eq_true (by first | (with_reducible assumption) | assumption)
           have q265 : (ji36) < ((rd_L1 l0_1 x43_3).length : Int) := of_decide_eq_true (by first | (with_reducible assumption) | assumption)
           obtain ⟨ad265, e265, hx265_0⟩ := Kd.at_int HR264_0.out (ji36) p265 q265
           cases e265
           replace hx265_0 := (HB.out.cell (World.block_lt_of_cell? w _ hx265_0)).trans hx265_0
           replace p265 := eq_true p265
           replace q265 := eq_true q265
           as_aux_lemma =>
            go_wp2
            repeat ((refine wp_region_quiet_lit ?_ ?_ ?_; kernel_rfl; kernel_rfl; (repeat (first | go_big_quiet_step (fail) | (refine wpQuiet_step (fun K hK => ?_); go_simp; refine hK _ ?_; clear hK K))); refine wpQuiet_nil ?_; intro _ hw'; obtain ⟨nq, hw''⟩ := hw'; subst hw''); try go_wp2)
            go_meet
            case rel => exact ⟨_, (true), (by first | rfl | (simp; done) | (simp [*]; done)), H', ⟨by have := HJ1.out; have := HK2.out; have := HK3.out; first | omega | exact Nat.le_refl _⟩, ⟨by (with_reducible repeat (first | refine blk_drewN ?_ _ | refine blk_drew ?_ | refine blk_alloc ?_ _)); exact BK259.out⟩, ⟨by (with_reducible repeat (first | refine blk_drewN ?_ _ | refine blk_drew ?_ | refine blk_alloc ?_ _)); exact BK260.out⟩, ⟨by repeat (first | (with_reducible first | exact HB.out | apply below_alloc | apply pw_below_drewN | apply below_drew1 | refine below_set ?_ GE259.out | refine below_set ?_ GE260.out) | exact HB.out)⟩⟩
          rw [if_pos c39] at H
          have c39b0 : ((rd (rd_L1 l0_1 x43_3) (ji36)) == x43_3) = true := beq_iff_eq.mpr c39
          have c39b1 : ((rd (rd_L1 l0_1 x43_3) (ji36)) != x43_3) = false := bne_eq_false_iff_eq.mpr c39
          clear c39
          replace H := oi H
          obtain ⟨c40, H⟩ := H
          have c40b0 : decide (0 < ((rd_L1 l0_1 x43_3).length : Int)) = true := decide_eq_true c40
          have c40b1 : decide (0 < (rd_L1 l0_1 x43_3).length) = true := decide_eq_true (by omega)
          clear c40
          have H' := ak H
          clear H
          have hnb41 := NB259_260.out
          have hnc41 := NB260_259.out
          have hcz42_0 : wr.cell? ⟨gb259, 0, none⟩ = some (.slice A0_0 l0_0.length c0_0) := (blk_cell BK259.out 0).trans rfl
          have hcz42_1 : wr.cell? ⟨gb259, 1, none⟩ = some (.slice A0_1 l0_1.length c0_1) := (blk_cell BK259.out 1).trans rfl
          have hfz42_0 := blk_frozen BK259.out 0
          have hfz42_1 := blk_frozen BK259.out 1
          have p264 : 0 ≤ (x43_3 : Int) := of_decide_eq_true (by first | (with_reducible assumption) | assumption)
          have q264 : x43_3 < (l0_1.length : Int) := of_decide_eq_true (by first | (with_reducible assumption) | assumption)
          obtain ⟨ad264, A264_0, c264_0, e264, hx264_0, hl264_0, hi264_0⟩ := at_L1 HR0_1.out x43_3 p264 q264
          cases e264
          replace hx264_0 := (HB.out.cell (World.block_lt_of_cell? w _ hx264_0)).trans hx264_0
          have HR264_0 := ak hi264_0
          have HC264_0 := ak hl264_0
          clear hi264_0 hl264_0
          replace p264 := eq_true p264
          replace q264 := eq_true q264
          have hcz43_0 : wr.cell? ⟨gb260, 0, none⟩ = some (.int .i64 (l0_0.length : Int)) := (blk_cell BK260.out 0).trans rfl
          have hfz43_0 := blk_frozen BK260.out 0
          have p265 : 0 ≤ ((ji36) : Int) := of_decide_eq_true (by first | (with_reducible assumption) | assumption)
          have q265 : (ji36) < ((rd_L1 l0_1 x43_3).length : Int) := of_decide_eq_true (by first | (with_reducible assumption) | assumption)
          obtain ⟨ad265, e265, hx265_0⟩ := Kd.at_int HR264_0.out (ji36) p265 q265
          cases e265
          replace hx265_0 := (HB.out.cell (World.block_lt_of_cell? w _ hx265_0)).trans hx265_0
          replace p265 := eq_true p265
          replace q265 := eq_true q265
          have p266 : 0 ≤ (x43_3 : Int) := of_decide_eq_true (by first | (with_reducible assumption) | assumption)
          have q266 : x43_3 < (l0_1.length : Int) := of_decide_eq_true (by first | (with_reducible assumption) | assumption)
          obtain ⟨ad266, A266_0, c266_0, e266, hx266_0, hl266_0, hi266_0⟩ := at_L1 HR0_1.out x43_3 p266 q266
          obtain rfl : ad264 = ad266 := (by injection e266)
          replace hx266_0 := (HB.out.cell (World.block_lt_of_cell? w _ hx266_0)).trans hx266_0
          have HR266_0 := ak hi266_0
          have HC266_0 := ak hl266_0
          clear hi266_0 hl266_0
          replace p266 := eq_true p266
          replace q266 := eq_true q266
          have ea_ := Option.some.inj (hx264_0.symm.trans hx266_0)
          injection ea_ with ea_ en_ ec_
          subst ea_
          subst ec_
          clear en_
          have p267 : 0 ≤ (0 : Int) := (by omega)
          have q267 : 0 < ((rd_L1 l0_1 x43_3).length : Int) := of_decide_eq_true (by first | (with_reducible assumption) | assumption)
          obtain ⟨ad267, e267, hx267_0⟩ := Kd.at_int HR266_0.out 0 p267 q267
          cases e267
          have qi267 : (0 < (rd_L1 l0_1 x43_3).length) = True := eq_true (by omega)
          (try rw [show ((0 : Int)).toNat = 0 from rfl] at hx267_0)
          (try rw [Addr.add_zero'] at hx267_0)
          replace hx267_0 := (HB.out.cell (World.block_lt_of_cell? w _ hx267_0)).trans hx267_0
          replace p267 := eq_true p267
          replace q267 := eq_true q267
          as_aux_lemma =>
           go_wp2
           repeat ((refine wp_region_quiet_lit ?_ ?_ ?_; kernel_rfl; kernel_rfl; (repeat (first | go_big_quiet_step (fail) | (refine wpQuiet_step (fun K hK => ?_); go_simp; refine hK _ ?_; clear hK K))); refine wpQuiet_nil ?_; intro _ hw'; obtain ⟨nq, hw''⟩ := hw'; subst hw''); try go_wp2)
           go_meet
           case rel => exact ⟨_, (((rd (rd_L1 l0_1 x43_3) 0) != 0)), (by first | rfl | (simp; done) | (simp [*]; done)), H', ⟨by have := HJ1.out; have := HK2.out; have := HK3.out; first | omega | exact Nat.le_refl _⟩, ⟨by (with_reducible repeat (first | refine blk_drewN ?_ _ | refine blk_drew ?_ | refine blk_alloc ?_ _)); exact BK259.out⟩, ⟨by (with_reducible repeat (first | refine blk_drewN ?_ _ | refine blk_drew ?_ | refine blk_alloc ?_ _)); exact BK260.out⟩, ⟨by repeat (first | (with_reducible first | exact HB.out | apply below_alloc | apply pw_below_drewN | apply below_drew1 | refine below_set ?_ GE259.out | refine below_set ?_ GE260.out) | exact HB.out)⟩⟩
         case rest =>
          clear HC33
          try clear c1
          try clear c2
          try clear p2
          try clear q2
          try clear hx2
          try clear qi2
          try clear c3
          try clear c4
          try clear c6
          try clear p6
          try clear c9
          try clear c10
          try clear c13
          try clear c15
          try clear c16
          try clear c18
          try clear c18b0
          try clear c19
          try clear c19b0
          try clear c20
          try clear c20b0
          try clear c21
          try clear c21b0
          try clear c21b1
          try clear c21b2
          try clear c23
          try clear c24
          try clear c26
          try clear p26
          try clear q26
          try clear hx26
          try clear qi26
          try clear c28
          try clear c30
          try clear c32
          try clear c32b0
          try clear c33
          try clear c34
          try clear c34b0
          try clear c35
          try clear c35b0
          try clear c37
          try clear c37b0
          try clear c38
          try clear c38b0
          try clear c39
          try clear c39b0
          try clear c39b1
          try clear c40
          try clear c40b0
          try clear c40b1
          try clear c41
          try clear c44
          try clear hcz11_0
          try clear hcz11_1
          try clear hcz12_0
          try clear hcz14_0
          try clear hcz14_1
          try clear hcz17_0
          try clear hcz17_1
          try clear hcz25_0
          try clear hcz27_0
          try clear hcz29_0
          try clear hcz31_0
          try clear hcz31_1
          try clear hcz42_0
          try clear hcz42_1
          try clear hcz43_0
          try clear hcz45_0
          try clear hcz45_1
          try clear hcz46_0
          try clear hcz4_0
          try clear hcz4_1
          try clear hcz7_0
          try clear hfz11_0
          try clear hfz11_1
          try clear hfz12_0
          try clear hfz14_0
          try clear hfz14_1
          try clear hfz17_0
          try clear hfz17_1
          try clear hfz25_0
          try clear hfz27_0
          try clear hfz29_0
          try clear hfz31_0
          try clear hfz31_1
          try clear hfz42_0
          try clear hfz42_1
          try clear hfz43_0
          try clear hfz45_0
          try clear hfz45_1
          try clear hfz46_0
          try clear hfz4_0
          try clear hfz4_1
          try clear hfz7_0
          try clear hx262_0
          try clear hx264_0
          try clear hx265_0
          try clear hx266_0
          try clear hx267_0
          try clear p2
          try clear p26
          try clear p262
          try clear p264
          try clear p265
          try clear p266
          try clear p267
          try clear p6
          try clear q2
          try clear q26
          try clear q262
          try clear q264
          try clear q265
          try clear q266
          try clear q267
          obtain ⟨kq, x66_32, rfl, HA, HJ32, BK259, BK260, HB⟩ := hcut
          cases kq with
          | zero => exact absurd HA.out (by simp [impl_ValidAlgebra.j3])
          | succ kj32 =>
           have H := HA.out
           clear HA
           simp only [impl_ValidAlgebra.j3] at H
           by_cases c47 : x66_32 = true
           ·subst c47
            rw [if_pos rfl] at H
            obtain rfl := Option.some.inj H
            as_aux_lemma =>
             go_wp2
             repeat ((refine wp_region_quiet_lit ?_ ?_ ?_; kernel_rfl; kernel_rfl; (repeat (first | go_big_quiet_step (fail) | (refine wpQuiet_step (fun K hK => ?_); go_simp; refine hK _ ?_; clear hK K))); refine wpQuiet_nil ?_; intro _ hw'; obtain ⟨nq, hw''⟩ := hw'; subst hw''); try go_wp2)
             go_ret
             exact ⟨by first | rfl | (simp [errW_none, errW_some] <;> rfl) | (simp [*, errW_none, errW_some] <;> rfl), by repeat (first | (with_reducible first | exact HB.out | apply below_alloc | apply pw_below_drewN | apply below_drew1 | refine below_set ?_ GE259.out | refine below_set ?_ GE260.out) | exact HB.out)⟩
           replace c47 := Bool.eq_false_iff.mpr c47
           subst c47
           rw [if_neg (show ¬ (false = true) by decide)] at H
           have H' := ak H
           clear H
           have hnb48 := NB259_260.out
           have hnc48 := NB260_259.out
           have hcz49_0 : wc.cell? ⟨gb259, 0, none⟩ = some (.slice A0_0 l0_0.length c0_0) := (blk_cell BK259.out 0).trans rfl
           have hcz49_1 : wc.cell? ⟨gb259, 1, none⟩ = some (.slice A0_1 l0_1.length c0_1) := (blk_cell BK259.out 1).trans rfl
           have hfz49_0 := blk_frozen BK259.out 0
           have hfz49_1 := blk_frozen BK259.out 1
           as_aux_lemma =>
            go_wp2
            repeat ((refine wp_region_quiet_lit ?_ ?_ ?_; kernel_rfl; kernel_rfl; (repeat (first | go_big_quiet_step (fail) | (refine wpQuiet_step (fun K hK => ?_); go_simp; refine hK _ ?_; clear hK K))); refine wpQuiet_nil ?_; intro _ hw'; obtain ⟨nq, hw''⟩ := hw'; subst hw''); try go_wp2)
            go_loopg [70] kj32 (fun kq v70 w' => ∃ (x70_5 : Int), v70 = .int .i64 x70_5 ∧ Aside0 (impl_ValidAlgebra.l2 kq x43_3 (l0_0.length : Int) x43_3 (l0_0.length : Int) x70_5 l0_0 l0_1 (l0_0.length : Int) = some r) ∧ Aside0 (kq ≤ kj32) ∧ Aside0 (w'.heap[gb259]? = some (.cells #[(.slice A0_0 l0_0.length c0_0), (.slice A0_1 l0_1.length c0_1)] 25 (0, 0))) ∧ Aside0 (w'.heap[gb260]? = some (.cells #[.int .i64 (l0_0.length : Int)] 3 (0, 0))) ∧ Aside0 (Below w.heap.size w w'))
            case atStart => exact ⟨(0), (by first | rfl | (simp; done) | (simp [*]; done)), H', ⟨Nat.le_refl _⟩, ⟨by (with_reducible repeat (first | refine blk_drewN ?_ _ | refine blk_drew ?_ | refine blk_alloc ?_ _)); exact BK259.out⟩, ⟨by (with_reducible repeat (first | refine blk_drewN ?_ _ | refine blk_drew ?_ | refine blk_alloc ?_ _)); exact BK260.out⟩, ⟨by repeat (first | (with_reducible first | exact HB.out | apply below_alloc | apply pw_below_drewN | apply below_drew1 | refine below_set ?_ GE259.out | refine below_set ?_ GE260.out) | exact HB.out)⟩⟩
            case round =>
             clear H'
             try clear c1
             try clear c2
             try clear p2
             try clear q2
             try clear hx2
             try clear qi2
             try clear c3
             try clear c4
             try clear c6
             try clear p6
             try clear c9
             try clear c10
             try clear c13
             try clear c15
             try clear c16
             try clear c18
             try clear c18b0
             try clear c19
             try clear c19b0
             try clear c20
             try clear c20b0
             try clear c21
             try clear c21b0
             try clear c21b1
             try clear c21b2
             try clear c23
             try clear c24
             try clear c26
             try clear p26
             try clear q26
             try clear hx26
             try clear qi26
             try clear c28
             try clear c30
             try clear c32
             try clear c32b0
             try clear c33
             try clear c34
             try clear c34b0
             try clear c35
             try clear c35b0
             try clear c37
             try clear c37b0
             try clear c38
             try clear c38b0
             try clear c39
             try clear c39b0
             try clear c39b1
             try clear c40
             try clear c40b0
             try clear c40b1
             try clear c41
             try clear c44
             try clear c47
             try clear c48
             try clear hcz11_0
             try clear hcz11_1
             try clear hcz12_0
             try clear hcz14_0
             try clear hcz14_1
             try clear hcz17_0
             try clear hcz17_1
             try clear hcz25_0
             try clear hcz27_0
             try clear hcz29_0
             try clear hcz31_0
             try clear hcz31_1
             try clear hcz42_0
             try clear hcz42_1
             try clear hcz43_0
             try clear hcz45_0
             try clear hcz45_1
             try clear hcz46_0
             try clear hcz49_0
             try clear hcz49_1
             try clear hcz4_0
             try clear hcz4_1
             try clear hcz7_0
             try clear hfz11_0
             try clear hfz11_1
             try clear hfz12_0
             try clear hfz14_0
             try clear hfz14_1
             try clear hfz17_0
             try clear hfz17_1
             try clear hfz25_0
             try clear hfz27_0
             try clear hfz29_0
             try clear hfz31_0
             try clear hfz31_1
             try clear hfz42_0
             try clear hfz42_1
             try clear hfz43_0
             try clear hfz45_0
             try clear hfz45_1
             try clear hfz46_0
             try clear hfz49_0
             try clear hfz49_1
             try clear hfz4_0
             try clear hfz4_1
             try clear hfz7_0
             try clear hx262_0
             try clear hx264_0
             try clear hx265_0
             try clear hx266_0
             try clear hx267_0
             try clear p2
             try clear p26
             try clear p262
             try clear p264
             try clear p265
             try clear p266
             try clear p267
             try clear p6
             try clear q2
             try clear q26
             try clear q262
             try clear q264
             try clear q265
             try clear q266
             try clear q267
             obtain ⟨x70_5, rfl, HA, HK5, BK259, BK260, HB⟩ := hrel
             cases gk with
             | zero => exact absurd HA.out (by simp [impl_ValidAlgebra.l2])
             | succ k5 =>
              have H := HA.out
              clear HA
              simp only [impl_ValidAlgebra.l2] at H
              by_cases c50 : x70_5 < (l0_0.length : Int)
              rotate_left
              ·rw [if_neg c50] at H
               have c50b0 : decide (x70_5 < (l0_0.length : Int)) = false := decide_eq_false c50
               clear c50
               have H' := ak H
               clear H
               as_aux_lemma =>
                go_wp2
                repeat ((refine wp_region_quiet_lit ?_ ?_ ?_; kernel_rfl; kernel_rfl; (repeat (first | go_big_quiet_step (fail) | (refine wpQuiet_step (fun K hK => ?_); go_simp; refine hK _ ?_; clear hK K))); refine wpQuiet_nil ?_; intro _ hw'; obtain ⟨nq, hw''⟩ := hw'; subst hw''); try go_wp2)
                go_roundg k5
                case measure => have := HJ1.out; have := HK2.out; have := HK3.out; have := HJ32.out; have := HK5.out; omega
                case rel => exact ⟨(wrap64 (x43_3 + 1)), (by first | rfl | (simp; done) | (simp [*]; done)), H', ⟨by have := HJ1.out; have := HK2.out; have := HK3.out; have := HJ32.out; have := HK5.out; omega⟩, ⟨by (with_reducible repeat (first | refine blk_drewN ?_ _ | refine blk_drew ?_ | refine blk_alloc ?_ _)); exact BK259.out⟩, ⟨by (with_reducible repeat (first | refine blk_drewN ?_ _ | refine blk_drew ?_ | refine blk_alloc ?_ _)); exact BK260.out⟩, ⟨by repeat (first | (with_reducible first | exact HB.out | apply below_alloc | apply pw_below_drewN | apply below_drew1 | refine below_set ?_ GE259.out | refine below_set ?_ GE260.out) | exact HB.out)⟩⟩
              rw [if_pos c50] at H
              have c50b0 : decide (x70_5 < (l0_0.length : Int)) = true := decide_eq_true c50
              clear c50
              replace H := oi H
              obtain ⟨c51, H⟩ := H
              have c51b0 : decide (0 ≤ x43_3) = true := decide_eq_true c51
              clear c51
              replace H := oi H
              obtain ⟨c52, H⟩ := H
              have c52b0 : decide (x43_3 < (l0_1.length : Int)) = true := decide_eq_true c52
              clear c52
              replace H := oi H
              obtain ⟨c53, H⟩ := H
              have c53b0 : decide (0 ≤ x70_5) = true := decide_eq_true c53
              clear c53
              replace H := oi H
              obtain ⟨c54, H⟩ := H
              have c54b0 : decide (x70_5 < ((rd_L1 l0_1 x43_3).length : Int)) = true := decide_eq_true c54
              clear c54
              replace H := oi H
              obtain ⟨c55, H⟩ := H
              have c55b0 : decide (x70_5 < (l0_1.length : Int)) = true := decide_eq_true c55
              clear c55
              replace H := oi H
              obtain ⟨c56, H⟩ := H
              have c56b0 : decide (x43_3 < ((rd_L1 l0_1 x70_5).length : Int)) = true := decide_eq_true c56
              clear c56
              by_cases c57 : (rd (rd_L1 l0_1 x43_3) x70_5) = (rd (rd_L1 l0_1 x70_5) x43_3)
              rotate_left
              ·rw [if_neg c57] at H
               have c57b0 : ((rd (rd_L1 l0_1 x43_3) x70_5) == (rd (rd_L1 l0_1 x70_5) x43_3)) = false := beq_eq_false_iff_ne.mpr c57
               have c57b1 : ((rd (rd_L1 l0_1 x43_3) x70_5) != (rd (rd_L1 l0_1 x70_5) x43_3)) = true := bne_iff_ne.mpr c57
               obtain rfl := Option.some.inj H
               have hnb86 := NB259_260.out
               have hnc86 := NB260_259.out
               have hcz87_0 : wr.cell? ⟨gb259, 0, none⟩ = some (.slice A0_0 l0_0.length c0_0) := (blk_cell BK259.out 0).trans rfl
               have hcz87_1 : wr.cell? ⟨gb259, 1, none⟩ = some (.slice A0_1 l0_1.length c0_1) := (blk_cell BK259.out 1).trans rfl
               have hfz87_0 := blk_frozen BK259.out 0
               have hfz87_1 := blk_frozen BK259.out 1
               have p268 : 0 ≤ (x43_3 : Int) := of_decide_eq_true (by first | (with_reducible assumption) | assumption)
               have q268 : x43_3 < (l0_1.length : Int) := of_decide_eq_true (by first | (with_reducible assumption) | assumption)
               obtain ⟨ad268, A268_0, c268_0, e268, hx268_0, hl268_0, hi268_0⟩ := at_L1 HR0_1.out x43_3 p268 q268
               cases e268
               replace hx268_0 := (HB.out.cell (World.block_lt_of_cell? w _ hx268_0)).trans hx268_0
               have HR268_0 := ak hi268_0
               have HC268_0 := ak hl268_0
               clear hi268_0 hl268_0
               replace p268 := eq_true p268
               replace q268 := eq_true q268
               have p269 : 0 ≤ (x70_5 : Int) := of_decide_eq_true (by first | (with_reducible assumption) | assumption)
               have q269 : x70_5 < ((rd_L1 l0_1 x43_3).length : Int) := of_decide_eq_true (by first | (with_reducible assumption) | assumption)
               obtain ⟨ad269, e269, hx269_0⟩ := Kd.at_int HR268_0.out x70_5 p269 q269
               cases e269
               replace hx269_0 := (HB.out.cell (World.block_lt_of_cell? w _ hx269_0)).trans hx269_0
               replace p269 := eq_true p269
               replace q269 := eq_true q269
               have p270 : 0 ≤ (x70_5 : Int) := of_decide_eq_true (by first | (with_reducible assumption) | assumption)
               have q270 : x70_5 < (l0_1.length : Int) := of_decide_eq_true (by first | (with_reducible assumption) | assumption)
               obtain ⟨ad270, A270_0, c270_0, e270, hx270_0, hl270_0, hi270_0⟩ := at_L1 HR0_1.out x70_5 p270 q270
               obtain rfl : ad268 = ad270 := (by injection e270)
               replace hx270_0 := (HB.out.cell (World.block_lt_of_cell? w _ hx270_0)).trans hx270_0
               have HR270_0 := ak hi270_0
               have HC270_0 := ak hl270_0
               clear hi270_0 hl270_0
               replace p270 := eq_true p270
               replace q270 := eq_true q270
               have p271 : 0 ≤ (x43_3 : Int) := of_decide_eq_true (by first | (with_reducible assumption) | assumption)
               have q271 : x43_3 < ((rd_L1 l0_1 x70_5).length : Int) := of_decide_eq_true (by first | (with_reducible assumption) | assumption)
               obtain ⟨ad271, e271, hx271_0⟩ := Kd.at_int HR270_0.out x43_3 p271 q271
               cases e271
               replace hx271_0 := (HB.out.cell (World.block_lt_of_cell? w _ hx271_0)).trans hx271_0
               replace p271 := eq_true p271
               replace q271 := eq_true q271
               as_aux_lemma =>
                go_wp2
                repeat ((refine wp_region_quiet_lit ?_ ?_ ?_; kernel_rfl; kernel_rfl; (repeat (first | go_big_quiet_step (fail) | (refine wpQuiet_step (fun K hK => ?_); go_simp; refine hK _ ?_; clear hK K))); refine wpQuiet_nil ?_; intro _ hw'; obtain ⟨nq, hw''⟩ := hw'; subst hw''); try go_wp2)
                go_ret
                exact ⟨by first | rfl | (simp [errW_none, errW_some] <;> rfl) | (simp [*, errW_none, errW_some] <;> rfl), by repeat (first | (with_reducible first | exact HB.out | apply below_alloc | apply pw_below_drewN | apply below_drew1 | refine below_set ?_ GE259.out | refine below_set ?_ GE260.out) | exact HB.out)⟩
              rw [if_pos c57] at H
              have c57b0 : ((rd (rd_L1 l0_1 x43_3) x70_5) == (rd (rd_L1 l0_1 x70_5) x43_3)) = true := beq_iff_eq.mpr c57
              have c57b1 : ((rd (rd_L1 l0_1 x43_3) x70_5) != (rd (rd_L1 l0_1 x70_5) x43_3)) = false := bne_eq_false_iff_eq.mpr c57
              clear c57
              have H' := ak H
              clear H
              have hnb58 := NB259_260.out
              have hnc58 := NB260_259.out
              have hcz59_0 : wr.cell? ⟨gb259, 0, none⟩ = some (.slice A0_0 l0_0.length c0_0) := (blk_cell BK259.out 0).trans rfl
              have hcz59_1 : wr.cell? ⟨gb259, 1, none⟩ = some (.slice A0_1 l0_1.length c0_1) := (blk_cell BK259.out 1).trans rfl
              have hfz59_0 := blk_frozen BK259.out 0
              have hfz59_1 := blk_frozen BK259.out 1
              have p268 : 0 ≤ (x43_3 : Int) := of_decide_eq_true (by first | (with_reducible assumption) | assumption)
              have q268 : x43_3 < (l0_1.length : Int) := of_decide_eq_true (by first | (with_reducible assumption) | assumption)
              obtain ⟨ad268, A268_0, c268_0, e268, hx268_0, hl268_0, hi268_0⟩ := at_L1 HR0_1.out x43_3 p268 q268
              cases e268
              replace hx268_0 := (HB.out.cell (World.block_lt_of_cell? w _ hx268_0)).trans hx268_0
              have HR268_0 := ak hi268_0
              have HC268_0 := ak hl268_0
              clear hi268_0 hl268_0
              replace p268 := eq_true p268
              replace q268 := eq_true q268
              have p269 : 0 ≤ (x70_5 : Int) := of_decide_eq_true (by first | (with_reducible assumption) | assumption)
              have q269 : x70_5 < ((rd_L1 l0_1 x43_3).length : Int) := of_decide_eq_true (by first | (with_reducible assumption) | assumption)
              obtain ⟨ad269, e269, hx269_0⟩ := Kd.at_int HR268_0.out x70_5 p269 q269
              cases e269
              replace hx269_0 := (HB.out.cell (World.block_lt_of_cell? w _ hx269_0)).trans hx269_0
              replace p269 := eq_true p269
              replace q269 := eq_true q269
              have p270 : 0 ≤ (x70_5 : Int) := of_decide_eq_true (by first | (with_reducible assumption) | assumption)
              have q270 : x70_5 < (l0_1.length : Int) := of_decide_eq_true (by first | (with_reducible assumption) | assumption)
              obtain ⟨ad270, A270_0, c270_0, e270, hx270_0, hl270_0, hi270_0⟩ := at_L1 HR0_1.out x70_5 p270 q270
              obtain rfl : ad268 = ad270 := (by injection e270)
              replace hx270_0 := (HB.out.cell (World.block_lt_of_cell? w _ hx270_0)).trans hx270_0
              have HR270_0 := ak hi270_0
              have HC270_0 := ak hl270_0
              clear hi270_0 hl270_0
              replace p270 := eq_true p270
              replace q270 := eq_true q270
              have p271 : 0 ≤ (x43_3 : Int) := of_decide_eq_true (by first | (with_reducible assumption) | assumption)
              have q271 : x43_3 < ((rd_L1 l0_1 x70_5).length : Int) := of_decide_eq_true (by first | (with_reducible assumption) | assumption)
              obtain ⟨ad271, e271, hx271_0⟩ := Kd.at_int HR270_0.out x43_3 p271 q271
              cases e271
              replace hx271_0 := (HB.out.cell (World.block_lt_of_cell? w _ hx271_0)).trans hx271_0
              replace p271 := eq_true p271
              replace q271 := eq_true q271
              as_aux_lemma =>
               go_wp2
               repeat ((refine wp_region_quiet_lit ?_ ?_ ?_; kernel_rfl; kernel_rfl; (repeat (first | go_big_quiet_step (fail) | (refine wpQuiet_step (fun K hK => ?_); go_simp; refine hK _ ?_; clear hK K))); refine wpQuiet_nil ?_; intro _ hw'; obtain ⟨nq, hw''⟩ := hw'; subst hw''); try go_wp2)
               go_loopg [93] k5 (fun kq v93 w' => ∃ (x93_6 : Int), v93 = .int .i64 x93_6 ∧ Aside0 (impl_ValidAlgebra.l3 kq x43_3 x70_5 (l0_0.length : Int) x43_3 (l0_0.length : Int) x70_5 (l0_0.length : Int) x93_6 l0_0 l0_1 (l0_0.length : Int) = some r) ∧ Aside0 (kq ≤ k5) ∧ Aside0 (w'.heap[gb259]? = some (.cells #[(.slice A0_0 l0_0.length c0_0), (.slice (some ad268) l0_1.length c0_1)] 25 (0, 0))) ∧ Aside0 (w'.heap[gb260]? = some (.cells #[.int .i64 (l0_0.length : Int)] 3 (0, 0))) ∧ Aside0 (Below w.heap.size w w'))
               case atStart => exact ⟨(0), (by first | rfl | (simp; done) | (simp [*]; done)), H', ⟨Nat.le_refl _⟩, ⟨by (with_reducible repeat (first | refine blk_drewN ?_ _ | refine blk_drew ?_ | refine blk_alloc ?_ _)); exact BK259.out⟩, ⟨by (with_reducible repeat (first | refine blk_drewN ?_ _ | refine blk_drew ?_ | refine blk_alloc ?_ _)); exact BK260.out⟩, ⟨by repeat (first | (with_reducible first | exact HB.out | apply below_alloc | apply pw_below_drewN | apply below_drew1 | refine below_set ?_ GE259.out | refine below_set ?_ GE260.out) | exact HB.out)⟩⟩
               case round =>
                clear H'
                try clear c1
                try clear c2
                try clear p2
                try clear q2
                try clear hx2
                try clear qi2
                try clear c3
                try clear c4
                try clear c5
                try clear c6
                try clear p6
                try clear c9
                try clear c10
                try clear c13
                try clear c15
                try clear c16
                try clear c18
                try clear c18b0
                try clear c19
                try clear c19b0
                try clear c20
                try clear c20b0
                try clear c21
                try clear c21b0
                try clear c21b1
                try clear c21b2
                try clear c23
                try clear c24
                try clear c26
                try clear p26
                try clear q26
                try clear hx26
                try clear qi26
                try clear c27
                try clear p27
                try clear q27
                try clear hx27
                try clear c28
                try clear c30
                try clear c32
                try clear c32b0
                try clear c33
                try clear c34
                try clear c34b0
                try clear c35
                try clear c35b0
                try clear c37
                try clear c37b0
                try clear c38
                try clear c38b0
                try clear c39
                try clear c39b0
                try clear c39b1
                try clear c40
                try clear c40b0
                try clear c40b1
                try clear c41
                try clear c44
                try clear c47
                try clear c48
                try clear c50
                try clear c50b0
                try clear c51
                try clear c51b0
                try clear c52
                try clear c52b0
                try clear c53
                try clear c53b0
                try clear c54
                try clear c54b0
                try clear c55
                try clear c55b0
                try clear c56
                try clear c56b0
                try clear c57
                try clear c57b0
                try clear c57b1
                try clear c58
                try clear hcz11_0
                try clear hcz11_1
                try clear hcz12_0
                try clear hcz14_0
                try clear hcz14_1
                try clear hcz17_0
                try clear hcz17_1
                try clear hcz25_0
                try clear hcz27_0
                try clear hcz29_0
                try clear hcz31_0
                try clear hcz31_1
                try clear hcz42_0
                try clear hcz42_1
                try clear hcz43_0
                try clear hcz45_0
                try clear hcz45_1
                try clear hcz46_0
                try clear hcz49_0
                try clear hcz49_1
                try clear hcz4_0
                try clear hcz4_1
                try clear hcz59_0
                try clear hcz59_1
                try clear hcz7_0
                try clear hfz11_0
                try clear hfz11_1
                try clear hfz12_0
                try clear hfz14_0
                try clear hfz14_1
                try clear hfz17_0
                try clear hfz17_1
                try clear hfz25_0
                try clear hfz27_0
                try clear hfz29_0
                try clear hfz31_0
                try clear hfz31_1
                try clear hfz42_0
                try clear hfz42_1
                try clear hfz43_0
                try clear hfz45_0
                try clear hfz45_1
                try clear hfz46_0
                try clear hfz49_0
                try clear hfz49_1
                try clear hfz4_0
                try clear hfz4_1
                try clear hfz59_0
                try clear hfz59_1
                try clear hfz7_0
                try clear hx262_0
                try clear hx264_0
                try clear hx265_0
                try clear hx266_0
                try clear hx267_0
                try clear hx268_0
                try clear hx269_0
                try clear hx270_0
                try clear hx271_0
                try clear p2
                try clear p26
                try clear p262
                try clear p264
                try clear p265
                try clear p266
                try clear p267
                try clear p268
                try clear p269
                try clear p270
                try clear p271
                try clear p6
                try clear q2
                try clear q26
                try clear q262
                try clear q264
                try clear q265
                try clear q266
                try clear q267
                try clear q268
                try clear q269
                try clear q270
                try clear q271
                obtain ⟨x93_6, rfl, HA, HK6, BK259, BK260, HB⟩ := hrel
                cases gk with
                | zero => exact absurd HA.out (by simp [impl_ValidAlgebra.l3])
                | succ k6 =>
                 have H := HA.out
                 clear HA
                 simp only [impl_ValidAlgebra.l3] at H
                 by_cases c60 : x93_6 < (l0_0.length : Int)
                 rotate_left
                 ·rw [if_neg c60] at H
                  have c60b0 : decide (x93_6 < (l0_0.length : Int)) = false := decide_eq_false c60
                  clear c60
                  have H' := ak H
                  clear H
                  as_aux_lemma =>
                   go_wp2
                   repeat ((refine wp_region_quiet_lit ?_ ?_ ?_; kernel_rfl; kernel_rfl; (repeat (first | go_big_quiet_step (fail) | (refine wpQuiet_step (fun K hK => ?_); go_simp; refine hK _ ?_; clear hK K))); refine wpQuiet_nil ?_; intro _ hw'; obtain ⟨nq, hw''⟩ := hw'; subst hw''); try go_wp2)
                   go_roundg k6
                   case measure => have := HJ1.out; have := HK2.out; have := HK3.out; have := HJ32.out; have := HK5.out; have := HK6.out; omega
                   case rel => exact ⟨(wrap64 (x70_5 + 1)), (by first | rfl | (simp; done) | (simp [*]; done)), H', ⟨by have := HJ1.out; have := HK2.out; have := HK3.out; have := HJ32.out; have := HK5.out; have := HK6.out; omega⟩, ⟨by (with_reducible repeat (first | refine blk_drewN ?_ _ | refine blk_drew ?_ | refine blk_alloc ?_ _)); exact BK259.out⟩, ⟨by (with_reducible repeat (first | refine blk_drewN ?_ _ | refine blk_drew ?_ | refine blk_alloc ?_ _)); exact BK260.out⟩, ⟨by repeat (first | (with_reducible first | exact HB.out | apply below_alloc | apply pw_below_drewN | apply below_drew1 | refine below_set ?_ GE259.out | refine below_set ?_ GE260.out) | exact HB.out)⟩⟩
                 rw [if_pos c60] at H
                 have c60b0 : decide (x93_6 < (l0_0.length : Int)) = true := decide_eq_true c60
                 clear c60
                 replace H := oi H
                 obtain ⟨c61, H⟩ := H
                 have c61b0 : decide (0 ≤ x43_3) = true := decide_eq_true c61
                 clear c61
                 replace H := oi H
                 obtain ⟨c62, H⟩ := H
                 have c62b0 : decide (x43_3 < (l0_1.length : Int)) = true := decide_eq_true c62
                 clear c62
                 replace H := oi H
                 obtain ⟨c63, H⟩ := H
                 have c63b0 : decide (0 ≤ x70_5) = true := decide_eq_true c63
                 clear c63
                 replace H := oi H
                 obtain ⟨c64, H⟩ := H
                 have c64b0 : decide (x70_5 < ((rd_L1 l0_1 x43_3).length : Int)) = true := decide_eq_true c64
                 clear c64
                 replace H := oi H
                 obtain ⟨c65, H⟩ := H
                 have c65b0 : decide (0 ≤ (rd (rd_L1 l0_1 x43_3) x70_5)) = true := decide_eq_true c65
                 clear c65
                 replace H := oi H
                 obtain ⟨c66, H⟩ := H
                 have c66b0 : decide ((rd (rd_L1 l0_1 x43_3) x70_5) < (l0_1.length : Int)) = true := decide_eq_true c66
                 clear c66
                 replace H := oi H
                 obtain ⟨c67, H⟩ := H
                 have c67b0 : decide (0 ≤ x93_6) = true := decide_eq_true c67
                 clear c67
                 replace H := oi H
                 obtain ⟨c68, H⟩ := H
                 have c68b0 : decide (x93_6 < ((rd_L1 l0_1 (rd (rd_L1 l0_1 x43_3) x70_5)).length : Int)) = true := decide_eq_true c68
                 clear c68
                 replace H := oi H
                 obtain ⟨c69, H⟩ := H
                 have c69b0 : decide (x70_5 < (l0_1.length : Int)) = true := decide_eq_true c69
                 clear c69
                 replace H := oi H
                 obtain ⟨c70, H⟩ := H
                 have c70b0 : decide (x93_6 < ((rd_L1 l0_1 x70_5).length : Int)) = true := decide_eq_true c70
                 clear c70
                 replace H := oi H
                 obtain ⟨c71, H⟩ := H
                 have c71b0 : decide (0 ≤ (rd (rd_L1 l0_1 x70_5) x93_6)) = true := decide_eq_true c71
                 clear c71
                 replace H := oi H
                 obtain ⟨c72, H⟩ := H
                 have c72b0 : decide ((rd (rd_L1 l0_1 x70_5) x93_6) < ((rd_L1 l0_1 x43_3).length : Int)) = true := decide_eq_true c72
                 clear c72
                 by_cases c73 : (rd (rd_L1 l0_1 (rd (rd_L1 l0_1 x43_3) x70_5)) x93_6) = (rd (rd_L1 l0_1 x43_3) (rd (rd_L1 l0_1 x70_5) x93_6))
                 rotate_left
                 ·rw [if_neg c73] at H
                  have c73b0 : ((rd (rd_L1 l0_1 (rd (rd_L1 l0_1 x43_3) x70_5)) x93_6) == (rd (rd_L1 l0_1 x43_3) (rd (rd_L1 l0_1 x70_5) x93_6))) = false := beq_eq_false_iff_ne.mpr c73
                  have c73b1 : ((rd (rd_L1 l0_1 (rd (rd_L1 l0_1 x43_3) x70_5)) x93_6) != (rd (rd_L1 l0_1 x43_3) (rd (rd_L1 l0_1 x70_5) x93_6))) = true := bne_iff_ne.mpr c73
                  obtain rfl := Option.some.inj H
                  have hnb84 := NB259_260.out
                  have hnc84 := NB260_259.out
                  have hcz85_0 : wr.cell? ⟨gb259, 0, none⟩ = some (.slice A0_0 l0_0.length c0_0) := (blk_cell BK259.out 0).trans rfl
                  have hcz85_1 : wr.cell? ⟨gb259, 1, none⟩ = some (.slice (some ad268) l0_1.length c0_1) := (blk_cell BK259.out 1).trans rfl
                  have hfz85_0 := blk_frozen BK259.out 0
                  have hfz85_1 := blk_frozen BK259.out 1
                  have p272 : 0 ≤ (x43_3 : Int) := of_decide_eq_true (by first | (with_reducible assumption) | assumption)
                  have q272 : x43_3 < (l0_1.length : Int) := of_decide_eq_true (by first | (with_reducible assumption) | assumption)
                  obtain ⟨ad272, A272_0, c272_0, e272, hx272_0, hl272_0, hi272_0⟩ := at_L1 HR0_1.out x43_3 p272 q272
                  obtain rfl : ad268 = ad272 := (by injection e272)
                  replace hx272_0 := (HB.out.cell (World.block_lt_of_cell? w _ hx272_0)).trans hx272_0
                  have HR272_0 := ak hi272_0
                  have HC272_0 := ak hl272_0
                  clear hi272_0 hl272_0
                  replace p272 := eq_true p272
                  replace q272 := eq_true q272
                  have p273 : 0 ≤ (x70_5 : Int) := of_decide_eq_true (by first | (with_reducible assumption) | assumption)
                  have q273 : x70_5 < ((rd_L1 l0_1 x43_3).length : Int) := of_decide_eq_true (by first | (with_reducible assumption) | assumption)
                  obtain ⟨ad273, e273, hx273_0⟩ := Kd.at_int HR272_0.out x70_5 p273 q273
                  cases e273
                  replace hx273_0 := (HB.out.cell (World.block_lt_of_cell? w _ hx273_0)).trans hx273_0
                  replace p273 := eq_true p273
                  replace q273 := eq_true q273
                  have p274 : 0 ≤ ((rd (rd_L1 l0_1 x43_3) x70_5) : Int) := of_decide_eq_true (by first | (with_reducible assumption) | assumption)
                  have q274 : (rd (rd_L1 l0_1 x43_3) x70_5) < (l0_1.length : Int) := of_decide_eq_true (by first | (with_reducible assumption) | assumption)
                  obtain ⟨ad274, A274_0, c274_0, e274, hx274_0, hl274_0, hi274_0⟩ := at_L1 HR0_1.out (rd (rd_L1 l0_1 x43_3) x70_5) p274 q274
                  obtain rfl : ad268 = ad274 := (by injection e274)
                  replace hx274_0 := (HB.out.cell (World.block_lt_of_cell? w _ hx274_0)).trans hx274_0
                  have HR274_0 := ak hi274_0
                  have HC274_0 := ak hl274_0
                  clear hi274_0 hl274_0
                  replace p274 := eq_true p274
                  replace q274 := eq_true q274
                  have p275 : 0 ≤ (x93_6 : Int) := of_decide_eq_true (by first | (with_reducible assumption) | assumption)
                  have q275 : x93_6 < ((rd_L1 l0_1 (rd (rd_L1 l0_1 x43_3) x70_5)).length : Int) := of_decide_eq_true (by first | (with_reducible assumption) | assumption)
                  obtain ⟨ad275, e275, hx275_0⟩ := Kd.at_int HR274_0.out x93_6 p275 q275
                  cases e275
                  replace hx275_0 := (HB.out.cell (World.block_lt_of_cell? w _ hx275_0)).trans hx275_0
                  replace p275 := eq_true p275
                  replace q275 := eq_true q275
                  have p276 : 0 ≤ (x43_3 : Int) := of_decide_eq_true (by first | (with_reducible assumption) | assumption)
                  have q276 : x43_3 < (l0_1.length : Int) := of_decide_eq_true (by first | (with_reducible assumption) | assumption)
                  obtain ⟨ad276, A276_0, c276_0, e276, hx276_0, hl276_0, hi276_0⟩ := at_L1 HR0_1.out x43_3 p276 q276
                  obtain rfl : ad268 = ad276 := (by injection e276)
                  replace hx276_0 := (HB.out.cell (World.block_lt_of_cell? w _ hx276_0)).trans hx276_0
                  have HR276_0 := ak hi276_0
                  have HC276_0 := ak hl276_0
                  clear hi276_0 hl276_0
                  replace p276 := eq_true p276
                  replace q276 := eq_true q276
                  have ea_ := Option.some.inj (hx272_0.symm.trans hx276_0)
                  injection ea_ with ea_ en_ ec_
                  subst ea_
                  subst ec_
                  clear en_
                  have p277 : 0 ≤ (x70_5 : Int) := of_decide_eq_true (by first | (with_reducible assumption) | assumption)
                  have q277 : x70_5 < (l0_1.length : Int) := of_decide_eq_true (by first | (with_reducible assumption) | assumption)
                  obtain ⟨ad277, A277_0, c277_0, e277, hx277_0, hl277_0, hi277_0⟩ := at_L1 HR0_1.out x70_5 p277 q277
                  obtain rfl : ad268 = ad277 := (by injection e277)
                  replace hx277_0 := (HB.out.cell (World.block_lt_of_cell? w _ hx277_0)).trans hx277_0
                  have HR277_0 := ak hi277_0
                  have HC277_0 := ak hl277_0
                  clear hi277_0 hl277_0
                  replace p277 := eq_true p277
                  replace q277 := eq_true q277
                  have p278 : 0 ≤ (x93_6 : Int) := of_decide_eq_true (by first | (with_reducible assumption) | assumption)
                  have q278 : x93_6 < ((rd_L1 l0_1 x70_5).length : Int) := of_decide_eq_true (by first | (with_reducible assumption) | assumption)
                  obtain ⟨ad278, e278, hx278_0⟩ := Kd.at_int HR277_0.out x93_6 p278 q278
                  cases e278
                  replace hx278_0 := (HB.out.cell (World.block_lt_of_cell? w _ hx278_0)).trans hx278_0
                  replace p278 := eq_true p278
                  replace q278 := eq_true q278
                  have p279 : 0 ≤ ((rd (rd_L1 l0_1 x70_5) x93_6) : Int) := of_decide_eq_true (by first | (with_reducible assumption) | assumption)
                  have q279 : (rd (rd_L1 l0_1 x70_5) x93_6) < ((rd_L1 l0_1 x43_3).length : Int) := of_decide_eq_true (by first | (with_reducible assumption) | assumption)
                  obtain ⟨ad279, e279, hx279_0⟩ := Kd.at_int HR276_0.out (rd (rd_L1 l0_1 x70_5) x93_6) p279 q279
                  cases e279
                  replace hx279_0 := (HB.out.cell (World.block_lt_of_cell? w _ hx279_0)).trans hx279_0
                  replace p279 := eq_true p279
                  replace q279 := eq_true q279
                  as_aux_lemma =>
                   go_wp2
                   repeat ((refine wp_region_quiet_lit ?_ ?_ ?_; kernel_rfl; kernel_rfl; (repeat (first | go_big_quiet_step (fail) | (refine wpQuiet_step (fun K hK => ?_); go_simp; refine hK _ ?_; clear hK K))); refine wpQuiet_nil ?_; intro _ hw'; obtain ⟨nq, hw''⟩ := hw'; subst hw''); try go_wp2)
                   go_ret
                   exact ⟨by first | rfl | (simp [errW_none, errW_some] <;> rfl) | (simp [*, errW_none, errW_some] <;> rfl), by repeat (first | (with_reducible first | exact HB.out | apply below_alloc | apply pw_below_drewN | apply below_drew1 | refine below_set ?_ GE259.out | refine below_set ?_ GE260.out) | exact HB.out)⟩
                 rw [if_pos c73] at H
                 have c73b0 : ((rd (rd_L1 l0_1 (rd (rd_L1 l0_1 x43_3) x70_5)) x93_6) == (rd (rd_L1 l0_1 x43_3) (rd (rd_L1 l0_1 x70_5) x93_6))) = true := beq_iff_eq.mpr c73
                 have c73b1 : ((rd (rd_L1 l0_1 (rd (rd_L1 l0_1 x43_3) x70_5)) x93_6) != (rd (rd_L1 l0_1 x43_3) (rd (rd_L1 l0_1 x70_5) x93_6))) = false := bne_eq_false_iff_eq.mpr c73
                 clear c73
                 replace H := bi H
                 obtain ⟨t281, A740, H⟩ := H
                 try dsimp only at H
                 have A74 := ak A740
                 clear A740
                 replace H := oi H
                 obtain ⟨c75, H⟩ := H
                 have c75b0 : decide (0 ≤ t281) = true := decide_eq_true c75
                 clear c75
                 replace H := oi H
                 obtain ⟨c76, H⟩ := H
                 have c76b0 : decide (t281 < ((rd_L1 l0_1 x43_3).length : Int)) = true := decide_eq_true c76
                 clear c76
                 replace H := oi H
                 obtain ⟨c77, H⟩ := H
                 have c77b0 : decide (x93_6 < ((rd_L1 l0_1 x43_3).length : Int)) = true := decide_eq_true c77
                 clear c77
                 replace H := bi H
                 obtain ⟨t287, A780, H⟩ := H
                 try dsimp only at H
                 have A78 := ak A780
                 clear A780
                 by_cases c79 : (rd (rd_L1 l0_1 x43_3) t281) = t287
                 rotate_left
                 ·rw [if_neg c79] at H
                  have c79b0 : ((rd (rd_L1 l0_1 x43_3) t281) == t287) = false := beq_eq_false_iff_ne.mpr c79
                  have c79b1 : ((rd (rd_L1 l0_1 x43_3) t281) != t287) = true := bne_iff_ne.mpr c79
                  obtain rfl := Option.some.inj H
                  have hnb82 := NB259_260.out
                  have hnc82 := NB260_259.out
                  have hcz83_0 : wr.cell? ⟨gb259, 0, none⟩ = some (.slice A0_0 l0_0.length c0_0) := (blk_cell BK259.out 0).trans rfl
                  have hcz83_1 : wr.cell? ⟨gb259, 1, none⟩ = some (.slice (some ad268) l0_1.length c0_1) := (blk_cell BK259.out 1).trans rfl
                  have hfz83_0 := blk_frozen BK259.out 0
                  have hfz83_1 := blk_frozen BK259.out 1
                  have p272 : 0 ≤ (x43_3 : Int) := of_decide_eq_true (by first | (with_reducible assumption) | assumption)
                  have q272 : x43_3 < (l0_1.length : Int) := of_decide_eq_true (by first | (with_reducible assumption) | assumption)
                  obtain ⟨ad272, A272_0, c272_0, e272, hx272_0, hl272_0, hi272_0⟩ := at_L1 HR0_1.out x43_3 p272 q272
                  obtain rfl : ad268 = ad272 := (by injection e272)
                  replace hx272_0 := (HB.out.cell (World.block_lt_of_cell? w _ hx272_0)).trans hx272_0
                  have HR272_0 := ak hi272_0
                  have HC272_0 := ak hl272_0
                  clear hi272_0 hl272_0
                  replace p272 := eq_true p272
                  replace q272 := eq_true q272
                  have p273 : 0 ≤ (x70_5 : Int) := of_decide_eq_true (by first | (with_reducible assumption) | assumption)
                  have q273 : x70_5 < ((rd_L1 l0_1 x43_3).length : Int) := of_decide_eq_true (by first | (with_reducible assumption) | assumption)
                  obtain ⟨ad273, e273, hx273_0⟩ := Kd.at_int HR272_0.out x70_5 p273 q273
                  cases e273
                  replace hx273_0 := (HB.out.cell (World.block_lt_of_cell? w _ hx273_0)).trans hx273_0
                  replace p273 := eq_true p273
                  replace q273 := eq_true q273
                  have p274 : 0 ≤ ((rd (rd_L1 l0_1 x43_3) x70_5) : Int) := of_decide_eq_true (by first | (with_reducible assumption) | assumption)
                  have q274 : (rd (rd_L1 l0_1 x43_3) x70_5) < (l0_1.length : Int) := of_decide_eq_true (by first | (with_reducible assumption) | assumption)
                  obtain ⟨ad274, A274_0, c274_0, e274, hx274_0, hl274_0, hi274_0⟩ := at_L1 HR0_1.out (rd (rd_L1 l0_1 x43_3) x70_5) p274 q274
                  obtain rfl : ad268 = ad274 := (by injection e274)
                  replace hx274_0 := (HB.out.cell (World.block_lt_of_cell? w _ hx274_0)).trans hx274_0
                  have HR274_0 := ak hi274_0
                  have HC274_0 := ak hl274_0
                  clear hi274_0 hl274_0
                  replace p274 := eq_true p274
                  replace q274 := eq_true q274
                  have p275 : 0 ≤ (x93_6 : Int) := of_decide_eq_true (by first | (with_reducible assumption) | assumption)
                  have q275 : x93_6 < ((rd_L1 l0_1 (rd (rd_L1 l0_1 x43_3) x70_5)).length : Int) := of_decide_eq_true (by first | (with_reducible assumption) | assumption)
                  obtain ⟨ad275, e275, hx275_0⟩ := Kd.at_int HR274_0.out x93_6 p275 q275
                  cases e275
                  replace hx275_0 := (HB.out.cell (World.block_lt_of_cell? w _ hx275_0)).trans hx275_0
                  replace p275 := eq_true p275
                  replace q275 := eq_true q275
                  have p276 : 0 ≤ (x43_3 : Int) := of_decide_eq_true (by first | (with_reducible assumption) | assumption)
                  have q276 : x43_3 < (l0_1.length : Int) := of_decide_eq_true (by first | (with_reducible assumption) | assumption)
                  obtain ⟨ad276, A276_0, c276_0, e276, hx276_0, hl276_0, hi276_0⟩ := at_L1 HR0_1.out x43_3 p276 q276
                  obtain rfl : ad268 = ad276 := (by injection e276)
                  replace hx276_0 := (HB.out.cell (World.block_lt_of_cell? w _ hx276_0)).trans hx276_0
                  have HR276_0 := ak hi276_0
                  have HC276_0 := ak hl276_0
                  clear hi276_0 hl276_0
                  replace p276 := eq_true p276
                  replace q276 := eq_true q276
                  have ea_ := Option.some.inj (hx272_0.symm.trans hx276_0)
                  injection ea_ with ea_ en_ ec_
                  subst ea_
                  subst ec_
                  clear en_
                  have p277 : 0 ≤ (x70_5 : Int) := of_decide_eq_true (by first | (with_reducible assumption) | assumption)
                  have q277 : x70_5 < (l0_1.length : Int) := of_decide_eq_true (by first | (with_reducible assumption) | assumption)
                  obtain ⟨ad277, A277_0, c277_0, e277, hx277_0, hl277_0, hi277_0⟩ := at_L1 HR0_1.out x70_5 p277 q277
                  obtain rfl : ad268 = ad277 := (by injection e277)
                  replace hx277_0 := (HB.out.cell (World.block_lt_of_cell? w _ hx277_0)).trans hx277_0
                  have HR277_0 := ak hi277_0
                  have HC277_0 := ak hl277_0
                  clear hi277_0 hl277_0
                  replace p277 := eq_true p277
                  replace q277 := eq_true q277
                  have p278 : 0 ≤ (x93_6 : Int) := of_decide_eq_true (by first | (with_reducible assumption) | assumption)
                  have q278 : x93_6 < ((rd_L1 l0_1 x70_5).length : Int) := of_decide_eq_true (by first | (with_reducible assumption) | assumption)
                  obtain ⟨ad278, e278, hx278_0⟩ := Kd.at_int HR277_0.out x93_6 p278 q278
                  cases e278
                  replace hx278_0 := (HB.out.cell (World.block_lt_of_cell? w _ hx278_0)).trans hx278_0
                  replace p278 := eq_true p278
                  replace q278 := eq_true q278
                  have p279 : 0 ≤ ((rd (rd_L1 l0_1 x70_5) x93_6) : Int) := of_decide_eq_true (by first | (with_reducible assumption) | assumption)
                  have q279 : (rd (rd_L1 l0_1 x70_5) x93_6) < ((rd_L1 l0_1 x43_3).length : Int) := of_decide_eq_true (by first | (with_reducible assumption) | assumption)
                  obtain ⟨ad279, e279, hx279_0⟩ := Kd.at_int HR276_0.out (rd (rd_L1 l0_1 x70_5) x93_6) p279 q279
                  cases e279
                  replace hx279_0 := (HB.out.cell (World.block_lt_of_cell? w _ hx279_0)).trans hx279_0
                  replace p279 := eq_true p279
                  replace q279 := eq_true q279
                  have p280 : 0 ≤ (x43_3 : Int) := of_decide_eq_true (by first | (with_reducible assumption) | assumption)
                  have q280 : x43_3 < (l0_1.length : Int) := of_decide_eq_true (by first | (with_reducible assumption) | assumption)
                  obtain ⟨ad280, A280_0, c280_0, e280, hx280_0, hl280_0, hi280_0⟩ := at_L1 HR0_1.out x43_3 p280 q280
                  obtain rfl : ad268 = ad280 := (by injection e280)
                  replace hx280_0 := (HB.out.cell (World.block_lt_of_cell? w _ hx280_0)).trans hx280_0
                  have HR280_0 := ak hi280_0
                  have HC280_0 := ak hl280_0
                  clear hi280_0 hl280_0
                  replace p280 := eq_true p280
                  replace q280 := eq_true q280
                  have ea_ := Option.some.inj (hx272_0.symm.trans hx280_0)
                  injection ea_ with ea_ en_ ec_
                  subst ea_
                  subst ec_
                  clear en_
                  have p282 : 0 ≤ (t281 : Int) := of_decide_eq_true (by first | (with_reducible assumption) | assumption)
                  have q282 : t281 < ((rd_L1 l0_1 x43_3).length : Int) := of_decide_eq_true (by first | (with_reducible assumption) | assumption)
                  obtain ⟨ad282, e282, hx282_0⟩ := Kd.at_int HR280_0.out t281 p282 q282
                  cases e282
                  replace hx282_0 := (HB.out.cell (World.block_lt_of_cell? w _ hx282_0)).trans hx282_0
                  replace p282 := eq_true p282
                  replace q282 := eq_true q282
                  have p283 : 0 ≤ (x43_3 : Int) := of_decide_eq_true (by first | (with_reducible assumption) | assumption)
                  have q283 : x43_3 < (l0_1.length : Int) := of_decide_eq_true (by first | (with_reducible assumption) | assumption)
                  obtain ⟨ad283, A283_0, c283_0, e283, hx283_0, hl283_0, hi283_0⟩ := at_L1 HR0_1.out x43_3 p283 q283
                  obtain rfl : ad268 = ad283 := (by injection e283)
                  replace hx283_0 := (HB.out.cell (World.block_lt_of_cell? w _ hx283_0)).trans hx283_0
                  have HR283_0 := ak hi283_0
                  have HC283_0 := ak hl283_0
                  clear hi283_0 hl283_0
                  replace p283 := eq_true p283
                  replace q283 := eq_true q283
                  have ea_ := Option.some.inj (hx272_0.symm.trans hx283_0)
                  injection ea_ with ea_ en_ ec_
                  subst ea_
                  subst ec_
                  clear en_
                  have p284 : 0 ≤ (x70_5 : Int) := of_decide_eq_true (by first | (with_reducible assumption) | assumption)
                  have q284 : x70_5 < ((rd_L1 l0_1 x43_3).length : Int) := of_decide_eq_true (by first | (with_reducible assumption) | assumption)
                  obtain ⟨ad284, e284, hx284_0⟩ := Kd.at_int HR283_0.out x70_5 p284 q284
                  cases e284
                  replace hx284_0 := (HB.out.cell (World.block_lt_of_cell? w _ hx284_0)).trans hx284_0
                  replace p284 := eq_true p284
                  replace q284 := eq_true q284
                  have p285 : 0 ≤ (x43_3 : Int) := of_decide_eq_true (by first | (with_reducible assumption) | assumption)
                  have q285 : x43_3 < (l0_1.length : Int) := of_decide_eq_true (by first | (with_reducible assumption) | assumption)
                  obtain ⟨ad285, A285_0, c285_0, e285, hx285_0, hl285_0, hi285_0⟩ := at_L1 HR0_1.out x43_3 p285 q285
                  obtain rfl : ad268 = ad285 := (by injection e285)
                  replace hx285_0 := (HB.out.cell (World.block_lt_of_cell? w _ hx285_0)).trans hx285_0
                  have HR285_0 := ak hi285_0
                  have HC285_0 := ak hl285_0
                  clear hi285_0 hl285_0
                  replace p285 := eq_true p285
                  replace q285 := eq_true q285
                  have ea_ := Option.some.inj (hx272_0.symm.trans hx285_0)
                  have p286 : 0 ≤ (x93_6 : Int) := of_decide_eq_true (by first | (with_reducible assumption) | assumption)
                  have q286 : x93_6 < ((rd_L1 l0_1 x43_3).length : Int) := of_decide_eq_true (by first | (with_reducible assumption) | assumption)
                  obtain ⟨ad286, e286, hx286_0⟩ := Kd.at_int HR285_0.out x93_6 p286 q286
                  cases e286
                  replace hx286_0 := (HB.out.cell (World.block_lt_of_cell? w _ hx286_0)).trans hx286_0
                  replace p286 := eq_true p286
                  replace q286 := eq_true q286
                  as_aux_lemma =>
                   go_wp2_with (first | (go_at_call 83; (with_reducible refine (impl_join.calls k6 _ _ l0_0 x70_5 x93_6 t281 _ ?side1 ?side2 A74.out).mono ?_); (case side1 => exact kC (Kd.C_below HR0_0.out HB.out)); (case side2 => exact HC0_0.out); rintro e w' ⟨rfl, ⟨nd, rfl⟩⟩; (try first | exact ⟨rfl, _, World.drewN_drewN _ _ _⟩ | exact ⟨rfl, _, Eq.trans (World.drewN_drewN _ _ _) (congrArg (World.drewN _) (Nat.add_assoc _ _ _))⟩)) | (go_at_call 83; (with_reducible refine (impl_join.calls k6 _ _ l0_0 (rd (rd_L1 l0_1 x43_3) x70_5) (rd (rd_L1 l0_1 x43_3) x93_6) t287 _ ?side1 ?side2 A78.out).mono ?_); (case side1 => exact kC (Kd.C_below HR0_0.out (bB HB.out))); (case side2 => exact HC0_0.out); rintro e w' ⟨rfl, ⟨nd, rfl⟩⟩; (try first | exact ⟨rfl, _, World.drewN_drewN _ _ _⟩ | exact ⟨rfl, _, Eq.trans (World.drewN_drewN _ _ _) (congrArg (World.drewN _) (Nat.add_assoc _ _ _))⟩)))
                   repeat ((refine wp_region_quiet_lit ?_ ?_ ?_; kernel_rfl; kernel_rfl; (repeat (first | go_big_quiet_step (first | (go_at_call 83; (with_reducible refine (impl_join.calls k6 _ _ l0_0 x70_5 x93_6 t281 _ ?side1 ?side2 A74.out).mono ?_); (case side1 => exact kC (Kd.C_below HR0_0.out HB.out)); (case side2 => exact HC0_0.out); rintro e w' ⟨rfl, ⟨nd, rfl⟩⟩; (try first | exact ⟨rfl, _, World.drewN_drewN _ _ _⟩ | exact ⟨rfl, _, Eq.trans (World.drewN_drewN _ _ _) (congrArg (World.drewN _) (Nat.add_assoc _ _ _))⟩)) | (go_at_call 83; (with_reducible refine (impl_join.calls k6 _ _ l0_0 (rd (rd_L1 l0_1 x43_3) x70_5) (rd (rd_L1 l0_1 x43_3) x93_6) t287 _ ?side1 ?side2 A78.out).mono ?_); (case side1 => exact kC (Kd.C_below HR0_0.out (bB HB.out))); (case side2 => exact HC0_0.out); rintro e w' ⟨rfl, ⟨nd, rfl⟩⟩; (try first | exact ⟨rfl, _, World.drewN_drewN _ _ _⟩ | exact ⟨rfl, _, Eq.trans (World.drewN_drewN _ _ _) (congrArg (World.drewN _) (Nat.add_assoc _ _ _))⟩))) | (refine wpQuiet_step (fun K hK => ?_); go_simp; refine hK _ ?_; clear hK K))); refine wpQuiet_nil ?_; intro _ hw'; obtain ⟨nq, hw''⟩ := hw'; subst hw''); try go_wp2_with (first | (go_at_call 83; (with_reducible refine (impl_join.calls k6 _ _ l0_0 x70_5 x93_6 t281 _ ?side1 ?side2 A74.out).mono ?_); (case side1 => exact kC (Kd.C_below HR0_0.out HB.out)); (case side2 => exact HC0_0.out); rintro e w' ⟨rfl, ⟨nd, rfl⟩⟩; (try first | exact ⟨rfl, _, World.drewN_drewN _ _ _⟩ | exact ⟨rfl, _, Eq.trans (World.drewN_drewN _ _ _) (congrArg (World.drewN _) (Nat.add_assoc _ _ _))⟩)) | (go_at_call 83; (with_reducible refine (impl_join.calls k6 _ _ l0_0 (rd (rd_L1 l0_1 x43_3) x70_5) (rd (rd_L1 l0_1 x43_3) x93_6) t287 _ ?side1 ?side2 A78.out).mono ?_); (case side1 => exact kC (Kd.C_below HR0_0.out (bB HB.out))); (case side2 => exact HC0_0.out); rintro e w' ⟨rfl, ⟨nd, rfl⟩⟩; (try first | exact ⟨rfl, _, World.drewN_drewN _ _ _⟩ | exact ⟨rfl, _, Eq.trans (World.drewN_drewN _ _ _) (congrArg (World.drewN _) (Nat.add_assoc _ _ _))⟩))))
                   go_ret
                   exact ⟨by first | rfl | (simp [errW_none, errW_some] <;> rfl) | (simp [*, errW_none, errW_some] <;> rfl), by repeat (first | (with_reducible first | exact HB.out | apply below_alloc | apply pw_below_drewN | apply below_drew1 | refine below_set ?_ GE259.out | refine below_set ?_ GE260.out) | exact HB.out)⟩
                 rw [if_pos c79] at H
                 have c79b0 : ((rd (rd_L1 l0_1 x43_3) t281) == t287) = true := beq_iff_eq.mpr c79
                 have c79b1 : ((rd (rd_L1 l0_1 x43_3) t281) != t287) = false := bne_eq_false_iff_eq.mpr c79
                 clear c79
                 have H' := ak H
                 clear H
                 have hnb80 := NB259_260.out
                 have hnc80 := NB260_259.out
                 have hcz81_0 : wr.cell? ⟨gb259, 0, none⟩ = some (.slice A0_0 l0_0.length c0_0) := (blk_cell BK259.out 0).trans rfl
                 have hcz81_1 : wr.cell? ⟨gb259, 1, none⟩ = some (.slice (some ad268) l0_1.length c0_1) := (blk_cell BK259.out 1).trans rfl
                 have hfz81_0 := blk_frozen BK259.out 0
                 have hfz81_1 := blk_frozen BK259.out 1
                 have p272 : 0 ≤ (x43_3 : Int) := of_decide_eq_true (by first | (with_reducible assumption) | assumption)
                 have q272 : x43_3 < (l0_1.length : Int) := of_decide_eq_true (by first | (with_reducible assumption) | assumption)
                 obtain ⟨ad272, A272_0, c272_0, e272, hx272_0, hl272_0, hi272_0⟩ := at_L1 HR0_1.out x43_3 p272 q272
                 obtain rfl : ad268 = ad272 := (by injection e272)
                 replace hx272_0 := (HB.out.cell (World.block_lt_of_cell? w _ hx272_0)).trans hx272_0
                 have HR272_0 := ak hi272_0
                 have HC272_0 := ak hl272_0
                 clear hi272_0 hl272_0
                 replace p272 := eq_true p272
                 replace q272 := eq_true q272
                 have p273 : 0 ≤ (x70_5 : Int) := of_decide_eq_true (by first | (with_reducible assumption) | assumption)
                 have q273 : x70_5 < ((rd_L1 l0_1 x43_3).length : Int) := of_decide_eq_true (by first | (with_reducible assumption) | assumption)
                 obtain ⟨ad273, e273, hx273_0⟩ := Kd.at_int HR272_0.out x70_5 p273 q273
                 cases e273
                 replace hx273_0 := (HB.out.cell (World.block_lt_of_cell? w _ hx273_0)).trans hx273_0
                 replace p273 := eq_true p273
                 replace q273 := eq_true q273
                 have p274 : 0 ≤ ((rd (rd_L1 l0_1 x43_3) x70_5) : Int) := of_decide_eq_true (by first | (with_reducible assumption) | assumption)
                 have q274 : (rd (rd_L1 l0_1 x43_3) x70_5) < (l0_1.length : Int) := of_decide_eq_true (by first | (with_reducible assumption) | assumption)
                 obtain ⟨ad274, A274_0, c274_0, e274, hx274_0, hl274_0, hi274_0⟩ := at_L1 HR0_1.out (rd (rd_L1 l0_1 x43_3) x70_5) p274 q274
                 obtain rfl : ad268 = ad274 := (by injection e274)
                 replace hx274_0 := (HB.out.cell (World.block_lt_of_cell? w _ hx274_0)).trans hx274_0
                 have HR274_0 := ak hi274_0
                 have HC274_0 := ak hl274_0
                 clear hi274_0 hl274_0
                 replace p274 := eq_true p274
                 replace q274 := eq_true q274
                 have p275 : 0 ≤ (x93_6 : Int) := of_decide_eq_true (by first | (with_reducible assumption) | assumption)
                 have q275 : x93_6 < ((rd_L1 l0_1 (rd (rd_L1 l0_1 x43_3) x70_5)).length : Int) := of_decide_eq_true (by first | (with_reducible assumption) | assumption)
                 obtain ⟨ad275, e275, hx275_0⟩ := Kd.at_int HR274_0.out x93_6 p275 q275
                 cases e275
                 replace hx275_0 := (HB.out.cell (World.block_lt_of_cell? w _ hx275_0)).trans hx275_0
                 replace p275 := eq_true p275
                 replace q275 := eq_true q275
                 have p276 : 0 ≤ (x43_3 : Int) := of_decide_eq_true (by first | (with_reducible assumption) | assumption)
                 have q276 : x43_3 < (l0_1.length : Int) := of_decide_eq_true (by first | (with_reducible assumption) | assumption)
                 obtain ⟨ad276, A276_0, c276_0, e276, hx276_0, hl276_0, hi276_0⟩ := at_L1 HR0_1.out x43_3 p276 q276
                 obtain rfl : ad268 = ad276 := (by injection e276)
                 replace hx276_0 := (HB.out.cell (World.block_lt_of_cell? w _ hx276_0)).trans hx276_0
                 have HR276_0 := ak hi276_0
                 have HC276_0 := ak hl276_0
                 clear hi276_0 hl276_0
                 replace p276 := eq_true p276
                 replace q276 := eq_true q276
                 have ea_ := Option.some.inj (hx272_0.symm.trans hx276_0)
                 injection ea_ with ea_ en_ ec_
                 subst ea_
                 subst ec_
                 clear en_
                 have p277 : 0 ≤ (x70_5 : Int) := of_decide_eq_true (by first | (with_reducible assumption) | assumption)
                 have q277 : x70_5 < (l0_1.length : Int) := of_decide_eq_true (by first | (with_reducible assumption) | assumption)
                 obtain ⟨ad277, A277_0, c277_0, e277, hx277_0, hl277_0, hi277_0⟩ := at_L1 HR0_1.out x70_5 p277 q277
                 obtain rfl : ad268 = ad277 := (by injection e277)
                 replace hx277_0 := (HB.out.cell (World.block_lt_of_cell? w _ hx277_0)).trans hx277_0
                 have HR277_0 := ak hi277_0
                 have HC277_0 := ak hl277_0
                 clear hi277_0 hl277_0
                 replace p277 := eq_true p277
                 replace q277 := eq_true q277
                 have p278 : 0 ≤ (x93_6 : Int) := of_decide_eq_true (by first | (with_reducible assumption) | assumption)
                 have q278 : x93_6 < ((rd_L1 l0_1 x70_5).length : Int) := of_decide_eq_true (by first | (with_reducible assumption) | assumption)
                 obtain ⟨ad278, e278, hx278_0⟩ := Kd.at_int HR277_0.out x93_6 p278 q278
                 cases e278
                 replace hx278_0 := (HB.out.cell (World.block_lt_of_cell? w _ hx278_0)).trans hx278_0
                 replace p278 := eq_true p278
                 replace q278 := eq_true q278
                 have p279 : 0 ≤ ((rd (rd_L1 l0_1 x70_5) x93_6) : Int) := of_decide_eq_true (by first | (with_reducible assumption) | assumption)
                 have q279 : (rd (rd_L1 l0_1 x70_5) x93_6) < ((rd_L1 l0_1 x43_3).length : Int) := of_decide_eq_true (by first | (with_reducible assumption) | assumption)
                 obtain ⟨ad279, e279, hx279_0⟩ := Kd.at_int HR276_0.out (rd (rd_L1 l0_1 x70_5) x93_6) p279 q279
                 cases e279
                 replace hx279_0 := (HB.out.cell (World.block_lt_of_cell? w _ hx279_0)).trans hx279_0
                 replace p279 := eq_true p279
                 replace q279 := eq_true q279
                 have p280 : 0 ≤ (x43_3 : Int) := of_decide_eq_true (by first | (with_reducible assumption) | assumption)
                 have q280 : x43_3 < (l0_1.length : Int) := of_decide_eq_true (by first | (with_reducible assumption) | assumption)
                 obtain ⟨ad280, A280_0, c280_0, e280, hx280_0, hl280_0, hi280_0⟩ := at_L1 HR0_1.out x43_3 p280 q280
                 obtain rfl : ad268 = ad280 := (by injection e280)
                 replace hx280_0 := (HB.out.cell (World.block_lt_of_cell? w _ hx280_0)).trans hx280_0
                 have HR280_0 := ak hi280_0
                 have HC280_0 := ak hl280_0
                 clear hi280_0 hl280_0
                 replace p280 := eq_true p280
                 replace q280 := eq_true q280
                 have ea_ := Option.some.inj (hx272_0.symm.trans hx280_0)
                 injection ea_ with ea_ en_ ec_
                 subst ea_
                 subst ec_
                 clear en_
                 have p282 : 0 ≤ (t281 : Int) := of_decide_eq_true (by first | (with_reducible assumption) | assumption)
                 have q282 : t281 < ((rd_L1 l0_1 x43_3).length : Int) := of_decide_eq_true (by first | (with_reducible assumption) | assumption)
                 obtain ⟨ad282, e282, hx282_0⟩ := Kd.at_int HR280_0.out t281 p282 q282
                 cases e282
                 replace hx282_0 := (HB.out.cell (World.block_lt_of_cell? w _ hx282_0)).trans hx282_0
                 replace p282 := eq_true p282
                 replace q282 := eq_true q282
                 have p283 : 0 ≤ (x43_3 : Int) := of_decide_eq_true (by first | (with_reducible assumption) | assumption)
                 have q283 : x43_3 < (l0_1.length : Int) := of_decide_eq_true (by first | (with_reducible assumption) | assumption)
                 obtain ⟨ad283, A283_0, c283_0, e283, hx283_0, hl283_0, hi283_0⟩ := at_L1 HR0_1.out x43_3 p283 q283
                 obtain rfl : ad268 = ad283 := (by injection e283)
                 replace hx283_0 := (HB.out.cell (World.block_lt_of_cell? w _ hx283_0)).trans hx283_0
                 have HR283_0 := ak hi283_0
                 have HC283_0 := ak hl283_0
                 clear hi283_0 hl283_0
                 replace p283 := eq_true p283
                 replace q283 := eq_true q283
                 have ea_ := Option.some.inj (hx272_0.symm.trans hx283_0)
                 injection ea_ with ea_ en_ ec_
                 subst ea_
                 subst ec_
                 clear en_
                 have p284 : 0 ≤ (x70_5 : Int) := of_decide_eq_true (by first | (with_reducible assumption) | assumption)
                 have q284 : x70_5 < ((rd_L1 l0_1 x43_3).length : Int) := of_decide_eq_true (by first | (with_reducible assumption) | assumption)
                 obtain ⟨ad284, e284, hx284_0⟩ := Kd.at_int HR283_0.out x70_5 p284 q284
                 cases e284
                 replace hx284_0 := (HB.out.cell (World.block_lt_of_cell? w _ hx284_0)).trans hx284_0
                 replace p284 := eq_true p284
                 replace q284 := eq_true q284
                 have p285 : 0 ≤ (x43_3 : Int) := of_decide_eq_true (by first | (with_reducible assumption) | assumption)
                 have q285 : x43_3 < (l0_1.length : Int) := of_decide_eq_true (by first | (with_reducible assumption) | assumption)
                 obtain ⟨ad285, A285_0, c285_0, e285, hx285_0, hl285_0, hi285_0⟩ := at_L1 HR0_1.out x43_3 p285 q285
                 obtain rfl : ad268 = ad285 := (by injection e285)
                 replace hx285_0 := (HB.out.cell (World.block_lt_of_cell? w _ hx285_0)).trans hx285_0
                 have HR285_0 := ak hi285_0
                 have HC285_0 := ak hl285_0
                 clear hi285_0 hl285_0
                 replace p285 := eq_true p285
                 replace q285 := eq_true q285
                 have ea_ := Option.some.inj (hx272_0.symm.trans hx285_0)
                 have p286 : 0 ≤ (x93_6 : Int) := of_decide_eq_true (by first | (with_reducible assumption) | assumption)
                 have q286 : x93_6 < ((rd_L1 l0_1 x43_3).length : Int) := of_decide_eq_true (by first | (with_reducible assumption) | assumption)
                 obtain ⟨ad286, e286, hx286_0⟩ := Kd.at_int HR285_0.out x93_6 p286 q286
                 cases e286
                 replace hx286_0 := (HB.out.cell (World.block_lt_of_cell? w _ hx286_0)).trans hx286_0
                 replace p286 := eq_true p286
                 replace q286 := eq_true q286
                 as_aux_lemma =>
                  go_wp2_with (first | (go_at_call 83; (with_reducible refine (impl_join.calls k6 _ _ l0_0 x70_5 x93_6 t281 _ ?side1 ?side2 A74.out).mono ?_); (case side1 => exact kC (Kd.C_below HR0_0.out HB.out)); (case side2 => exact HC0_0.out); rintro e w' ⟨rfl, ⟨nd, rfl⟩⟩; (try first | exact ⟨rfl, _, World.drewN_drewN _ _ _⟩ | exact ⟨rfl, _, Eq.trans (World.drewN_drewN _ _ _) (congrArg (World.drewN _) (Nat.add_assoc _ _ _))⟩)) | (go_at_call 83; (with_reducible refine (impl_join.calls k6 _ _ l0_0 (rd (rd_L1 l0_1 x43_3) x70_5) (rd (rd_L1 l0_1 x43_3) x93_6) t287 _ ?side1 ?side2 A78.out).mono ?_); (case side1 => exact kC (Kd.C_below HR0_0.out (bB HB.out))); (case side2 => exact HC0_0.out); rintro e w' ⟨rfl, ⟨nd, rfl⟩⟩; (try first | exact ⟨rfl, _, World.drewN_drewN _ _ _⟩ | exact ⟨rfl, _, Eq.trans (World.drewN_drewN _ _ _) (congrArg (World.drewN _) (Nat.add_assoc _ _ _))⟩)))
                  repeat ((refine wp_region_quiet_lit ?_ ?_ ?_; kernel_rfl; kernel_rfl; (repeat (first | go_big_quiet_step (first | (go_at_call 83; (with_reducible refine (impl_join.calls k6 _ _ l0_0 x70_5 x93_6 t281 _ ?side1 ?side2 A74.out).mono ?_); (case side1 => exact kC (Kd.C_below HR0_0.out HB.out)); (case side2 => exact HC0_0.out); rintro e w' ⟨rfl, ⟨nd, rfl⟩⟩; (try first | exact ⟨rfl, _, World.drewN_drewN _ _ _⟩ | exact ⟨rfl, _, Eq.trans (World.drewN_drewN _ _ _) (congrArg (World.drewN _) (Nat.add_assoc _ _ _))⟩)) | (go_at_call 83; (with_reducible refine (impl_join.calls k6 _ _ l0_0 (rd (rd_L1 l0_1 x43_3) x70_5) (rd (rd_L1 l0_1 x43_3) x93_6) t287 _ ?side1 ?side2 A78.out).mono ?_); (case side1 => exact kC (Kd.C_below HR0_0.out (bB HB.out))); (case side2 => exact HC0_0.out); rintro e w' ⟨rfl, ⟨nd, rfl⟩⟩; (try first | exact ⟨rfl, _, World.drewN_drewN _ _ _⟩ | exact ⟨rfl, _, Eq.trans (World.drewN_drewN _ _ _) (congrArg (World.drewN _) (Nat.add_assoc _ _ _))⟩))) | (refine wpQuiet_step (fun K hK => ?_); go_simp; refine hK _ ?_; clear hK K))); refine wpQuiet_nil ?_; intro _ hw'; obtain ⟨nq, hw''⟩ := hw'; subst hw''); try go_wp2_with (first | (go_at_call 83; (with_reducible refine (impl_join.calls k6 _ _ l0_0 x70_5 x93_6 t281 _ ?side1 ?side2 A74.out).mono ?_); (case side1 => exact kC (Kd.C_below HR0_0.out HB.out)); (case side2 => exact HC0_0.out); rintro e w' ⟨rfl, ⟨nd, rfl⟩⟩; (try first | exact ⟨rfl, _, World.drewN_drewN _ _ _⟩ | exact ⟨rfl, _, Eq.trans (World.drewN_drewN _ _ _) (congrArg (World.drewN _) (Nat.add_assoc _ _ _))⟩)) | (go_at_call 83; (with_reducible refine (impl_join.calls k6 _ _ l0_0 (rd (rd_L1 l0_1 x43_3) x70_5) (rd (rd_L1 l0_1 x43_3) x93_6) t287 _ ?side1 ?side2 A78.out).mono ?_); (case side1 => exact kC (Kd.C_below HR0_0.out (bB HB.out))); (case side2 => exact HC0_0.out); rintro e w' ⟨rfl, ⟨nd, rfl⟩⟩; (try first | exact ⟨rfl, _, World.drewN_drewN _ _ _⟩ | exact ⟨rfl, _, Eq.trans (World.drewN_drewN _ _ _) (congrArg (World.drewN _) (Nat.add_assoc _ _ _))⟩))))
                  go_roundg k6
                  case measure => have := HJ1.out; have := HK2.out; have := HK3.out; have := HJ32.out; have := HK5.out; have := HK6.out; omega
                  case rel => exact ⟨(wrap64 (x93_6 + 1)), (by first | rfl | (simp; done) | (simp [*]; done)), H', ⟨by have := HJ1.out; have := HK2.out; have := HK3.out; have := HJ32.out; have := HK5.out; have := HK6.out; omega⟩, ⟨by (with_reducible repeat (first | refine blk_drewN ?_ _ | refine blk_drew ?_ | refine blk_alloc ?_ _)); exact BK259.out⟩, ⟨by (with_reducible repeat (first | refine blk_drewN ?_ _ | refine blk_drew ?_ | refine blk_alloc ?_ _)); exact BK260.out⟩, ⟨by repeat (first | (with_reducible first | exact HB.out | apply below_alloc | apply pw_below_drewN | apply below_drew1 | refine below_set ?_ GE259.out | refine below_set ?_ GE260.out) | exact HB.out)⟩⟩
end Go.Proofs.Ytjidbgmkhapklaa.P

-- shrunk
