-- Printed by this session's wip/print2.py (the kit's print.py, widened) out of the translation. Lean checks it.
import Derived.Test.YtjidbgmkhapklaaP0
import Derived.Test.YtjidbgmkhapklaaP23
import Derived.Test.YtjidbgmkhapklaaP26
import Derived.Test.YtjidbgmkhapklaaP27
import Derived.Test.YtjidbgmkhapklaaP29
namespace Go.Proofs.Ytjidbgmkhapklaa.P
open Go.RowKit Go.Proofs.YtjidbgmkhapklaaW.PrintWords Go.Proofs.YtjidbgmkhapklaaW.PrintLast Go.Proofs.YtjidbgmkhapklaaW.PrintMore
attribute [local go_sem] max2_int min2_int max_two min_two max_three min_three max_four min_four   -- for this text's walks alone
set_option linter.unusedVariables false
set_option linter.unusedSimpArgs false

/-! ### impl_CrossAlgebras: function 26 -/
def impl_CrossAlgebras.j0 : Nat → Bool → List Int → List (List Int) → List Int → List (List Int) → Int → Option (List Int × (List (List Int)) × Bool)
 | 0, _, _, _, _, _, _ => none
 | k + 1, x25, x313000, x313001, x314000, x314001, x316000 => if x25 = true then (some (([] : List Int), ([] : List (List Int)), false)) else ((impl_cross.f k x313000 x314000).bind fun t318 => ((bu_CrossAlgebras_1.f k t318 x313000 x313001 x316000 x314000 x314001).bind fun bt321 => ((impl_algebraOr.f k bt321.1 bt321.2).bind fun bt327 => (some (bt327.1, bt327.2.1, bt327.2.2)))))
def impl_CrossAlgebras.f (k : Nat) (l0_0 : List Int) (l0_1 : List (List Int)) (l1_0 : List Int) (l1_1 : List (List Int)) : Option (List Int × (List (List Int)) × Bool) := (impl_ValidAlgebra.f k l0_0 l0_1).bind fun t316 => (if t316 = true then ((impl_ValidAlgebra.f k l1_0 l1_1).bind fun t317 => (if t317 = true then (impl_CrossAlgebras.j0 k (decide ((wrap64 ((l0_0.length : Int) * (l1_0.length : Int))) > 6)) l0_0 l0_1 l1_0 l1_1 (l1_0.length : Int)) else (impl_CrossAlgebras.j0 k true l0_0 l0_1 l1_0 l1_1 (l1_0.length : Int)))) else (impl_CrossAlgebras.j0 k true l0_0 l0_1 l1_0 l1_1 (l1_0.length : Int)))
set_option maxHeartbeats 8000000 in
set_option maxRecDepth 100000 in
theorem impl_CrossAlgebras.calls (k : Nat) (A0_0 : Option Addr) (c0_0 : Nat) (l0_0 : List Int) (A0_1 : Option Addr) (c0_1 : Nat) (l0_1 : List (List Int)) (A1_0 : Option Addr) (c1_0 : Nat) (l1_0 : List Int) (A1_1 : Option Addr) (c1_1 : Nat) (l1_1 : List (List Int)) (r1 : List Int) (r2 : List (List Int)) (r3 : Bool) (w : World) (hr0_0 : Kd.C (Kd.int .i64) w A0_0 l0_0.length l0_0) (hc0_0 : l0_0.length ≤ c0_0) (hr0_1 : Kd.C (Kd.slice 3 (Kd.int .i64)) w A0_1 l0_1.length l0_1) (hc0_1 : l0_1.length ≤ c0_1) (hr1_0 : Kd.C (Kd.int .i64) w A1_0 l1_0.length l1_0) (hc1_0 : l1_0.length ≤ c1_0) (hr1_1 : Kd.C (Kd.slice 3 (Kd.int .i64)) w A1_1 l1_1.length l1_1) (hc1_1 : l1_1.length ≤ c1_1) (h : impl_CrossAlgebras.f k l0_0 l0_1 l1_0 l1_1 = some (r1, r2, r3)) :
  Calls Try.prog 26 #[.agg #[.slice A0_0 l0_0.length c0_0, .slice A0_1 l0_1.length c0_1], .agg #[.slice A1_0 l1_0.length c1_0, .slice A1_1 l1_1.length c1_1]] w fun e w' => ∃ v0_ v1_ : Value, e = .returned (.tuple #[.agg #[v0_, v1_], .bool r3]) ∧ Kd.R (Kd.int .i64) 3 w' w.heap.size (fun _ => True) v0_ r1 ∧ Kd.S (Kd.slice 3 (Kd.int .i64)) 22 w' w.heap.size (fun k_ => some k_ ≠ (v0_ : Value).ownBlock) v1_ r2 ∧ Below w.heap.size w w' := by
 have hu25 := Try.underlying25
 have HR0_0 := ak hr0_0
 have HC0_0 := ak hc0_0
 clear hr0_0 hc0_0
 have HR0_1 := ak hr0_1
 have HC0_1 := ak hc0_1
 clear hr0_1 hc0_1
 have HR1_0 := ak hr1_0
 have HC1_0 := ak hc1_0
 clear hr1_0 hc1_0
 have HR1_1 := ak hr1_1
 have HC1_1 := ak hc1_1
 clear hr1_1 hc1_1
 have HB := ak (Below.refl w.heap.size w)
 have H : ((impl_ValidAlgebra.f k l0_0 l0_1).bind fun t316 => (if t316 = true then ((impl_ValidAlgebra.f k l1_0 l1_1).bind fun t317 => (if t317 = true then (impl_CrossAlgebras.j0 k (decide ((wrap64 ((l0_0.length : Int) * (l1_0.length : Int))) > 6)) l0_0 l0_1 l1_0 l1_1 (l1_0.length : Int)) else (impl_CrossAlgebras.j0 k true l0_0 l0_1 l1_0 l1_1 (l1_0.length : Int)))) else (impl_CrossAlgebras.j0 k true l0_0 l0_1 l1_0 l1_1 (l1_0.length : Int)))) = some (r1, r2, r3) := h
 clear h
 have HC3 := ak H
 clear H
 have hmf : ∀ (fn : Fn) (first cap : Array Value) (w : World), (Instr.makeFunc fn first cap).run Try.prog w = .ok (.func fn first cap) w := fun _ _ _ _ => rfl
 go_enter Try.func26, Try.ntmps26
 go_upto_region 2 with (first | ((with_reducible refine gate_dst (N := 2) rfl ?_); (try (refine gate_guard (by rfl) ?_; dsimp only)); refine box_event ?hg (N := 2) ?hd (cs := #[.slice A0_0 l0_0.length c0_0, .slice A0_1 l0_1.length c0_1]) (t := 25) ?hr ?_; (case hd => rfl); (case hg => rfl); (case hr => first | (go_simp; done) | (go_simp; rfl)); intro gb312 hg w4 hbox hb; have BK312 := ak (hbox); have GW312 := ak ((by rw [hg]; exact (below_size (bB HB.out)) : w.heap.size ≤ gb312)); have GE312 := ak ((by rw [hg]; exact (below_size (bB HB.out)) : w.heap.size ≤ gb312)); replace HB := ak (below_step (bB HB.out) hb); clear hb hbox hg) | ((with_reducible refine gate_dst (N := 3) rfl ?_); (try (refine gate_guard (by rfl) ?_; dsimp only)); refine box_event ?hg (N := 3) ?hd (cs := #[.slice A1_0 l1_0.length c1_0, .slice A1_1 l1_1.length c1_1]) (t := 25) ?hr ?_; (case hd => rfl); (case hg => rfl); (case hr => first | (go_simp; done) | (go_simp; rfl)); intro gb313 hg w5 hbox hb; have BK313 := ak (hbox); have GW313 := ak ((by rw [hg]; exact (below_size (bB HB.out)) : w.heap.size ≤ gb313)); have GE313 := ak ((by rw [hg]; exact (below_size (bB HB.out)) : w.heap.size ≤ gb313)); replace HB := ak (below_step (bB HB.out) hb); have NB312_313 := ak ((ne_box hg (kK BK312.out))); have NB313_312 := ak ((ne_box' hg (kK BK312.out))); replace BK312 := ak (blk_below (kK BK312.out) hb); clear hb hbox hg) | ((with_reducible refine gate_dst (N := 4) rfl ?_); (try (refine gate_guard (by rfl) ?_; dsimp only)); refine box_event ?hg (N := 4) ?hd (cs := #[.slice none 0 0, .slice none 0 0]) (t := 25) ?hr ?_; (case hd => rfl); (case hg => rfl); (case hr => first | (go_simp; done) | (go_simp; rfl)); intro gb314 hg w6 hbox hb; have BK314 := ak (hbox); have GW314 := ak ((by rw [hg]; exact (below_size (bB HB.out)) : w.heap.size ≤ gb314)); have GE314 := ak ((by rw [hg]; exact (below_size (bB HB.out)) : w.heap.size ≤ gb314)); replace HB := ak (below_step (bB HB.out) hb); have NB312_314 := ak ((ne_box hg (kK BK312.out))); have NB314_312 := ak ((ne_box' hg (kK BK312.out))); replace BK312 := ak (blk_below (kK BK312.out) hb); have NB313_314 := ak ((ne_box hg (kK BK313.out))); have NB314_313 := ak ((ne_box' hg (kK BK313.out))); replace BK313 := ak (blk_below (kK BK313.out) hb); clear hb hbox hg; have hnb7 := NB313_312.out; have hnc7 := NB312_313.out; have hnb8 := NB313_314.out; have hnc8 := NB314_313.out; have hcz9_0 : w6.cell? ⟨gb313, 0, none⟩ = some (.slice A1_0 l1_0.length c1_0) := (blk_cell BK313.out 0).trans rfl; have hcz9_1 : w6.cell? ⟨gb313, 1, none⟩ = some (.slice A1_1 l1_1.length c1_1) := (blk_cell BK313.out 1).trans rfl; have hfz9_0 := blk_frozen BK313.out 0; have hfz9_1 := blk_frozen BK313.out 1) | ((with_reducible refine gate_dst (N := 6) rfl ?_); (try (refine gate_guard (by rfl) ?_; dsimp only)); refine box_event ?hg (N := 6) ?hd (cs := #[.int .i64 0]) (t := 3) ?hr ?_; (case hd => rfl); (case hg => rfl); (case hr => first | (go_simp; done) | (go_simp; rfl)); intro gb315 hg w10 hbox hb; have BK315 := ak (hbox); have GW315 := ak ((by rw [hg]; exact (below_size (bB HB.out)) : w.heap.size ≤ gb315)); have GE315 := ak ((by rw [hg]; exact (below_size (bB HB.out)) : w.heap.size ≤ gb315)); replace HB := ak (below_step (bB HB.out) hb); have NB312_315 := ak ((ne_box hg (kK BK312.out))); have NB315_312 := ak ((ne_box' hg (kK BK312.out))); replace BK312 := ak (blk_below (kK BK312.out) hb); have NB313_315 := ak ((ne_box hg (kK BK313.out))); have NB315_313 := ak ((ne_box' hg (kK BK313.out))); replace BK313 := ak (blk_below (kK BK313.out) hb); have NB314_315 := ak ((ne_box hg (kK BK314.out))); have NB315_314 := ak ((ne_box' hg (kK BK314.out))); replace BK314 := ak (blk_below (kK BK314.out) hb); clear hb hbox hg; have hnb11 := NB315_312.out; have hnc11 := NB312_315.out; have hnb12 := NB315_313.out; have hnc12 := NB313_315.out; have hnb13 := NB315_314.out; have hnc13 := NB314_315.out; have hcz14_0 : w10.cell? ⟨gb315, 0, none⟩ = some (.int .i64 0) := (blk_cell BK315.out 0).trans rfl; have hfz14_0 := blk_frozen BK315.out 0))
 (try simp only [Act.put, List.setIfInBounds_toArray, List.set_cons_zero, List.set_cons_succ])
 go_cut [25] (fun v25 wc => ∃ (kq : Nat) (x25_2 : Bool), v25 = .bool x25_2 ∧ Aside0 (impl_CrossAlgebras.j0 kq x25_2 l0_0 l0_1 l1_0 l1_1 (l1_0.length : Int) = some (r1, r2, r3)) ∧ Aside0 (kq ≤ k) ∧ Aside0 (wc.heap[gb312]? = some (.cells #[(.slice A0_0 l0_0.length c0_0), (.slice A0_1 l0_1.length c0_1)] 25 (0, 0))) ∧ Aside0 (wc.heap[gb313]? = some (.cells #[(.slice A1_0 l1_0.length c1_0), (.slice A1_1 l1_1.length c1_1)] 25 (0, 0))) ∧ Aside0 (wc.heap[gb314]? = some (.cells #[(.slice none 0 0), (.slice none 0 0)] 25 (0, 0))) ∧ Aside0 (wc.heap[gb315]? = some (.cells #[.int .i64 (l1_0.length : Int)] 3 (0, 0))) ∧ Aside0 (Below w.heap.size w wc))
 case first =>
  have H := HC3.out
  clear HC3
  replace H := bi H
  obtain ⟨t316, A150, H⟩ := H
  try dsimp only at H
  have A15 := ak A150
  clear A150
  by_cases c16 : t316 = true
  rotate_left
  ·replace c16 := Bool.eq_false_iff.mpr c16
   subst c16
   rw [if_neg (show ¬ (false = true) by decide)] at H
   have H' := ak H
   clear H
   have hnb40 := NB312_313.out
   have hnc40 := NB313_312.out
   have hnb41 := NB312_314.out
   have hnc41 := NB314_312.out
   have hnb42 := NB312_315.out
   have hnc42 := NB315_312.out
   have hcz43_0 : w10.cell? ⟨gb312, 0, none⟩ = some (.slice A0_0 l0_0.length c0_0) := (blk_cell BK312.out 0).trans rfl
   have hcz43_1 : w10.cell? ⟨gb312, 1, none⟩ = some (.slice A0_1 l0_1.length c0_1) := (blk_cell BK312.out 1).trans rfl
   have hfz43_0 := blk_frozen BK312.out 0
   have hfz43_1 := blk_frozen BK312.out 1
   go_wp2_with (first | ((with_reducible refine gate_callee (f := 33) rfl ?_); refine goesL_ (some 11) rfl rfl Try.func33 (by kernel_rfl) rfl #[.agg #[.slice A0_0 l0_0.length c0_0, .slice A0_1 l0_1.length c0_1]] rfl (by (try simp only [List.map_toArray, List.map_cons, List.map_nil]); first | done | rfl | (simp only [List.length_drop, List.length_take]; rfl)) ?_; (with_reducible refine (impl_ValidAlgebra.calls k _ _ l0_0 _ _ l0_1 false _ ?side1 ?side2 ?side3 ?side4 A15.out).mono ?_); (case side1 => exact Kd.C_below HR0_0.out (bB HB.out)); (case side2 => exact HC0_0.out); (case side3 => exact Kd.C_below HR0_1.out (bB HB.out)); (case side4 => exact HC0_1.out); rintro e w44 ⟨rfl, hb⟩; refine ⟨_, rfl, ?_⟩; replace BK312 := ak (blk_below (kK (blk_far BK312.out NB312_315.out _)) hb); replace BK313 := ak (blk_below (kK (blk_far BK313.out NB313_315.out _)) hb); replace BK314 := ak (blk_below (kK (blk_far BK314.out NB314_315.out _)) hb); replace BK315 := ak (blk_below (g := gb315) (o := .cells #[.int .i64 (l1_0.length : Int)] 3 (0, 0)) (by refine blk_put (cs := #[.int .i64 0]) ?_ 0 _ rfl; exact BK315.out) hb); replace HB := ak (below_step (bB HB.out) hb); (try clear hb); (try clear hb2); (try clear hk); (try clear hi)))
   go_meet
   case rel => exact ⟨_, (true), (by first | rfl | (simp; done) | (simp [*]; done)), H', ⟨by first | omega | exact Nat.le_refl _⟩, ⟨by (with_reducible repeat (first | refine blk_drewN ?_ _ | refine blk_drew ?_ | refine blk_alloc ?_ _)); exact BK312.out⟩, ⟨by (with_reducible repeat (first | refine blk_drewN ?_ _ | refine blk_drew ?_ | refine blk_alloc ?_ _)); exact BK313.out⟩, ⟨by (with_reducible repeat (first | refine blk_drewN ?_ _ | refine blk_drew ?_ | refine blk_alloc ?_ _)); exact BK314.out⟩, ⟨by (with_reducible repeat (first | refine blk_drewN ?_ _ | refine blk_drew ?_ | refine blk_alloc ?_ _)); exact BK315.out⟩, ⟨by repeat (first | (with_reducible first | exact HB.out | apply below_alloc | apply pw_below_drewN | apply below_drew1 | refine below_set ?_ GE312.out | refine below_set ?_ GE313.out | refine below_set ?_ GE314.out | refine below_set ?_ GE315.out) | exact HB.out)⟩⟩
  subst c16
  rw [if_pos rfl] at H
  replace H := bi H
  obtain ⟨t317, A170, H⟩ := H
  try dsimp only at H
  have A17 := ak A170
  clear A170
  by_cases c18 : t317 = true
  ·subst c18
   rw [if_pos rfl] at H
   have H' := ak H
   clear H
   have hnb19 := NB312_313.out
   have hnc19 := NB313_312.out
   have hnb20 := NB312_314.out
   have hnc20 := NB314_312.out
   have hnb21 := NB312_315.out
   have hnc21 := NB315_312.out
   have hcz22_0 : w10.cell? ⟨gb312, 0, none⟩ = some (.slice A0_0 l0_0.length c0_0) := (blk_cell BK312.out 0).trans rfl
   have hcz22_1 : w10.cell? ⟨gb312, 1, none⟩ = some (.slice A0_1 l0_1.length c0_1) := (blk_cell BK312.out 1).trans rfl
   have hfz22_0 := blk_frozen BK312.out 0
   have hfz22_1 := blk_frozen BK312.out 1
   go_wp2_with (first | ((with_reducible refine gate_callee (f := 33) rfl ?_); refine goesL_ (some 11) rfl rfl Try.func33 (by kernel_rfl) rfl #[.agg #[.slice A0_0 l0_0.length c0_0, .slice A0_1 l0_1.length c0_1]] rfl (by (try simp only [List.map_toArray, List.map_cons, List.map_nil]); first | done | rfl | (simp only [List.length_drop, List.length_take]; rfl)) ?_; (with_reducible refine (impl_ValidAlgebra.calls k _ _ l0_0 _ _ l0_1 true _ ?side1 ?side2 ?side3 ?side4 A15.out).mono ?_); (case side1 => exact Kd.C_below HR0_0.out (bB HB.out)); (case side2 => exact HC0_0.out); (case side3 => exact Kd.C_below HR0_1.out (bB HB.out)); (case side4 => exact HC0_1.out); rintro e w23 ⟨rfl, hb⟩; refine ⟨_, rfl, ?_⟩; replace BK312 := ak (blk_below (kK (blk_far BK312.out NB312_315.out _)) hb); replace BK313 := ak (blk_below (kK (blk_far BK313.out NB313_315.out _)) hb); replace BK314 := ak (blk_below (kK (blk_far BK314.out NB314_315.out _)) hb); replace BK315 := ak (blk_below (g := gb315) (o := .cells #[.int .i64 (l1_0.length : Int)] 3 (0, 0)) (by refine blk_put (cs := #[.int .i64 0]) ?_ 0 _ rfl; exact BK315.out) hb); replace HB := ak (below_step (bB HB.out) hb); (try clear hb); (try clear hb2); (try clear hk); (try clear hi); have hnb24 := NB313_314.out; have hnc24 := NB314_313.out; have hnb25 := NB313_315.out; have hnc25 := NB315_313.out; have hcz26_0 : w23.cell? ⟨gb313, 0, none⟩ = some (.slice A1_0 l1_0.length c1_0) := (blk_cell BK313.out 0).trans rfl; have hcz26_1 : w23.cell? ⟨gb313, 1, none⟩ = some (.slice A1_1 l1_1.length c1_1) := (blk_cell BK313.out 1).trans rfl; have hfz26_0 := blk_frozen BK313.out 0; have hfz26_1 := blk_frozen BK313.out 1) | (go_at_call 33; (with_reducible refine (impl_ValidAlgebra.calls k _ _ l1_0 _ _ l1_1 true _ ?side1 ?side2 ?side3 ?side4 A17.out).mono ?_); (case side1 => exact kC (Kd.C_below HR1_0.out HB.out)); (case side2 => exact HC1_0.out); (case side3 => exact kC (Kd.C_below HR1_1.out HB.out)); (case side4 => exact HC1_1.out); rintro e w27 ⟨rfl, hb⟩; replace BK312 := ak (blk_below (kK BK312.out) hb); replace BK313 := ak (blk_below (kK BK313.out) hb); replace BK314 := ak (blk_below (kK BK314.out) hb); replace BK315 := ak (blk_below (kK BK315.out) hb); replace HB := ak (below_step (bB HB.out) hb); (try clear hb); (try clear hb2); (try clear hk); (try clear hi); have hcz28_0 : w27.cell? ⟨gb312, 0, none⟩ = some (.slice A0_0 l0_0.length c0_0) := (blk_cell BK312.out 0).trans rfl; have hcz28_1 : w27.cell? ⟨gb312, 1, none⟩ = some (.slice A0_1 l0_1.length c0_1) := (blk_cell BK312.out 1).trans rfl; have hfz28_0 := blk_frozen BK312.out 0; have hfz28_1 := blk_frozen BK312.out 1; have hnb29 := NB315_314.out; have hnc29 := NB314_315.out; have hcz30_0 : w27.cell? ⟨gb315, 0, none⟩ = some (.int .i64 (l1_0.length : Int)) := (blk_cell BK315.out 0).trans rfl; have hfz30_0 := blk_frozen BK315.out 0))
   go_meet
   case rel => exact ⟨_, (decide ((wrap64 ((l0_0.length : Int) * (l1_0.length : Int))) > 6)), (by first | rfl | (simp; done) | (simp [*]; done)), H', ⟨by first | omega | exact Nat.le_refl _⟩, ⟨by (with_reducible repeat (first | refine blk_drewN ?_ _ | refine blk_drew ?_ | refine blk_alloc ?_ _)); exact BK312.out⟩, ⟨by (with_reducible repeat (first | refine blk_drewN ?_ _ | refine blk_drew ?_ | refine blk_alloc ?_ _)); exact BK313.out⟩, ⟨by (with_reducible repeat (first | refine blk_drewN ?_ _ | refine blk_drew ?_ | refine blk_alloc ?_ _)); exact BK314.out⟩, ⟨by (with_reducible repeat (first | refine blk_drewN ?_ _ | refine blk_drew ?_ | refine blk_alloc ?_ _)); exact BK315.out⟩, ⟨by repeat (first | (with_reducible first | exact HB.out | apply below_alloc | apply pw_below_drewN | apply below_drew1 | refine below_set ?_ GE312.out | refine below_set ?_ GE313.out | refine below_set ?_ GE314.out | refine below_set ?_ GE315.out) | exact HB.out)⟩⟩
  replace c18 := Bool.eq_false_iff.mpr c18
  subst c18
  rw [if_neg (show ¬ (false = true) by decide)] at H
  have H' := ak H
  clear H
  have hnb31 := NB312_313.out
  have hnc31 := NB313_312.out
  have hnb32 := NB312_314.out
  have hnc32 := NB314_312.out
  have hnb33 := NB312_315.out
  have hnc33 := NB315_312.out
  have hcz34_0 : w10.cell? ⟨gb312, 0, none⟩ = some (.slice A0_0 l0_0.length c0_0) := (blk_cell BK312.out 0).trans rfl
  have hcz34_1 : w10.cell? ⟨gb312, 1, none⟩ = some (.slice A0_1 l0_1.length c0_1) := (blk_cell BK312.out 1).trans rfl
  have hfz34_0 := blk_frozen BK312.out 0
  have hfz34_1 := blk_frozen BK312.out 1
  go_wp2_with (first | ((with_reducible refine gate_callee (f := 33) rfl ?_); refine goesL_ (some 11) rfl rfl Try.func33 (by kernel_rfl) rfl #[.agg #[.slice A0_0 l0_0.length c0_0, .slice A0_1 l0_1.length c0_1]] rfl (by (try simp only [List.map_toArray, List.map_cons, List.map_nil]); first | done | rfl | (simp only [List.length_drop, List.length_take]; rfl)) ?_; (with_reducible refine (impl_ValidAlgebra.calls k _ _ l0_0 _ _ l0_1 true _ ?side1 ?side2 ?side3 ?side4 A15.out).mono ?_); (case side1 => exact Kd.C_below HR0_0.out (bB HB.out)); (case side2 => exact HC0_0.out); (case side3 => exact Kd.C_below HR0_1.out (bB HB.out)); (case side4 => exact HC0_1.out); rintro e w35 ⟨rfl, hb⟩; refine ⟨_, rfl, ?_⟩; replace BK312 := ak (blk_below (kK (blk_far BK312.out NB312_315.out _)) hb); replace BK313 := ak (blk_below (kK (blk_far BK313.out NB313_315.out _)) hb); replace BK314 := ak (blk_below (kK (blk_far BK314.out NB314_315.out _)) hb); replace BK315 := ak (blk_below (g := gb315) (o := .cells #[.int .i64 (l1_0.length : Int)] 3 (0, 0)) (by refine blk_put (cs := #[.int .i64 0]) ?_ 0 _ rfl; exact BK315.out) hb); replace HB := ak (below_step (bB HB.out) hb); (try clear hb); (try clear hb2); (try clear hk); (try clear hi); have hnb36 := NB313_314.out; have hnc36 := NB314_313.out; have hnb37 := NB313_315.out; have hnc37 := NB315_313.out; have hcz38_0 : w35.cell? ⟨gb313, 0, none⟩ = some (.slice A1_0 l1_0.length c1_0) := (blk_cell BK313.out 0).trans rfl; have hcz38_1 : w35.cell? ⟨gb313, 1, none⟩ = some (.slice A1_1 l1_1.length c1_1) := (blk_cell BK313.out 1).trans rfl; have hfz38_0 := blk_frozen BK313.out 0; have hfz38_1 := blk_frozen BK313.out 1) | (go_at_call 33; (with_reducible refine (impl_ValidAlgebra.calls k _ _ l1_0 _ _ l1_1 false _ ?side1 ?side2 ?side3 ?side4 A17.out).mono ?_); (case side1 => exact kC (Kd.C_below HR1_0.out HB.out)); (case side2 => exact HC1_0.out); (case side3 => exact kC (Kd.C_below HR1_1.out HB.out)); (case side4 => exact HC1_1.out); rintro e w39 ⟨rfl, hb⟩; replace BK312 := ak (blk_below (kK BK312.out) hb); replace BK313 := ak (blk_below (kK BK313.out) hb); replace BK314 := ak (blk_below (kK BK314.out) hb); replace BK315 := ak (blk_below (kK BK315.out) hb); replace HB := ak (below_step (bB HB.out) hb); (try clear hb); (try clear hb2); (try clear hk); (try clear hi)))
  go_meet
  case rel => exact ⟨_, (true), (by first | rfl | (simp; done) | (simp [*]; done)), H', ⟨by first | omega | exact Nat.le_refl _⟩, ⟨by (with_reducible repeat (first | refine blk_drewN ?_ _ | refine blk_drew ?_ | refine blk_alloc ?_ _)); exact BK312.out⟩, ⟨by (with_reducible repeat (first | refine blk_drewN ?_ _ | refine blk_drew ?_ | refine blk_alloc ?_ _)); exact BK313.out⟩, ⟨by (with_reducible repeat (first | refine blk_drewN ?_ _ | refine blk_drew ?_ | refine blk_alloc ?_ _)); exact BK314.out⟩, ⟨by (with_reducible repeat (first | refine blk_drewN ?_ _ | refine blk_drew ?_ | refine blk_alloc ?_ _)); exact BK315.out⟩, ⟨by repeat (first | (with_reducible first | exact HB.out | apply below_alloc | apply pw_below_drewN | apply below_drew1 | refine below_set ?_ GE312.out | refine below_set ?_ GE313.out | refine below_set ?_ GE314.out | refine below_set ?_ GE315.out) | exact HB.out)⟩⟩
 case rest =>
  clear HC3
  try clear c1
  try clear c2
  try clear p2
  try clear c3
  try clear c4
  try clear p6
  try clear c7
  try clear c8
  try clear c11
  try clear c12
  try clear c13
  try clear c16
  try clear c18
  try clear c19
  try clear c20
  try clear c21
  try clear c24
  try clear c25
  try clear c26
  try clear c29
  try clear c31
  try clear c32
  try clear c33
  try clear c36
  try clear c37
  try clear c40
  try clear c41
  try clear c42
  try clear hcz14_0
  try clear hcz22_0
  try clear hcz22_1
  try clear hcz26_0
  try clear hcz26_1
  try clear hcz28_0
  try clear hcz28_1
  try clear hcz30_0
  try clear hcz34_0
  try clear hcz34_1
  try clear hcz38_0
  try clear hcz38_1
  try clear hcz43_0
  try clear hcz43_1
  try clear hcz9_0
  try clear hcz9_1
  try clear hfz14_0
  try clear hfz22_0
  try clear hfz22_1
  try clear hfz26_0
  try clear hfz26_1
  try clear hfz28_0
  try clear hfz28_1
  try clear hfz30_0
  try clear hfz34_0
  try clear hfz34_1
  try clear hfz38_0
  try clear hfz38_1
  try clear hfz43_0
  try clear hfz43_1
  try clear hfz9_0
  try clear hfz9_1
  obtain ⟨kq, x25_2, rfl, HA, HJ2, BK312, BK313, BK314, BK315, HB⟩ := hcut
  cases kq with
  | zero => exact absurd HA.out (by simp [impl_CrossAlgebras.j0])
  | succ kj2 =>
   have H := HA.out
   clear HA
   simp only [impl_CrossAlgebras.j0] at H
   by_cases c45 : x25_2 = true
   ·subst c45
    rw [if_pos rfl] at H
    simp only [Option.some.injEq, Prod.mk.injEq] at H
    obtain ⟨rfl, rfl, rfl⟩ := H
    have hnb46 := NB314_312.out
    have hnc46 := NB312_314.out
    have hnb47 := NB314_313.out
    have hnc47 := NB313_314.out
    have hnb48 := NB314_315.out
    have hnc48 := NB315_314.out
    have hcz49_0 : wc.cell? ⟨gb314, 0, none⟩ = some (.slice none 0 0) := (blk_cell BK314.out 0).trans rfl
    have hcz49_1 : wc.cell? ⟨gb314, 1, none⟩ = some (.slice none 0 0) := (blk_cell BK314.out 1).trans rfl
    have hfz49_0 := blk_frozen BK314.out 0
    have hfz49_1 := blk_frozen BK314.out 1
    go_wp2
    refine bodyPost_ret (results_ct rfl _ _ gb314 25 #[.slice none 0 0, .slice none 0 0] (0, 0) _ rfl (by (with_reducible repeat (first | refine blk_drewN ?_ _ | refine blk_drew ?_ | refine blk_alloc ?_ _)); refine blk_put (cs := #[.slice none 0 0, .slice none 0 0]) ?_ 1 _ rfl; (with_reducible repeat (first | refine blk_drewN ?_ _ | refine blk_drew ?_ | refine blk_alloc ?_ _)); refine blk_put (cs := #[.slice none 0 0, .slice none 0 0]) ?_ 0 _ rfl; (with_reducible repeat (first | refine blk_drewN ?_ _ | refine blk_drew ?_ | refine blk_alloc ?_ _)); exact BK314.out) Try.underlying25 rfl (by kernel_rfl)) rfl ?_
    exact ⟨_, _, by first | rfl | (simp [errW_none, errW_some] <;> rfl) | (simp [*, errW_none, errW_some] <;> rfl), by first | exact Kd.R_nil _ _ _ _ _ | exact Kd.N_nil _ _ _ _ _ | exact Kd.V_nil _ _ _ _ _ | exact Kd.Q_nil _ _ _ _ _ | exact Kd.S_nil _ _ _ _ _, by first | exact Kd.S_nil _ _ _ _ _ | exact Kd.N_nil _ _ _ _ _ | exact Kd.V_nil _ _ _ _ _ | exact Kd.Q_nil _ _ _ _ _ | exact Kd.R_nil _ _ _ _ _, by repeat (first | (with_reducible first | exact HB.out | apply below_alloc | apply pw_below_drewN | apply below_drew1 | refine below_set ?_ GE312.out | refine below_set ?_ GE313.out | refine below_set ?_ GE314.out | refine below_set ?_ GE315.out) | exact HB.out)⟩
   replace c45 := Bool.eq_false_iff.mpr c45
   subst c45
   rw [if_neg (show ¬ (false = true) by decide)] at H
   replace H := bi H
   obtain ⟨t318, A500, H⟩ := H
   try dsimp only at H
   have A50 := ak A500
   clear A500
   replace H := bi H
   obtain ⟨⟨t321, t324⟩, A510, H⟩ := H
   try dsimp only at H
   have A51 := ak A510
   clear A510
   replace H := bi H
   obtain ⟨⟨t327, t330, t333⟩, A520, H⟩ := H
   try dsimp only at H
   have A52 := ak A520
   clear A520
   simp only [Option.some.injEq, Prod.mk.injEq] at H
   obtain ⟨rfl, rfl, rfl⟩ := H
   have hnb53 := NB312_313.out
   have hnc53 := NB313_312.out
   have hnb54 := NB312_314.out
   have hnc54 := NB314_312.out
   have hnb55 := NB312_315.out
   have hnc55 := NB315_312.out
   have hcz56_0 : wc.cell? ⟨gb312, 0, none⟩ = some (.slice A0_0 l0_0.length c0_0) := (blk_cell BK312.out 0).trans rfl
   have hcz56_1 : wc.cell? ⟨gb312, 1, none⟩ = some (.slice A0_1 l0_1.length c0_1) := (blk_cell BK312.out 1).trans rfl
   have hfz56_0 := blk_frozen BK312.out 0
   have hfz56_1 := blk_frozen BK312.out 1
   have hnb57 := NB313_314.out
   have hnc57 := NB314_313.out
   have hnb58 := NB313_315.out
   have hnc58 := NB315_313.out
   have hcz59_0 : wc.cell? ⟨gb313, 0, none⟩ = some (.slice A1_0 l1_0.length c1_0) := (blk_cell BK313.out 0).trans rfl
   have hcz59_1 : wc.cell? ⟨gb313, 1, none⟩ = some (.slice A1_1 l1_1.length c1_1) := (blk_cell BK313.out 1).trans rfl
   have hfz59_0 := blk_frozen BK313.out 0
   have hfz59_1 := blk_frozen BK313.out 1
   go_wp2_with (first | ((with_reducible refine gate_callee (f := 73) rfl ?_); refine goesL_ (some 31) rfl rfl Try.func73 (by kernel_rfl) rfl #[.slice A0_0 l0_0.length c0_0, .slice A1_0 l1_0.length c1_0] rfl (by (try simp only [List.map_toArray, List.map_cons, List.map_nil]); first | done | rfl | (simp only [List.length_drop, List.length_take]; rfl)) ?_; (with_reducible refine (impl_cross.calls kj2 _ _ l0_0 _ _ l1_0 t318 _ ?side1 ?side2 ?side3 ?side4 A50.out).mono ?_); (case side1 => exact kC (Kd.C_below HR0_0.out HB.out)); (case side2 => exact HC0_0.out); (case side3 => exact kC (Kd.C_below HR1_0.out HB.out)); (case side4 => exact HC1_0.out); rintro e w60 ⟨v319, rfl, ho0, hb⟩; refine ⟨_, rfl, ?_⟩; have HO320 := ak (Kd.R_lower (Kd.R_newB ho0 (g := gb315) (o := .cells #[.int .i64 (l1_0.length : Int)] 3 (0, 0)) (kK BK315.out)) (below_size (bB HB.out))); replace BK312 := ak (blk_below (kK BK312.out) hb); replace BK313 := ak (blk_below (kK BK313.out) hb); replace BK314 := ak (blk_below (kK BK314.out) hb); replace BK315 := ak (blk_below (kK BK315.out) hb); replace HB := ak (below_step (bB HB.out) hb); (try clear hb); (try clear hb2); (try clear hk); (try clear hi); (try clear ho0); obtain ⟨Ao61, co61, eo61⟩ := Kd.R_slice HO320.out; subst eo61) | ((with_reducible refine gate_callee (f := 60) rfl ?_); refine goesL_ (some 33) rfl rfl Try.func60 (by kernel_rfl) rfl #[.slice Ao61 t318.length co61, .func (.func 74) #[] #[.pointer (some ⟨gb312, 0, none⟩), .pointer (some ⟨gb315, 0, none⟩), .pointer (some ⟨gb313, 0, none⟩)]] rfl (by (try simp only [List.map_toArray, List.map_cons, List.map_nil]); first | done | rfl | (simp only [List.length_drop, List.length_take]; rfl)) ?_; (with_reducible refine (bu_CrossAlgebras_1.calls kj2 _ _ t318 gb312 A0_0 c0_0 l0_0 A0_1 c0_1 l0_1 gb315 (l1_0.length : Int) gb313 A1_0 c1_0 l1_0 A1_1 c1_1 l1_1 t321 t324 _ ?side1 ?side2 ?side3 ?side4 ?side5 ?side6 ?side7 ?side8 ?side9 ?side10 ?side11 ?side12 ?side13 A51.out).mono ?_); (case side1 => exact kC (Kd.R_reads' HO320.out).2.2); (case side2 => exact (Kd.R_reads' HO320.out).2.1); (case side3 => exact kC (Kd.C_below HR0_0.out HB.out)); (case side4 => exact HC0_0.out); (case side5 => exact kC (Kd.C_below HR0_1.out HB.out)); (case side6 => exact HC0_1.out); (case side7 => exact kC (Kd.C_below HR1_0.out HB.out)); (case side8 => exact HC1_0.out); (case side9 => exact kC (Kd.C_below HR1_1.out HB.out)); (case side10 => exact HC1_1.out); (case side11 => exact (show _ from by (with_reducible repeat (first | refine blk_drewN ?_ _ | refine blk_drew ?_ | refine blk_alloc ?_ _)); exact BK312.out)); (case side12 => exact (show _ from by (with_reducible repeat (first | refine blk_drewN ?_ _ | refine blk_drew ?_ | refine blk_alloc ?_ _)); exact BK315.out)); (case side13 => exact (show _ from by (with_reducible repeat (first | refine blk_drewN ?_ _ | refine blk_drew ?_ | refine blk_alloc ?_ _)); exact BK313.out)); rintro e w62 ⟨v322, v325, rfl, ho0, ho1, hb⟩; refine ⟨_, rfl, ?_⟩; have HO323 := ak (Kd.R_lower (Kd.R_newB (Kd.R_new' ho0 (Kd.R_lt (kR HO320.out))) (g := gb315) (o := .cells #[.int .i64 (l1_0.length : Int)] 3 (0, 0)) (kK BK315.out)) (below_size (bB HB.out))); have HO326 := ak (Kd.S_lower (Kd.S_newB (Kd.S_new' ho1 (Kd.R_lt (kR HO320.out))) (g := gb315) (o := .cells #[.int .i64 (l1_0.length : Int)] 3 (0, 0)) (kK BK315.out)) (below_size (bB HB.out))); replace HO320 := ak (Kd.R_elder' (kR HO320.out) (Kd.R_base ho0) hb); replace BK312 := ak (blk_below (kK BK312.out) hb); replace BK313 := ak (blk_below (kK BK313.out) hb); replace BK314 := ak (blk_below (kK BK314.out) hb); replace BK315 := ak (blk_below (kK BK315.out) hb); replace HB := ak (below_step (bB HB.out) hb); (try clear hb); (try clear hb2); (try clear hk); (try clear hi); (try clear ho0); (try clear ho1); obtain ⟨Ao63, co63, eo63⟩ := Kd.R_slice HO323.out; subst eo63; obtain ⟨Ao64, co64, eo64⟩ := Kd.S_slice HO326.out; subst eo64) | ((with_reducible refine gate_callee (f := 59) rfl ?_); refine goesL_ (some 34) rfl rfl Try.func59 (by kernel_rfl) rfl #[.agg #[.slice Ao63 t321.length co63, .slice Ao64 t324.length co64]] rfl (by (try simp only [List.map_toArray, List.map_cons, List.map_nil]); first | done | rfl | (simp only [List.length_drop, List.length_take]; rfl)) ?_; (with_reducible refine (impl_algebraOr.calls kj2 _ _ t321 _ _ t324 t327 t330 t333 _ ?side1 ?side2 ?side3 ?side4 A52.out).mono ?_); (case side1 => exact kC (Kd.R_reads' HO323.out).2.2); (case side2 => exact (Kd.R_reads' HO323.out).2.1); (case side3 => exact kC (Kd.S_reads' HO326.out).2.2); (case side4 => exact (Kd.S_reads' HO326.out).2.1); rintro e w65 ⟨v328, v331, rfl, ho0, ho1, hb⟩; refine ⟨_, rfl, ?_⟩; have HO329 := ak (Kd.R_lower (Kd.R_newB (Kd.R_new' (Kd.R_new' ho0 (Kd.R_lt (kR HO320.out))) (Kd.R_lt (kR HO323.out))) (g := gb315) (o := .cells #[.int .i64 (l1_0.length : Int)] 3 (0, 0)) (kK BK315.out)) (below_size (bB HB.out))); have HO332 := ak (Kd.S_lower (Kd.S_newB (Kd.S_new' (Kd.S_new' (Kd.S_new' ho1 (Kd.R_lt (kR HO320.out))) (Kd.R_lt (kR HO323.out))) (Kd.S_lt (kS HO326.out))) (g := gb315) (o := .cells #[.int .i64 (l1_0.length : Int)] 3 (0, 0)) (kK BK315.out)) (below_size (bB HB.out))); replace HO320 := ak (Kd.R_elder' (kR HO320.out) (Kd.R_base ho0) hb); replace HO323 := ak (Kd.R_elder' (kR HO323.out) (Kd.R_base ho0) hb); replace HO326 := ak (Kd.S_mono (Kd.S_told (Kd.S_told (Kd.S_old (kS HO326.out) hb) (Kd.R_base ho0)) (Kd.S_base ho1)) (fun _ h_ => h_.1)); replace BK312 := ak (blk_below (kK BK312.out) hb); replace BK313 := ak (blk_below (kK BK313.out) hb); replace BK314 := ak (blk_below (kK BK314.out) hb); replace BK315 := ak (blk_below (kK BK315.out) hb); replace HB := ak (below_step (bB HB.out) hb); (try clear hb); (try clear hb2); (try clear hk); (try clear hi); (try clear ho0); (try clear ho1); obtain ⟨Ao66, co66, eo66⟩ := Kd.R_slice HO329.out; subst eo66; have hnb67 := NB314_315.out; have hnc67 := NB315_314.out; have hcz68_0 : w65.cell? ⟨gb314, 0, none⟩ = some (.slice none 0 0) := (blk_cell BK314.out 0).trans rfl; have hcz68_1 : w65.cell? ⟨gb314, 1, none⟩ = some (.slice none 0 0) := (blk_cell BK314.out 1).trans rfl; have hfz68_0 := blk_frozen BK314.out 0; have hfz68_1 := blk_frozen BK314.out 1; obtain ⟨Ao69, co69, eo69⟩ := Kd.S_slice HO332.out; subst eo69))
   refine bodyPost_ret (results_ct rfl _ _ gb314 25 #[.slice Ao66 t327.length co66, .slice Ao69 t330.length co69] (0, 0) _ rfl (by (with_reducible repeat (first | refine blk_drewN ?_ _ | refine blk_drew ?_ | refine blk_alloc ?_ _)); refine blk_put (cs := #[.slice Ao66 t327.length co66, .slice none 0 0]) ?_ 1 _ rfl; (with_reducible repeat (first | refine blk_drewN ?_ _ | refine blk_drew ?_ | refine blk_alloc ?_ _)); refine blk_put (cs := #[.slice none 0 0, .slice none 0 0]) ?_ 0 _ rfl; (with_reducible repeat (first | refine blk_drewN ?_ _ | refine blk_drew ?_ | refine blk_alloc ?_ _)); exact BK314.out) Try.underlying25 rfl (by kernel_rfl)) rfl ?_
   exact ⟨_, _, by first | rfl | (simp [errW_none, errW_some] <;> rfl) | (simp [*, errW_none, errW_some] <;> rfl), by (with_reducible repeat (first | apply Kd.R_alloc | apply Kd.R_drewN | apply Kd.R_drew)); exact Kd.R_mono (Kd.R_far (p := ⟨gb314, 1, none⟩) (Kd.R_far (p := ⟨gb314, 0, none⟩) (Kd.R_types HO329.out BK314.out (by decide)) (fun _ hk => hk.2) (.slice Ao66 t327.length co66)) (fun _ hk => hk.2) (.slice Ao69 t330.length co69)) (fun _ hk => trivial), by (with_reducible repeat (first | apply Kd.S_alloc | apply Kd.S_drewN | apply Kd.S_drew)); exact Kd.S_mono (Kd.S_far (p := ⟨gb314, 1, none⟩) (Kd.S_far (p := ⟨gb314, 0, none⟩) (Kd.S_types HO332.out BK314.out (by decide)) (fun _ hk => hk.2) (.slice Ao66 t327.length co66)) (fun _ hk => hk.2) (.slice Ao69 t330.length co69)) (fun _ hk => hk.1.1.1.1.1), by repeat (first | (with_reducible first | exact HB.out | apply below_alloc | apply pw_below_drewN | apply below_drew1 | refine below_set ?_ GE312.out | refine below_set ?_ GE313.out | refine below_set ?_ GE314.out | refine below_set ?_ GE315.out) | exact HB.out)⟩
end Go.Proofs.Ytjidbgmkhapklaa.P

-- shrunk
