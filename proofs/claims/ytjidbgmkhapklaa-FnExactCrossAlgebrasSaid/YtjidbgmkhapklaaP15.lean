-- Printed by this session's wip/print2.py (the kit's print.py, widened) out of the translation. Lean checks it.
import Derived.Test.YtjidbgmkhapklaaP0
import Derived.Test.YtjidbgmkhapklaaP13
import Derived.Test.YtjidbgmkhapklaaP14
namespace Go.Proofs.Ytjidbgmkhapklaa.P
open Go.RowKit Go.Proofs.YtjidbgmkhapklaaW.PrintWords Go.Proofs.YtjidbgmkhapklaaW.PrintLast Go.Proofs.YtjidbgmkhapklaaW.PrintMore
attribute [local go_sem] max2_int min2_int max_two min_two max_three min_three max_four min_four   -- for this text's walks alone
set_option linter.unusedVariables false
set_option linter.unusedSimpArgs false

/-! ### spec_CrossAlgebras: function 24 -/
mutual
def spec_CrossAlgebras.j0 : Nat → Bool → List Int → List (List Int) → List Int → List (List Int) → Option (List Int × (List (List Int)) × Bool)
 | 0, _, _, _, _, _ => none
 | k + 1, x28, x190000, x190001, x191000, x191001 => if x28 = true then (some (([] : List Int), ([] : List (List Int)), false)) else ((spec_cross.f k x190000 x191000).bind fun t194 => (spec_CrossAlgebras.l0 k (x191000.length : Int) 0 x190000 x190001 x191000 x191001 t194 ([] : List (List Int))))
def spec_CrossAlgebras.l0 : Nat → Int → Int → List Int → List (List Int) → List Int → List (List Int) → List Int → List (List Int) → Option (List Int × (List (List Int)) × Bool)
 | 0, _, _, _, _, _, _, _, _ => none
 | k + 1, x7, x8, x190000, x190001, x191000, x191001, x198000, x198001 => if x8 < (x198000.length : Int) then (spec_CrossAlgebras.l1 k x7 x8 (([] : List Int)) 0 x190000 x190001 x191000 x191001 x198000 x198001) else (some (x198000, x198001, true))
def spec_CrossAlgebras.l1 : Nat → Int → Int → List Int → Int → List Int → List (List Int) → List Int → List (List Int) → List Int → List (List Int) → Option (List Int × (List (List Int)) × Bool)
 | 0, _, _, _, _, _, _, _, _, _, _ => none
 | k + 1, x7, x8, x9, x10, x190000, x190001, x191000, x191001, x198000, x198001 => if x10 < (x198000.length : Int) then (if x7 = 0 then (none) else (if 0 ≤ (wrap64 (Int.tdiv x8 x7)) then (if (wrap64 (Int.tdiv x8 x7)) < (x190001.length : Int) then (if 0 ≤ (wrap64 (Int.tdiv x10 x7)) then (if (wrap64 (Int.tdiv x10 x7)) < ((rd_L1 x190001 (wrap64 (Int.tdiv x8 x7))).length : Int) then (if 0 ≤ (Int.tmod x8 x7) then (if (Int.tmod x8 x7) < (x191001.length : Int) then (if 0 ≤ (Int.tmod x10 x7) then (if (Int.tmod x10 x7) < ((rd_L1 x191001 (Int.tmod x8 x7)).length : Int) then (if x9.length < 17592186044416 then (spec_CrossAlgebras.l1 k x7 x8 (x9 ++ [wrap64 ((wrap64 ((rd (rd_L1 x190001 (wrap64 (Int.tdiv x8 x7))) (wrap64 (Int.tdiv x10 x7))) * x7)) + (rd (rd_L1 x191001 (Int.tmod x8 x7)) (Int.tmod x10 x7)))]) (wrap64 (x10 + 1)) x190000 x190001 x191000 x191001 x198000 x198001) else (none)) else (none)) else (none)) else (none)) else (none)) else (none)) else (none)) else (none)) else (none))) else (if x198001.length < 5864062014805 then (spec_CrossAlgebras.l0 k x7 (wrap64 (x8 + 1)) x190000 x190001 x191000 x191001 x198000 (x198001 ++ [x9])) else (none))
end
def spec_CrossAlgebras.f (k : Nat) (l0_0 : List Int) (l0_1 : List (List Int)) (l1_0 : List Int) (l1_1 : List (List Int)) : Option (List Int × (List (List Int)) × Bool) := (spec_validAlgebra.f k l0_0 l0_1).bind fun t192 => (if t192 = true then ((spec_validAlgebra.f k l1_0 l1_1).bind fun t193 => (if t193 = true then (spec_CrossAlgebras.j0 k (decide ((wrap64 ((l0_0.length : Int) * (l1_0.length : Int))) > 6)) l0_0 l0_1 l1_0 l1_1) else (spec_CrossAlgebras.j0 k true l0_0 l0_1 l1_0 l1_1))) else (spec_CrossAlgebras.j0 k true l0_0 l0_1 l1_0 l1_1))
def spec_CrossAlgebras.T12 : Bool × List (List Nat × List Nat) := (true, [([], []), ([], []), ([1], [1]), ([], []), ([], []), ([3, 4], [3, 4]), ([2, 5], [2, 5]), ([6], [6]), ([], []), ([], []), ([8, 9], [8, 9]), ([7, 10], [7, 10]), ([11], [11]), ([], []), ([12, 13], [12, 13]), ([], []), ([15], [15]), ([], []), ([], []), ([17, 18], [17, 18]), ([16, 19], [16, 19]), ([20], [20]), ([], []), ([], []), ([22, 23], [22, 23]), ([21, 24], [21, 24]), ([25], [25]), ([14, 26], [14, 26]), ([27], [27]), ([0, 28], [0, 28]), ([29, 29, 0, 1, 2, 3, 4, 5, 6, 7, 8, 9, 10, 11, 12, 13, 14, 15, 16, 17, 18, 19, 20, 21, 22, 23, 24, 25, 26, 27, 28, 29], [0, 29])])
def spec_CrossAlgebras.B12 : List Nat := [0, 0, 2, 0, 0, 24, 62, 126, 0, 0, 768, 2046, 4094, 0, 16382, 0, 32768, 0, 0, 393216, 1015808, 2064384, 0, 0, 12582912, 33521664, 67076096, 134217726, 268435454, 536870911, 1073741823]
theorem spec_CrossAlgebras.tab12 : rtab .any (opsOf Try.f24 12) = spec_CrossAlgebras.T12 := by kernel_rfl
theorem spec_CrossAlgebras.bits12 : waitsOk spec_CrossAlgebras.T12.2 spec_CrossAlgebras.B12 = true := by kernel_rfl
set_option maxHeartbeats 8000000 in
set_option maxRecDepth 100000 in
theorem spec_CrossAlgebras.calls (k : Nat) (A0_0 : Option Addr) (c0_0 : Nat) (l0_0 : List Int) (A0_1 : Option Addr) (c0_1 : Nat) (l0_1 : List (List Int)) (A1_0 : Option Addr) (c1_0 : Nat) (l1_0 : List Int) (A1_1 : Option Addr) (c1_1 : Nat) (l1_1 : List (List Int)) (r1 : List Int) (r2 : List (List Int)) (r3 : Bool) (w : World) (hr0_0 : Kd.C (Kd.int .i64) w A0_0 l0_0.length l0_0) (hc0_0 : l0_0.length ≤ c0_0) (hr0_1 : Kd.C (Kd.slice 3 (Kd.int .i64)) w A0_1 l0_1.length l0_1) (hc0_1 : l0_1.length ≤ c0_1) (hr1_0 : Kd.C (Kd.int .i64) w A1_0 l1_0.length l1_0) (hc1_0 : l1_0.length ≤ c1_0) (hr1_1 : Kd.C (Kd.slice 3 (Kd.int .i64)) w A1_1 l1_1.length l1_1) (hc1_1 : l1_1.length ≤ c1_1) (h : spec_CrossAlgebras.f k l0_0 l0_1 l1_0 l1_1 = some (r1, r2, r3)) :
  Calls Try.prog 24 #[.agg #[.slice A0_0 l0_0.length c0_0, .slice A0_1 l0_1.length c0_1], .agg #[.slice A1_0 l1_0.length c1_0, .slice A1_1 l1_1.length c1_1]] w fun e w' => ∃ v0_ v1_ : Value, e = .returned (.tuple #[.agg #[v0_, v1_], .bool r3]) ∧ Kd.R (Kd.int .i64) 3 w' w.heap.size (fun _ => True) v0_ r1 ∧ Kd.S (Kd.slice 3 (Kd.int .i64)) 22 w' w.heap.size (fun k_ => some k_ ≠ (v0_ : Value).ownBlock) v1_ r2 ∧ Below w.heap.size w w' := by
 have hu25 := Try.underlying25
 have HR0_0 := ak hr0_0
 have HC0_0 := ak hc0_0
 clear hr0_0 hc0_0
 have HR0_1 := ak hr0_1
 have HC0_1 := ak hc0_1
 clear hr0_1 hc0_1
 have HR1_0 := ak hr1_0
 have HC1_0 := ak hc1_0
 clear hr1_0 hc1_0
 have HR1_1 := ak hr1_1
 have HC1_1 := ak hc1_1
 clear hr1_1 hc1_1
 have HB := ak (Below.refl w.heap.size w)
 have H : ((spec_validAlgebra.f k l0_0 l0_1).bind fun t192 => (if t192 = true then ((spec_validAlgebra.f k l1_0 l1_1).bind fun t193 => (if t193 = true then (spec_CrossAlgebras.j0 k (decide ((wrap64 ((l0_0.length : Int) * (l1_0.length : Int))) > 6)) l0_0 l0_1 l1_0 l1_1) else (spec_CrossAlgebras.j0 k true l0_0 l0_1 l1_0 l1_1))) else (spec_CrossAlgebras.j0 k true l0_0 l0_1 l1_0 l1_1))) = some (r1, r2, r3) := h
 clear h
 have HC3 := ak H
 clear H
 go_enter Try.func24, Try.ntmps24
 go_upto_region 1 with (first | ((with_reducible refine gate_dst (N := 2) rfl ?_); (try (refine gate_guard (by rfl) ?_; dsimp only)); refine box_event ?hg (N := 2) ?hd (cs := #[.slice A0_0 l0_0.length c0_0, .slice A0_1 l0_1.length c0_1]) (t := 25) ?hr ?_; (case hd => rfl); (case hg => rfl); (case hr => first | (go_simp; done) | (go_simp; rfl)); intro gb189 hg w4 hbox hb; have BK189 := ak (hbox); have GW189 := ak ((by rw [hg]; exact (below_size (bB HB.out)) : w.heap.size ≤ gb189)); have GE189 := ak ((by rw [hg]; exact (below_size (bB HB.out)) : w.heap.size ≤ gb189)); replace HB := ak (below_step (bB HB.out) hb); clear hb hbox hg) | ((with_reducible refine gate_dst (N := 3) rfl ?_); (try (refine gate_guard (by rfl) ?_; dsimp only)); refine box_event ?hg (N := 3) ?hd (cs := #[.slice A1_0 l1_0.length c1_0, .slice A1_1 l1_1.length c1_1]) (t := 25) ?hr ?_; (case hd => rfl); (case hg => rfl); (case hr => first | (go_simp; done) | (go_simp; rfl)); intro gb190 hg w5 hbox hb; have BK190 := ak (hbox); have GW190 := ak ((by rw [hg]; exact (below_size (bB HB.out)) : w.heap.size ≤ gb190)); have GE190 := ak ((by rw [hg]; exact (below_size (bB HB.out)) : w.heap.size ≤ gb190)); replace HB := ak (below_step (bB HB.out) hb); have NB189_190 := ak ((ne_box hg (kK BK189.out))); have NB190_189 := ak ((ne_box' hg (kK BK189.out))); replace BK189 := ak (blk_below (kK BK189.out) hb); clear hb hbox hg) | ((with_reducible refine gate_dst (N := 4) rfl ?_); (try (refine gate_guard (by rfl) ?_; dsimp only)); refine box_event ?hg (N := 4) ?hd (cs := #[.slice none 0 0, .slice none 0 0]) (t := 25) ?hr ?_; (case hd => rfl); (case hg => rfl); (case hr => first | (go_simp; done) | (go_simp; rfl)); intro gb191 hg w6 hbox hb; have BK191 := ak (hbox); have GW191 := ak ((by rw [hg]; exact (below_size (bB HB.out)) : w.heap.size ≤ gb191)); have GE191 := ak ((by rw [hg]; exact (below_size (bB HB.out)) : w.heap.size ≤ gb191)); replace HB := ak (below_step (bB HB.out) hb); have NB189_191 := ak ((ne_box hg (kK BK189.out))); have NB191_189 := ak ((ne_box' hg (kK BK189.out))); replace BK189 := ak (blk_below (kK BK189.out) hb); have NB190_191 := ak ((ne_box hg (kK BK190.out))); have NB191_190 := ak ((ne_box' hg (kK BK190.out))); replace BK190 := ak (blk_below (kK BK190.out) hb); clear hb hbox hg))
 (try simp only [Act.put, List.setIfInBounds_toArray, List.set_cons_zero, List.set_cons_succ])
 go_cut [28] (fun v28 wc => ∃ (kq : Nat) (x28_2 : Bool), v28 = .bool x28_2 ∧ Aside0 (spec_CrossAlgebras.j0 kq x28_2 l0_0 l0_1 l1_0 l1_1 = some (r1, r2, r3)) ∧ Aside0 (kq ≤ k) ∧ Aside0 (wc.heap[gb189]? = some (.cells #[(.slice A0_0 l0_0.length c0_0), (.slice A0_1 l0_1.length c0_1)] 25 (0, 0))) ∧ Aside0 (wc.heap[gb190]? = some (.cells #[(.slice A1_0 l1_0.length c1_0), (.slice A1_1 l1_1.length c1_1)] 25 (0, 0))) ∧ Aside0 (wc.heap[gb191]? = some (.cells #[(.slice none 0 0), (.slice none 0 0)] 25 (0, 0))) ∧ Aside0 (Below w.heap.size w wc))
 case first =>
  have H := HC3.out
  clear HC3
  replace H := bi H
  obtain ⟨t192, A70, H⟩ := H
  try dsimp only at H
  have A7 := ak A70
  clear A70
  by_cases c8 : t192 = true
  rotate_left
  ·replace c8 := Bool.eq_false_iff.mpr c8
   subst c8
   rw [if_neg (show ¬ (false = true) by decide)] at H
   have H' := ak H
   clear H
   have hnb27 := NB189_190.out
   have hnc27 := NB190_189.out
   have hnb28 := NB189_191.out
   have hnc28 := NB191_189.out
   have hcz29_0 : w6.cell? ⟨gb189, 0, none⟩ = some (.slice A0_0 l0_0.length c0_0) := (blk_cell BK189.out 0).trans rfl
   have hcz29_1 : w6.cell? ⟨gb189, 1, none⟩ = some (.slice A0_1 l0_1.length c0_1) := (blk_cell BK189.out 1).trans rfl
   have hfz29_0 := blk_frozen BK189.out 0
   have hfz29_1 := blk_frozen BK189.out 1
   go_wp2_with (first | ((with_reducible refine gate_callee (f := 70) rfl ?_); refine goesL_ (some 12) rfl rfl Try.func70 (by kernel_rfl) rfl #[.agg #[.slice A0_0 l0_0.length c0_0, .slice A0_1 l0_1.length c0_1]] rfl (by (try simp only [List.map_toArray, List.map_cons, List.map_nil]); first | done | rfl | (simp only [List.length_drop, List.length_take]; rfl)) ?_; (with_reducible refine (spec_validAlgebra.calls k _ _ l0_0 _ _ l0_1 false _ ?side1 ?side2 ?side3 ?side4 A7.out).mono ?_); (case side1 => exact kC (Kd.C_below HR0_0.out HB.out)); (case side2 => exact HC0_0.out); (case side3 => exact kC (Kd.C_below HR0_1.out HB.out)); (case side4 => exact HC0_1.out); rintro e w30 ⟨rfl, hb⟩; refine ⟨_, rfl, ?_⟩; replace BK189 := ak (blk_below (kK BK189.out) hb); replace BK190 := ak (blk_below (kK BK190.out) hb); replace BK191 := ak (blk_below (kK BK191.out) hb); replace HB := ak (below_step (bB HB.out) hb); (try clear hb); (try clear hb2); (try clear hk); (try clear hi)))
   go_meet
   case rel => exact ⟨_, (true), (by first | rfl | (simp; done) | (simp [*]; done)), H', ⟨by first | omega | exact Nat.le_refl _⟩, ⟨by (with_reducible repeat (first | refine blk_drewN ?_ _ | refine blk_drew ?_ | refine blk_alloc ?_ _)); exact BK189.out⟩, ⟨by (with_reducible repeat (first | refine blk_drewN ?_ _ | refine blk_drew ?_ | refine blk_alloc ?_ _)); exact BK190.out⟩, ⟨by (with_reducible repeat (first | refine blk_drewN ?_ _ | refine blk_drew ?_ | refine blk_alloc ?_ _)); exact BK191.out⟩, ⟨by repeat (first | (with_reducible first | exact HB.out | apply below_alloc | apply pw_below_drewN | apply below_drew1 | refine below_set ?_ GE189.out | refine below_set ?_ GE190.out | refine below_set ?_ GE191.out) | exact HB.out)⟩⟩
  subst c8
  rw [if_pos rfl] at H
  replace H := bi H
  obtain ⟨t193, A90, H⟩ := H
  try dsimp only at H
  have A9 := ak A90
  clear A90
  by_cases c10 : t193 = true
  ·subst c10
   rw [if_pos rfl] at H
   have H' := ak H
   clear H
   have hnb11 := NB189_190.out
   have hnc11 := NB190_189.out
   have hnb12 := NB189_191.out
   have hnc12 := NB191_189.out
   have hcz13_0 : w6.cell? ⟨gb189, 0, none⟩ = some (.slice A0_0 l0_0.length c0_0) := (blk_cell BK189.out 0).trans rfl
   have hcz13_1 : w6.cell? ⟨gb189, 1, none⟩ = some (.slice A0_1 l0_1.length c0_1) := (blk_cell BK189.out 1).trans rfl
   have hfz13_0 := blk_frozen BK189.out 0
   have hfz13_1 := blk_frozen BK189.out 1
   go_wp2_with (first | ((with_reducible refine gate_callee (f := 70) rfl ?_); refine goesL_ (some 12) rfl rfl Try.func70 (by kernel_rfl) rfl #[.agg #[.slice A0_0 l0_0.length c0_0, .slice A0_1 l0_1.length c0_1]] rfl (by (try simp only [List.map_toArray, List.map_cons, List.map_nil]); first | done | rfl | (simp only [List.length_drop, List.length_take]; rfl)) ?_; (with_reducible refine (spec_validAlgebra.calls k _ _ l0_0 _ _ l0_1 true _ ?side1 ?side2 ?side3 ?side4 A7.out).mono ?_); (case side1 => exact kC (Kd.C_below HR0_0.out HB.out)); (case side2 => exact HC0_0.out); (case side3 => exact kC (Kd.C_below HR0_1.out HB.out)); (case side4 => exact HC0_1.out); rintro e w14 ⟨rfl, hb⟩; refine ⟨_, rfl, ?_⟩; replace BK189 := ak (blk_below (kK BK189.out) hb); replace BK190 := ak (blk_below (kK BK190.out) hb); replace BK191 := ak (blk_below (kK BK191.out) hb); replace HB := ak (below_step (bB HB.out) hb); (try clear hb); (try clear hb2); (try clear hk); (try clear hi); have hnb15 := NB190_191.out; have hnc15 := NB191_190.out; have hcz16_0 : w14.cell? ⟨gb190, 0, none⟩ = some (.slice A1_0 l1_0.length c1_0) := (blk_cell BK190.out 0).trans rfl; have hcz16_1 : w14.cell? ⟨gb190, 1, none⟩ = some (.slice A1_1 l1_1.length c1_1) := (blk_cell BK190.out 1).trans rfl; have hfz16_0 := blk_frozen BK190.out 0; have hfz16_1 := blk_frozen BK190.out 1) | (go_at_call 70; (with_reducible refine (spec_validAlgebra.calls k _ _ l1_0 _ _ l1_1 true _ ?side1 ?side2 ?side3 ?side4 A9.out).mono ?_); (case side1 => exact kC (Kd.C_below HR1_0.out HB.out)); (case side2 => exact HC1_0.out); (case side3 => exact kC (Kd.C_below HR1_1.out HB.out)); (case side4 => exact HC1_1.out); rintro e w17 ⟨rfl, hb⟩; replace BK189 := ak (blk_below (kK BK189.out) hb); replace BK190 := ak (blk_below (kK BK190.out) hb); replace BK191 := ak (blk_below (kK BK191.out) hb); replace HB := ak (below_step (bB HB.out) hb); (try clear hb); (try clear hb2); (try clear hk); (try clear hi); have hcz18_0 : w17.cell? ⟨gb189, 0, none⟩ = some (.slice A0_0 l0_0.length c0_0) := (blk_cell BK189.out 0).trans rfl; have hcz18_1 : w17.cell? ⟨gb189, 1, none⟩ = some (.slice A0_1 l0_1.length c0_1) := (blk_cell BK189.out 1).trans rfl; have hfz18_0 := blk_frozen BK189.out 0; have hfz18_1 := blk_frozen BK189.out 1; have hcz19_0 : w17.cell? ⟨gb190, 0, none⟩ = some (.slice A1_0 l1_0.length c1_0) := (blk_cell BK190.out 0).trans rfl; have hcz19_1 : w17.cell? ⟨gb190, 1, none⟩ = some (.slice A1_1 l1_1.length c1_1) := (blk_cell BK190.out 1).trans rfl; have hfz19_0 := blk_frozen BK190.out 0; have hfz19_1 := blk_frozen BK190.out 1))
   go_meet
   case rel => exact ⟨_, (decide ((wrap64 ((l0_0.length : Int) * (l1_0.length : Int))) > 6)), (by first | rfl | (simp; done) | (simp [*]; done)), H', ⟨by first | omega | exact Nat.le_refl _⟩, ⟨by (with_reducible repeat (first | refine blk_drewN ?_ _ | refine blk_drew ?_ | refine blk_alloc ?_ _)); exact BK189.out⟩, ⟨by (with_reducible repeat (first | refine blk_drewN ?_ _ | refine blk_drew ?_ | refine blk_alloc ?_ _)); exact BK190.out⟩, ⟨by (with_reducible repeat (first | refine blk_drewN ?_ _ | refine blk_drew ?_ | refine blk_alloc ?_ _)); exact BK191.out⟩, ⟨by repeat (first | (with_reducible first | exact HB.out | apply below_alloc | apply pw_below_drewN | apply below_drew1 | refine below_set ?_ GE189.out | refine below_set ?_ GE190.out | refine below_set ?_ GE191.out) | exact HB.out)⟩⟩
  replace c10 := Bool.eq_false_iff.mpr c10
  subst c10
  rw [if_neg (show ¬ (false = true) by decide)] at H
  have H' := ak H
  clear H
  have hnb20 := NB189_190.out
  have hnc20 := NB190_189.out
  have hnb21 := NB189_191.out
  have hnc21 := NB191_189.out
  have hcz22_0 : w6.cell? ⟨gb189, 0, none⟩ = some (.slice A0_0 l0_0.length c0_0) := (blk_cell BK189.out 0).trans rfl
  have hcz22_1 : w6.cell? ⟨gb189, 1, none⟩ = some (.slice A0_1 l0_1.length c0_1) := (blk_cell BK189.out 1).trans rfl
  have hfz22_0 := blk_frozen BK189.out 0
  have hfz22_1 := blk_frozen BK189.out 1
  go_wp2_with (first | ((with_reducible refine gate_callee (f := 70) rfl ?_); refine goesL_ (some 12) rfl rfl Try.func70 (by kernel_rfl) rfl #[.agg #[.slice A0_0 l0_0.length c0_0, .slice A0_1 l0_1.length c0_1]] rfl (by (try simp only [List.map_toArray, List.map_cons, List.map_nil]); first | done | rfl | (simp only [List.length_drop, List.length_take]; rfl)) ?_; (with_reducible refine (spec_validAlgebra.calls k _ _ l0_0 _ _ l0_1 true _ ?side1 ?side2 ?side3 ?side4 A7.out).mono ?_); (case side1 => exact kC (Kd.C_below HR0_0.out HB.out)); (case side2 => exact HC0_0.out); (case side3 => exact kC (Kd.C_below HR0_1.out HB.out)); (case side4 => exact HC0_1.out); rintro e w23 ⟨rfl, hb⟩; refine ⟨_, rfl, ?_⟩; replace BK189 := ak (blk_below (kK BK189.out) hb); replace BK190 := ak (blk_below (kK BK190.out) hb); replace BK191 := ak (blk_below (kK BK191.out) hb); replace HB := ak (below_step (bB HB.out) hb); (try clear hb); (try clear hb2); (try clear hk); (try clear hi); have hnb24 := NB190_191.out; have hnc24 := NB191_190.out; have hcz25_0 : w23.cell? ⟨gb190, 0, none⟩ = some (.slice A1_0 l1_0.length c1_0) := (blk_cell BK190.out 0).trans rfl; have hcz25_1 : w23.cell? ⟨gb190, 1, none⟩ = some (.slice A1_1 l1_1.length c1_1) := (blk_cell BK190.out 1).trans rfl; have hfz25_0 := blk_frozen BK190.out 0; have hfz25_1 := blk_frozen BK190.out 1) | (go_at_call 70; (with_reducible refine (spec_validAlgebra.calls k _ _ l1_0 _ _ l1_1 false _ ?side1 ?side2 ?side3 ?side4 A9.out).mono ?_); (case side1 => exact kC (Kd.C_below HR1_0.out HB.out)); (case side2 => exact HC1_0.out); (case side3 => exact kC (Kd.C_below HR1_1.out HB.out)); (case side4 => exact HC1_1.out); rintro e w26 ⟨rfl, hb⟩; replace BK189 := ak (blk_below (kK BK189.out) hb); replace BK190 := ak (blk_below (kK BK190.out) hb); replace BK191 := ak (blk_below (kK BK191.out) hb); replace HB := ak (below_step (bB HB.out) hb); (try clear hb); (try clear hb2); (try clear hk); (try clear hi)))
  go_meet
  case rel => exact ⟨_, (true), (by first | rfl | (simp; done) | (simp [*]; done)), H', ⟨by first | omega | exact Nat.le_refl _⟩, ⟨by (with_reducible repeat (first | refine blk_drewN ?_ _ | refine blk_drew ?_ | refine blk_alloc ?_ _)); exact BK189.out⟩, ⟨by (with_reducible repeat (first | refine blk_drewN ?_ _ | refine blk_drew ?_ | refine blk_alloc ?_ _)); exact BK190.out⟩, ⟨by (with_reducible repeat (first | refine blk_drewN ?_ _ | refine blk_drew ?_ | refine blk_alloc ?_ _)); exact BK191.out⟩, ⟨by repeat (first | (with_reducible first | exact HB.out | apply below_alloc | apply pw_below_drewN | apply below_drew1 | refine below_set ?_ GE189.out | refine below_set ?_ GE190.out | refine below_set ?_ GE191.out) | exact HB.out)⟩⟩
 case rest =>
  clear HC3
  try clear c1
  try clear c2
  try clear p2
  try clear p6
  try clear c7
  try clear c8
  try clear c10
  try clear c11
  try clear c12
  try clear c15
  try clear c20
  try clear c21
  try clear c24
  try clear c27
  try clear c28
  try clear hcz13_0
  try clear hcz13_1
  try clear hcz16_0
  try clear hcz16_1
  try clear hcz18_0
  try clear hcz18_1
  try clear hcz19_0
  try clear hcz19_1
  try clear hcz22_0
  try clear hcz22_1
  try clear hcz25_0
  try clear hcz25_1
  try clear hcz29_0
  try clear hcz29_1
  try clear hfz13_0
  try clear hfz13_1
  try clear hfz16_0
  try clear hfz16_1
  try clear hfz18_0
  try clear hfz18_1
  try clear hfz19_0
  try clear hfz19_1
  try clear hfz22_0
  try clear hfz22_1
  try clear hfz25_0
  try clear hfz25_1
  try clear hfz29_0
  try clear hfz29_1
  obtain ⟨kq, x28_2, rfl, HA, HJ2, BK189, BK190, BK191, HB⟩ := hcut
  cases kq with
  | zero => exact absurd HA.out (by simp [spec_CrossAlgebras.j0])
  | succ kj2 =>
   have H := HA.out
   clear HA
   simp only [spec_CrossAlgebras.j0] at H
   by_cases c31 : x28_2 = true
   ·subst c31
    rw [if_pos rfl] at H
    simp only [Option.some.injEq, Prod.mk.injEq] at H
    obtain ⟨rfl, rfl, rfl⟩ := H
    have hnb32 := NB191_189.out
    have hnc32 := NB189_191.out
    have hnb33 := NB191_190.out
    have hnc33 := NB190_191.out
    have hcz34_0 : wc.cell? ⟨gb191, 0, none⟩ = some (.slice none 0 0) := (blk_cell BK191.out 0).trans rfl
    have hcz34_1 : wc.cell? ⟨gb191, 1, none⟩ = some (.slice none 0 0) := (blk_cell BK191.out 1).trans rfl
    have hfz34_0 := blk_frozen BK191.out 0
    have hfz34_1 := blk_frozen BK191.out 1
    go_wp2
    refine bodyPost_ret (results_ct rfl _ _ gb191 25 #[.slice none 0 0, .slice none 0 0] (0, 0) _ rfl (by (with_reducible repeat (first | refine blk_drewN ?_ _ | refine blk_drew ?_ | refine blk_alloc ?_ _)); refine blk_put (cs := #[.slice none 0 0, .slice none 0 0]) ?_ 1 _ rfl; (with_reducible repeat (first | refine blk_drewN ?_ _ | refine blk_drew ?_ | refine blk_alloc ?_ _)); refine blk_put (cs := #[.slice none 0 0, .slice none 0 0]) ?_ 0 _ rfl; (with_reducible repeat (first | refine blk_drewN ?_ _ | refine blk_drew ?_ | refine blk_alloc ?_ _)); exact BK191.out) Try.underlying25 rfl (by kernel_rfl)) rfl ?_
    exact ⟨_, _, by first | rfl | (simp [errW_none, errW_some] <;> rfl) | (simp [*, errW_none, errW_some] <;> rfl), by first | exact Kd.R_nil _ _ _ _ _ | exact Kd.N_nil _ _ _ _ _ | exact Kd.V_nil _ _ _ _ _ | exact Kd.Q_nil _ _ _ _ _ | exact Kd.S_nil _ _ _ _ _, by first | exact Kd.S_nil _ _ _ _ _ | exact Kd.N_nil _ _ _ _ _ | exact Kd.V_nil _ _ _ _ _ | exact Kd.Q_nil _ _ _ _ _ | exact Kd.R_nil _ _ _ _ _, by repeat (first | (with_reducible first | exact HB.out | apply below_alloc | apply pw_below_drewN | apply below_drew1 | refine below_set ?_ GE189.out | refine below_set ?_ GE190.out | refine below_set ?_ GE191.out) | exact HB.out)⟩
   replace c31 := Bool.eq_false_iff.mpr c31
   subst c31
   rw [if_neg (show ¬ (false = true) by decide)] at H
   replace H := bi H
   obtain ⟨t194, A350, H⟩ := H
   try dsimp only at H
   have A35 := ak A350
   clear A350
   have H' := ak H
   clear H
   have hnb36 := NB189_190.out
   have hnc36 := NB190_189.out
   have hnb37 := NB189_191.out
   have hnc37 := NB191_189.out
   have hcz38_0 : wc.cell? ⟨gb189, 0, none⟩ = some (.slice A0_0 l0_0.length c0_0) := (blk_cell BK189.out 0).trans rfl
   have hcz38_1 : wc.cell? ⟨gb189, 1, none⟩ = some (.slice A0_1 l0_1.length c0_1) := (blk_cell BK189.out 1).trans rfl
   have hfz38_0 := blk_frozen BK189.out 0
   have hfz38_1 := blk_frozen BK189.out 1
   have hnb39 := NB190_191.out
   have hnc39 := NB191_190.out
   have hcz40_0 : wc.cell? ⟨gb190, 0, none⟩ = some (.slice A1_0 l1_0.length c1_0) := (blk_cell BK190.out 0).trans rfl
   have hcz40_1 : wc.cell? ⟨gb190, 1, none⟩ = some (.slice A1_1 l1_1.length c1_1) := (blk_cell BK190.out 1).trans rfl
   have hfz40_0 := blk_frozen BK190.out 0
   have hfz40_1 := blk_frozen BK190.out 1
   go_wp2_with (first | ((with_reducible refine gate_callee (f := 71) rfl ?_); refine goesL_ (some 34) rfl rfl Try.func71 (by kernel_rfl) rfl #[.slice A0_0 l0_0.length c0_0, .slice A1_0 l1_0.length c1_0] rfl (by (try simp only [List.map_toArray, List.map_cons, List.map_nil]); first | done | rfl | (simp only [List.length_drop, List.length_take]; rfl)) ?_; (with_reducible refine (spec_cross.calls kj2 _ _ l0_0 _ _ l1_0 t194 _ ?side1 ?side2 ?side3 ?side4 A35.out).mono ?_); (case side1 => exact kC (Kd.C_below HR0_0.out HB.out)); (case side2 => exact HC0_0.out); (case side3 => exact kC (Kd.C_below HR1_0.out HB.out)); (case side4 => exact HC1_0.out); rintro e w41 ⟨v195, rfl, ho0, hb⟩; refine ⟨_, rfl, ?_⟩; have HO196 := ak (Kd.R_lower ho0 (below_size (bB HB.out))); replace BK189 := ak (blk_below (kK BK189.out) hb); replace BK190 := ak (blk_below (kK BK190.out) hb); replace BK191 := ak (blk_below (kK BK191.out) hb); replace HB := ak (below_step (bB HB.out) hb); (try clear hb); (try clear hb2); (try clear hk); (try clear hi); (try clear ho0); obtain ⟨Ao42, co42, eo42⟩ := Kd.R_slice HO196.out; subst eo42) | ((with_reducible refine gate_dst (N := 6) rfl ?_); (try (refine gate_guard (by rfl) ?_; dsimp only)); refine box_event ?hg (N := 6) ?hd (cs := #[.slice none 0 0, .slice none 0 0]) (t := 25) ?hr ?_; (case hd => rfl); (case hg => rfl); (case hr => first | (go_simp; done) | (go_simp; rfl)); intro gb197 hg w43 hbox hb; replace HO196 := ak (Kd.R_below (kR HO196.out) hb); have BK197 := ak (hbox); have GW197 := ak ((by rw [hg]; exact (below_size (bB HB.out)) : w.heap.size ≤ gb197)); have GE197 := ak ((by rw [hg]; exact (below_size (bB HB.out)) : w.heap.size ≤ gb197)); replace HB := ak (below_step (bB HB.out) hb); have NB189_197 := ak ((ne_box hg (kK BK189.out))); have NB197_189 := ak ((ne_box' hg (kK BK189.out))); replace BK189 := ak (blk_below (kK BK189.out) hb); have NB190_197 := ak ((ne_box hg (kK BK190.out))); have NB197_190 := ak ((ne_box' hg (kK BK190.out))); replace BK190 := ak (blk_below (kK BK190.out) hb); have NB191_197 := ak ((ne_box hg (kK BK191.out))); have NB197_191 := ak ((ne_box' hg (kK BK191.out))); replace BK191 := ak (blk_below (kK BK191.out) hb); clear hb hbox hg; have hnb44 := NB197_189.out; have hnc44 := NB189_197.out; have hnb45 := NB197_190.out; have hnc45 := NB190_197.out; have hnb46 := NB197_191.out; have hnc46 := NB191_197.out; have hcz47_0 : w43.cell? ⟨gb197, 0, none⟩ = some (.slice none 0 0) := (blk_cell BK197.out 0).trans rfl; have hcz47_1 : w43.cell? ⟨gb197, 1, none⟩ = some (.slice none 0 0) := (blk_cell BK197.out 1).trans rfl; have hfz47_0 := blk_frozen BK197.out 0; have hfz47_1 := blk_frozen BK197.out 1; have hcz48_0 : w43.cell? ⟨gb190, 0, none⟩ = some (.slice A1_0 l1_0.length c1_0) := (blk_cell BK190.out 0).trans rfl; have hcz48_1 : w43.cell? ⟨gb190, 1, none⟩ = some (.slice A1_1 l1_1.length c1_1) := (blk_cell BK190.out 1).trans rfl; have hfz48_0 := blk_frozen BK190.out 0; have hfz48_1 := blk_frozen BK190.out 1))
   go_loopg [8] kj2 (fun kq v8 w' => ∃ (x8_2 : Int) (x198001_2 : List (List Int)) (u198001 : Value), v8 = .int .i64 x8_2 ∧ Aside0 (spec_CrossAlgebras.l0 kq (l1_0.length : Int) x8_2 l0_0 l0_1 l1_0 l1_1 t194 x198001_2 = some (r1, r2, r3)) ∧ Aside0 (kq ≤ kj2) ∧ Aside0 (Kd.R (Kd.int .i64) 3 w' w.heap.size (fun _ => True) (.slice Ao42 t194.length co42) t194) ∧ Aside0 (Kd.S (Kd.slice 3 (Kd.int .i64)) 22 w' w.heap.size (fun k_ => some k_ ≠ ((.slice Ao42 t194.length co42) : Value).ownBlock) u198001 x198001_2) ∧ Aside0 (w'.heap[gb189]? = some (.cells #[(.slice A0_0 l0_0.length c0_0), (.slice A0_1 l0_1.length c0_1)] 25 (0, 0))) ∧ Aside0 (w'.heap[gb190]? = some (.cells #[(.slice A1_0 l1_0.length c1_0), (.slice A1_1 l1_1.length c1_1)] 25 (0, 0))) ∧ Aside0 (w'.heap[gb191]? = some (.cells #[(.slice none 0 0), (.slice none 0 0)] 25 (0, 0))) ∧ Aside0 (w'.heap[gb197]? = some (.cells #[(.slice Ao42 t194.length co42), u198001] 25 (0, 0))) ∧ Aside0 (Below w.heap.size w w'))
   case atStart => exact ⟨(0), (([] : List (List Int))), (.slice none 0 0), (by first | rfl | (simp; done) | (simp [*]; done)), H', ⟨Nat.le_refl _⟩, ⟨by (with_reducible repeat (first | apply Kd.R_alloc | apply Kd.R_drewN | apply Kd.R_drew)); exact Kd.R_mono (Kd.R_far (p := ⟨gb197, 1, none⟩) (Kd.R_far (p := ⟨gb197, 0, none⟩) (Kd.R_types HO196.out BK197.out (by decide)) (fun _ hk => hk.2) (.slice Ao42 t194.length co42)) (fun _ hk => hk.2) (.slice none 0 0)) (fun _ hk => trivial)⟩, ⟨by first | exact Kd.S_nil _ _ _ _ _ | exact Kd.N_nil _ _ _ _ _ | exact Kd.V_nil _ _ _ _ _ | exact Kd.Q_nil _ _ _ _ _ | exact Kd.R_nil _ _ _ _ _⟩, ⟨by (with_reducible repeat (first | refine blk_drewN ?_ _ | refine blk_drew ?_ | refine blk_alloc ?_ _)); refine blk_far ?_ NB189_197.out _; (with_reducible repeat (first | refine blk_drewN ?_ _ | refine blk_drew ?_ | refine blk_alloc ?_ _)); refine blk_far ?_ NB189_197.out _; (with_reducible repeat (first | refine blk_drewN ?_ _ | refine blk_drew ?_ | refine blk_alloc ?_ _)); exact BK189.out⟩, ⟨by (with_reducible repeat (first | refine blk_drewN ?_ _ | refine blk_drew ?_ | refine blk_alloc ?_ _)); refine blk_far ?_ NB190_197.out _; (with_reducible repeat (first | refine blk_drewN ?_ _ | refine blk_drew ?_ | refine blk_alloc ?_ _)); refine blk_far ?_ NB190_197.out _; (with_reducible repeat (first | refine blk_drewN ?_ _ | refine blk_drew ?_ | refine blk_alloc ?_ _)); exact BK190.out⟩, ⟨by (with_reducible repeat (first | refine blk_drewN ?_ _ | refine blk_drew ?_ | refine blk_alloc ?_ _)); refine blk_far ?_ NB191_197.out _; (with_reducible repeat (first | refine blk_drewN ?_ _ | refine blk_drew ?_ | refine blk_alloc ?_ _)); refine blk_far ?_ NB191_197.out _; (with_reducible repeat (first | refine blk_drewN ?_ _ | refine blk_drew ?_ | refine blk_alloc ?_ _)); exact BK191.out⟩, ⟨by (with_reducible repeat (first | refine blk_drewN ?_ _ | refine blk_drew ?_ | refine blk_alloc ?_ _)); refine blk_put (cs := #[.slice Ao42 t194.length co42, .slice none 0 0]) ?_ 1 _ rfl; (with_reducible repeat (first | refine blk_drewN ?_ _ | refine blk_drew ?_ | refine blk_alloc ?_ _)); refine blk_put (cs := #[.slice none 0 0, .slice none 0 0]) ?_ 0 _ rfl; (with_reducible repeat (first | refine blk_drewN ?_ _ | refine blk_drew ?_ | refine blk_alloc ?_ _)); exact BK197.out⟩, ⟨by repeat (first | (with_reducible first | exact HB.out | apply below_alloc | apply pw_below_drewN | apply below_drew1 | refine below_set ?_ GE189.out | refine below_set ?_ GE190.out | refine below_set ?_ GE191.out | refine below_set ?_ GE197.out) | exact HB.out)⟩⟩
   case round =>
    clear H'
    try clear c1
    try clear c2
    try clear p2
    try clear c3
    try clear c4
    try clear p6
    try clear c7
    try clear c8
    try clear c10
    try clear c11
    try clear c12
    try clear c15
    try clear c20
    try clear c21
    try clear c24
    try clear c27
    try clear c28
    try clear c31
    try clear c32
    try clear c33
    try clear c36
    try clear c37
    try clear c39
    try clear c44
    try clear c45
    try clear c46
    try clear hcz13_0
    try clear hcz13_1
    try clear hcz16_0
    try clear hcz16_1
    try clear hcz18_0
    try clear hcz18_1
    try clear hcz19_0
    try clear hcz19_1
    try clear hcz22_0
    try clear hcz22_1
    try clear hcz25_0
    try clear hcz25_1
    try clear hcz29_0
    try clear hcz29_1
    try clear hcz34_0
    try clear hcz34_1
    try clear hcz38_0
    try clear hcz38_1
    try clear hcz40_0
    try clear hcz40_1
    try clear hcz47_0
    try clear hcz47_1
    try clear hcz48_0
    try clear hcz48_1
    try clear hfz13_0
    try clear hfz13_1
    try clear hfz16_0
    try clear hfz16_1
    try clear hfz18_0
    try clear hfz18_1
    try clear hfz19_0
    try clear hfz19_1
    try clear hfz22_0
    try clear hfz22_1
    try clear hfz25_0
    try clear hfz25_1
    try clear hfz29_0
    try clear hfz29_1
    try clear hfz34_0
    try clear hfz34_1
    try clear hfz38_0
    try clear hfz38_1
    try clear hfz40_0
    try clear hfz40_1
    try clear hfz47_0
    try clear hfz47_1
    try clear hfz48_0
    try clear hfz48_1
    try clear p2
    try clear p6
    obtain ⟨x8_2, x198001_2, u198001, rfl, HA, HK2, HO_198000, HO_198001, BK189, BK190, BK191, BK197, HB⟩ := hrel
    cases gk with
    | zero => exact absurd HA.out (by simp [spec_CrossAlgebras.l0])
    | succ k2 =>
     have H := HA.out
     clear HA
     simp only [spec_CrossAlgebras.l0] at H
     by_cases c49 : x8_2 < (t194.length : Int)
     rotate_left
     ·rw [if_neg c49] at H
      have c49b0 : decide (x8_2 < (t194.length : Int)) = false := decide_eq_false c49
      clear c49
      simp only [Option.some.injEq, Prod.mk.injEq] at H
      obtain ⟨rfl, rfl, rfl⟩ := H
      have hnb86 := NB197_189.out
      have hnc86 := NB189_197.out
      have hnb87 := NB197_190.out
      have hnc87 := NB190_197.out
      have hnb88 := NB197_191.out
      have hnc88 := NB191_197.out
      have hcz89_0 : wr.cell? ⟨gb197, 0, none⟩ = some (.slice Ao42 t194.length co42) := (blk_cell BK197.out 0).trans rfl
      have hcz89_1 : wr.cell? ⟨gb197, 1, none⟩ = some (u198001) := (blk_cell BK197.out 1).trans rfl
      have hfz89_0 := blk_frozen BK197.out 0
      have hfz89_1 := blk_frozen BK197.out 1
      have hnb90 := NB191_189.out
      have hnc90 := NB189_191.out
      have hnb91 := NB191_190.out
      have hnc91 := NB190_191.out
      have hcz92_0 : wr.cell? ⟨gb191, 0, none⟩ = some (.slice none 0 0) := (blk_cell BK191.out 0).trans rfl
      have hcz92_1 : wr.cell? ⟨gb191, 1, none⟩ = some (.slice none 0 0) := (blk_cell BK191.out 1).trans rfl
      have hfz92_0 := blk_frozen BK191.out 0
      have hfz92_1 := blk_frozen BK191.out 1
      obtain ⟨Ao93, co93, eo93⟩ := Kd.S_slice HO_198001.out
      subst eo93
      go_wp2
      refine bodyPost_ret (results_ct rfl _ _ gb191 25 #[.slice Ao42 t194.length co42, .slice Ao93 x198001_2.length co93] (0, 0) _ rfl (by (with_reducible repeat (first | refine blk_drewN ?_ _ | refine blk_drew ?_ | refine blk_alloc ?_ _)); refine blk_put (cs := #[.slice Ao42 t194.length co42, .slice none 0 0]) ?_ 1 _ rfl; (with_reducible repeat (first | refine blk_drewN ?_ _ | refine blk_drew ?_ | refine blk_alloc ?_ _)); refine blk_put (cs := #[.slice none 0 0, .slice none 0 0]) ?_ 0 _ rfl; (with_reducible repeat (first | refine blk_drewN ?_ _ | refine blk_drew ?_ | refine blk_alloc ?_ _)); exact BK191.out) Try.underlying25 rfl (by kernel_rfl)) rfl ?_
      exact ⟨_, _, by first | rfl | (simp [errW_none, errW_some] <;> rfl) | (simp [*, errW_none, errW_some] <;> rfl), by (with_reducible repeat (first | apply Kd.R_alloc | apply Kd.R_drewN | apply Kd.R_drew)); exact Kd.R_mono (Kd.R_far (p := ⟨gb191, 1, none⟩) (Kd.R_far (p := ⟨gb191, 0, none⟩) (Kd.R_types HO_198000.out BK191.out (by decide)) (fun _ hk => hk.2) (.slice Ao42 t194.length co42)) (fun _ hk => hk.2) (.slice Ao93 x198001_2.length co93)) (fun _ hk => trivial), by (with_reducible repeat (first | apply Kd.S_alloc | apply Kd.S_drewN | apply Kd.S_drew)); exact Kd.S_mono (Kd.S_far (p := ⟨gb191, 1, none⟩) (Kd.S_far (p := ⟨gb191, 0, none⟩) (Kd.S_types HO_198001.out BK191.out (by decide)) (fun _ hk => hk.2) (.slice Ao42 t194.length co42)) (fun _ hk => hk.2) (.slice Ao93 x198001_2.length co93)) (fun _ hk => hk.1), by repeat (first | (with_reducible first | exact HB.out | apply below_alloc | apply pw_below_drewN | apply below_drew1 | refine below_set ?_ GE189.out | refine below_set ?_ GE190.out | refine below_set ?_ GE191.out | refine below_set ?_ GE197.out) | exact HB.out)⟩
     rw [if_pos c49] at H
     have c49b0 : decide (x8_2 < (t194.length : Int)) = true := decide_eq_true c49
     clear c49
     obtain ⟨y198, hy198⟩ : ∃ y_ : List Int, y_ = (([] : List Int)) := ⟨_, rfl⟩
     replace H : (spec_CrossAlgebras.l1 k2 (l1_0.length : Int) x8_2 y198 0 l0_0 l0_1 l1_0 l1_1 t194 x198001_2) = some (r1, r2, r3) := by first | (rw [hy198]; with_reducible exact H) | (have H2_ := (Option.bind_some _ _).symm.trans H; rw [hy198]; with_reducible exact H2_) | (have H2_ := (Option.bind_some _ _).symm.trans H; with_reducible exact H2_) | with_reducible exact H | (rw [hy198]; exact H) | exact H
     have Ny198 := ak hy198
     clear hy198
     have H' := ak H
     clear H
     have hnb50 := NB197_189.out
     have hnc50 := NB189_197.out
     have hnb51 := NB197_190.out
     have hnc51 := NB190_197.out
     have hnb52 := NB197_191.out
     have hnc52 := NB191_197.out
     have hcz53_0 : wr.cell? ⟨gb197, 0, none⟩ = some (.slice Ao42 t194.length co42) := (blk_cell BK197.out 0).trans rfl
     have hcz53_1 : wr.cell? ⟨gb197, 1, none⟩ = some (u198001) := (blk_cell BK197.out 1).trans rfl
     have hfz53_0 := blk_frozen BK197.out 0
     have hfz53_1 := blk_frozen BK197.out 1
     go_wp2_with (first | ((with_reducible refine gate_dst (N := 46) rfl ?_); (try (refine gate_guard (by rfl) ?_; dsimp only)); refine Kd.R_lit (Kd.int .i64) _ 3 ?hg (N := 46) ?hd (xs := ([] : List Int)) (inner := []) (ok := fun _ => True) (okp := fun _ => True) ?hr ?hp (fun _ hk => hk) trivial (Below.refl _ _) (Nat.le_refl _) (by simp) ?_; (case hd => rfl); (case hg => rfl); (case hr => first | (go_simp; done) | (go_simp; rfl)); (case hp => exact (Reps.none _ _)); intro v199 w54 ho55 hb hg_ hnew_; clear hg_ hnew_; (first | rw [← Ny198.out] at ho55 | (simp only [Int.reduceToNat] at ho55; rw [← Ny198.out] at ho55)); replace HO_198001 := ak (Kd.S_elder' (kS HO_198001.out) (Kd.R_base ho55) hb); have HO200 := ak (Kd.R_lower (Kd.R_new' ho55 (Kd.R_lt (kR HO_198000.out))) (below_size (bB HB.out))); replace HO_198000 := ak (Kd.R_elder' (kR HO_198000.out) (Kd.R_base ho55) hb); replace BK189 := ak (blk_below (kK BK189.out) hb); replace BK190 := ak (blk_below (kK BK190.out) hb); replace BK191 := ak (blk_below (kK BK191.out) hb); replace BK197 := ak (blk_below (kK BK197.out) hb); replace HB := ak (below_step (bB HB.out) hb); clear hb ho55))
     go_loopg [9, 10] k2 (fun kq v9 v10 w' => ∃ (x9_3 : List Int) (x10_3 : Int), v10 = .int .i64 x10_3 ∧ Aside0 (spec_CrossAlgebras.l1 kq (l1_0.length : Int) x8_2 x9_3 x10_3 l0_0 l0_1 l1_0 l1_1 t194 x198001_2 = some (r1, r2, r3)) ∧ Aside0 (kq ≤ k2) ∧ Aside0 (Kd.R (Kd.int .i64) 3 w' w.heap.size (fun k_ => some k_ ≠ ((.slice Ao42 t194.length co42) : Value).ownBlock) v9 x9_3) ∧ Aside0 (Kd.R (Kd.int .i64) 3 w' w.heap.size (fun k_ => some k_ ≠ (v9 : Value).ownBlock) (.slice Ao42 t194.length co42) t194) ∧ Aside0 (Kd.S (Kd.slice 3 (Kd.int .i64)) 22 w' w.heap.size (fun k_ => some k_ ≠ (v9 : Value).ownBlock ∧ some k_ ≠ ((.slice Ao42 t194.length co42) : Value).ownBlock) u198001 x198001_2) ∧ Aside0 (w'.heap[gb189]? = some (.cells #[(.slice A0_0 l0_0.length c0_0), (.slice A0_1 l0_1.length c0_1)] 25 (0, 0))) ∧ Aside0 (w'.heap[gb190]? = some (.cells #[(.slice A1_0 l1_0.length c1_0), (.slice A1_1 l1_1.length c1_1)] 25 (0, 0))) ∧ Aside0 (w'.heap[gb191]? = some (.cells #[(.slice none 0 0), (.slice none 0 0)] 25 (0, 0))) ∧ Aside0 (w'.heap[gb197]? = some (.cells #[(.slice Ao42 t194.length co42), u198001] 25 (0, 0))) ∧ Aside0 (Below w.heap.size w w'))
     case atStart => exact ⟨(y198), (0), (by first | rfl | (simp; done) | (simp [*]; done)), H', ⟨Nat.le_refl _⟩, ⟨by (with_reducible repeat (first | apply Kd.R_alloc | apply Kd.R_drewN | apply Kd.R_drew)); exact Kd.R_mono HO200.out (fun _ hk => hk.2)⟩, ⟨by (with_reducible repeat (first | apply Kd.R_alloc | apply Kd.R_drewN | apply Kd.R_drew)); exact Kd.R_mono HO_198000.out (fun _ hk => hk.2)⟩, ⟨by (with_reducible repeat (first | apply Kd.S_alloc | apply Kd.S_drewN | apply Kd.S_drew)); exact Kd.S_mono HO_198001.out (fun _ hk => ⟨hk.2, hk.1⟩)⟩, ⟨by (with_reducible repeat (first | refine blk_drewN ?_ _ | refine blk_drew ?_ | refine blk_alloc ?_ _)); exact BK189.out⟩, ⟨by (with_reducible repeat (first | refine blk_drewN ?_ _ | refine blk_drew ?_ | refine blk_alloc ?_ _)); exact BK190.out⟩, ⟨by (with_reducible repeat (first | refine blk_drewN ?_ _ | refine blk_drew ?_ | refine blk_alloc ?_ _)); exact BK191.out⟩, ⟨by (with_reducible repeat (first | refine blk_drewN ?_ _ | refine blk_drew ?_ | refine blk_alloc ?_ _)); exact BK197.out⟩, ⟨by repeat (first | (with_reducible first | exact HB.out | apply below_alloc | apply pw_below_drewN | apply below_drew1 | refine below_set ?_ GE189.out | refine below_set ?_ GE190.out | refine below_set ?_ GE191.out | refine below_set ?_ GE197.out) | exact HB.out)⟩⟩
     case round =>
      clear H'
      try clear c1
      try clear c2
      try clear p2
      try clear c3
      try clear c4
      try clear c5
      try clear p6
      try clear c7
      try clear c8
      try clear c10
      try clear c11
      try clear c12
      try clear c15
      try clear c20
      try clear c21
      try clear c24
      try clear c27
      try clear c28
      try clear c31
      try clear c32
      try clear c33
      try clear c36
      try clear c37
      try clear c39
      try clear c44
      try clear c45
      try clear c46
      try clear c49
      try clear c49b0
      try clear c50
      try clear c51
      try clear c52
      try clear hcz13_0
      try clear hcz13_1
      try clear hcz16_0
      try clear hcz16_1
      try clear hcz18_0
      try clear hcz18_1
      try clear hcz19_0
      try clear hcz19_1
      try clear hcz22_0
      try clear hcz22_1
      try clear hcz25_0
      try clear hcz25_1
      try clear hcz29_0
      try clear hcz29_1
      try clear hcz34_0
      try clear hcz34_1
      try clear hcz38_0
      try clear hcz38_1
      try clear hcz40_0
      try clear hcz40_1
      try clear hcz47_0
      try clear hcz47_1
      try clear hcz48_0
      try clear hcz48_1
      try clear hcz53_0
      try clear hcz53_1
      try clear hfz13_0
      try clear hfz13_1
      try clear hfz16_0
      try clear hfz16_1
      try clear hfz18_0
      try clear hfz18_1
      try clear hfz19_0
      try clear hfz19_1
      try clear hfz22_0
      try clear hfz22_1
      try clear hfz25_0
      try clear hfz25_1
      try clear hfz29_0
      try clear hfz29_1
      try clear hfz34_0
      try clear hfz34_1
      try clear hfz38_0
      try clear hfz38_1
      try clear hfz40_0
      try clear hfz40_1
      try clear hfz47_0
      try clear hfz47_1
      try clear hfz48_0
      try clear hfz48_1
      try clear hfz53_0
      try clear hfz53_1
      try clear p2
      try clear p6
      obtain ⟨x9_3, x10_3, rfl, HA, HK3, HO_9, HO_198000, HO_198001, BK189, BK190, BK191, BK197, HB⟩ := hrel
      cases gk with
      | zero => exact absurd HA.out (by simp [spec_CrossAlgebras.l1])
      | succ k3 =>
       have H := HA.out
       clear HA
       simp only [spec_CrossAlgebras.l1] at H
       by_cases c56 : x10_3 < (t194.length : Int)
       rotate_left
       ·rw [if_neg c56] at H
        have c56b0 : decide (x10_3 < (t194.length : Int)) = false := decide_eq_false c56
        clear c56
        replace H := oi H
        obtain ⟨c77, H⟩ := H
        have LMc77 := ak c77
        clear c77
        obtain ⟨y208, hy208⟩ : ∃ y_ : List (List Int), y_ = (x198001_2 ++ [x9_3]) := ⟨_, rfl⟩
        replace H : (spec_CrossAlgebras.l0 k3 (l1_0.length : Int) (wrap64 (x8_2 + 1)) l0_0 l0_1 l1_0 l1_1 t194 y208) = some (r1, r2, r3) := by first | (rw [hy208]; with_reducible exact H) | (have H2_ := (Option.bind_some _ _).symm.trans H; rw [hy208]; with_reducible exact H2_) | (have H2_ := (Option.bind_some _ _).symm.trans H; with_reducible exact H2_) | with_reducible exact H | (rw [hy208]; exact H) | exact H
        have Ny208 := ak hy208
        clear hy208
        have H' := ak H
        clear H
        have hnb78 := NB197_189.out
        have hnc78 := NB189_197.out
        have hnb79 := NB197_190.out
        have hnc79 := NB190_197.out
        have hnb80 := NB197_191.out
        have hnc80 := NB191_197.out
        have hcz81_0 : wr.cell? ⟨gb197, 0, none⟩ = some (.slice Ao42 t194.length co42) := (blk_cell BK197.out 0).trans rfl
        have hcz81_1 : wr.cell? ⟨gb197, 1, none⟩ = some (u198001) := (blk_cell BK197.out 1).trans rfl
        have hfz81_0 := blk_frozen BK197.out 0
        have hfz81_1 := blk_frozen BK197.out 1
        obtain ⟨Ao83, co83, eo83⟩ := Kd.R_slice HO_9.out
        subst eo83
        go_wp2_with (first | ((with_reducible refine gate_builtin (b := .append) (xs := #[.tmp 85, .tmp 87]) rfl ?_); (try (refine gate_guard (by rfl) ?_; dsimp only)); at_builtin; refine Kd.S_append (Kd.slice 3 (Kd.int .i64)) (w0 := w) w.heap.size rfl (.tmp 85) (.tmp 87) 23 22 (.slice none 0 0) 24 rfl Try.underlying23 info22 rfl (by decide) (by omega) u198001 x198001_2 x9_3 [.slice Ao83 x9_3.length co83] (fun k_ => some k_ ≠ (.slice Ao42 t194.length co42 : Value).ownBlock) (fun k_ => some k_ = (.slice Ao83 x9_3.length co83 : Value).ownBlock) rfl rfl ?aP (fun k_ hk_ => ((Kd.R_mono (ok' := fun k_ => ((fun k_ => some k_ ≠ (.slice Ao42 t194.length co42 : Value).ownBlock)) k_ ∧ some k_ ≠ (u198001 : Value).ownBlock) (Kd.R_apart' (HO_9.out) (Kd.S_typed HO_198001.out) (by decide)) (fun k_ hk => ⟨hk.1, hk.2⟩))).1 k_ hk_.symm) ?aF ?aO ?aB ?aS ?aL ?_; (case aP => exact Kd.M_row (Kd.R_mono (Kd.R_tight rfl (Kd.R_mono (ok' := fun k_ => ((fun k_ => some k_ ≠ (.slice Ao42 t194.length co42 : Value).ownBlock)) k_ ∧ some k_ ≠ (u198001 : Value).ownBlock) (Kd.R_apart' (HO_9.out) (Kd.S_typed HO_198001.out) (by decide)) (fun k_ hk => ⟨hk.1, hk.2⟩))) (fun _ h_ => h_))); (case aB => exact (bB HB.out)); (case aF => exact (fun k_ hk => Kd.fresh' (Kd.R_lt (kR HO_198000.out)) k_ hk)); (case aO => exact (kS (Kd.S_mono HO_198001.out (fun k_ hk => ⟨hk.2, fun e_ => hk.1 e_⟩)))); (case aS => exact (below_size (bB HB.out))); (case aL => have := LMc77.out; omega); intro v209 w82 ho hb hg hat; rw [← Ny208.out] at ho; replace HO_198000 := ak (Kd.R_over' (kR HO_198000.out) (Kd.S_typed (kS HO_198001.out)) (by decide) hg); replace BK189 := ak (blk_grown (g := gb189) (o := .cells #[.slice A0_0 l0_0.length c0_0, .slice A0_1 l0_1.length c0_1] 25 (0, 0)) (kK BK189.out) hg (Kd.S_ne HO_198001.out BK189.out (by decide))); replace BK190 := ak (blk_grown (g := gb190) (o := .cells #[.slice A1_0 l1_0.length c1_0, .slice A1_1 l1_1.length c1_1] 25 (0, 0)) (kK BK190.out) hg (Kd.S_ne HO_198001.out BK190.out (by decide))); replace BK191 := ak (blk_grown (g := gb191) (o := .cells #[.slice none 0 0, .slice none 0 0] 25 (0, 0)) (kK BK191.out) hg (Kd.S_ne HO_198001.out BK191.out (by decide))); replace BK197 := ak (blk_grown (g := gb197) (o := .cells #[.slice Ao42 t194.length co42, u198001] 25 (0, 0)) (kK BK197.out) hg (Kd.S_ne HO_198001.out BK197.out (by decide))); replace HB := ak (hb); have HO210 := ak (ho); clear HO_198001 HO_9; clear ho hb hg hat; obtain ⟨Ao84, co84, eo84⟩ := Kd.S_slice HO210.out; subst eo84; have hcz85_0 : w82.cell? ⟨gb197, 0, none⟩ = some (.slice Ao42 t194.length co42) := (blk_cell BK197.out 0).trans rfl; have hcz85_1 : w82.cell? ⟨gb197, 1, none⟩ = some (u198001) := (blk_cell BK197.out 1).trans rfl; have hfz85_0 := blk_frozen BK197.out 0; have hfz85_1 := blk_frozen BK197.out 1))
        go_roundg k3
        case measure => have := HJ2.out; have := HK2.out; have := HK3.out; omega
        case rel => exact ⟨(wrap64 (x8_2 + 1)), (y208), (.slice Ao84 y208.length co84), (by first | rfl | (simp; done) | (simp [*]; done)), H', ⟨by have := HJ2.out; have := HK2.out; have := HK3.out; omega⟩, ⟨by (with_reducible repeat (first | apply Kd.R_alloc | apply Kd.R_drewN | apply Kd.R_drew)); exact Kd.R_mono (Kd.R_far (p := ⟨gb197, 1, none⟩) (Kd.R_types HO_198000.out BK197.out (by decide)) (fun _ hk => hk.2) (.slice Ao84 y208.length co84)) (fun _ hk => trivial)⟩, ⟨by (with_reducible repeat (first | apply Kd.S_alloc | apply Kd.S_drewN | apply Kd.S_drew)); exact Kd.S_mono (Kd.S_far (p := ⟨gb197, 1, none⟩) (Kd.S_types HO210.out BK197.out (by decide)) (fun _ hk => hk.2) (.slice Ao84 y208.length co84)) (fun _ hk => hk.1)⟩, ⟨by (with_reducible repeat (first | refine blk_drewN ?_ _ | refine blk_drew ?_ | refine blk_alloc ?_ _)); refine blk_far ?_ NB189_197.out _; (with_reducible repeat (first | refine blk_drewN ?_ _ | refine blk_drew ?_ | refine blk_alloc ?_ _)); exact BK189.out⟩, ⟨by (with_reducible repeat (first | refine blk_drewN ?_ _ | refine blk_drew ?_ | refine blk_alloc ?_ _)); refine blk_far ?_ NB190_197.out _; (with_reducible repeat (first | refine blk_drewN ?_ _ | refine blk_drew ?_ | refine blk_alloc ?_ _)); exact BK190.out⟩, ⟨by (with_reducible repeat (first | refine blk_drewN ?_ _ | refine blk_drew ?_ | refine blk_alloc ?_ _)); refine blk_far ?_ NB191_197.out _; (with_reducible repeat (first | refine blk_drewN ?_ _ | refine blk_drew ?_ | refine blk_alloc ?_ _)); exact BK191.out⟩, ⟨by (with_reducible repeat (first | refine blk_drewN ?_ _ | refine blk_drew ?_ | refine blk_alloc ?_ _)); refine blk_put (cs := #[.slice Ao42 t194.length co42, u198001]) ?_ 1 _ rfl; (with_reducible repeat (first | refine blk_drewN ?_ _ | refine blk_drew ?_ | refine blk_alloc ?_ _)); exact BK197.out⟩, ⟨by repeat (first | (with_reducible first | exact HB.out | apply below_alloc | apply pw_below_drewN | apply below_drew1 | refine below_set ?_ GE189.out | refine below_set ?_ GE190.out | refine below_set ?_ GE191.out | refine below_set ?_ GE197.out) | exact HB.out)⟩⟩
       rw [if_pos c56] at H
       have c56b0 : decide (x10_3 < (t194.length : Int)) = true := decide_eq_true c56
       clear c56
       by_cases c57 : (l1_0.length : Int) = 0
       ·rw [if_pos c57] at H
        exact absurd H (by simp)
       rw [if_neg c57] at H
       have c57b0 : ((l1_0.length : Int) == 0) = false := beq_eq_false_iff_ne.mpr c57
       have c57b1 : ((l1_0.length : Int) != 0) = true := bne_iff_ne.mpr c57
       have c57b2 : ¬ (l1_0 = []) := fun h_ => c57 (by rw [h_]; rfl)
       obtain ⟨ji58, hji58⟩ : ∃ j_ : Int, (wrap64 (Int.tdiv x8_2 (l1_0.length : Int))) = j_ := ⟨_, rfl⟩
       replace H : (if 0 ≤ (ji58) then (if (ji58) < (l0_1.length : Int) then (if 0 ≤ (wrap64 (Int.tdiv x10_3 (l1_0.length : Int))) then (if (wrap64 (Int.tdiv x10_3 (l1_0.length : Int))) < ((rd_L1 l0_1 (ji58)).length : Int) then (if 0 ≤ (Int.tmod x8_2 (l1_0.length : Int)) then (if (Int.tmod x8_2 (l1_0.length : Int)) < (l1_1.length : Int) then (if 0 ≤ (Int.tmod x10_3 (l1_0.length : Int)) then (if (Int.tmod x10_3 (l1_0.length : Int)) < ((rd_L1 l1_1 (Int.tmod x8_2 (l1_0.length : Int))).length : Int) then (if x9_3.length < 17592186044416 then (spec_CrossAlgebras.l1 k3 (l1_0.length : Int) x8_2 (x9_3 ++ [wrap64 ((wrap64 ((rd (rd_L1 l0_1 (ji58)) (wrap64 (Int.tdiv x10_3 (l1_0.length : Int)))) * (l1_0.length : Int))) + (rd (rd_L1 l1_1 (Int.tmod x8_2 (l1_0.length : Int))) (Int.tmod x10_3 (l1_0.length : Int))))]) (wrap64 (x10_3 + 1)) l0_0 l0_1 l1_0 l1_1 t194 x198001_2) else (none)) else (none)) else (none)) else (none)) else (none)) else (none)) else (none)) else (none)) else (none)) = some (r1, r2, r3) := by first | (rw [hji58] at H; exact H) | (simp only [hji58] at H ⊢; exact H)
       have hji58w : (IntKind.i64.wrap (Int.tdiv x8_2 (l1_0.length : Int))) = ji58 := (i64_w _).trans hji58
       replace H := oi H
       obtain ⟨c59, H⟩ := H
       have c59b0 : decide (0 ≤ (ji58)) = true := decide_eq_true c59
       clear c59
       replace H := oi H
       obtain ⟨c60, H⟩ := H
       have c60b0 : decide ((ji58) < (l0_1.length : Int)) = true := decide_eq_true c60
       clear c60
       obtain ⟨ji61, hji61⟩ : ∃ j_ : Int, (wrap64 (Int.tdiv x10_3 (l1_0.length : Int))) = j_ := ⟨_, rfl⟩
       replace H : (if 0 ≤ (ji61) then (if (ji61) < ((rd_L1 l0_1 (ji58)).length : Int) then (if 0 ≤ (Int.tmod x8_2 (l1_0.length : Int)) then (if (Int.tmod x8_2 (l1_0.length : Int)) < (l1_1.length : Int) then (if 0 ≤ (Int.tmod x10_3 (l1_0.length : Int)) then (if (Int.tmod x10_3 (l1_0.length : Int)) < ((rd_L1 l1_1 (Int.tmod x8_2 (l1_0.length : Int))).length : Int) then (if x9_3.length < 17592186044416 then (spec_CrossAlgebras.l1 k3 (l1_0.length : Int) x8_2 (x9_3 ++ [wrap64 ((wrap64 ((rd (rd_L1 l0_1 (ji58)) (ji61)) * (l1_0.length : Int))) + (rd (rd_L1 l1_1 (Int.tmod x8_2 (l1_0.length : Int))) (Int.tmod x10_3 (l1_0.length : Int))))]) (wrap64 (x10_3 + 1)) l0_0 l0_1 l1_0 l1_1 t194 x198001_2) else (none)) else (none)) else (none)) else (none)) else (none)) else (none)) else (none)) = some (r1, r2, r3) := by first | (rw [hji61] at H; exact H) | (simp only [hji61] at H ⊢; exact H)
       have hji61w : (IntKind.i64.wrap (Int.tdiv x10_3 (l1_0.length : Int))) = ji61 := (i64_w _).trans hji61
       replace H := oi H
       obtain ⟨c62, H⟩ := H
       have c62b0 : decide (0 ≤ (ji61)) = true := decide_eq_true c62
       clear c62
       replace H := oi H
       obtain ⟨c63, H⟩ := H
       have c63b0 : decide ((ji61) < ((rd_L1 l0_1 (ji58)).length : Int)) = true := decide_eq_true c63
       clear c63
       obtain ⟨ji64, hji64⟩ : ∃ j_ : Int, (Int.tmod x8_2 (l1_0.length : Int)) = j_ := ⟨_, rfl⟩
       replace H : (if 0 ≤ (ji64) then (if (ji64) < (l1_1.length : Int) then (if 0 ≤ (Int.tmod x10_3 (l1_0.length : Int)) then (if (Int.tmod x10_3 (l1_0.length : Int)) < ((rd_L1 l1_1 (ji64)).length : Int) then (if x9_3.length < 17592186044416 then (spec_CrossAlgebras.l1 k3 (l1_0.length : Int) x8_2 (x9_3 ++ [wrap64 ((wrap64 ((rd (rd_L1 l0_1 (ji58)) (ji61)) * (l1_0.length : Int))) + (rd (rd_L1 l1_1 (ji64)) (Int.tmod x10_3 (l1_0.length : Int))))]) (wrap64 (x10_3 + 1)) l0_0 l0_1 l1_0 l1_1 t194 x198001_2) else (none)) else (none)) else (none)) else (none)) else (none)) = some (r1, r2, r3) := by first | (rw [hji64] at H; exact H) | (simp only [hji64] at H ⊢; exact H)
       replace H := oi H
       obtain ⟨c65, H⟩ := H
       have c65b0 : decide (0 ≤ (ji64)) = true := decide_eq_true c65
       clear c65
       replace H := oi H
       obtain ⟨c66, H⟩ := H
       have c66b0 : decide ((ji64) < (l1_1.length : Int)) = true := decide_eq_true c66
       clear c66
       obtain ⟨ji67, hji67⟩ : ∃ j_ : Int, (Int.tmod x10_3 (l1_0.length : Int)) = j_ := ⟨_, rfl⟩
       replace H : (if 0 ≤ (ji67) then (if (ji67) < ((rd_L1 l1_1 (ji64)).length : Int) then (if x9_3.length < 17592186044416 then (spec_CrossAlgebras.l1 k3 (l1_0.length : Int) x8_2 (x9_3 ++ [wrap64 ((wrap64 ((rd (rd_L1 l0_1 (ji58)) (ji61)) * (l1_0.length : Int))) + (rd (rd_L1 l1_1 (ji64)) (ji67)))]) (wrap64 (x10_3 + 1)) l0_0 l0_1 l1_0 l1_1 t194 x198001_2) else (none)) else (none)) else (none)) = some (r1, r2, r3) := by first | (rw [hji67] at H; exact H) | (simp only [hji67] at H ⊢; exact H)
       replace H := oi H
       obtain ⟨c68, H⟩ := H
       have c68b0 : decide (0 ≤ (ji67)) = true := decide_eq_true c68
       clear c68
       replace H := oi H
       obtain ⟨c69, H⟩ := H
       have c69b0 : decide ((ji67) < ((rd_L1 l1_1 (ji64)).length : Int)) = true := decide_eq_true c69
       clear c69
       replace H := oi H
       obtain ⟨c70, H⟩ := H
       have LMc70 := ak c70
       clear c70
       obtain ⟨y205, hy205⟩ : ∃ y_ : List Int, y_ = (x9_3 ++ [wrap64 ((wrap64 ((rd (rd_L1 l0_1 (ji58)) (ji61)) * (l1_0.length : Int))) + (rd (rd_L1 l1_1 (ji64)) (ji67)))]) := ⟨_, rfl⟩
       replace H : (spec_CrossAlgebras.l1 k3 (l1_0.length : Int) x8_2 y205 (wrap64 (x10_3 + 1)) l0_0 l0_1 l1_0 l1_1 t194 x198001_2) = some (r1, r2, r3) := by first | (rw [hy205]; with_reducible exact H) | (have H2_ := (Option.bind_some _ _).symm.trans H; rw [hy205]; with_reducible exact H2_) | (have H2_ := (Option.bind_some _ _).symm.trans H; with_reducible exact H2_) | with_reducible exact H | (rw [hy205]; exact H) | exact H
       have Ny205 := ak hy205
       clear hy205
       have H' := ak H
       clear H
       have hnb71 := NB197_189.out
       have hnc71 := NB189_197.out
       have hnb72 := NB197_190.out
       have hnc72 := NB190_197.out
       have hnb73 := NB197_191.out
       have hnc73 := NB191_197.out
       have hcz74_0 : wr.cell? ⟨gb197, 0, none⟩ = some (.slice Ao42 t194.length co42) := (blk_cell BK197.out 0).trans rfl
       have hcz74_1 : wr.cell? ⟨gb197, 1, none⟩ = some (u198001) := (blk_cell BK197.out 1).trans rfl
       have hfz74_0 := blk_frozen BK197.out 0
       have hfz74_1 := blk_frozen BK197.out 1
       try go_wp2
       replace HO_9 := ak (Kd.R_drew HO_9.out)
       replace HO_198000 := ak (Kd.R_drew HO_198000.out)
       replace HO_198001 := ak (Kd.S_drew HO_198001.out)
       replace BK189 := ak (blk_drew BK189.out)
       replace BK190 := ak (blk_drew BK190.out)
       replace BK191 := ak (blk_drew BK191.out)
       replace BK197 := ak (blk_drew BK197.out)
       replace HB := ak (below_drew1 HB.out)
       have p201 : 0 ≤ ((ji58) : Int) := of_decide_eq_true (by first | (with_reducible assumption) | assumption)
       have q201 : (ji58) < (l0_1.length : Int) := of_decide_eq_true (by first | (with_reducible assumption) | assumption)
       obtain ⟨ad201, A201_0, c201_0, e201, hx201_0, hl201_0, hi201_0⟩ := at_L1 HR0_1.out (ji58) p201 q201
       have hw201_0 := hx201_0
       cases e201
       replace hx201_0 := (HB.out.cell (World.block_lt_of_cell? w _ hx201_0)).trans hx201_0
       have HR201_0 := ak hi201_0
       have HC201_0 := ak hl201_0
       clear hi201_0 hl201_0
       replace p201 := eq_true p201
       replace q201 := eq_true q201
       have p202 : 0 ≤ ((ji61) : Int) := of_decide_eq_true (by first | (with_reducible assumption) | assumption)
       have q202 : (ji61) < ((rd_L1 l0_1 (ji58)).length : Int) := of_decide_eq_true (by first | (with_reducible assumption) | assumption)
       obtain ⟨ad202, e202, hx202_0⟩ := Kd.at_int HR201_0.out (ji61) p202 q202
       have hw202_0 := hx202_0
       cases e202
       replace hx202_0 := (HB.out.cell (World.block_lt_of_cell? w _ hx202_0)).trans hx202_0
       replace p202 := eq_true p202
       replace q202 := eq_true q202
       have p203 : 0 ≤ ((ji64) : Int) := of_decide_eq_true (by first | (with_reducible assumption) | assumption)
       have q203 : (ji64) < (l1_1.length : Int) := of_decide_eq_true (by first | (with_reducible assumption) | assumption)
       obtain ⟨ad203, A203_0, c203_0, e203, hx203_0, hl203_0, hi203_0⟩ := at_L1 HR1_1.out (ji64) p203 q203
       have hw203_0 := hx203_0
       cases e203
       replace hx203_0 := (HB.out.cell (World.block_lt_of_cell? w _ hx203_0)).trans hx203_0
       have HR203_0 := ak hi203_0
       have HC203_0 := ak hl203_0
       clear hi203_0 hl203_0
       replace p203 := eq_true p203
       replace q203 := eq_true q203
       have p204 : 0 ≤ ((ji67) : Int) := of_decide_eq_true (by first | (with_reducible assumption) | assumption)
       have q204 : (ji67) < ((rd_L1 l1_1 (ji64)).length : Int) := of_decide_eq_true (by first | (with_reducible assumption) | assumption)
       obtain ⟨ad204, e204, hx204_0⟩ := Kd.at_int HR203_0.out (ji67) p204 q204
       have hw204_0 := hx204_0
       cases e204
       replace hx204_0 := (HB.out.cell (World.block_lt_of_cell? w _ hx204_0)).trans hx204_0
       replace p204 := eq_true p204
       replace q204 := eq_true q204
       refine start_ (n := 31) (S := fun w' => w'.cell? ⟨gb189, 0, none⟩ = some (.slice A0_0 l0_0.length c0_0) ∧ w'.cell? ⟨gb189, 1, none⟩ = some (.slice (some ad201) l0_1.length c0_1) ∧ w'.cell? ⟨gb190, 0, none⟩ = some (.slice A1_0 l1_0.length c1_0) ∧ w'.cell? ⟨gb190, 1, none⟩ = some (.slice (some ad203) l1_1.length c1_1) ∧ w'.cell? (ad201.add ((ji58)).toNat) = some (.slice (some ad202) (rd_L1 l0_1 (ji58)).length c201_0) ∧ w'.cell? (ad202.add ((ji61)).toNat) = some (.int .i64 (rd (rd_L1 l0_1 (ji58)) (ji61))) ∧ w'.cell? (ad203.add ((ji64)).toNat) = some (.slice (some ad204) (rd_L1 l1_1 (ji64)).length c203_0) ∧ w'.cell? (ad204.add ((ji67)).toNat) = some (.int .i64 (rd (rd_L1 l1_1 (ji64)) (ji67)))) (ds := []) #[false, false, false, false, false, false, false, false, false, false, false, false, false, false, false, false, false, false, false, false, false, false, false, false, false, false, false, false, false, false, false] (by kernel_rfl) rfl rfl ⟨(blk_cell BK189.out 0).trans rfl, (blk_cell BK189.out 1).trans rfl, (blk_cell BK190.out 0).trans rfl, (blk_cell BK190.out 1).trans rfl, ((HB.out.cell (World.block_lt_of_cell? w _ hw201_0)).trans hw201_0), ((HB.out.cell (World.block_lt_of_cell? w _ hw202_0)).trans hw202_0), ((HB.out.cell (World.block_lt_of_cell? w _ hw203_0)).trans hw203_0), ((HB.out.cell (World.block_lt_of_cell? w _ hw204_0)).trans hw204_0)⟩ (fun hHeld => ?_); refine with_tabW spec_CrossAlgebras.tab12 spec_CrossAlgebras.bits12 (fun HT_ HW_ => ?_)
       generalize wr.drew = w75 at HO_9 HO_198000 HO_198001 BK189 BK190 BK191 BK197 HB HR201_0 HR203_0 hx201_0 hx202_0 hx203_0 hx204_0 hHeld ⊢
       refine pure_ (i := 0) (N := some 54) (v := ?_) (a' := ?_) #[true, false, false, false, false, false, false, false, false, false, false, false, false, false, false, false, false, false, false, false, false, false, false, false, false, false, false, false, false, false, false] rfl rfl (any_of HT_.out (by kernel_rfl)) (fun _ _ _ h => h) (Or.inl ⟨by rfl, ?_⟩) ?_ ?_
       rotate_left
       ·intro w'
        go_simp
        with_reducible rfl
       rotate_left
       ·simp only [Act.put, List.setIfInBounds_toArray, List.set_cons_zero, List.set_cons_succ, i64_w, i32_w]
        rfl
       refine pure_ (i := 1) (N := some 55) (v := ?_) (a' := ?_) #[true, true, false, false, false, false, false, false, false, false, false, false, false, false, false, false, false, false, false, false, false, false, false, false, false, false, false, false, false, false, false] rfl rfl (any_of HT_.out (by kernel_rfl)) (fun _ _ _ h => h) (Or.inl ⟨by rfl, ?_⟩) ?_ ?_
       rotate_left
       ·intro w'
        go_simp
        with_reducible rfl
       rotate_left
       ·simp only [Act.put, List.setIfInBounds_toArray, List.set_cons_zero, List.set_cons_succ, i64_w, i32_w]
        rfl
       refine pure_ (i := 3) (N := some 57) (v := ?_) (a' := ?_) #[true, true, false, true, false, false, false, false, false, false, false, false, false, false, false, false, false, false, false, false, false, false, false, false, false, false, false, false, false, false, false] rfl rfl (any_of HT_.out (by kernel_rfl)) (fun _ _ _ h => h) (Or.inl ⟨by rfl, ?_⟩) ?_ ?_
       rotate_left
       ·intro w'
        go_simp
        with_reducible rfl
       rotate_left
       ·simp only [Act.put, List.setIfInBounds_toArray, List.set_cons_zero, List.set_cons_succ, i64_w, i32_w]
        rfl
       refine pure_ (i := 4) (N := some 58) (v := ?_) (a' := ?_) #[true, true, false, true, true, false, false, false, false, false, false, false, false, false, false, false, false, false, false, false, false, false, false, false, false, false, false, false, false, false, false] rfl rfl (any_of HT_.out (by kernel_rfl)) (fun _ _ _ h => h) (Or.inl ⟨by rfl, ?_⟩) ?_ ?_
       rotate_left
       ·intro w'
        go_simp
        with_reducible rfl
       rotate_left
       ·simp only [Act.put, List.setIfInBounds_toArray, List.set_cons_zero, List.set_cons_succ, i64_w, i32_w]
        rfl
       refine pure_ (i := 5) (N := some 59) (v := ?_) (a' := ?_) #[true, true, false, true, true, true, false, false, false, false, false, false, false, false, false, false, false, false, false, false, false, false, false, false, false, false, false, false, false, false, false] rfl rfl (any_of HT_.out (by kernel_rfl)) (fun _ _ _ h => h) (Or.inl ⟨by rfl, ?_⟩) ?_ ?_
       rotate_left
       ·intro w'
        go_simp
        with_reducible rfl
       rotate_left
       ·simp only [Act.put, List.setIfInBounds_toArray, List.set_cons_zero, List.set_cons_succ, i64_w, i32_w]
        rfl
       refine pure_ (i := 8) (N := some 62) (v := ?_) (a' := ?_) #[true, true, false, true, true, true, false, false, true, false, false, false, false, false, false, false, false, false, false, false, false, false, false, false, false, false, false, false, false, false, false] rfl rfl (any_of HT_.out (by kernel_rfl)) (fun _ _ _ h => h) (Or.inl ⟨by rfl, ?_⟩) ?_ ?_
       rotate_left
       ·intro w'
        go_simp
        with_reducible rfl
       rotate_left
       ·simp only [Act.put, List.setIfInBounds_toArray, List.set_cons_zero, List.set_cons_succ, i64_w, i32_w]
        rfl
       refine pure_ (i := 9) (N := some 63) (v := ?_) (a' := ?_) #[true, true, false, true, true, true, false, false, true, true, false, false, false, false, false, false, false, false, false, false, false, false, false, false, false, false, false, false, false, false, false] rfl rfl (any_of HT_.out (by kernel_rfl)) (fun _ _ _ h => h) (Or.inl ⟨by rfl, ?_⟩) ?_ ?_
       rotate_left
       ·intro w'
        go_simp
        with_reducible rfl
       rotate_left
       ·simp only [Act.put, List.setIfInBounds_toArray, List.set_cons_zero, List.set_cons_succ, i64_w, i32_w]
        rfl
       refine pure_ (i := 10) (N := some 64) (v := ?_) (a' := ?_) #[true, true, false, true, true, true, false, false, true, true, true, false, false, false, false, false, false, false, false, false, false, false, false, false, false, false, false, false, false, false, false] rfl rfl (any_of HT_.out (by kernel_rfl)) (fun _ _ _ h => h) (Or.inl ⟨by rfl, ?_⟩) ?_ ?_
       rotate_left
       ·intro w'
        go_simp
        with_reducible rfl
       rotate_left
       ·simp only [Act.put, List.setIfInBounds_toArray, List.set_cons_zero, List.set_cons_succ, i64_w, i32_w]
        rfl
       refine pure_ (i := 13) (N := some 67) (v := ?_) (a' := ?_) #[true, true, false, true, true, true, false, false, true, true, true, false, false, true, false, false, false, false, false, false, false, false, false, false, false, false, false, false, false, false, false] rfl rfl (any_of HT_.out (by kernel_rfl)) (fun _ _ _ h => h) (Or.inl ⟨by rfl, ?_⟩) ?_ ?_
       rotate_left
       ·intro w'
        go_simp
        with_reducible rfl
       rotate_left
       ·simp only [Act.put, List.setIfInBounds_toArray, List.set_cons_zero, List.set_cons_succ, i64_w, i32_w]
        rfl
       refine pure_ (i := 15) (N := some 69) (v := ?_) (a' := ?_) #[true, true, false, true, true, true, false, false, true, true, true, false, false, true, false, true, false, false, false, false, false, false, false, false, false, false, false, false, false, false, false] rfl rfl (any_of HT_.out (by kernel_rfl)) (fun _ _ _ h => h) (Or.inl ⟨by rfl, ?_⟩) ?_ ?_
       rotate_left
       ·intro w'
        go_simp
        with_reducible rfl
       rotate_left
       ·simp only [Act.put, List.setIfInBounds_toArray, List.set_cons_zero, List.set_cons_succ, i64_w, i32_w]
        rfl
       refine pure_ (i := 17) (N := some 71) (v := ?_) (a' := ?_) #[true, true, false, true, true, true, false, false, true, true, true, false, false, true, false, true, false, true, false, false, false, false, false, false, false, false, false, false, false, false, false] rfl rfl (any_of HT_.out (by kernel_rfl)) (fun _ _ _ h => h) (Or.inl ⟨by rfl, ?_⟩) ?_ ?_
       rotate_left
       ·intro w'
        go_simp
        with_reducible rfl
       rotate_left
       ·simp only [Act.put, List.setIfInBounds_toArray, List.set_cons_zero, List.set_cons_succ, i64_w, i32_w]
        rfl
       refine pure_ (i := 18) (N := some 72) (v := ?_) (a' := ?_) #[true, true, false, true, true, true, false, false, true, true, true, false, false, true, false, true, false, true, true, false, false, false, false, false, false, false, false, false, false, false, false] rfl rfl (any_of HT_.out (by kernel_rfl)) (fun _ _ _ h => h) (Or.inl ⟨by rfl, ?_⟩) ?_ ?_
       rotate_left
       ·intro w'
        go_simp
        with_reducible rfl
       rotate_left
       ·simp only [Act.put, List.setIfInBounds_toArray, List.set_cons_zero, List.set_cons_succ, i64_w, i32_w]
        rfl
       refine pure_ (i := 19) (N := some 73) (v := ?_) (a' := ?_) #[true, true, false, true, true, true, false, false, true, true, true, false, false, true, false, true, false, true, true, true, false, false, false, false, false, false, false, false, false, false, false] rfl rfl (any_of HT_.out (by kernel_rfl)) (fun _ _ _ h => h) (Or.inl ⟨by rfl, ?_⟩) ?_ ?_
       rotate_left
       ·intro w'
        go_simp
        with_reducible rfl
       rotate_left
       ·simp only [Act.put, List.setIfInBounds_toArray, List.set_cons_zero, List.set_cons_succ, i64_w, i32_w]
        rfl
       refine pure_ (i := 22) (N := some 76) (v := ?_) (a' := ?_) #[true, true, false, true, true, true, false, false, true, true, true, false, false, true, false, true, false, true, true, true, false, false, true, false, false, false, false, false, false, false, false] rfl rfl (any_of HT_.out (by kernel_rfl)) (fun _ _ _ h => h) (Or.inl ⟨by rfl, ?_⟩) ?_ ?_
       rotate_left
       ·intro w'
        go_simp
        with_reducible rfl
       rotate_left
       ·simp only [Act.put, List.setIfInBounds_toArray, List.set_cons_zero, List.set_cons_succ, i64_w, i32_w]
        rfl
       refine pure_ (i := 23) (N := some 77) (v := ?_) (a' := ?_) #[true, true, false, true, true, true, false, false, true, true, true, false, false, true, false, true, false, true, true, true, false, false, true, true, false, false, false, false, false, false, false] rfl rfl (any_of HT_.out (by kernel_rfl)) (fun _ _ _ h => h) (Or.inl ⟨by rfl, ?_⟩) ?_ ?_
       rotate_left
       ·intro w'
        go_simp
        with_reducible rfl
       rotate_left
       ·simp only [Act.put, List.setIfInBounds_toArray, List.set_cons_zero, List.set_cons_succ, i64_w, i32_w]
        rfl
       refine pure_ (i := 24) (N := some 78) (v := ?_) (a' := ?_) #[true, true, false, true, true, true, false, false, true, true, true, false, false, true, false, true, false, true, true, true, false, false, true, true, true, false, false, false, false, false, false] rfl rfl (any_of HT_.out (by kernel_rfl)) (fun _ _ _ h => h) (Or.inl ⟨by rfl, ?_⟩) ?_ ?_
       rotate_left
       ·intro w'
        go_simp
        with_reducible rfl
       rotate_left
       ·simp only [Act.put, List.setIfInBounds_toArray, List.set_cons_zero, List.set_cons_succ, i64_w, i32_w]
        rfl
       refine take_ (i := 2) (N := some 56) (v := ?_) (a' := ?_) #[true, true, true, true, true, true, false, false, true, true, true, false, false, true, false, true, false, true, true, true, false, false, true, true, true, false, false, false, false, false, false] rfl rfl (take_ofW HT_.out HW_.out (by kernel_rfl)) (fun _ _ _ h => h) (Or.inl ⟨by rfl, ?_⟩) hHeld ?_ ?_
       rotate_left
       ·rintro w' ⟨s0, s1, s2, s3, s4, s5, s6, s7⟩
        go_simp
        with_reducible rfl
       rotate_left
       ·simp only [Act.put, List.setIfInBounds_toArray, List.set_cons_zero, List.set_cons_succ, i64_w, i32_w]
        rfl
       refine pure_ (i := 6) (N := some 60) (v := ?_) (a' := ?_) #[true, true, true, true, true, true, true, false, true, true, true, false, false, true, false, true, false, true, true, true, false, false, true, true, true, false, false, false, false, false, false] rfl rfl (any_of HT_.out (by kernel_rfl)) (fun _ _ _ h => h) (Or.inl ⟨by rfl, ?_⟩) ?_ ?_
       rotate_left
       ·intro w'
        go_simp
        with_reducible rfl
       rotate_left
       ·simp only [Act.put, List.setIfInBounds_toArray, List.set_cons_zero, List.set_cons_succ, i64_w, i32_w]
        rfl
       refine take_ (i := 7) (N := some 61) (v := ?_) (a' := ?_) #[true, true, true, true, true, true, true, true, true, true, true, false, false, true, false, true, false, true, true, true, false, false, true, true, true, false, false, false, false, false, false] rfl rfl (take_ofW HT_.out HW_.out (by kernel_rfl)) (fun _ _ _ h => h) (Or.inl ⟨by rfl, ?_⟩) hHeld ?_ ?_
       rotate_left
       ·rintro w' ⟨s0, s1, s2, s3, s4, s5, s6, s7⟩
        go_simp
        with_reducible rfl
       rotate_left
       ·simp only [Act.put, List.setIfInBounds_toArray, List.set_cons_zero, List.set_cons_succ, i64_w, i32_w]
        rfl
       refine pure_ (i := 11) (N := some 65) (v := ?_) (a' := ?_) #[true, true, true, true, true, true, true, true, true, true, true, true, false, true, false, true, false, true, true, true, false, false, true, true, true, false, false, false, false, false, false] rfl rfl (any_of HT_.out (by kernel_rfl)) (fun _ _ _ h => h) (Or.inl ⟨by rfl, ?_⟩) ?_ ?_
       rotate_left
       ·intro w'
        go_simp
        with_reducible rfl
       rotate_left
       ·simp only [Act.put, List.setIfInBounds_toArray, List.set_cons_zero, List.set_cons_succ, i64_w, i32_w]
        rfl
       refine take_ (i := 12) (N := some 66) (v := ?_) (a' := ?_) #[true, true, true, true, true, true, true, true, true, true, true, true, true, true, false, true, false, true, true, true, false, false, true, true, true, false, false, false, false, false, false] rfl rfl (take_ofW HT_.out HW_.out (by kernel_rfl)) (fun _ _ _ h => h) (Or.inl ⟨by rfl, ?_⟩) hHeld ?_ ?_
       rotate_left
       ·rintro w' ⟨s0, s1, s2, s3, s4, s5, s6, s7⟩
        go_simp
        with_reducible rfl
       rotate_left
       ·simp only [Act.put, List.setIfInBounds_toArray, List.set_cons_zero, List.set_cons_succ, i64_w, i32_w]
        rfl
       refine pure_ (i := 14) (N := some 68) (v := ?_) (a' := ?_) #[true, true, true, true, true, true, true, true, true, true, true, true, true, true, true, true, false, true, true, true, false, false, true, true, true, false, false, false, false, false, false] rfl rfl (any_of HT_.out (by kernel_rfl)) (fun _ _ _ h => h) (Or.inl ⟨by rfl, ?_⟩) ?_ ?_
       rotate_left
       ·intro w'
        go_simp
        with_reducible rfl
       rotate_left
       ·simp only [Act.put, List.setIfInBounds_toArray, List.set_cons_zero, List.set_cons_succ, i64_w, i32_w]
        rfl
       refine take_ (i := 16) (N := some 70) (v := ?_) (a' := ?_) #[true, true, true, true, true, true, true, true, true, true, true, true, true, true, true, true, true, true, true, true, false, false, true, true, true, false, false, false, false, false, false] rfl rfl (take_ofW HT_.out HW_.out (by kernel_rfl)) (fun _ _ _ h => h) (Or.inl ⟨by rfl, ?_⟩) hHeld ?_ ?_
       rotate_left
       ·rintro w' ⟨s0, s1, s2, s3, s4, s5, s6, s7⟩
        go_simp
        with_reducible rfl
       rotate_left
       ·simp only [Act.put, List.setIfInBounds_toArray, List.set_cons_zero, List.set_cons_succ, i64_w, i32_w]
        rfl
       refine pure_ (i := 20) (N := some 74) (v := ?_) (a' := ?_) #[true, true, true, true, true, true, true, true, true, true, true, true, true, true, true, true, true, true, true, true, true, false, true, true, true, false, false, false, false, false, false] rfl rfl (any_of HT_.out (by kernel_rfl)) (fun _ _ _ h => h) (Or.inl ⟨by rfl, ?_⟩) ?_ ?_
       rotate_left
       ·intro w'
        go_simp
        with_reducible rfl
       rotate_left
       ·simp only [Act.put, List.setIfInBounds_toArray, List.set_cons_zero, List.set_cons_succ, i64_w, i32_w]
        rfl
       refine take_ (i := 21) (N := some 75) (v := ?_) (a' := ?_) #[true, true, true, true, true, true, true, true, true, true, true, true, true, true, true, true, true, true, true, true, true, true, true, true, true, false, false, false, false, false, false] rfl rfl (take_ofW HT_.out HW_.out (by kernel_rfl)) (fun _ _ _ h => h) (Or.inl ⟨by rfl, ?_⟩) hHeld ?_ ?_
       rotate_left
       ·rintro w' ⟨s0, s1, s2, s3, s4, s5, s6, s7⟩
        go_simp
        with_reducible rfl
       rotate_left
       ·simp only [Act.put, List.setIfInBounds_toArray, List.set_cons_zero, List.set_cons_succ, i64_w, i32_w]
        rfl
       refine pure_ (i := 25) (N := some 79) (v := ?_) (a' := ?_) #[true, true, true, true, true, true, true, true, true, true, true, true, true, true, true, true, true, true, true, true, true, true, true, true, true, true, false, false, false, false, false] rfl rfl (any_of HT_.out (by kernel_rfl)) (fun _ _ _ h => h) (Or.inl ⟨by rfl, ?_⟩) ?_ ?_
       rotate_left
       ·intro w'
        go_simp
        with_reducible rfl
       rotate_left
       ·simp only [Act.put, List.setIfInBounds_toArray, List.set_cons_zero, List.set_cons_succ, i64_w, i32_w]
        rfl
       refine take_ (i := 26) (N := some 80) (v := ?_) (a' := ?_) #[true, true, true, true, true, true, true, true, true, true, true, true, true, true, true, true, true, true, true, true, true, true, true, true, true, true, true, false, false, false, false] rfl rfl (take_ofW HT_.out HW_.out (by kernel_rfl)) (fun _ _ _ h => h) (Or.inl ⟨by rfl, ?_⟩) hHeld ?_ ?_
       rotate_left
       ·rintro w' ⟨s0, s1, s2, s3, s4, s5, s6, s7⟩
        go_simp
        with_reducible rfl
       rotate_left
       ·simp only [Act.put, List.setIfInBounds_toArray, List.set_cons_zero, List.set_cons_succ, i64_w, i32_w]
        rfl
       refine pure_ (i := 27) (N := some 81) (v := ?_) (a' := ?_) #[true, true, true, true, true, true, true, true, true, true, true, true, true, true, true, true, true, true, true, true, true, true, true, true, true, true, true, true, false, false, false] rfl rfl (any_of HT_.out (by kernel_rfl)) (fun _ _ _ h => h) (Or.inl ⟨by rfl, ?_⟩) ?_ ?_
       rotate_left
       ·intro w'
        go_simp
        with_reducible rfl
       rotate_left
       ·simp only [Act.put, List.setIfInBounds_toArray, List.set_cons_zero, List.set_cons_succ, i64_w, i32_w]
        rfl
       refine one_ (i := 28) (N := some 82) #[true, true, true, true, true, true, true, true, true, true, true, true, true, true, true, true, true, true, true, true, true, true, true, true, true, true, true, true, true, false, false] rfl rfl (one_of HT_.out (by kernel_rfl)) (by decide) (fun K hK => ?_)
       refine value_ (w1 := ?_) (v := ?_) (by rfl) rfl ?_ ?_
       rotate_left 2
       ·go_simp
        constructor
        ·rfl
        ·rfl
       refine hK.out _ _ ⟨(blk_cell (blk_alloc BK189.out _) 0).trans rfl, (blk_cell (blk_alloc BK189.out _) 1).trans rfl, (blk_cell (blk_alloc BK190.out _) 0).trans rfl, (blk_cell (blk_alloc BK190.out _) 1).trans rfl, (World.cell?_alloc_lt _ _ _ (World.block_lt_of_cell? _ _ (((HB.out.cell (World.block_lt_of_cell? w _ hw201_0)).trans hw201_0)))).trans (((HB.out.cell (World.block_lt_of_cell? w _ hw201_0)).trans hw201_0)), (World.cell?_alloc_lt _ _ _ (World.block_lt_of_cell? _ _ (((HB.out.cell (World.block_lt_of_cell? w _ hw202_0)).trans hw202_0)))).trans (((HB.out.cell (World.block_lt_of_cell? w _ hw202_0)).trans hw202_0)), (World.cell?_alloc_lt _ _ _ (World.block_lt_of_cell? _ _ (((HB.out.cell (World.block_lt_of_cell? w _ hw203_0)).trans hw203_0)))).trans (((HB.out.cell (World.block_lt_of_cell? w _ hw203_0)).trans hw203_0)), (World.cell?_alloc_lt _ _ _ (World.block_lt_of_cell? _ _ (((HB.out.cell (World.block_lt_of_cell? w _ hw204_0)).trans hw204_0)))).trans (((HB.out.cell (World.block_lt_of_cell? w _ hw204_0)).trans hw204_0))⟩ (fun hHeld => ?_)
       clear hK K
       refine norm_ (a' := ?_) ?_ ?_
       rotate_left
       ·show Act.put _ (some 82) _ = _
        simp only [Act.put, List.setIfInBounds_toArray, List.set_cons_zero, List.set_cons_succ, i64_w, i32_w]
        rfl
       refine one_ (i := 29) (N := some 83) #[true, true, true, true, true, true, true, true, true, true, true, true, true, true, true, true, true, true, true, true, true, true, true, true, true, true, true, true, true, true, false] rfl rfl (one_of HT_.out (by kernel_rfl)) (by decide) (fun K hK => ?_)
       refine Kd.R_append_step (Kd.int .i64) (w0 := w) w.heap.size (by rfl) (.tmp 54) (.tmp 82) 22 3 (.int .i64 0) 8 rfl Try.underlying22 info3 rfl (by decide) (by omega) u9 x9_3 (wrap64 ((wrap64 ((rd (rd_L1 l0_1 (ji58)) (ji61)) * (l1_0.length : Int))) + (rd (rd_L1 l1_1 (ji64)) (ji67)))) [.int .i64 (wrap64 ((wrap64 ((rd (rd_L1 l0_1 (ji58)) (ji61)) * (l1_0.length : Int))) + (rd (rd_L1 l1_1 (ji64)) (ji67))))] (fun k_ => some k_ ≠ (.slice Ao42 t194.length co42 : Value).ownBlock) (fun _ => False) rfl rfl ?aP (fun _ hk => hk.elim) ?aF ?aO ?aB ?aS ?aL ?_
       (case aP => exact rfl)
       (case aB => exact (bB HB.out))
       (case aF => exact (fun k_ hk => Kd.fresh' (Kd.R_lt (kR HO_198000.out)) k_ hk))
       (case aO => exact (kR HO_9.out))
       (case aS => exact (below_size (bB HB.out)))
       (case aL => have := LMc70.out; omega)
       intro v206 w76 ho hb hg hat
       rw [← Ny205.out] at ho
       replace HO_198000 := ak (Kd.R_after (ok := (fun _ => True)) (kR (Kd.R_mono HO_198000.out (fun _ hk => ⟨trivial, hk⟩))) hg hat)
       replace HO_198001 := ak (Kd.S_after (ok := (fun k_ => some k_ ≠ (.slice Ao42 t194.length co42 : Value).ownBlock)) (kS (Kd.S_mono HO_198001.out (fun _ hk => ⟨hk.2, hk.1⟩))) hg hat)
       replace BK189 := ak (blk_grown (g := gb189) (o := .cells #[.slice A0_0 l0_0.length c0_0, .slice (some ad201) l0_1.length c0_1] 25 (0, 0)) (kK BK189.out) hg (Kd.R_ne HO_9.out BK189.out (by decide)))
       replace BK190 := ak (blk_grown (g := gb190) (o := .cells #[.slice A1_0 l1_0.length c1_0, .slice (some ad203) l1_1.length c1_1] 25 (0, 0)) (kK BK190.out) hg (Kd.R_ne HO_9.out BK190.out (by decide)))
       replace BK191 := ak (blk_grown (g := gb191) (o := .cells #[.slice none 0 0, .slice none 0 0] 25 (0, 0)) (kK BK191.out) hg (Kd.R_ne HO_9.out BK191.out (by decide)))
       replace BK197 := ak (blk_grown (g := gb197) (o := .cells #[.slice Ao42 t194.length co42, u198001] 25 (0, 0)) (kK BK197.out) hg (Kd.R_ne HO_9.out BK197.out (by decide)))
       replace HB := ak (hb)
       have HO207 := ak (ho)
       clear HO_9
       clear ho hb hg hat
       refine hK.out _ _ ⟨(blk_cell BK189.out 0).trans rfl, (blk_cell BK189.out 1).trans rfl, (blk_cell BK190.out 0).trans rfl, (blk_cell BK190.out 1).trans rfl, ((HB.out.cell (World.block_lt_of_cell? w _ hw201_0)).trans hw201_0), ((HB.out.cell (World.block_lt_of_cell? w _ hw202_0)).trans hw202_0), ((HB.out.cell (World.block_lt_of_cell? w _ hw203_0)).trans hw203_0), ((HB.out.cell (World.block_lt_of_cell? w _ hw204_0)).trans hw204_0)⟩ (fun hHeld => ?_)
       clear hK K
       refine norm_ (a' := ?_) ?_ ?_
       rotate_left
       ·show Act.put _ (some 83) _ = _
        simp only [Act.put, List.setIfInBounds_toArray, List.set_cons_zero, List.set_cons_succ, i64_w, i32_w]
        rfl
       refine pure_ (i := 30) (N := some 9) (v := ?_) (a' := ?_) #[true, true, true, true, true, true, true, true, true, true, true, true, true, true, true, true, true, true, true, true, true, true, true, true, true, true, true, true, true, true, true] rfl rfl (any_of HT_.out (by kernel_rfl)) (fun _ _ _ h => h) (Or.inl ⟨by rfl, ?_⟩) ?_ ?_
       rotate_left
       ·intro w'
        go_simp
        with_reducible rfl
       rotate_left
       ·simp only [Act.put, List.setIfInBounds_toArray, List.set_cons_zero, List.set_cons_succ, i64_w, i32_w]
        rfl
       refine done_ (done_of HT_.out (by kernel_rfl)) ?_
       try go_wp2
       go_roundg k3
       case measure => have := HJ2.out; have := HK2.out; have := HK3.out; omega
       case rel => exact ⟨(y205), (wrap64 (x10_3 + 1)), (by first | rfl | (simp; done) | (simp [*]; done)), H', ⟨by have := HJ2.out; have := HK2.out; have := HK3.out; omega⟩, ⟨by (with_reducible repeat (first | apply Kd.R_alloc | apply Kd.R_drewN | apply Kd.R_drew)); exact HO207.out⟩, ⟨by (with_reducible repeat (first | apply Kd.R_alloc | apply Kd.R_drewN | apply Kd.R_drew)); exact Kd.R_mono HO_198000.out (fun _ hk => hk.2)⟩, ⟨by (with_reducible repeat (first | apply Kd.S_alloc | apply Kd.S_drewN | apply Kd.S_drew)); exact Kd.S_mono HO_198001.out (fun _ hk => ⟨hk.2, hk.1⟩)⟩, ⟨by (with_reducible repeat (first | refine blk_drewN ?_ _ | refine blk_drew ?_ | refine blk_alloc ?_ _)); exact BK189.out⟩, ⟨by (with_reducible repeat (first | refine blk_drewN ?_ _ | refine blk_drew ?_ | refine blk_alloc ?_ _)); exact BK190.out⟩, ⟨by (with_reducible repeat (first | refine blk_drewN ?_ _ | refine blk_drew ?_ | refine blk_alloc ?_ _)); exact BK191.out⟩, ⟨by (with_reducible repeat (first | refine blk_drewN ?_ _ | refine blk_drew ?_ | refine blk_alloc ?_ _)); exact BK197.out⟩, ⟨by repeat (first | (with_reducible first | exact HB.out | apply below_alloc | apply pw_below_drewN | apply below_drew1 | refine below_set ?_ GE189.out | refine below_set ?_ GE190.out | refine below_set ?_ GE191.out | refine below_set ?_ GE197.out) | exact HB.out)⟩⟩
end Go.Proofs.Ytjidbgmkhapklaa.P

-- shrunk
