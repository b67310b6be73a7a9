-- Printed by this session's wip/print2.py (the kit's print.py, widened) out of the translation. Lean checks it.
import Derived.Test.YtomapoenndlbiaaP0
import Derived.Test.YtomapoenndlbiaaP18
import Derived.Test.YtomapoenndlbiaaP21
import Derived.Test.YtomapoenndlbiaaP22
namespace Go.Proofs.Ytomapoenndlbiaa.P
open Go.RowKit Go.Proofs.YtomapoenndlbiaaW.PrintWords Go.Proofs.YtomapoenndlbiaaW.PrintLast Go.Proofs.YtomapoenndlbiaaW.PrintMore
attribute [local go_sem] max2_int min2_int max_two min_two max_three min_three max_four min_four   -- for this text's walks alone
set_option linter.unusedVariables false
set_option linter.unusedSimpArgs false

/-! ### impl_ValidAlgebra: function 40 -/
mutual
def impl_ValidAlgebra.j0 : Nat → Bool → List Int → List (List Int) → Int → Option (Bool)
 | 0, _, _, _, _ => none
 | k + 1, x22, x255000, x255001, x256000 => if x22 = true then (some false) else (impl_ValidAlgebra.l0 k x255001 (x255001.length : Int) 0 x255000 x255001 x256000)
def impl_ValidAlgebra.l0 : Nat → List (List Int) → Int → Int → List Int → List (List Int) → Int → Option (Bool)
 | 0, _, _, _, _, _, _ => none
 | k + 1, x24, x25, x26, x255000, x255001, x256000 => if x26 < x25 then (if 0 ≤ x26 then (if x26 < (x24.length : Int) then (if ((rd_L1 x24 x26).length : Int) = x256000 then ((cf_ValidAlgebra_1.f (rd_L1 x24 x26) x256000).bind fun t258 => (if t258 = true then (some false) else (impl_ValidAlgebra.l0 k x24 x25 (wrap64 (x26 + 1)) x255000 x255001 x256000))) else (some false)) else (none)) else (none)) else (impl_ValidAlgebra.l1 k (x255000.length : Int) 0 x255000 x255001 x256000)
def impl_ValidAlgebra.l1 : Nat → Int → Int → List Int → List (List Int) → Int → Option (Bool)
 | 0, _, _, _, _, _ => none
 | k + 1, x42, x43, x255000, x255001, x256000 => if x43 < x42 then (if 0 ≤ x43 then (if x43 < (x255001.length : Int) then (if 0 ≤ (wrap64 (x256000 - 1)) then (if (wrap64 (x256000 - 1)) < ((rd_L1 x255001 x43).length : Int) then (if (rd (rd_L1 x255001 x43) (wrap64 (x256000 - 1))) = x43 then (if 0 < ((rd_L1 x255001 x43).length : Int) then (impl_ValidAlgebra.j3 k x43 x42 x43 ((rd (rd_L1 x255001 x43) 0) != 0) x255000 x255001 x256000) else (none)) else (impl_ValidAlgebra.j3 k x43 x42 x43 true x255000 x255001 x256000)) else (none)) else (none)) else (none)) else (none)) else (some true)
def impl_ValidAlgebra.j3 : Nat → Int → Int → Int → Bool → List Int → List (List Int) → Int → Option (Bool)
 | 0, _, _, _, _, _, _, _ => none
 | k + 1, x6, x42, x43, x66, x255000, x255001, x256000 => if x66 = true then (some false) else (impl_ValidAlgebra.l2 k x6 x42 x43 (x255000.length : Int) 0 x255000 x255001 x256000)
def impl_ValidAlgebra.l2 : Nat → Int → Int → Int → Int → Int → List Int → List (List Int) → Int → Option (Bool)
 | 0, _, _, _, _, _, _, _, _ => none
 | k + 1, x6, x42, x43, x69, x70, x255000, x255001, x256000 => if x70 < x69 then (if 0 ≤ x6 then (if x6 < (x255001.length : Int) then (if 0 ≤ x70 then (if x70 < ((rd_L1 x255001 x6).length : Int) then (if x70 < (x255001.length : Int) then (if x6 < ((rd_L1 x255001 x70).length : Int) then (if (rd (rd_L1 x255001 x6) x70) = (rd (rd_L1 x255001 x70) x6) then (impl_ValidAlgebra.l3 k x6 x70 x42 x43 x69 x70 (x255000.length : Int) 0 x255000 x255001 x256000) else (some false)) else (none)) else (none)) else (none)) else (none)) else (none)) else (none)) else (impl_ValidAlgebra.l1 k x42 (wrap64 (x43 + 1)) x255000 x255001 x256000)
def impl_ValidAlgebra.l3 : Nat → Int → Int → Int → Int → Int → Int → Int → Int → List Int → List (List Int) → Int → Option (Bool)
 | 0, _, _, _, _, _, _, _, _, _, _, _ => none
 | k + 1, x6, x7, x42, x43, x69, x70, x92, x93, x255000, x255001, x256000 => if x93 < x92 then (if 0 ≤ x6 then (if x6 < (x255001.length : Int) then (if 0 ≤ x7 then (if x7 < ((rd_L1 x255001 x6).length : Int) then (if 0 ≤ (rd (rd_L1 x255001 x6) x7) then (if (rd (rd_L1 x255001 x6) x7) < (x255001.length : Int) then (if 0 ≤ x93 then (if x93 < ((rd_L1 x255001 (rd (rd_L1 x255001 x6) x7)).length : Int) then (if x7 < (x255001.length : Int) then (if x93 < ((rd_L1 x255001 x7).length : Int) then (if 0 ≤ (rd (rd_L1 x255001 x7) x93) then (if (rd (rd_L1 x255001 x7) x93) < ((rd_L1 x255001 x6).length : Int) then (if (rd (rd_L1 x255001 (rd (rd_L1 x255001 x6) x7)) x93) = (rd (rd_L1 x255001 x6) (rd (rd_L1 x255001 x7) x93)) then ((impl_join.f k x255000 x7 x93).bind fun t276 => (if 0 ≤ t276 then (if t276 < ((rd_L1 x255001 x6).length : Int) then (if x93 < ((rd_L1 x255001 x6).length : Int) then ((impl_join.f k x255000 (rd (rd_L1 x255001 x6) x7) (rd (rd_L1 x255001 x6) x93)).bind fun t282 => (if (rd (rd_L1 x255001 x6) t276) = t282 then (impl_ValidAlgebra.l3 k x6 x7 x42 x43 x69 x70 x92 (wrap64 (x93 + 1)) x255000 x255001 x256000) else (some false))) else (none)) else (none)) else (none))) else (some false)) else (none)) else (none)) else (none)) else (none)) else (none)) else (none)) else (none)) else (none)) else (none)) else (none)) else (none)) else (none)) else (impl_ValidAlgebra.l2 k x6 x42 x43 x69 (wrap64 (x70 + 1)) x255000 x255001 x256000)
end
def impl_ValidAlgebra.f (k : Nat) (l0_0 : List Int) (l0_1 : List (List Int)) : Option (Bool) := (impl_ValidLattice.f k l0_0).bind fun t256 => (if t256 = true then (impl_ValidAlgebra.j0 k ((l0_1.length : Int) != (l0_0.length : Int)) l0_0 l0_1 (l0_0.length : Int)) else (impl_ValidAlgebra.j0 k true l0_0 l0_1 (l0_0.length : Int)))
set_option maxHeartbeats 8000000 in
set_option maxRecDepth 100000 in
theorem impl_ValidAlgebra.calls (k : Nat) (A0_0 : Option Addr) (c0_0 : Nat) (l0_0 : List Int) (A0_1 : Option Addr) (c0_1 : Nat) (l0_1 : List (List Int)) (r : Bool) (w : World) (hr0_0 : Kd.C (Kd.int .i64) w A0_0 l0_0.length l0_0) (hc0_0 : l0_0.length ≤ c0_0) (hr0_1 : Kd.C (Kd.slice 3 (Kd.int .i64)) w A0_1 l0_1.length l0_1) (hc0_1 : l0_1.length ≤ c0_1) (h : impl_ValidAlgebra.f k l0_0 l0_1 = some r) :
  Calls Try.prog 40 #[.agg #[.slice A0_0 l0_0.length c0_0, .slice A0_1 l0_1.length c0_1]] w fun e w' => e = .returned (.bool r) ∧ Below w.heap.size w w' := by
 have hu28 := Try.underlying28
 have HR0_0 := ak hr0_0
 have HC0_0 := ak hc0_0
 clear hr0_0 hc0_0
 have HR0_1 := ak hr0_1
 have HC0_1 := ak hc0_1
 clear hr0_1 hc0_1
 have HB := ak (Below.refl w.heap.size w)
 have H : ((impl_ValidLattice.f k l0_0).bind fun t256 => (if t256 = true then (impl_ValidAlgebra.j0 k ((l0_1.length : Int) != (l0_0.length : Int)) l0_0 l0_1 (l0_0.length : Int)) else (impl_ValidAlgebra.j0 k true l0_0 l0_1 (l0_0.length : Int)))) = some r := h
 clear h
 have HC2 := ak H
 clear H
 have hmf : ∀ (fn : Fn) (first cap : Array Value) (w : World), (Instr.makeFunc fn first cap).run Try.prog w = .ok (.func fn first cap) w := fun _ _ _ _ => rfl
 go_enter Try.func40, Try.ntmps40
 go_upto_region 2 with (first | ((with_reducible refine gate_dst (N := 1) rfl ?_); (try (refine gate_guard (by rfl) ?_; dsimp only)); refine box_event ?hg (N := 1) ?hd (cs := #[.slice A0_0 l0_0.length c0_0, .slice A0_1 l0_1.length c0_1]) (t := 28) ?hr ?_; (case hd => rfl); (case hg => rfl); (case hr => first | (go_simp; done) | (go_simp; rfl)); intro gb254 hg w3 hbox hb; have BK254 := ak (hbox); have GW254 := ak ((by rw [hg]; exact (below_size (bB HB.out)) : w.heap.size ≤ gb254)); have GE254 := ak ((by rw [hg]; exact (below_size (bB HB.out)) : w.heap.size ≤ gb254)); replace HB := ak (below_step (bB HB.out) hb); clear hb hbox hg; have hcz4_0 : w3.cell? ⟨gb254, 0, none⟩ = some (.slice A0_0 l0_0.length c0_0) := (blk_cell BK254.out 0).trans rfl; have hcz4_1 : w3.cell? ⟨gb254, 1, none⟩ = some (.slice A0_1 l0_1.length c0_1) := (blk_cell BK254.out 1).trans rfl; have hfz4_0 := blk_frozen BK254.out 0; have hfz4_1 := blk_frozen BK254.out 1) | ((with_reducible refine gate_dst (N := 3) rfl ?_); (try (refine gate_guard (by rfl) ?_; dsimp only)); refine box_event ?hg (N := 3) ?hd (cs := #[.int .i64 0]) (t := 3) ?hr ?_; (case hd => rfl); (case hg => rfl); (case hr => first | (go_simp; done) | (go_simp; rfl)); intro gb255 hg w5 hbox hb; have BK255 := ak (hbox); have GW255 := ak ((by rw [hg]; exact (below_size (bB HB.out)) : w.heap.size ≤ gb255)); have GE255 := ak ((by rw [hg]; exact (below_size (bB HB.out)) : w.heap.size ≤ gb255)); replace HB := ak (below_step (bB HB.out) hb); have NB254_255 := ak ((ne_box hg (kK BK254.out))); have NB255_254 := ak ((ne_box' hg (kK BK254.out))); replace BK254 := ak (blk_below (kK BK254.out) hb); clear hb hbox hg; have hnb6 := NB255_254.out; have hnc6 := NB254_255.out; have hcz7_0 : w5.cell? ⟨gb255, 0, none⟩ = some (.int .i64 0) := (blk_cell BK255.out 0).trans rfl; have hfz7_0 := blk_frozen BK255.out 0))
 repeat ((refine wp_region_quiet_lit ?_ ?_ ?_; kernel_rfl; kernel_rfl; (repeat (first | go_big_quiet_step (first | ((with_reducible refine gate_dst (N := 1) rfl ?_); (try (refine gate_guard (by rfl) ?_; dsimp only)); refine box_event ?hg (N := 1) ?hd (cs := #[.slice A0_0 l0_0.length c0_0, .slice A0_1 l0_1.length c0_1]) (t := 28) ?hr ?_; (case hd => rfl); (case hg => rfl); (case hr => first | (go_simp; done) | (go_simp; rfl)); intro gb254 hg w3 hbox hb; have BK254 := ak (hbox); have GW254 := ak ((by rw [hg]; exact (below_size (bB HB.out)) : w.heap.size ≤ gb254)); have GE254 := ak ((by rw [hg]; exact (below_size (bB HB.out)) : w.heap.size ≤ gb254)); replace HB := ak (below_step (bB HB.out) hb); clear hb hbox hg; have hcz4_0 : w3.cell? ⟨gb254, 0, none⟩ = some (.slice A0_0 l0_0.length c0_0) := (blk_cell BK254.out 0).trans rfl; have hcz4_1 : w3.cell? ⟨gb254, 1, none⟩ = some (.slice A0_1 l0_1.length c0_1) := (blk_cell BK254.out 1).trans rfl; have hfz4_0 := blk_frozen BK254.out 0; have hfz4_1 := blk_frozen BK254.out 1) | ((with_reducible refine gate_dst (N := 3) rfl ?_); (try (refine gate_guard (by rfl) ?_; dsimp only)); refine box_event ?hg (N := 3) ?hd (cs := #[.int .i64 0]) (t := 3) ?hr ?_; (case hd => rfl); (case hg => rfl); (case hr => first | (go_simp; done) | (go_simp; rfl)); intro gb255 hg w5 hbox hb; have BK255 := ak (hbox); have GW255 := ak ((by rw [hg]; exact (below_size (bB HB.out)) : w.heap.size ≤ gb255)); have GE255 := ak ((by rw [hg]; exact (below_size (bB HB.out)) : w.heap.size ≤ gb255)); replace HB := ak (below_step (bB HB.out) hb); have NB254_255 := ak ((ne_box hg (kK BK254.out))); have NB255_254 := ak ((ne_box' hg (kK BK254.out))); replace BK254 := ak (blk_below (kK BK254.out) hb); clear hb hbox hg; have hnb6 := NB255_254.out; have hnc6 := NB254_255.out; have hcz7_0 : w5.cell? ⟨gb255, 0, none⟩ = some (.int .i64 0) := (blk_cell BK255.out 0).trans rfl; have hfz7_0 := blk_frozen BK255.out 0)) | (refine wpQuiet_step (fun K hK => ?_); go_simp; refine hK _ ?_; clear hK K))); refine wpQuiet_nil ?_; intro _ hw'; obtain ⟨nq, hw''⟩ := hw'; subst hw''); go_upto_region 2 with (first | ((with_reducible refine gate_dst (N := 1) rfl ?_); (try (refine gate_guard (by rfl) ?_; dsimp only)); refine box_event ?hg (N := 1) ?hd (cs := #[.slice A0_0 l0_0.length c0_0, .slice A0_1 l0_1.length c0_1]) (t := 28) ?hr ?_; (case hd => rfl); (case hg => rfl); (case hr => first | (go_simp; done) | (go_simp; rfl)); intro gb254 hg w3 hbox hb; have BK254 := ak (hbox); have GW254 := ak ((by rw [hg]; exact (below_size (bB HB.out)) : w.heap.size ≤ gb254)); have GE254 := ak ((by rw [hg]; exact (below_size (bB HB.out)) : w.heap.size ≤ gb254)); replace HB := ak (below_step (bB HB.out) hb); clear hb hbox hg; have hcz4_0 : w3.cell? ⟨gb254, 0, none⟩ = some (.slice A0_0 l0_0.length c0_0) := (blk_cell BK254.out 0).trans rfl; have hcz4_1 : w3.cell? ⟨gb254, 1, none⟩ = some (.slice A0_1 l0_1.length c0_1) := (blk_cell BK254.out 1).trans rfl; have hfz4_0 := blk_frozen BK254.out 0; have hfz4_1 := blk_frozen BK254.out 1) | ((with_reducible refine gate_dst (N := 3) rfl ?_); (try (refine gate_guard (by rfl) ?_; dsimp only)); refine box_event ?hg (N := 3) ?hd (cs := #[.int .i64 0]) (t := 3) ?hr ?_; (case hd => rfl); (case hg => rfl); (case hr => first | (go_simp; done) | (go_simp; rfl)); intro gb255 hg w5 hbox hb; have BK255 := ak (hbox); have GW255 := ak ((by rw [hg]; exact (below_size (bB HB.out)) : w.heap.size ≤ gb255)); have GE255 := ak ((by rw [hg]; exact (below_size (bB HB.out)) : w.heap.size ≤ gb255)); replace HB := ak (below_step (bB HB.out) hb); have NB254_255 := ak ((ne_box hg (kK BK254.out))); have NB255_254 := ak ((ne_box' hg (kK BK254.out))); replace BK254 := ak (blk_below (kK BK254.out) hb); clear hb hbox hg; have hnb6 := NB255_254.out; have hnc6 := NB254_255.out; have hcz7_0 : w5.cell? ⟨gb255, 0, none⟩ = some (.int .i64 0) := (blk_cell BK255.out 0).trans rfl; have hfz7_0 := blk_frozen BK255.out 0)))
 (try simp only [Act.put, List.setIfInBounds_toArray, List.set_cons_zero, List.set_cons_succ])
 go_cut [22] (fun v22 wc => ∃ (kq : Nat) (x22_1 : Bool), v22 = .bool x22_1 ∧ Aside0 (impl_ValidAlgebra.j0 kq x22_1 l0_0 l0_1 (l0_0.length : Int) = some r) ∧ Aside0 (kq ≤ k) ∧ Aside0 (wc.heap[gb254]? = some (.cells #[(.slice A0_0 l0_0.length c0_0), (.slice A0_1 l0_1.length c0_1)] 28 (0, 0))) ∧ Aside0 (wc.heap[gb255]? = some (.cells #[.int .i64 (l0_0.length : Int)] 3 (0, 0))) ∧ Aside0 (Below w.heap.size w wc))
 case first =>
  have H := HC2.out
  clear HC2
  replace H := bi H
  obtain ⟨t256, A80, H⟩ := H
  try dsimp only at H
  have A8 := ak A80
  clear A80
  by_cases c9 : t256 = true
  rotate_left
  ·replace c9 := Bool.eq_false_iff.mpr c9
   subst c9
   rw [if_neg (show ¬ (false = true) by decide)] at H
   have H' := ak H
   clear H
   have hnb13 := NB254_255.out
   have hnc13 := NB255_254.out
   have hcz14_0 : w5.cell? ⟨gb254, 0, none⟩ = some (.slice A0_0 l0_0.length c0_0) := (blk_cell BK254.out 0).trans rfl
   have hcz14_1 : w5.cell? ⟨gb254, 1, none⟩ = some (.slice A0_1 l0_1.length c0_1) := (blk_cell BK254.out 1).trans rfl
   have hfz14_0 := blk_frozen BK254.out 0
   have hfz14_1 := blk_frozen BK254.out 1
   as_aux_lemma =>
    go_wp2_with (first | (go_at_call 62; (with_reducible refine (impl_ValidLattice.calls k _ _ l0_0 false _ ?side1 ?side2 A8.out).mono ?_); (case side1 => exact Kd.C_below HR0_0.out (bB HB.out)); (case side2 => exact HC0_0.out); rintro e w' ⟨rfl, ⟨nd, rfl⟩⟩; (try first | exact ⟨rfl, _, World.drewN_drewN _ _ _⟩ | exact ⟨rfl, _, Eq.trans (World.drewN_drewN _ _ _) (congrArg (World.drewN _) (Nat.add_assoc _ _ _))⟩)))
    repeat ((refine wp_region_quiet_lit ?_ ?_ ?_; kernel_rfl; kernel_rfl; (repeat (first | go_big_quiet_step (first | (go_at_call 62; (with_reducible refine (impl_ValidLattice.calls k _ _ l0_0 false _ ?side1 ?side2 A8.out).mono ?_); (case side1 => exact Kd.C_below HR0_0.out (bB HB.out)); (case side2 => exact HC0_0.out); rintro e w' ⟨rfl, ⟨nd, rfl⟩⟩; (try first | exact ⟨rfl, _, World.drewN_drewN _ _ _⟩ | exact ⟨rfl, _, Eq.trans (World.drewN_drewN _ _ _) (congrArg (World.drewN _) (Nat.add_assoc _ _ _))⟩))) | (refine wpQuiet_step (fun K hK => ?_); go_simp; refine hK _ ?_; clear hK K))); refine wpQuiet_nil ?_; intro _ hw'; obtain ⟨nq, hw''⟩ := hw'; subst hw''); try go_wp2_with (first | (go_at_call 62; (with_reducible refine (impl_ValidLattice.calls k _ _ l0_0 false _ ?side1 ?side2 A8.out).mono ?_); (case side1 => exact Kd.C_below HR0_0.out (bB HB.out)); (case side2 => exact HC0_0.out); rintro e w' ⟨rfl, ⟨nd, rfl⟩⟩; (try first | exact ⟨rfl, _, World.drewN_drewN _ _ _⟩ | exact ⟨rfl, _, Eq.trans (World.drewN_drewN _ _ _) (congrArg (World.drewN _) (Nat.add_assoc _ _ _))⟩))))
    go_meet
    case rel => exact ⟨_, (true), (by first | rfl | (simp; done) | (simp [*]; done)), H', ⟨by first | omega | exact Nat.le_refl _⟩, ⟨by (with_reducible repeat (first | refine blk_drewN ?_ _ | refine blk_drew ?_ | refine blk_alloc ?_ _)); refine blk_far ?_ NB254_255.out _; (with_reducible repeat (first | refine blk_drewN ?_ _ | refine blk_drew ?_ | refine blk_alloc ?_ _)); exact BK254.out⟩, ⟨by (with_reducible repeat (first | refine blk_drewN ?_ _ | refine blk_drew ?_ | refine blk_alloc ?_ _)); refine blk_put (cs := #[.int .i64 0]) ?_ 0 _ rfl; (with_reducible repeat (first | refine blk_drewN ?_ _ | refine blk_drew ?_ | refine blk_alloc ?_ _)); exact BK255.out⟩, ⟨by repeat (first | (with_reducible first | exact HB.out | apply below_alloc | apply pw_below_drewN | apply below_drew1 | refine below_set ?_ GE254.out | refine below_set ?_ GE255.out) | exact HB.out)⟩⟩
  subst c9
  rw [if_pos rfl] at H
  have H' := ak H
  clear H
  have hnb10 := NB254_255.out
  have hnc10 := NB255_254.out
  have hcz11_0 : w5.cell? ⟨gb254, 0, none⟩ = some (.slice A0_0 l0_0.length c0_0) := (blk_cell BK254.out 0).trans rfl
  have hcz11_1 : w5.cell? ⟨gb254, 1, none⟩ = some (.slice A0_1 l0_1.length c0_1) := (blk_cell BK254.out 1).trans rfl
  have hfz11_0 := blk_frozen BK254.out 0
  have hfz11_1 := blk_frozen BK254.out 1
  have hcz12_0 : w5.cell? ⟨gb255, 0, none⟩ = some (.int .i64 0) := (blk_cell BK255.out 0).trans rfl
  have hfz12_0 := blk_frozen BK255.out 0
  as_aux_lemma =>
   go_wp2_with (first | (go_at_call 62; (with_reducible refine (impl_ValidLattice.calls k _ _ l0_0 true _ ?side1 ?side2 A8.out).mono ?_); (case side1 => exact Kd.C_below HR0_0.out (bB HB.out)); (case side2 => exact HC0_0.out); rintro e w' ⟨rfl, ⟨nd, rfl⟩⟩; (try first | exact ⟨rfl, _, World.drewN_drewN _ _ _⟩ | exact ⟨rfl, _, Eq.trans (World.drewN_drewN _ _ _) (congrArg (World.drewN _) (Nat.add_assoc _ _ _))⟩)))
   repeat ((refine wp_region_quiet_lit ?_ ?_ ?_; kernel_rfl; kernel_rfl; (repeat (first | go_big_quiet_step (first | (go_at_call 62; (with_reducible refine (impl_ValidLattice.calls k _ _ l0_0 true _ ?side1 ?side2 A8.out).mono ?_); (case side1 => exact Kd.C_below HR0_0.out (bB HB.out)); (case side2 => exact HC0_0.out); rintro e w' ⟨rfl, ⟨nd, rfl⟩⟩; (try first | exact ⟨rfl, _, World.drewN_drewN _ _ _⟩ | exact ⟨rfl, _, Eq.trans (World.drewN_drewN _ _ _) (congrArg (World.drewN _) (Nat.add_assoc _ _ _))⟩))) | (refine wpQuiet_step (fun K hK => ?_); go_simp; refine hK _ ?_; clear hK K))); refine wpQuiet_nil ?_; intro _ hw'; obtain ⟨nq, hw''⟩ := hw'; subst hw''); try go_wp2_with (first | (go_at_call 62; (with_reducible refine (impl_ValidLattice.calls k _ _ l0_0 true _ ?side1 ?side2 A8.out).mono ?_); (case side1 => exact Kd.C_below HR0_0.out (bB HB.out)); (case side2 => exact HC0_0.out); rintro e w' ⟨rfl, ⟨nd, rfl⟩⟩; (try first | exact ⟨rfl, _, World.drewN_drewN _ _ _⟩ | exact ⟨rfl, _, Eq.trans (World.drewN_drewN _ _ _) (congrArg (World.drewN _) (Nat.add_assoc _ _ _))⟩))))
   go_meet
   case rel => exact ⟨_, (((l0_1.length : Int) != (l0_0.length : Int))), (by first | rfl | (simp; done) | (simp [*]; done)), H', ⟨by first | omega | exact Nat.le_refl _⟩, ⟨by (with_reducible repeat (first | refine blk_drewN ?_ _ | refine blk_drew ?_ | refine blk_alloc ?_ _)); refine blk_far ?_ NB254_255.out _; (with_reducible repeat (first | refine blk_drewN ?_ _ | refine blk_drew ?_ | refine blk_alloc ?_ _)); exact BK254.out⟩, ⟨by (with_reducible repeat (first | refine blk_drewN ?_ _ | refine blk_drew ?_ | refine blk_alloc ?_ _)); refine blk_put (cs := #[.int .i64 0]) ?_ 0 _ rfl; (with_reducible repeat (first | refine blk_drewN ?_ _ | refine blk_drew ?_ | refine blk_alloc ?_ _)); exact BK255.out⟩, ⟨by repeat (first | (with_reducible first | exact HB.out | apply below_alloc | apply pw_below_drewN | apply below_drew1 | refine below_set ?_ GE254.out | refine below_set ?_ GE255.out) | exact HB.out)⟩⟩
 case rest =>
  clear HC2
  try clear c1
  try clear p2
  try clear c4
  try clear c6
  try clear c9
  try clear c10
  try clear c13
  try clear hcz11_0
  try clear hcz11_1
  try clear hcz12_0
  try clear hcz14_0
  try clear hcz14_1
  try clear hcz4_0
  try clear hcz4_1
  try clear hcz7_0
  try clear hfz11_0
  try clear hfz11_1
  try clear hfz12_0
  try clear hfz14_0
  try clear hfz14_1
  try clear hfz4_0
  try clear hfz4_1
  try clear hfz7_0
  obtain ⟨kq, x22_1, rfl, HA, HJ1, BK254, BK255, HB⟩ := hcut
  cases kq with
  | zero => exact absurd HA.out (by simp [impl_ValidAlgebra.j0])
  | succ kj1 =>
   have H := HA.out
   clear HA
   simp only [impl_ValidAlgebra.j0] at H
   by_cases c15 : x22_1 = true
   ·subst c15
    rw [if_pos rfl] at H
    obtain rfl := Option.some.inj H
    as_aux_lemma =>
     go_wp2
     repeat ((refine wp_region_quiet_lit ?_ ?_ ?_; kernel_rfl; kernel_rfl; (repeat (first | go_big_quiet_step (fail) | (refine wpQuiet_step (fun K hK => ?_); go_simp; refine hK _ ?_; clear hK K))); refine wpQuiet_nil ?_; intro _ hw'; obtain ⟨nq, hw''⟩ := hw'; subst hw''); try go_wp2)
     go_ret
     exact ⟨by first | rfl | (simp [errW_none, errW_some] <;> rfl) | (simp [*, errW_none, errW_some] <;> rfl), by repeat (first | (with_reducible first | exact HB.out | apply below_alloc | apply pw_below_drewN | apply below_drew1 | refine below_set ?_ GE254.out | refine below_set ?_ GE255.out) | exact HB.out)⟩
   replace c15 := Bool.eq_false_iff.mpr c15
   subst c15
   rw [if_neg (show ¬ (false = true) by decide)] at H
   have H' := ak H
   clear H
   have hnb16 := NB254_255.out
   have hnc16 := NB255_254.out
   have hcz17_0 : wc.cell? ⟨gb254, 0, none⟩ = some (.slice A0_0 l0_0.length c0_0) := (blk_cell BK254.out 0).trans rfl
   have hcz17_1 : wc.cell? ⟨gb254, 1, none⟩ = some (.slice A0_1 l0_1.length c0_1) := (blk_cell BK254.out 1).trans rfl
   have hfz17_0 := blk_frozen BK254.out 0
   have hfz17_1 := blk_frozen BK254.out 1
   as_aux_lemma =>
    go_wp2
    repeat ((refine wp_region_quiet_lit ?_ ?_ ?_; kernel_rfl; kernel_rfl; (repeat (first | go_big_quiet_step (fail) | (refine wpQuiet_step (fun K hK => ?_); go_simp; refine hK _ ?_; clear hK K))); refine wpQuiet_nil ?_; intro _ hw'; obtain ⟨nq, hw''⟩ := hw'; subst hw''); try go_wp2)
    go_loopg [26] kj1 (fun kq v26 w' => ∃ (x26_2 : Int), v26 = .int .i64 x26_2 ∧ Aside0 (impl_ValidAlgebra.l0 kq l0_1 (l0_1.length : Int) x26_2 l0_0 l0_1 (l0_0.length : Int) = some r) ∧ Aside0 (kq ≤ kj1) ∧ Aside0 (w'.heap[gb254]? = some (.cells #[(.slice A0_0 l0_0.length c0_0), (.slice A0_1 l0_1.length c0_1)] 28 (0, 0))) ∧ Aside0 (w'.heap[gb255]? = some (.cells #[.int .i64 (l0_0.length : Int)] 3 (0, 0))) ∧ Aside0 (Below w.heap.size w w'))
    case atStart => exact ⟨(0), (by first | rfl | (simp; done) | (simp [*]; done)), H', ⟨Nat.le_refl _⟩, ⟨by (with_reducible repeat (first | refine blk_drewN ?_ _ | refine blk_drew ?_ | refine blk_alloc ?_ _)); exact BK254.out⟩, ⟨by (with_reducible repeat (first | refine blk_drewN ?_ _ | refine blk_drew ?_ | refine blk_alloc ?_ _)); exact BK255.out⟩, ⟨by repeat (first | (with_reducible first | exact HB.out | apply below_alloc | apply pw_below_drewN | apply below_drew1 | refine below_set ?_ GE254.out | refine below_set ?_ GE255.out) | exact HB.out)⟩⟩
    case round =>
     clear H'
     try clear c1
     try clear p2
     try clear c4
     try clear c6
     try clear c9
     try clear c10
     try clear c13
     try clear c15
     try clear c16
     try clear hcz11_0
     try clear hcz11_1
     try clear hcz12_0
     try clear hcz14_0
     try clear hcz14_1
     try clear hcz17_0
     try clear hcz17_1
     try clear hcz4_0
     try clear hcz4_1
     try clear hcz7_0
     try clear hfz11_0
     try clear hfz11_1
     try clear hfz12_0
     try clear hfz14_0
     try clear hfz14_1
     try clear hfz17_0
     try clear hfz17_1
     try clear hfz4_0
     try clear hfz4_1
     try clear hfz7_0
     try clear p2
     obtain ⟨x26_2, rfl, HA, HK2, BK254, BK255, HB⟩ := hrel
     cases gk with
     | zero => exact absurd HA.out (by simp [impl_ValidAlgebra.l0])
     | succ k2 =>
      have H := HA.out
      clear HA
      simp only [impl_ValidAlgebra.l0] at H
      by_cases c18 : x26_2 < (l0_1.length : Int)
      ·rw [if_pos c18] at H
       have c18b0 : decide (x26_2 < (l0_1.length : Int)) = true := decide_eq_true c18
       clear c18
       replace H := oi H
       obtain ⟨c19, H⟩ := H
       have c19b0 : decide (0 ≤ x26_2) = true := decide_eq_true c19
       clear c19
       replace H := oi H
       obtain ⟨c20, H⟩ := H
       have c20b0 : decide (x26_2 < (l0_1.length : Int)) = true := decide_eq_true c20
       clear c20
       by_cases c21 : ((rd_L1 l0_1 x26_2).length : Int) = (l0_0.length : Int)
       rotate_left
       ·rw [if_neg c21] at H
        have c21b0 : (((rd_L1 l0_1 x26_2).length : Int) == (l0_0.length : Int)) = false := beq_eq_false_iff_ne.mpr c21
        have c21b1 : (((rd_L1 l0_1 x26_2).length : Int) != (l0_0.length : Int)) = true := bne_iff_ne.mpr c21
        have c21b2 : ((rd_L1 l0_1 x26_2).length == l0_0.length) = false := by first | simpa using c21 | (simp at c21 ⊢; omega)
        obtain rfl := Option.some.inj H
        have p257 : 0 ≤ (x26_2 : Int) := of_decide_eq_true (by first | (with_reducible assumption) | assumption)
        have q257 : x26_2 < (l0_1.length : Int) := of_decide_eq_true (by first | (with_reducible assumption) | assumption)
        obtain ⟨ad257, A257_0, c257_0, e257, hx257_0, hl257_0, hi257_0⟩ := at_L1 HR0_1.out x26_2 p257 q257
        cases e257
        replace hx257_0 := (HB.out.cell (World.block_lt_of_cell? w _ hx257_0)).trans hx257_0
        have HR257_0 := ak hi257_0
        have HC257_0 := ak hl257_0
        clear hi257_0 hl257_0
        replace p257 := eq_true p257
        replace q257 := eq_true q257
        have hnb28 := NB255_254.out
        have hnc28 := NB254_255.out
        have hcz29_0 : wr.cell? ⟨gb255, 0, none⟩ = some (.int .i64 (l0_0.length : Int)) := (blk_cell BK255.out 0).trans rfl
        have hfz29_0 := blk_frozen BK255.out 0
        as_aux_lemma =>
         go_wp2
         repeat ((refine wp_region_quiet_lit ?_ ?_ ?_; kernel_rfl; kernel_rfl; (repeat (first | go_big_quiet_step (fail) | (refine wpQuiet_step (fun K hK => ?_); go_simp; refine hK _ ?_; clear hK K))); refine wpQuiet_nil ?_; intro _ hw'; obtain ⟨nq, hw''⟩ := hw'; subst hw''); try go_wp2)
         go_ret
         exact ⟨by first | rfl | (simp [errW_none, errW_some] <;> rfl) | (simp [*, errW_none, errW_some] <;> rfl), by repeat (first | (with_reducible first | exact HB.out | apply below_alloc | apply pw_below_drewN | apply below_drew1 | refine below_set ?_ GE254.out | refine below_set ?_ GE255.out) | exact HB.out)⟩
       rw [if_pos c21] at H
       have c21b0 : (((rd_L1 l0_1 x26_2).length : Int) == (l0_0.length : Int)) = true := beq_iff_eq.mpr c21
       have c21b1 : (((rd_L1 l0_1 x26_2).length : Int) != (l0_0.length : Int)) = false := bne_eq_false_iff_eq.mpr c21
       have c21b2 : ((rd_L1 l0_1 x26_2).length == l0_0.length) = true := by first | simpa using c21 | (simp at c21 ⊢; omega)
       clear c21
       replace H := bi H
       obtain ⟨t258, A220, H⟩ := H
       try dsimp only at H
       have A22 := ak A220
       clear A220
       by_cases c23 : t258 = true
       ·subst c23
        rw [if_pos rfl] at H
        obtain rfl := Option.some.inj H
        have p257 : 0 ≤ (x26_2 : Int) := of_decide_eq_true (by first | (with_reducible assumption) | assumption)
        have q257 : x26_2 < (l0_1.length : Int) := of_decide_eq_true (by first | (with_reducible assumption) | assumption)
        obtain ⟨ad257, A257_0, c257_0, e257, hx257_0, hl257_0, hi257_0⟩ := at_L1 HR0_1.out x26_2 p257 q257
        cases e257
        replace hx257_0 := (HB.out.cell (World.block_lt_of_cell? w _ hx257_0)).trans hx257_0
        have HR257_0 := ak hi257_0
        have HC257_0 := ak hl257_0
        clear hi257_0 hl257_0
        replace p257 := eq_true p257
        replace q257 := eq_true q257
        have hnb24 := NB255_254.out
        have hnc24 := NB254_255.out
        have hcz25_0 : wr.cell? ⟨gb255, 0, none⟩ = some (.int .i64 (l0_0.length : Int)) := (blk_cell BK255.out 0).trans rfl
        have hfz25_0 := blk_frozen BK255.out 0
        as_aux_lemma =>
         go_wp2_with (first | (go_at_call 56; (with_reducible refine (cf_ValidAlgebra_1.calls _ _ (rd_L1 l0_1 x26_2) gb255 (l0_0.length : Int) true _ ?side1 ?side2 ?side3 A22.out).mono ?_); (case side1 => exact kC (Kd.C_below HR257_0.out HB.out)); (case side2 => exact HC257_0.out); (case side3 => exact (show _ from by (with_reducible repeat (first | refine blk_drewN ?_ _ | refine blk_drew ?_ | refine blk_alloc ?_ _)); exact BK255.out)); rintro e w' ⟨rfl, ⟨nd, rfl⟩⟩; (try first | exact ⟨rfl, _, World.drewN_drewN _ _ _⟩ | exact ⟨rfl, _, Eq.trans (World.drewN_drewN _ _ _) (congrArg (World.drewN _) (Nat.add_assoc _ _ _))⟩)))
         repeat ((refine wp_region_quiet_lit ?_ ?_ ?_; kernel_rfl; kernel_rfl; (repeat (first | go_big_quiet_step (first | (go_at_call 56; (with_reducible refine (cf_ValidAlgebra_1.calls _ _ (rd_L1 l0_1 x26_2) gb255 (l0_0.length : Int) true _ ?side1 ?side2 ?side3 A22.out).mono ?_); (case side1 => exact kC (Kd.C_below HR257_0.out HB.out)); (case side2 => exact HC257_0.out); (case side3 => exact (show _ from by (with_reducible repeat (first | refine blk_drewN ?_ _ | refine blk_drew ?_ | refine blk_alloc ?_ _)); exact BK255.out)); rintro e w' ⟨rfl, ⟨nd, rfl⟩⟩; (try first | exact ⟨rfl, _, World.drewN_drewN _ _ _⟩ | exact ⟨rfl, _, Eq.trans (World.drewN_drewN _ _ _) (congrArg (World.drewN _) (Nat.add_assoc _ _ _))⟩))) | (refine wpQuiet_step (fun K hK => ?_); go_simp; refine hK _ ?_; clear hK K))); refine wpQuiet_nil ?_; intro _ hw'; obtain ⟨nq, hw''⟩ := hw'; subst hw''); try go_wp2_with (first | (go_at_call 56; (with_reducible refine (cf_ValidAlgebra_1.calls _ _ (rd_L1 l0_1 x26_2) gb255 (l0_0.length : Int) true _ ?side1 ?side2 ?side3 A22.out).mono ?_); (case side1 => exact kC (Kd.C_below HR257_0.out HB.out)); (case side2 => exact HC257_0.out); (case side3 => exact (show _ from by (with_reducible repeat (first | refine blk_drewN ?_ _ | refine blk_drew ?_ | refine blk_alloc ?_ _)); exact BK255.out)); rintro e w' ⟨rfl, ⟨nd, rfl⟩⟩; (try first | exact ⟨rfl, _, World.drewN_drewN _ _ _⟩ | exact ⟨rfl, _, Eq.trans (World.drewN_drewN _ _ _) (congrArg (World.drewN _) (Nat.add_assoc _ _ _))⟩))))
         go_ret
         exact ⟨by first | rfl | (simp [errW_none, errW_some] <;> rfl) | (simp [*, errW_none, errW_some] <;> rfl), by repeat (first | (with_reducible first | exact HB.out | apply below_alloc | apply pw_below_drewN | apply below_drew1 | refine below_set ?_ GE254.out | refine below_set ?_ GE255.out) | exact HB.out)⟩
       replace c23 := Bool.eq_false_iff.mpr c23
       subst c23
       rw [if_neg (show ¬ (false = true) by decide)] at H
       have H' := ak H
       clear H
       have p257 : 0 ≤ (x26_2 : Int) := of_decide_eq_true (by first | (with_reducible assumption) | assumption)
       have q257 : x26_2 < (l0_1.length : Int) := of_decide_eq_true (by first | (with_reducible assumption) | assumption)
       obtain ⟨ad257, A257_0, c257_0, e257, hx257_0, hl257_0, hi257_0⟩ := at_L1 HR0_1.out x26_2 p257 q257
       cases e257
       replace hx257_0 := (HB.out.cell (World.block_lt_of_cell? w _ hx257_0)).trans hx257_0
       have HR257_0 := ak hi257_0
       have HC257_0 := ak hl257_0
       clear hi257_0 hl257_0
       replace p257 := eq_true p257
       replace q257 := eq_true q257
       have hnb26 := NB255_254.out
       have hnc26 := NB254_255.out
       have hcz27_0 : wr.cell? ⟨gb255, 0, none⟩ = some (.int .i64 (l0_0.length : Int)) := (blk_cell BK255.out 0).trans rfl
       have hfz27_0 := blk_frozen BK255.out 0
       as_aux_lemma =>
        go_wp2_with (first | (go_at_call 56; (with_reducible refine (cf_ValidAlgebra_1.calls _ _ (rd_L1 l0_1 x26_2) gb255 (l0_0.length : Int) false _ ?side1 ?side2 ?side3 A22.out).mono ?_); (case side1 => exact kC (Kd.C_below HR257_0.out HB.out)); (case side2 => exact HC257_0.out); (case side3 => exact (show _ from by (with_reducible repeat (first | refine blk_drewN ?_ _ | refine blk_drew ?_ | refine blk_alloc ?_ _)); exact BK255.out)); rintro e w' ⟨rfl, ⟨nd, rfl⟩⟩; (try first | exact ⟨rfl, _, World.drewN_drewN _ _ _⟩ | exact ⟨rfl, _, Eq.trans (World.drewN_drewN _ _ _) (congrArg (World.drewN _) (Nat.add_assoc _ _ _))⟩)))
        repeat ((refine wp_region_quiet_lit ?_ ?_ ?_; kernel_rfl; kernel_rfl; (repeat (first | go_big_quiet_step (first | (go_at_call 56; (with_reducible refine (cf_ValidAlgebra_1.calls _ _ (rd_L1 l0_1 x26_2) gb255 (l0_0.length : Int) false _ ?side1 ?side2 ?side3 A22.out).mono ?_); (case side1 => exact kC (Kd.C_below HR257_0.out HB.out)); (case side2 => exact HC257_0.out); (case side3 => exact (show _ from by (with_reducible repeat (first | refine blk_drewN ?_ _ | refine blk_drew ?_ | refine blk_alloc ?_ _)); exact BK255.out)); rintro e w' ⟨rfl, ⟨nd, rfl⟩⟩; (try first | exact ⟨rfl, _, World.drewN_drewN _ _ _⟩ | exact ⟨rfl, _, Eq.trans (World.drewN_drewN _ _ _) (congrArg (World.drewN _) (Nat.add_assoc _ _ _))⟩))) | (refine wpQuiet_step (fun K hK => ?_); go_simp; refine hK _ ?_; clear hK K))); refine wpQuiet_nil ?_; intro _ hw'; obtain ⟨nq, hw''⟩ := hw'; subst hw''); try go_wp2_with (first | (go_at_call 56; (with_reducible refine (cf_ValidAlgebra_1.calls _ _ (rd_L1 l0_1 x26_2) gb255 (l0_0.length : Int) false _ ?side1 ?side2 ?side3 A22.out).mono ?_); (case side1 => exact kC (Kd.C_below HR257_0.out HB.out)); (case side2 => exact HC257_0.out); (case side3 => exact (show _ from by (with_reducible repeat (first | refine blk_drewN ?_ _ | refine blk_drew ?_ | refine blk_alloc ?_ _)); exact BK255.out)); rintro e w' ⟨rfl, ⟨nd, rfl⟩⟩; (try first | exact ⟨rfl, _, World.drewN_drewN _ _ _⟩ | exact ⟨rfl, _, Eq.trans (World.drewN_drewN _ _ _) (congrArg (World.drewN _) (Nat.add_assoc _ _ _))⟩))))
        go_roundg k2
        case measure => have := HJ1.out; have := HK2.out; omega
        case rel => exact ⟨(wrap64 (x26_2 + 1)), (by first | rfl | (simp; done) | (simp [*]; done)), H', ⟨by have := HJ1.out; have := HK2.out; omega⟩, ⟨by (with_reducible repeat (first | refine blk_drewN ?_ _ | refine blk_drew ?_ | refine blk_alloc ?_ _)); exact BK254.out⟩, ⟨by (with_reducible repeat (first | refine blk_drewN ?_ _ | refine blk_drew ?_ | refine blk_alloc ?_ _)); exact BK255.out⟩, ⟨by repeat (first | (with_reducible first | exact HB.out | apply below_alloc | apply pw_below_drewN | apply below_drew1 | refine below_set ?_ GE254.out | refine below_set ?_ GE255.out) | exact HB.out)⟩⟩
      rw [if_neg c18] at H
      have c18b0 : decide (x26_2 < (l0_1.length : Int)) = false := decide_eq_false c18
      clear c18
      have H' := ak H
      clear H
      have hnb30 := NB254_255.out
      have hnc30 := NB255_254.out
      have hcz31_0 : wr.cell? ⟨gb254, 0, none⟩ = some (.slice A0_0 l0_0.length c0_0) := (blk_cell BK254.out 0).trans rfl
      have hcz31_1 : wr.cell? ⟨gb254, 1, none⟩ = some (.slice A0_1 l0_1.length c0_1) := (blk_cell BK254.out 1).trans rfl
      have hfz31_0 := blk_frozen BK254.out 0
      have hfz31_1 := blk_frozen BK254.out 1
      as_aux_lemma =>
       go_wp2
       repeat ((refine wp_region_quiet_lit ?_ ?_ ?_; kernel_rfl; kernel_rfl; (repeat (first | go_big_quiet_step (fail) | (refine wpQuiet_step (fun K hK => ?_); go_simp; refine hK _ ?_; clear hK K))); refine wpQuiet_nil ?_; intro _ hw'; obtain ⟨nq, hw''⟩ := hw'; subst hw''); try go_wp2)
       go_loopg [43] k2 (fun kq v43 w' => ∃ (x43_3 : Int), v43 = .int .i64 x43_3 ∧ Aside0 (impl_ValidAlgebra.l1 kq (l0_0.length : Int) x43_3 l0_0 l0_1 (l0_0.length : Int) = some r) ∧ Aside0 (kq ≤ k2) ∧ Aside0 (w'.heap[gb254]? = some (.cells #[(.slice A0_0 l0_0.length c0_0), (.slice A0_1 l0_1.length c0_1)] 28 (0, 0))) ∧ Aside0 (w'.heap[gb255]? = some (.cells #[.int .i64 (l0_0.length : Int)] 3 (0, 0))) ∧ Aside0 (Below w.heap.size w w'))
       case atStart => exact ⟨(0), (by first | rfl | (simp; done) | (simp [*]; done)), H', ⟨Nat.le_refl _⟩, ⟨by (with_reducible repeat (first | refine blk_drewN ?_ _ | refine blk_drew ?_ | refine blk_alloc ?_ _)); exact BK254.out⟩, ⟨by (with_reducible repeat (first | refine blk_drewN ?_ _ | refine blk_drew ?_ | refine blk_alloc ?_ _)); exact BK255.out⟩, ⟨by repeat (first | (with_reducible first | exact HB.out | apply below_alloc | apply pw_below_drewN | apply below_drew1 | refine below_set ?_ GE254.out | refine below_set ?_ GE255.out) | exact HB.out)⟩⟩
       case round =>
        clear H'
        try clear c1
        try clear c2
        try clear p2
        try clear q2
        try clear hx2
        try clear c3
        try clear c4
        try clear c6
        try clear p6
        try clear c9
        try clear c10
        try clear c13
        try clear c15
        try clear c16
        try clear c18
        try clear c18b0
        try clear c19
        try clear c19b0
        try clear c20
        try clear c20b0
        try clear c21
        try clear c21b0
        try clear c21b1
        try clear c21b2
        try clear c23
        try clear c24
        try clear c25
        try clear p25
        try clear q25
        try clear hx25
        try clear c26
        try clear c28
        try clear c30
        try clear hcz11_0
        try clear hcz11_1
        try clear hcz12_0
        try clear hcz14_0
        try clear hcz14_1
        try clear hcz17_0
        try clear hcz17_1
        try clear hcz25_0
        try clear hcz27_0
        try clear hcz29_0
        try clear hcz31_0
        try clear hcz31_1
        try clear hcz4_0
        try clear hcz4_1
        try clear hcz7_0
        try clear hfz11_0
        try clear hfz11_1
        try clear hfz12_0
        try clear hfz14_0
        try clear hfz14_1
        try clear hfz17_0
        try clear hfz17_1
        try clear hfz25_0
        try clear hfz27_0
        try clear hfz29_0
        try clear hfz31_0
        try clear hfz31_1
        try clear hfz4_0
        try clear hfz4_1
        try clear hfz7_0
        try clear hx257_0
        try clear p2
        try clear p257
        try clear q257
        obtain ⟨x43_3, rfl, HA, HK3, BK254, BK255, HB⟩ := hrel
        cases gk with
        | zero => exact absurd HA.out (by simp [impl_ValidAlgebra.l1])
        | succ k3 =>
         have H := HA.out
         clear HA
         simp only [impl_ValidAlgebra.l1] at H
         by_cases c32 : x43_3 < (l0_0.length : Int)
         rotate_left
         ·rw [if_neg c32] at H
          have c32b0 : decide (x43_3 < (l0_0.length : Int)) = false := decide_eq_false c32
          clear c32
          obtain rfl := Option.some.inj H
          as_aux_lemma =>
           go_wp2
           repeat ((refine wp_region_quiet_lit ?_ ?_ ?_; kernel_rfl; kernel_rfl; (repeat (first | go_big_quiet_step (fail) | (refine wpQuiet_step (fun K hK => ?_); go_simp; refine hK _ ?_; clear hK K))); refine wpQuiet_nil ?_; intro _ hw'; obtain ⟨nq, hw''⟩ := hw'; subst hw''); try go_wp2)
           go_ret
           exact ⟨by first | rfl | (simp [errW_none, errW_some] <;> rfl) | (simp [*, errW_none, errW_some] <;> rfl), by repeat (first | (with_reducible first | exact HB.out | apply below_alloc | apply pw_below_drewN | apply below_drew1 | refine below_set ?_ GE254.out | refine below_set ?_ GE255.out) | exact HB.out)⟩
         rw [if_pos c32] at H
         have c32b0 : decide (x43_3 < (l0_0.length : Int)) = true := decide_eq_true c32
         clear c32
         have HC33 := ak H
         clear H
         go_upto_region 13 with (fail)
         repeat ((refine wp_region_quiet_lit ?_ ?_ ?_; kernel_rfl; kernel_rfl; (repeat (first | go_big_quiet_step (fail) | (refine wpQuiet_step (fun K hK => ?_); go_simp; refine hK _ ?_; clear hK K))); refine wpQuiet_nil ?_; intro _ hw'; obtain ⟨nq, hw''⟩ := hw'; subst hw''); go_upto_region 13 with (fail))
         go_cut [66] (fun v66 wc => ∃ (kq : Nat) (x66_32 : Bool), v66 = .bool x66_32 ∧ Aside0 (impl_ValidAlgebra.j3 kq x43_3 (l0_0.length : Int) x43_3 x66_32 l0_0 l0_1 (l0_0.length : Int) = some r) ∧ Aside0 (kq ≤ k3) ∧ Aside0 (wc.heap[gb254]? = some (.cells #[(.slice A0_0 l0_0.length c0_0), (.slice A0_1 l0_1.length c0_1)] 28 (0, 0))) ∧ Aside0 (wc.heap[gb255]? = some (.cells #[.int .i64 (l0_0.length : Int)] 3 (0, 0))) ∧ Aside0 (Below w.heap.size w wc))
         case first =>
          have H := HC33.out
          clear HC33
          replace H := oi H
          obtain ⟨c34, H⟩ := H
          have c34b0 : decide (0 ≤ x43_3) = true := decide_eq_true c34
          clear c34
          (first | rw [c34b0] | (simp only [i64_w, i32_w]; rw [c34b0]) | skip)
          replace H := oi H
          obtain ⟨c35, H⟩ := H
          have c35b0 : decide (x43_3 < (l0_1.length : Int)) = true := decide_eq_true c35
          clear c35
          obtain ⟨ji36, hji36⟩ : ∃ j_ : Int, (wrap64 ((l0_0.length : Int) - 1)) = j_ := ⟨_, rfl⟩
          replace H : (if 0 ≤ (ji36) then (if (ji36) < ((rd_L1 l0_1 x43_3).length : Int) then (if (rd (rd_L1 l0_1 x43_3) (ji36)) = x43_3 then (if 0 < ((rd_L1 l0_1 x43_3).length : Int) then (impl_ValidAlgebra.j3 k3 x43_3 (l0_0.length : Int) x43_3 ((rd (rd_L1 l0_1 x43_3) 0) != 0) l0_0 l0_1 (l0_0.length : Int)) else (none)) else (impl_ValidAlgebra.j3 k3 x43_3 (l0_0.length : Int) x43_3 true l0_0 l0_1 (l0_0.length : Int))) else (none)) else (none)) = some r := by first | (rw [hji36] at H; exact H) | (simp only [hji36] at H ⊢; exact H)
          have hji36w : (IntKind.i64.wrap ((l0_0.length : Int) - 1)) = ji36 := (i64_w _).trans hji36
          replace H := oi H
          obtain ⟨c37, H⟩ := H
          have c37b0 : decide (0 ≤ (ji36)) = true := decide_eq_true c37
          clear c37
          replace H := oi H
          obtain ⟨c38, H⟩ := H
          have c38b0 : decide ((ji36) < ((rd_L1 l0_1 x43_3).length : Int)) = true := decide_eq_true c38
          clear c38
          by_cases c39 : (rd (rd_L1 l0_1 x43_3) (ji36)) = x43_3
          rotate_left
          ·rw [if_neg c39] at H
           have c39b0 : ((rd (rd_L1 l0_1 x43_3) (ji36)) == x43_3) = false := beq_eq_false_iff_ne.mpr c39
           have c39b1 : ((rd (rd_L1 l0_1 x43_3) (ji36)) != x43_3) = true := bne_iff_ne.mpr c39
           have H' := ak H
           clear H
           have hnb44 := NB254_255.out
           have hnc44 := NB255_254.out
           have hcz45_0 : wr.cell? ⟨gb254, 0, none⟩ = some (.slice A0_0 l0_0.length c0_0) := (blk_cell BK254.out 0).trans rfl
           have hcz45_1 : wr.cell? ⟨gb254, 1, none⟩ = some (.slice A0_1 l0_1.length c0_1) := (blk_cell BK254.out 1).trans rfl
           have hfz45_0 := blk_frozen BK254.out 0
           have hfz45_1 := blk_frozen BK254.out 1
           have p259 : 0 ≤ (x43_3 : Int) := of_decide_eq_true (by first | (with_reducible assumption) | assumption)
           have q259 : x43_3 < (l0_1.length : Int) := of_decide_eq_true (by first | (with_reducible assumption) | assumption)
           obtain ⟨ad259, A259_0, c259_0, e259, hx259_0, hl259_0, hi259_0⟩ := at_L1 HR0_1.out x43_3 p259 q259
           cases e259
           replace hx259_0 := (HB.out.cell (World.block_lt_of_cell? w _ hx259_0)).trans hx259_0
           have HR259_0 := ak hi259_0
           have HC259_0 := ak hl259_0
           clear hi259_0 hl259_0
           replace p259 := eq_true p259
           replace q259 := eq_true q259
           have hcz46_0 : wr.cell? ⟨gb255, 0, none⟩ = some (.int .i64 (l0_0.length : Int)) := (blk_cell BK255.out 0).trans rfl
           have hfz46_0 := blk_frozen BK255.out 0
           have p260 : 0 ≤ ((ji36) : Int) := of_decide_eq_true (by first | (with_reducible assumption) | assumption)
           have q260 : (ji36) < ((rd_L1 l0_1 x43_3).length : Int) := of_decide_eq_true (by first | (with_reducible assumption) | assumption)
           obtain ⟨ad260, e260, hx260_0⟩ := Kd.at_int HR259_0.out (ji36) p260 q260
           cases e260
           replace hx260_0 := (HB.out.cell (World.block_lt_of_cell? w _ hx260_0)).trans hx260_0
           replace p260 := eq_true p260
           replace q260 := eq_true q260
           as_aux_lemma =>
            go_wp2
            repeat ((refine wp_region_quiet_lit ?_ ?_ ?_; kernel_rfl; kernel_rfl; (repeat (first | go_big_quiet_step (fail) | (refine wpQuiet_step (fun K hK => ?_); go_simp; refine hK _ ?_; clear hK K))); refine wpQuiet_nil ?_; intro _ hw'; obtain ⟨nq, hw''⟩ := hw'; subst hw''); try go_wp2)
            go_meet
            case rel => exact ⟨_, (true), (by first | rfl | (simp; done) | (simp [*]; done)), H', ⟨by have := HJ1.out; have := HK2.out; have := HK3.out; first | omega | exact Nat.le_refl _⟩, ⟨by (with_reducible repeat (first | refine blk_drewN ?_ _ | refine blk_drew ?_ | refine blk_alloc ?_ _)); exact BK254.out⟩, ⟨by (with_reducible repeat (first | refine blk_drewN ?_ _ | refine blk_drew ?_ | refine blk_alloc ?_ _)); exact BK255.out⟩, ⟨by repeat (first | (with_reducible first | exact HB.out | apply below_alloc | apply pw_below_drewN | apply below_drew1 | refine below_set ?_ GE254.out | refine below_set ?_ GE255.out) | exact HB.out)⟩⟩
          rw [if_pos c39] at H
          have c39b0 : ((rd (rd_L1 l0_1 x43_3) (ji36)) == x43_3) = true := beq_iff_eq.mpr c39
          have c39b1 : ((rd (rd_L1 l0_1 x43_3) (ji36)) != x43_3) = false := bne_eq_false_iff_eq.mpr c39
          clear c39
          replace H := oi H
          obtain ⟨c40, H⟩ := H
          have c40b0 : decide (0 < ((rd_L1 l0_1 x43_3).length : Int)) = true := decide_eq_true c40
          have c40b1 : decide (0 < (rd_L1 l0_1 x43_3).length) = true := decide_eq_true (by omega)
          clear c40
          have H' := ak H
          clear H
          have hnb41 := NB254_255.out
          have hnc41 := NB255_254.out
          have hcz42_0 : wr.cell? ⟨gb254, 0, none⟩ = some (.slice A0_0 l0_0.length c0_0) := (blk_cell BK254.out 0).trans rfl
          have hcz42_1 : wr.cell? ⟨gb254, 1, none⟩ = some (.slice A0_1 l0_1.length c0_1) := (blk_cell BK254.out 1).trans rfl
          have hfz42_0 := blk_frozen BK254.out 0
          have hfz42_1 := blk_frozen BK254.out 1
          have p259 : 0 ≤ (x43_3 : Int) := of_decide_eq_true (by first | (with_reducible assumption) | assumption)
          have q259 : x43_3 < (l0_1.length : Int) := of_decide_eq_true (by first | (with_reducible assumption) | assumption)
          obtain ⟨ad259, A259_0, c259_0, e259, hx259_0, hl259_0, hi259_0⟩ := at_L1 HR0_1.out x43_3 p259 q259
          cases e259
          replace hx259_0 := (HB.out.cell (World.block_lt_of_cell? w _ hx259_0)).trans hx259_0
          have HR259_0 := ak hi259_0
          have HC259_0 := ak hl259_0
          clear hi259_0 hl259_0
          replace p259 := eq_true p259
          replace q259 := eq_true q259
          have hcz43_0 : wr.cell? ⟨gb255, 0, none⟩ = some (.int .i64 (l0_0.length : Int)) := (blk_cell BK255.out 0).trans rfl
          have hfz43_0 := blk_frozen BK255.out 0
          have p260 : 0 ≤ ((ji36) : Int) := of_decide_eq_true (by first | (with_reducible assumption) | assumption)
          have q260 : (ji36) < ((rd_L1 l0_1 x43_3).length : Int) := of_decide_eq_true (by first | (with_reducible assumption) | assumption)
          obtain ⟨ad260, e260, hx260_0⟩ := Kd.at_int HR259_0.out (ji36) p260 q260
          cases e260
          replace hx260_0 := (HB.out.cell (World.block_lt_of_cell? w _ hx260_0)).trans hx260_0
          replace p260 := eq_true p260
          replace q260 := eq_true q260
          have p261 : 0 ≤ (x43_3 : Int) := of_decide_eq_true (by first | (with_reducible assumption) | assumption)
          have q261 : x43_3 < (l0_1.length : Int) := of_decide_eq_true (by first | (with_reducible assumption) | assumption)
          obtain ⟨ad261, A261_0, c261_0, e261, hx261_0, hl261_0, hi261_0⟩ := at_L1 HR0_1.out x43_3 p261 q261
          obtain rfl : ad259 = ad261 := (by injection e261)
          replace hx261_0 := (HB.out.cell (World.block_lt_of_cell? w _ hx261_0)).trans hx261_0
          have HR261_0 := ak hi261_0
          have HC261_0 := ak hl261_0
          clear hi261_0 hl261_0
          replace p261 := eq_true p261
          replace q261 := eq_true q261
          have ea_ := Option.some.inj (hx259_0.symm.trans hx261_0)
          injection ea_ with ea_ en_ ec_
          subst ea_
          subst ec_
          clear en_
          have p262 : 0 ≤ (0 : Int) := (by omega)
          have q262 : 0 < ((rd_L1 l0_1 x43_3).length : Int) := of_decide_eq_true (by first | (with_reducible assumption) | assumption)
          obtain ⟨ad262, e262, hx262_0⟩ := Kd.at_int HR261_0.out 0 p262 q262
          cases e262
          have qi262 : (0 < (rd_L1 l0_1 x43_3).length) = True := eq_true (by omega)
          (try rw [show ((0 : Int)).toNat = 0 from rfl] at hx262_0)
          (try rw [Addr.add_zero'] at hx262_0)
          replace hx262_0 := (HB.out.cell (World.block_lt_of_cell? w _ hx262_0)).trans hx262_0
          replace p262 := eq_true p262
          replace q262 := eq_true q262
          as_aux_lemma =>
           go_wp2
           repeat ((refine wp_region_quiet_lit ?_ ?_ ?_; kernel_rfl; kernel_rfl; (repeat (first | go_big_quiet_step (fail) | (refine wpQuiet_step (fun K hK => ?_); go_simp; refine hK _ ?_; clear hK K))); refine wpQuiet_nil ?_; intro _ hw'; obtain ⟨nq, hw''⟩ := hw'; subst hw''); try go_wp2)
           go_meet
           case rel => exact ⟨_, (((rd (rd_L1 l0_1 x43_3) 0) != 0)), (by first | rfl | (simp; done) | (simp [*]; done)), H', ⟨by have := HJ1.out; have := HK2.out; have := HK3.out; first | omega | exact Nat.le_refl _⟩, ⟨by (with_reducible repeat (first | refine blk_drewN ?_ _ | refine blk_drew ?_ | refine blk_alloc ?_ _)); exact BK254.out⟩, ⟨by (with_reducible repeat (first | refine blk_drewN ?_ _ | refine blk_drew ?_ | refine blk_alloc ?_ _)); exact BK255.out⟩, ⟨by repeat (first | (with_reducible first | exact HB.out | apply below_alloc | apply pw_below_drewN | apply below_drew1 | refine below_set ?_ GE254.out | refine below_set ?_ GE255.out) | exact HB.out)⟩⟩
         case rest =>
          clear HC33
          try clear c1
          try clear c2
          try clear p2
          try clear q2
          try clear hx2
          try clear qi2
          try clear c3
          try clear c4
          try clear c6
          try clear p6
          try clear c9
          try clear c10
          try clear c13
          try clear c15
          try clear c16
          try clear c18
          try clear c18b0
          try clear c19
          try clear c19b0
          try clear c20
          try clear c20b0
          try clear c21
          try clear c21b0
          try clear c21b1
          try clear c21b2
          try clear c23
          try clear c24
          try clear c25
          try clear p25
          try clear q25
          try clear hx25
          try clear c26
          try clear p26
          try clear q26
          try clear hx26
          try clear qi26
          try clear c28
          try clear c30
          try clear c32
          try clear c32b0
          try clear c34
          try clear c34b0
          try clear c35
          try clear c35b0
          try clear c37
          try clear c37b0
          try clear c38
          try clear c38b0
          try clear c39
          try clear c39b0
          try clear c39b1
          try clear c40
          try clear c40b0
          try clear c40b1
          try clear c41
          try clear c44
          try clear hcz11_0
          try clear hcz11_1
          try clear hcz12_0
          try clear hcz14_0
          try clear hcz14_1
          try clear hcz17_0
          try clear hcz17_1
          try clear hcz25_0
          try clear hcz27_0
          try clear hcz29_0
          try clear hcz31_0
          try clear hcz31_1
          try clear hcz42_0
          try clear hcz42_1
          try clear hcz43_0
          try clear hcz45_0
          try clear hcz45_1
          try clear hcz46_0
          try clear hcz4_0
          try clear hcz4_1
          try clear hcz7_0
          try clear hfz11_0
          try clear hfz11_1
          try clear hfz12_0
          try clear hfz14_0
          try clear hfz14_1
          try clear hfz17_0
          try clear hfz17_1
          try clear hfz25_0
          try clear hfz27_0
          try clear hfz29_0
          try clear hfz31_0
          try clear hfz31_1
          try clear hfz42_0
          try clear hfz42_1
          try clear hfz43_0
          try clear hfz45_0
          try clear hfz45_1
          try clear hfz46_0
          try clear hfz4_0
          try clear hfz4_1
          try clear hfz7_0
          try clear hx257_0
          try clear hx259_0
          try clear hx260_0
          try clear hx261_0
          try clear hx262_0
          try clear p2
          try clear p25
          try clear p257
          try clear p259
          try clear p260
          try clear p261
          try clear p262
          try clear p6
          try clear q2
          try clear q25
          try clear q257
          try clear q259
          try clear q260
          try clear q261
          try clear q262
          obtain ⟨kq, x66_32, rfl, HA, HJ32, BK254, BK255, HB⟩ := hcut
          cases kq with
          | zero => exact absurd HA.out (by simp [impl_ValidAlgebra.j3])
          | succ kj32 =>
           have H := HA.out
           clear HA
           simp only [impl_ValidAlgebra.j3] at H
           by_cases c47 : x66_32 = true
           ·subst c47
            rw [if_pos rfl] at H
            obtain rfl := Option.some.inj H
            as_aux_lemma =>
             go_wp2
             repeat ((refine wp_region_quiet_lit ?_ ?_ ?_; kernel_rfl; kernel_rfl; (repeat (first | go_big_quiet_step (fail) | (refine wpQuiet_step (fun K hK => ?_); go_simp; refine hK _ ?_; clear hK K))); refine wpQuiet_nil ?_; intro _ hw'; obtain ⟨nq, hw''⟩ := hw'; subst hw''); try go_wp2)
             go_ret
             exact ⟨by first | rfl | (simp [errW_none, errW_some] <;> rfl) | (simp [*, errW_none, errW_some] <;> rfl), by repeat (first | (with_reducible first | exact HB.out | apply below_alloc | apply pw_below_drewN | apply below_drew1 | refine below_set ?_ GE254.out | refine below_set ?_ GE255.out) | exact HB.out)⟩
           replace c47 := Bool.eq_false_iff.mpr c47
           subst c47
           rw [if_neg (show ¬ (false = true) by decide)] at H
           have H' := ak H
           clear H
           have hnb48 := NB254_255.out
           have hnc48 := NB255_254.out
           have hcz49_0 : wc.cell? ⟨gb254, 0, none⟩ = some (.slice A0_0 l0_0.length c0_0) := (blk_cell BK254.out 0).trans rfl
           have hcz49_1 : wc.cell? ⟨gb254, 1, none⟩ = some (.slice A0_1 l0_1.length c0_1) := (blk_cell BK254.out 1).trans rfl
           have hfz49_0 := blk_frozen BK254.out 0
           have hfz49_1 := blk_frozen BK254.out 1
           as_aux_lemma =>
            go_wp2
            repeat ((refine wp_region_quiet_lit ?_ ?_ ?_; kernel_rfl; kernel_rfl; (repeat (first | go_big_quiet_step (fail) | (refine wpQuiet_step (fun K hK => ?_); go_simp; refine hK _ ?_; clear hK K))); refine wpQuiet_nil ?_; intro _ hw'; obtain ⟨nq, hw''⟩ := hw'; subst hw''); try go_wp2)
            go_loopg [70] kj32 (fun kq v70 w' => ∃ (x70_5 : Int), v70 = .int .i64 x70_5 ∧ Aside0 (impl_ValidAlgebra.l2 kq x43_3 (l0_0.length : Int) x43_3 (l0_0.length : Int) x70_5 l0_0 l0_1 (l0_0.length : Int) = some r) ∧ Aside0 (kq ≤ kj32) ∧ Aside0 (w'.heap[gb254]? = some (.cells #[(.slice A0_0 l0_0.length c0_0), (.slice A0_1 l0_1.length c0_1)] 28 (0, 0))) ∧ Aside0 (w'.heap[gb255]? = some (.cells #[.int .i64 (l0_0.length : Int)] 3 (0, 0))) ∧ Aside0 (Below w.heap.size w w'))
            case atStart => exact ⟨(0), (by first | rfl | (simp; done) | (simp [*]; done)), H', ⟨Nat.le_refl _⟩, ⟨by (with_reducible repeat (first | refine blk_drewN ?_ _ | refine blk_drew ?_ | refine blk_alloc ?_ _)); exact BK254.out⟩, ⟨by (with_reducible repeat (first | refine blk_drewN ?_ _ | refine blk_drew ?_ | refine blk_alloc ?_ _)); exact BK255.out⟩, ⟨by repeat (first | (with_reducible first | exact HB.out | apply below_alloc | apply pw_below_drewN | apply below_drew1 | refine below_set ?_ GE254.out | refine below_set ?_ GE255.out) | exact HB.out)⟩⟩
            case round =>
             clear H'
             try clear c1
             try clear c2
             try clear p2
             try clear q2
             try clear hx2
             try clear qi2
             try clear c3
             try clear c4
             try clear c6
             try clear p6
             try clear c9
             try clear c10
             try clear c13
             try clear c15
             try clear c16
             try clear c18
             try clear c18b0
             try clear c19
             try clear c19b0
             try clear c20
             try clear c20b0
             try clear c21
             try clear c21b0
             try clear c21b1
             try clear c21b2
             try clear c23
             try clear c24
             try clear c25
             try clear p25
             try clear q25
             try clear hx25
             try clear c26
             try clear p26
             try clear q26
             try clear hx26
             try clear qi26
             try clear c28
             try clear c30
             try clear c32
             try clear c32b0
             try clear c34
             try clear c34b0
             try clear c35
             try clear c35b0
             try clear c37
             try clear c37b0
             try clear c38
             try clear c38b0
             try clear c39
             try clear c39b0
             try clear c39b1
             try clear c40
             try clear c40b0
             try clear c40b1
             try clear c41
             try clear c44
             try clear c47
             try clear c48
             try clear hcz11_0
             try clear hcz11_1
             try clear hcz12_0
             try clear hcz14_0
             try clear hcz14_1
             try clear hcz17_0
             try clear hcz17_1
             try clear hcz25_0
             try clear hcz27_0
             try clear hcz29_0
             try clear hcz31_0
             try clear hcz31_1
             try clear hcz42_0
             try clear hcz42_1
             try clear hcz43_0
             try clear hcz45_0
             try clear hcz45_1
             try clear hcz46_0
             try clear hcz49_0
             try clear hcz49_1
             try clear hcz4_0
             try clear hcz4_1
             try clear hcz7_0
             try clear hfz11_0
             try clear hfz11_1
             try clear hfz12_0
             try clear hfz14_0
             try clear hfz14_1
             try clear hfz17_0
             try clear hfz17_1
             try clear hfz25_0
             try clear hfz27_0
             try clear hfz29_0
             try clear hfz31_0
             try clear hfz31_1
             try clear hfz42_0
             try clear hfz42_1
             try clear hfz43_0
             try clear hfz45_0
             try clear hfz45_1
             try clear hfz46_0
             try clear hfz49_0
             try clear hfz49_1
             try clear hfz4_0
             try clear hfz4_1
             try clear hfz7_0
             try clear hx257_0
             try clear hx259_0
             try clear hx260_0
             try clear hx261_0
             try clear hx262_0
             try clear p2
             try clear p25
             try clear p257
             try clear p259
             try clear p26
             try clear p260
             try clear p261
             try clear p262
             try clear p6
             try clear q2
             try clear q25
             try clear q257
             try clear q259
             try clear q26
             try clear q260
             try clear q261
             try clear q262
             obtain ⟨x70_5, rfl, HA, HK5, BK254, BK255, HB⟩ := hrel
             cases gk with
             | zero => exact absurd HA.out (by simp [impl_ValidAlgebra.l2])
             | succ k5 =>
              have H := HA.out
              clear HA
              simp only [impl_ValidAlgebra.l2] at H
              by_cases c50 : x70_5 < (l0_0.length : Int)
              rotate_left
              ·rw [if_neg c50] at H
               have c50b0 : decide (x70_5 < (l0_0.length : Int)) = false := decide_eq_false c50
               clear c50
               have H' := ak H
               clear H
               as_aux_lemma =>
                go_wp2
                repeat ((refine wp_region_quiet_lit ?_ ?_ ?_; kernel_rfl; kernel_rfl; (repeat (first | go_big_quiet_step (fail) | (refine wpQuiet_step (fun K hK => ?_); go_simp; refine hK _ ?_; clear hK K))); refine wpQuiet_nil ?_; intro _ hw'; obtain ⟨nq, hw''⟩ := hw'; subst hw''); try go_wp2)
                go_roundg k5
                case measure => have := HJ1.out; have := HK2.out; have := HK3.out; have := HJ32.out; have := HK5.out; omega
                case rel => exact ⟨(wrap64 (x43_3 + 1)), (by first | rfl | (simp; done) | (simp [*]; done)), H', ⟨by have := HJ1.out; have := HK2.out; have := HK3.out; have := HJ32.out; have := HK5.out; omega⟩, ⟨by (with_reducible repeat (first | refine blk_drewN ?_ _ | refine blk_drew ?_ | refine blk_alloc ?_ _)); exact BK254.out⟩, ⟨by (with_reducible repeat (first | refine blk_drewN ?_ _ | refine blk_drew ?_ | refine blk_alloc ?_ _)); exact BK255.out⟩, ⟨by repeat (first | (with_reducible first | exact HB.out | apply below_alloc | apply pw_below_drewN | apply below_drew1 | refine below_set ?_ GE254.out | refine below_set ?_ GE255.out) | exact HB.out)⟩⟩
              rw [if_pos c50] at H
              have c50b0 : decide (x70_5 < (l0_0.length : Int)) = true := decide_eq_true c50
              clear c50
              replace H := oi H
              obtain ⟨c51, H⟩ := H
              have c51b0 : decide (0 ≤ x43_3) = true := decide_eq_true c51
              clear c51
              replace H := oi H
              obtain ⟨c52, H⟩ := H
              have c52b0 : decide (x43_3 < (l0_1.length : Int)) = true := decide_eq_true c52
              clear c52
              replace H := oi H
              obtain ⟨c53, H⟩ := H
              have c53b0 : decide (0 ≤ x70_5) = true := decide_eq_true c53
              clear c53
              replace H := oi H
              obtain ⟨c54, H⟩ := H
              have c54b0 : decide (x70_5 < ((rd_L1 l0_1 x43_3).length : Int)) = true := decide_eq_true c54
              clear c54
              replace H := oi H
              obtain ⟨c55, H⟩ := H
              have c55b0 : decide (x70_5 < (l0_1.length : Int)) = true := decide_eq_true c55
              clear c55
              replace H := oi H
              obtain ⟨c56, H⟩ := H
              have c56b0 : decide (x43_3 < ((rd_L1 l0_1 x70_5).length : Int)) = true := decide_eq_true c56
              clear c56
              by_cases c57 : (rd (rd_L1 l0_1 x43_3) x70_5) = (rd (rd_L1 l0_1 x70_5) x43_3)
              rotate_left
              ·rw [if_neg c57] at H
               have c57b0 : ((rd (rd_L1 l0_1 x43_3) x70_5) == (rd (rd_L1 l0_1 x70_5) x43_3)) = false := beq_eq_false_iff_ne.mpr c57
               have c57b1 : ((rd (rd_L1 l0_1 x43_3) x70_5) != (rd (rd_L1 l0_1 x70_5) x43_3)) = true := bne_iff_ne.mpr c57
               obtain rfl := Option.some.inj H
               have hnb86 := NB254_255.out
               have hnc86 := NB255_254.out
               have hcz87_0 : wr.cell? ⟨gb254, 0, none⟩ = some (.slice A0_0 l0_0.length c0_0) := (blk_cell BK254.out 0).trans rfl
               have hcz87_1 : wr.cell? ⟨gb254, 1, none⟩ = some (.slice A0_1 l0_1.length c0_1) := (blk_cell BK254.out 1).trans rfl
               have hfz87_0 := blk_frozen BK254.out 0
               have hfz87_1 := blk_frozen BK254.out 1
               have p263 : 0 ≤ (x43_3 : Int) := of_decide_eq_true (by first | (with_reducible assumption) | assumption)
               have q263 : x43_3 < (l0_1.length : Int) := of_decide_eq_true (by first | (with_reducible assumption) | assumption)
               obtain ⟨ad263, A263_0, c263_0, e263, hx263_0, hl263_0, hi263_0⟩ := at_L1 HR0_1.out x43_3 p263 q263
               cases e263
               replace hx263_0 := (HB.out.cell (World.block_lt_of_cell? w _ hx263_0)).trans hx263_0
               have HR263_0 := ak hi263_0
               have HC263_0 := ak hl263_0
               clear hi263_0 hl263_0
               replace p263 := eq_true p263
               replace q263 := eq_true q263
               have p264 : 0 ≤ (x70_5 : Int) := of_decide_eq_true (by first | (with_reducible assumption) | assumption)
               have q264 : x70_5 < ((rd_L1 l0_1 x43_3).length : Int) := of_decide_eq_true (by first | (with_reducible assumption) | assumption)
               obtain ⟨ad264, e264, hx264_0⟩ := Kd.at_int HR263_0.out x70_5 p264 q264
               cases e264
               replace hx264_0 := (HB.out.cell (World.block_lt_of_cell? w _ hx264_0)).trans hx264_0
               replace p264 := eq_true p264
               replace q264 := eq_true q264
               have p265 : 0 ≤ (x70_5 : Int) := of_decide_eq_true (by first | (with_reducible assumption) | assumption)
               have q265 : x70_5 < (l0_1.length : Int) := of_decide_eq_true (by first | (with_reducible assumption) | assumption)
               obtain ⟨ad265, A265_0, c265_0, e265, hx265_0, hl265_0, hi265_0⟩ := at_L1 HR0_1.out x70_5 p265 q265
               obtain rfl : ad263 = ad265 := (by injection e265)
               replace hx265_0 := (HB.out.cell (World.block_lt_of_cell? w _ hx265_0)).trans hx265_0
               have HR265_0 := ak hi265_0
               have HC265_0 := ak hl265_0
               clear hi265_0 hl265_0
               replace p265 := eq_true p265
               replace q265 := eq_true q265
               have p266 : 0 ≤ (x43_3 : Int) := of_decide_eq_true (by first | (with_reducible assumption) | assumption)
               have q266 : x43_3 < ((rd_L1 l0_1 x70_5).length : Int) := of_decide_eq_true (by first | (with_reducible assumption) | assumption)
               obtain ⟨ad266, e266, hx266_0⟩ := Kd.at_int HR265_0.out x43_3 p266 q266
               cases e266
               replace hx266_0 := (HB.out.cell (World.block_lt_of_cell? w _ hx266_0)).trans hx266_0
               replace p266 := eq_true p266
               replace q266 := eq_true q266
               as_aux_lemma =>
                go_wp2
                repeat ((refine wp_region_quiet_lit ?_ ?_ ?_; kernel_rfl; kernel_rfl; (repeat (first | go_big_quiet_step (fail) | (refine wpQuiet_step (fun K hK => ?_); go_simp; refine hK _ ?_; clear hK K))); refine wpQuiet_nil ?_; intro _ hw'; obtain ⟨nq, hw''⟩ := hw'; subst hw''); try go_wp2)
                go_ret
                exact ⟨by first | rfl | (simp [errW_none, errW_some] <;> rfl) | (simp [*, errW_none, errW_some] <;> rfl), by repeat (first | (with_reducible first | exact HB.out | apply below_alloc | apply pw_below_drewN | apply below_drew1 | refine below_set ?_ GE254.out | refine below_set ?_ GE255.out) | exact HB.out)⟩
              rw [if_pos c57] at H
              have c57b0 : ((rd (rd_L1 l0_1 x43_3) x70_5) == (rd (rd_L1 l0_1 x70_5) x43_3)) = true := beq_iff_eq.mpr c57
              have c57b1 : ((rd (rd_L1 l0_1 x43_3) x70_5) != (rd (rd_L1 l0_1 x70_5) x43_3)) = false := bne_eq_false_iff_eq.mpr c57
              clear c57
              have H' := ak H
              clear H
              have hnb58 := NB254_255.out
              have hnc58 := NB255_254.out
              have hcz59_0 : wr.cell? ⟨gb254, 0, none⟩ = some (.slice A0_0 l0_0.length c0_0) := (blk_cell BK254.out 0).trans rfl
              have hcz59_1 : wr.cell? ⟨gb254, 1, none⟩ = some (.slice A0_1 l0_1.length c0_1) := (blk_cell BK254.out 1).trans rfl
              have hfz59_0 := blk_frozen BK254.out 0
              have hfz59_1 := blk_frozen BK254.out 1
              have p263 : 0 ≤ (x43_3 : Int) := of_decide_eq_true (by first | (with_reducible assumption) | assumption)
              have q263 : x43_3 < (l0_1.length : Int) := of_decide_eq_true (by first | (with_reducible assumption) | assumption)
              obtain ⟨ad263, A263_0, c263_0, e263, hx263_0, hl263_0, hi263_0⟩ := at_L1 HR0_1.out x43_3 p263 q263
              cases e263
              replace hx263_0 := (HB.out.cell (World.block_lt_of_cell? w _ hx263_0)).trans hx263_0
              have HR263_0 := ak hi263_0
              have HC263_0 := ak hl263_0
              clear hi263_0 hl263_0
              replace p263 := eq_true p263
              replace q263 := eq_true q263
              have p264 : 0 ≤ (x70_5 : Int) := of_decide_eq_true (by first | (with_reducible assumption) | assumption)
              have q264 : x70_5 < ((rd_L1 l0_1 x43_3).length : Int) := of_decide_eq_true (by first | (with_reducible assumption) | assumption)
              obtain ⟨ad264, e264, hx264_0⟩ := Kd.at_int HR263_0.out x70_5 p264 q264
              cases e264
              replace hx264_0 := (HB.out.cell (World.block_lt_of_cell? w _ hx264_0)).trans hx264_0
              replace p264 := eq_true p264
              replace q264 := eq_true q264
              have p265 : 0 ≤ (x70_5 : Int) := of_decide_eq_true (by first | (with_reducible assumption) | assumption)
              have q265 : x70_5 < (l0_1.length : Int) := of_decide_eq_true (by first | (with_reducible assumption) | assumption)
              obtain ⟨ad265, A265_0, c265_0, e265, hx265_0, hl265_0, hi265_0⟩ := at_L1 HR0_1.out x70_5 p265 q265
              obtain rfl : ad263 = ad265 := (by injection e265)
              replace hx265_0 := (HB.out.cell (World.block_lt_of_cell? w _ hx265_0)).trans hx265_0
              have HR265_0 := ak hi265_0
              have HC265_0 := ak hl265_0
              clear hi265_0 hl265_0
              replace p265 := eq_true p265
              replace q265 := eq_true q265
              have p266 : 0 ≤ (x43_3 : Int) := of_decide_eq_true (by first | (with_reducible assumption) | assumption)
              have q266 : x43_3 < ((rd_L1 l0_1 x70_5).length : Int) := of_decide_eq_true (by first | (with_reducible assumption) | assumption)
              obtain ⟨ad266, e266, hx266_0⟩ := Kd.at_int HR265_0.out x43_3 p266 q266
              cases e266
              replace hx266_0 := (HB.out.cell (World.block_lt_of_cell? w _ hx266_0)).trans hx266_0
              replace p266 := eq_true p266
              replace q266 := eq_true q266
              as_aux_lemma =>
               go_wp2
               repeat ((refine wp_region_quiet_lit ?_ ?_ ?_; kernel_rfl; kernel_rfl; (repeat (first | go_big_quiet_step (fail) | (refine wpQuiet_step (fun K hK => ?_); go_simp; refine hK _ ?_; clear hK K))); refine wpQuiet_nil ?_; intro _ hw'; obtain ⟨nq, hw''⟩ := hw'; subst hw''); try go_wp2)
               go_loopg [93] k5 (fun kq v93 w' => ∃ (x93_6 : Int), v93 = .int .i64 x93_6 ∧ Aside0 (impl_ValidAlgebra.l3 kq x43_3 x70_5 (l0_0.length : Int) x43_3 (l0_0.length : Int) x70_5 (l0_0.length : Int) x93_6 l0_0 l0_1 (l0_0.length : Int) = some r) ∧ Aside0 (kq ≤ k5) ∧ Aside0 (w'.heap[gb254]? = some (.cells #[(.slice A0_0 l0_0.length c0_0), (.slice (some ad263) l0_1.length c0_1)] 28 (0, 0))) ∧ Aside0 (w'.heap[gb255]? = some (.cells #[.int .i64 (l0_0.length : Int)] 3 (0, 0))) ∧ Aside0 (Below w.heap.size w w'))
               case atStart => exact ⟨(0), (by first | rfl | (simp; done) | (simp [*]; done)), H', ⟨Nat.le_refl _⟩, ⟨by (with_reducible repeat (first | refine blk_drewN ?_ _ | refine blk_drew ?_ | refine blk_alloc ?_ _)); exact BK254.out⟩, ⟨by (with_reducible repeat (first | refine blk_drewN ?_ _ | refine blk_drew ?_ | refine blk_alloc ?_ _)); exact BK255.out⟩, ⟨by repeat (first | (with_reducible first | exact HB.out | apply below_alloc | apply pw_below_drewN | apply below_drew1 | refine below_set ?_ GE254.out | refine below_set ?_ GE255.out) | exact HB.out)⟩⟩
               case round =>
                clear H'
                try clear c1
                try clear c2
                try clear p2
                try clear q2
                try clear hx2
                try clear qi2
                try clear c3
                try clear c4
                try clear c5
                try clear c6
                try clear p6
                try clear c9
                try clear c10
                try clear c13
                try clear c15
                try clear c16
                try clear c18
                try clear c18b0
                try clear c19
                try clear c19b0
                try clear c20
                try clear c20b0
                try clear c21
                try clear c21b0
                try clear c21b1
                try clear c21b2
                try clear c23
                try clear c24
                try clear c25
                try clear p25
                try clear q25
                try clear hx25
                try clear c26
                try clear p26
                try clear q26
                try clear hx26
                try clear qi26
                try clear c28
                try clear c30
                try clear c32
                try clear c32b0
                try clear c34
                try clear c34b0
                try clear c35
                try clear c35b0
                try clear c37
                try clear c37b0
                try clear c38
                try clear c38b0
                try clear c39
                try clear c39b0
                try clear c39b1
                try clear c40
                try clear c40b0
                try clear c40b1
                try clear c41
                try clear c44
                try clear c47
                try clear c48
                try clear c50
                try clear c50b0
                try clear c51
                try clear c51b0
                try clear c52
                try clear c52b0
                try clear c53
                try clear c53b0
                try clear c54
                try clear c54b0
                try clear c55
                try clear c55b0
                try clear c56
                try clear c56b0
                try clear c57
                try clear c57b0
                try clear c57b1
                try clear c58
                try clear hcz11_0
                try clear hcz11_1
                try clear hcz12_0
                try clear hcz14_0
                try clear hcz14_1
                try clear hcz17_0
                try clear hcz17_1
                try clear hcz25_0
                try clear hcz27_0
                try clear hcz29_0
                try clear hcz31_0
                try clear hcz31_1
                try clear hcz42_0
                try clear hcz42_1
                try clear hcz43_0
                try clear hcz45_0
                try clear hcz45_1
                try clear hcz46_0
                try clear hcz49_0
                try clear hcz49_1
                try clear hcz4_0
                try clear hcz4_1
                try clear hcz59_0
                try clear hcz59_1
                try clear hcz7_0
                try clear hfz11_0
                try clear hfz11_1
                try clear hfz12_0
                try clear hfz14_0
                try clear hfz14_1
                try clear hfz17_0
                try clear hfz17_1
                try clear hfz25_0
                try clear hfz27_0
                try clear hfz29_0
                try clear hfz31_0
                try clear hfz31_1
                try clear hfz42_0
                try clear hfz42_1
                try clear hfz43_0
                try clear hfz45_0
                try clear hfz45_1
                try clear hfz46_0
                try clear hfz49_0
                try clear hfz49_1
                try clear hfz4_0
                try clear hfz4_1
                try clear hfz59_0
                try clear hfz59_1
                try clear hfz7_0
                try clear hx257_0
                try clear hx259_0
                try clear hx260_0
                try clear hx261_0
                try clear hx262_0
                try clear hx263_0
                try clear hx264_0
                try clear hx265_0
                try clear hx266_0
                try clear p2
                try clear p25
                try clear p257
                try clear p259
                try clear p26
                try clear p260
                try clear p261
                try clear p262
                try clear p263
                try clear p264
                try clear p265
                try clear p266
                try clear p6
                try clear q2
                try clear q25
                try clear q257
                try clear q259
                try clear q26
                try clear q260
                try clear q261
                try clear q262
                try clear q263
                try clear q264
                try clear q265
                try clear q266
                obtain ⟨x93_6, rfl, HA, HK6, BK254, BK255, HB⟩ := hrel
                cases gk with
                | zero => exact absurd HA.out (by simp [impl_ValidAlgebra.l3])
                | succ k6 =>
                 have H := HA.out
                 clear HA
                 simp only [impl_ValidAlgebra.l3] at H
                 by_cases c60 : x93_6 < (l0_0.length : Int)
                 rotate_left
                 ·rw [if_neg c60] at H
                  have c60b0 : decide (x93_6 < (l0_0.length : Int)) = false := decide_eq_false c60
                  clear c60
                  have H' := ak H
                  clear H
                  as_aux_lemma =>
                   go_wp2
                   repeat ((refine wp_region_quiet_lit ?_ ?_ ?_; kernel_rfl; kernel_rfl; (repeat (first | go_big_quiet_step (fail) | (refine wpQuiet_step (fun K hK => ?_); go_simp; refine hK _ ?_; clear hK K))); refine wpQuiet_nil ?_; intro _ hw'; obtain ⟨nq, hw''⟩ := hw'; subst hw''); try go_wp2)
                   go_roundg k6
                   case measure => have := HJ1.out; have := HK2.out; have := HK3.out; have := HJ32.out; have := HK5.out; have := HK6.out; omega
                   case rel => exact ⟨(wrap64 (x70_5 + 1)), (by first | rfl | (simp; done) | (simp [*]; done)), H', ⟨by have := HJ1.out; have := HK2.out; have := HK3.out; have := HJ32.out; have := HK5.out; have := HK6.out; omega⟩, ⟨by (with_reducible repeat (first | refine blk_drewN ?_ _ | refine blk_drew ?_ | refine blk_alloc ?_ _)); exact BK254.out⟩, ⟨by (with_reducible repeat (first | refine blk_drewN ?_ _ | refine blk_drew ?_ | refine blk_alloc ?_ _)); exact BK255.out⟩, ⟨by repeat (first | (with_reducible first | exact HB.out | apply below_alloc | apply pw_below_drewN | apply below_drew1 | refine below_set ?_ GE254.out | refine below_set ?_ GE255.out) | exact HB.out)⟩⟩
                 rw [if_pos c60] at H
                 have c60b0 : decide (x93_6 < (l0_0.length : Int)) = true := decide_eq_true c60
                 clear c60
                 replace H := oi H
                 obtain ⟨c61, H⟩ := H
                 have c61b0 : decide (0 ≤ x43_3) = true := decide_eq_true c61
                 clear c61
                 replace H := oi H
                 obtain ⟨c62, H⟩ := H
                 have c62b0 : decide (x43_3 < (l0_1.length : Int)) = true := decide_eq_true c62
                 clear c62
                 replace H := oi H
                 obtain ⟨c63, H⟩ := H
                 have c63b0 : decide (0 ≤ x70_5) = true := decide_eq_true c63
                 clear c63
                 replace H := oi H
                 obtain ⟨c64, H⟩ := H
                 have c64b0 : decide (x70_5 < ((rd_L1 l0_1 x43_3).length : Int)) = true := decide_eq_true c64
                 clear c64
                 replace H := oi H
                 obtain ⟨c65, H⟩ := H
                 have c65b0 : decide (0 ≤ (rd (rd_L1 l0_1 x43_3) x70_5)) = true := decide_eq_true c65
                 clear c65
                 replace H := oi H
                 obtain ⟨c66, H⟩ := H
                 have c66b0 : decide ((rd (rd_L1 l0_1 x43_3) x70_5) < (l0_1.length : Int)) = true := decide_eq_true c66
                 clear c66
                 replace H := oi H
                 obtain ⟨c67, H⟩ := H
                 have c67b0 : decide (0 ≤ x93_6) = true := decide_eq_true c67
                 clear c67
                 replace H := oi H
                 obtain ⟨c68, H⟩ := H
                 have c68b0 : decide (x93_6 < ((rd_L1 l0_1 (rd (rd_L1 l0_1 x43_3) x70_5)).length : Int)) = true := decide_eq_true c68
                 clear c68
                 replace H := oi H
                 obtain ⟨c69, H⟩ := H
                 have c69b0 : decide (x70_5 < (l0_1.length : Int)) = true := decide_eq_true c69
                 clear c69
                 replace H := oi H
                 obtain ⟨c70, H⟩ := H
                 have c70b0 : decide (x93_6 < ((rd_L1 l0_1 x70_5).length : Int)) = true := decide_eq_true c70
                 clear c70
                 replace H := oi H
                 obtain ⟨c71, H⟩ := H
                 have c71b0 : decide (0 ≤ (rd (rd_L1 l0_1 x70_5) x93_6)) = true := decide_eq_true c71
                 clear c71
                 replace H := oi H
                 obtain ⟨c72, H⟩ := H
                 have c72b0 : decide ((rd (rd_L1 l0_1 x70_5) x93_6) < ((rd_L1 l0_1 x43_3).length : Int)) = true := decide_eq_true c72
                 clear c72
                 by_cases c73 : (rd (rd_L1 l0_1 (rd (rd_L1 l0_1 x43_3) x70_5)) x93_6) = (rd (rd_L1 l0_1 x43_3) (rd (rd_L1 l0_1 x70_5) x93_6))
                 rotate_left
                 ·rw [if_neg c73] at H
                  have c73b0 : ((rd (rd_L1 l0_1 (rd (rd_L1 l0_1 x43_3) x70_5)) x93_6) == (rd (rd_L1 l0_1 x43_3) (rd (rd_L1 l0_1 x70_5) x93_6))) = false := beq_eq_false_iff_ne.mpr c73
                  have c73b1 : ((rd (rd_L1 l0_1 (rd (rd_L1 l0_1 x43_3) x70_5)) x93_6) != (rd (rd_L1 l0_1 x43_3) (rd (rd_L1 l0_1 x70_5) x93_6))) = true := bne_iff_ne.mpr c73
                  obtain rfl := Option.some.inj H
                  have hnb84 := NB254_255.out
                  have hnc84 := NB255_254.out
                  have hcz85_0 : wr.cell? ⟨gb254, 0, none⟩ = some (.slice A0_0 l0_0.length c0_0) := (blk_cell BK254.out 0).trans rfl
                  have hcz85_1 : wr.cell? ⟨gb254, 1, none⟩ = some (.slice (some ad263) l0_1.length c0_1) := (blk_cell BK254.out 1).trans rfl
                  have hfz85_0 := blk_frozen BK254.out 0
                  have hfz85_1 := blk_frozen BK254.out 1
                  have p267 : 0 ≤ (x43_3 : Int) := of_decide_eq_true (by first | (with_reducible assumption) | assumption)
                  have q267 : x43_3 < (l0_1.length : Int) := of_decide_eq_true (by first | (with_reducible assumption) | assumption)
                  obtain ⟨ad267, A267_0, c267_0, e267, hx267_0, hl267_0, hi267_0⟩ := at_L1 HR0_1.out x43_3 p267 q267
                  obtain rfl : ad263 = ad267 := (by injection e267)
                  replace hx267_0 := (HB.out.cell (World.block_lt_of_cell? w _ hx267_0)).trans hx267_0
                  have HR267_0 := ak hi267_0
                  have HC267_0 := ak hl267_0
                  clear hi267_0 hl267_0
                  replace p267 := eq_true p267
                  replace q267 := eq_true q267
                  have p268 : 0 ≤ (x70_5 : Int) := of_decide_eq_true (by first | (with_reducible assumption) | assumption)
                  have q268 : x70_5 < ((rd_L1 l0_1 x43_3).length : Int) := of_decide_eq_true (by first | (with_reducible assumption) | assumption)
                  obtain ⟨ad268, e268, hx268_0⟩ := Kd.at_int HR267_0.out x70_5 p268 q268
                  cases e268
                  replace hx268_0 := (HB.out.cell (World.block_lt_of_cell? w _ hx268_0)).trans hx268_0
                  replace p268 := eq_true p268
                  replace q268 := eq_true q268
                  have p269 : 0 ≤ ((rd (rd_L1 l0_1 x43_3) x70_5) : Int) := of_decide_eq_true (by first | (with_reducible assumption) | assumption)
                  have q269 : (rd (rd_L1 l0_1 x43_3) x70_5) < (l0_1.length : Int) := of_decide_eq_true (by first | (with_reducible assumption) | assumption)
                  obtain ⟨ad269, A269_0, c269_0, e269, hx269_0, hl269_0, hi269_0⟩ := at_L1 HR0_1.out (rd (rd_L1 l0_1 x43_3) x70_5) p269 q269
                  obtain rfl : ad263 = ad269 := (by injection e269)
                  replace hx269_0 := (HB.out.cell (World.block_lt_of_cell? w _ hx269_0)).trans hx269_0
                  have HR269_0 := ak hi269_0
                  have HC269_0 := ak hl269_0
                  clear hi269_0 hl269_0
                  replace p269 := eq_true p269
                  replace q269 := eq_true q269
                  have p270 : 0 ≤ (x93_6 : Int) := of_decide_eq_true (by first | (with_reducible assumption) | assumption)
                  have q270 : x93_6 < ((rd_L1 l0_1 (rd (rd_L1 l0_1 x43_3) x70_5)).length : Int) := of_decide_eq_true (by first | (with_reducible assumption) | assumption)
                  obtain ⟨ad270, e270, hx270_0⟩ := Kd.at_int HR269_0.out x93_6 p270 q270
                  cases e270
                  replace hx270_0 := (HB.out.cell (World.block_lt_of_cell? w _ hx270_0)).trans hx270_0
                  replace p270 := eq_true p270
                  replace q270 := eq_true q270
                  have p271 : 0 ≤ (x43_3 : Int) := of_decide_eq_true (by first | (with_reducible assumption) | assumption)
                  have q271 : x43_3 < (l0_1.length : Int) := of_decide_eq_true (by first | (with_reducible assumption) | assumption)
                  obtain ⟨ad271, A271_0, c271_0, e271, hx271_0, hl271_0, hi271_0⟩ := at_L1 HR0_1.out x43_3 p271 q271
                  obtain rfl : ad263 = ad271 := (by injection e271)
                  replace hx271_0 := (HB.out.cell (World.block_lt_of_cell? w _ hx271_0)).trans hx271_0
                  have HR271_0 := ak hi271_0
                  have HC271_0 := ak hl271_0
                  clear hi271_0 hl271_0
                  replace p271 := eq_true p271
                  replace q271 := eq_true q271
                  have ea_ := Option.some.inj (hx267_0.symm.trans hx271_0)
                  injection ea_ with ea_ en_ ec_
                  subst ea_
                  subst ec_
                  clear en_
                  have p272 : 0 ≤ (x70_5 : Int) := of_decide_eq_true (by first | (with_reducible assumption) | assumption)
                  have q272 : x70_5 < (l0_1.length : Int) := of_decide_eq_true (by first | (with_reducible assumption) | assumption)
                  obtain ⟨ad272, A272_0, c272_0, e272, hx272_0, hl272_0, hi272_0⟩ := at_L1 HR0_1.out x70_5 p272 q272
                  obtain rfl : ad263 = ad272 := (by injection e272)
                  replace hx272_0 := (HB.out.cell (World.block_lt_of_cell? w _ hx272_0)).trans hx272_0
                  have HR272_0 := ak hi272_0
                  have HC272_0 := ak hl272_0
                  clear hi272_0 hl272_0
                  replace p272 := eq_true p272
                  replace q272 := eq_true q272
                  have p273 : 0 ≤ (x93_6 : Int) := of_decide_eq_true (by first | (with_reducible assumption) | assumption)
                  have q273 : x93_6 < ((rd_L1 l0_1 x70_5).length : Int) := of_decide_eq_true (by first | (with_reducible assumption) | assumption)
                  obtain ⟨ad273, e273, hx273_0⟩ := Kd.at_int HR272_0.out x93_6 p273 q273
                  cases e273
                  replace hx273_0 := (HB.out.cell (World.block_lt_of_cell? w _ hx273_0)).trans hx273_0
                  replace p273 := eq_true p273
                  replace q273 := eq_true q273
                  have p274 : 0 ≤ ((rd (rd_L1 l0_1 x70_5) x93_6) : Int) := of_decide_eq_true (by first | (with_reducible assumption) | assumption)
                  have q274 : (rd (rd_L1 l0_1 x70_5) x93_6) < ((rd_L1 l0_1 x43_3).length : Int) := of_decide_eq_true (by first | (with_reducible assumption) | assumption)
                  obtain ⟨ad274, e274, hx274_0⟩ := Kd.at_int HR271_0.out (rd (rd_L1 l0_1 x70_5) x93_6) p274 q274
                  cases e274
                  replace hx274_0 := (HB.out.cell (World.block_lt_of_cell? w _ hx274_0)).trans hx274_0
                  replace p274 := eq_true p274
                  replace q274 := eq_true q274
                  as_aux_lemma =>
                   go_wp2
                   repeat ((refine wp_region_quiet_lit ?_ ?_ ?_; kernel_rfl; kernel_rfl; (repeat (first | go_big_quiet_step (fail) | (refine wpQuiet_step (fun K hK => ?_); go_simp; refine hK _ ?_; clear hK K))); refine wpQuiet_nil ?_; intro _ hw'; obtain ⟨nq, hw''⟩ := hw'; subst hw''); try go_wp2)
                   go_ret
                   exact ⟨by first | rfl | (simp [errW_none, errW_some] <;> rfl) | (simp [*, errW_none, errW_some] <;> rfl), by repeat (first | (with_reducible first | exact HB.out | apply below_alloc | apply pw_below_drewN | apply below_drew1 | refine below_set ?_ GE254.out | refine below_set ?_ GE255.out) | exact HB.out)⟩
                 rw [if_pos c73] at H
                 have c73b0 : ((rd (rd_L1 l0_1 (rd (rd_L1 l0_1 x43_3) x70_5)) x93_6) == (rd (rd_L1 l0_1 x43_3) (rd (rd_L1 l0_1 x70_5) x93_6))) = true := beq_iff_eq.mpr c73
                 have c73b1 : ((rd (rd_L1 l0_1 (rd (rd_L1 l0_1 x43_3) x70_5)) x93_6) != (rd (rd_L1 l0_1 x43_3) (rd (rd_L1 l0_1 x70_5) x93_6))) = false := bne_eq_false_iff_eq.mpr c73
                 clear c73
                 replace H := bi H
                 obtain ⟨t276, A740, H⟩ := H
                 try dsimp only at H
                 have A74 := ak A740
                 clear A740
                 replace H := oi H
                 obtain ⟨c75, H⟩ := H
                 have c75b0 : decide (0 ≤ t276) = true := decide_eq_true c75
                 clear c75
                 replace H := oi H
                 obtain ⟨c76, H⟩ := H
                 have c76b0 : decide (t276 < ((rd_L1 l0_1 x43_3).length : Int)) = true := decide_eq_true c76
                 clear c76
                 replace H := oi H
                 obtain ⟨c77, H⟩ := H
                 have c77b0 : decide (x93_6 < ((rd_L1 l0_1 x43_3).length : Int)) = true := decide_eq_true c77
                 clear c77
                 replace H := bi H
                 obtain ⟨t282, A780, H⟩ := H
                 try dsimp only at H
                 have A78 := ak A780
                 clear A780
                 by_cases c79 : (rd (rd_L1 l0_1 x43_3) t276) = t282
                 rotate_left
                 ·rw [if_neg c79] at H
                  have c79b0 : ((rd (rd_L1 l0_1 x43_3) t276) == t282) = false := beq_eq_false_iff_ne.mpr c79
                  have c79b1 : ((rd (rd_L1 l0_1 x43_3) t276) != t282) = true := bne_iff_ne.mpr c79
                  obtain rfl := Option.some.inj H
                  have hnb82 := NB254_255.out
                  have hnc82 := NB255_254.out
                  have hcz83_0 : wr.cell? ⟨gb254, 0, none⟩ = some (.slice A0_0 l0_0.length c0_0) := (blk_cell BK254.out 0).trans rfl
                  have hcz83_1 : wr.cell? ⟨gb254, 1, none⟩ = some (.slice (some ad263) l0_1.length c0_1) := (blk_cell BK254.out 1).trans rfl
                  have hfz83_0 := blk_frozen BK254.out 0
                  have hfz83_1 := blk_frozen BK254.out 1
                  have p267 : 0 ≤ (x43_3 : Int) := of_decide_eq_true (by first | (with_reducible assumption) | assumption)
                  have q267 : x43_3 < (l0_1.length : Int) := of_decide_eq_true (by first | (with_reducible assumption) | assumption)
                  obtain ⟨ad267, A267_0, c267_0, e267, hx267_0, hl267_0, hi267_0⟩ := at_L1 HR0_1.out x43_3 p267 q267
                  obtain rfl : ad263 = ad267 := (by injection e267)
                  replace hx267_0 := (HB.out.cell (World.block_lt_of_cell? w _ hx267_0)).trans hx267_0
                  have HR267_0 := ak hi267_0
                  have HC267_0 := ak hl267_0
                  clear hi267_0 hl267_0
                  replace p267 := eq_true p267
                  replace q267 := eq_true q267
                  have p268 : 0 ≤ (x70_5 : Int) := of_decide_eq_true (by first | (with_reducible assumption) | assumption)
                  have q268 : x70_5 < ((rd_L1 l0_1 x43_3).length : Int) := of_decide_eq_true (by first | (with_reducible assumption) | assumption)
                  obtain ⟨ad268, e268, hx268_0⟩ := Kd.at_int HR267_0.out x70_5 p268 q268
                  cases e268
                  replace hx268_0 := (HB.out.cell (World.block_lt_of_cell? w _ hx268_0)).trans hx268_0
                  replace p268 := eq_true p268
                  replace q268 := eq_true q268
                  have p269 : 0 ≤ ((rd (rd_L1 l0_1 x43_3) x70_5) : Int) := of_decide_eq_true (by first | (with_reducible assumption) | assumption)
                  have q269 : (rd (rd_L1 l0_1 x43_3) x70_5) < (l0_1.length : Int) := of_decide_eq_true (by first | (with_reducible assumption) | assumption)
                  obtain ⟨ad269, A269_0, c269_0, e269, hx269_0, hl269_0, hi269_0⟩ := at_L1 HR0_1.out (rd (rd_L1 l0_1 x43_3) x70_5) p269 q269
                  obtain rfl : ad263 = ad269 := (by injection e269)
                  replace hx269_0 := (HB.out.cell (World.block_lt_of_cell? w _ hx269_0)).trans hx269_0
                  have HR269_0 := ak hi269_0
                  have HC269_0 := ak hl269_0
                  clear hi269_0 hl269_0
                  replace p269 := eq_true p269
                  replace q269 := eq_true q269
                  have p270 : 0 ≤ (x93_6 : Int) := of_decide_eq_true (by first | (with_reducible assumption) | assumption)
                  have q270 : x93_6 < ((rd_L1 l0_1 (rd (rd_L1 l0_1 x43_3) x70_5)).length : Int) := of_decide_eq_true (by first | (with_reducible assumption) | assumption)
                  obtain ⟨ad270, e270, hx270_0⟩ := Kd.at_int HR269_0.out x93_6 p270 q270
                  cases e270
                  replace hx270_0 := (HB.out.cell (World.block_lt_of_cell? w _ hx270_0)).trans hx270_0
                  replace p270 := eq_true p270
                  replace q270 := eq_true q270
                  have p271 : 0 ≤ (x43_3 : Int) := of_decide_eq_true (by first | (with_reducible assumption) | assumption)
                  have q271 : x43_3 < (l0_1.length : Int) := of_decide_eq_true (by first | (with_reducible assumption) | assumption)
                  obtain ⟨ad271, A271_0, c271_0, e271, hx271_0, hl271_0, hi271_0⟩ := at_L1 HR0_1.out x43_3 p271 q271
                  obtain rfl : ad263 = ad271 := (by injection e271)
                  replace hx271_0 := (HB.out.cell (World.block_lt_of_cell? w _ hx271_0)).trans hx271_0
                  have HR271_0 := ak hi271_0
                  have HC271_0 := ak hl271_0
                  clear hi271_0 hl271_0
                  replace p271 := eq_true p271
                  replace q271 := eq_true q271
                  have ea_ := Option.some.inj (hx267_0.symm.trans hx271_0)
                  injection ea_ with ea_ en_ ec_
                  subst ea_
                  subst ec_
                  clear en_
                  have p272 : 0 ≤ (x70_5 : Int) := of_decide_eq_true (by first | (with_reducible assumption) | assumption)
                  have q272 : x70_5 < (l0_1.length : Int) := of_decide_eq_true (by first | (with_reducible assumption) | assumption)
                  obtain ⟨ad272, A272_0, c272_0, e272, hx272_0, hl272_0, hi272_0⟩ := at_L1 HR0_1.out x70_5 p272 q272
                  obtain rfl : ad263 = ad272 := (by injection e272)
                  replace hx272_0 := (HB.out.cell (World.block_lt_of_cell? w _ hx272_0)).trans hx272_0
                  have HR272_0 := ak hi272_0
                  have HC272_0 := ak hl272_0
                  clear hi272_0 hl272_0
                  replace p272 := eq_true p272
                  replace q272 := eq_true q272
                  have p273 : 0 ≤ (x93_6 : Int) := of_decide_eq_true (by first | (with_reducible assumption) | assumption)
                  have q273 : x93_6 < ((rd_L1 l0_1 x70_5).length : Int) := of_decide_eq_true (by first | (with_reducible assumption) | assumption)
                  obtain ⟨ad273, e273, hx273_0⟩ := Kd.at_int HR272_0.out x93_6 p273 q273
                  cases e273
                  replace hx273_0 := (HB.out.cell (World.block_lt_of_cell? w _ hx273_0)).trans hx273_0
                  replace p273 := eq_true p273
                  replace q273 := eq_true q273
                  have p274 : 0 ≤ ((rd (rd_L1 l0_1 x70_5) x93_6) : Int) := of_decide_eq_true (by first | (with_reducible assumption) | assumption)
                  have q274 : (rd (rd_L1 l0_1 x70_5) x93_6) < ((rd_L1 l0_1 x43_3).length : Int) := of_decide_eq_true (by first | (with_reducible assumption) | assumption)
                  obtain ⟨ad274, e274, hx274_0⟩ := Kd.at_int HR271_0.out (rd (rd_L1 l0_1 x70_5) x93_6) p274 q274
                  cases e274
                  replace hx274_0 := (HB.out.cell (World.block_lt_of_cell? w _ hx274_0)).trans hx274_0
                  replace p274 := eq_true p274
                  replace q274 := eq_true q274
                  have p275 : 0 ≤ (x43_3 : Int) := of_decide_eq_true (by first | (with_reducible assumption) | assumption)
                  have q275 : x43_3 < (l0_1.length : Int) := of_decide_eq_true (by first | (with_reducible assumption) | assumption)
                  obtain ⟨ad275, A275_0, c275_0, e275, hx275_0, hl275_0, hi275_0⟩ := at_L1 HR0_1.out x43_3 p275 q275
                  obtain rfl : ad263 = ad275 := (by injection e275)
                  replace hx275_0 := (HB.out.cell (World.block_lt_of_cell? w _ hx275_0)).trans hx275_0
                  have HR275_0 := ak hi275_0
                  have HC275_0 := ak hl275_0
                  clear hi275_0 hl275_0
                  replace p275 := eq_true p275
                  replace q275 := eq_true q275
                  have ea_ := Option.some.inj (hx267_0.symm.trans hx275_0)
                  injection ea_ with ea_ en_ ec_
                  subst ea_
                  subst ec_
                  clear en_
                  have p277 : 0 ≤ (t276 : Int) := of_decide_eq_true (by first | (with_reducible assumption) | assumption)
                  have q277 : t276 < ((rd_L1 l0_1 x43_3).length : Int) := of_decide_eq_true (by first | (with_reducible assumption) | assumption)
                  obtain ⟨ad277, e277, hx277_0⟩ := Kd.at_int HR275_0.out t276 p277 q277
                  cases e277
                  replace hx277_0 := (HB.out.cell (World.block_lt_of_cell? w _ hx277_0)).trans hx277_0
                  replace p277 := eq_true p277
                  replace q277 := eq_true q277
                  have p278 : 0 ≤ (x43_3 : Int) := of_decide_eq_true (by first | (with_reducible assumption) | assumption)
                  have q278 : x43_3 < (l0_1.length : Int) := of_decide_eq_true (by first | (with_reducible assumption) | assumption)
                  obtain ⟨ad278, A278_0, c278_0, e278, hx278_0, hl278_0, hi278_0⟩ := at_L1 HR0_1.out x43_3 p278 q278
                  obtain rfl : ad263 = ad278 := (by injection e278)
                  replace hx278_0 := (HB.out.cell (World.block_lt_of_cell? w _ hx278_0)).trans hx278_0
                  have HR278_0 := ak hi278_0
                  have HC278_0 := ak hl278_0
                  clear hi278_0 hl278_0
                  replace p278 := eq_true p278
                  replace q278 := eq_true q278
                  have ea_ := Option.some.inj (hx267_0.symm.trans hx278_0)
                  injection ea_ with ea_ en_ ec_
                  subst ea_
                  subst ec_
                  clear en_
                  have p279 : 0 ≤ (x70_5 : Int) := of_decide_eq_true (by first | (with_reducible assumption) | assumption)
                  have q279 : x70_5 < ((rd_L1 l0_1 x43_3).length : Int) := of_decide_eq_true (by first | (with_reducible assumption) | assumption)
                  obtain ⟨ad279, e279, hx279_0⟩ := Kd.at_int HR278_0.out x70_5 p279 q279
                  cases e279
                  replace hx279_0 := (HB.out.cell (World.block_lt_of_cell? w _ hx279_0)).trans hx279_0
                  replace p279 := eq_true p279
                  replace q279 := eq_true q279
                  have p280 : 0 ≤ (x43_3 : Int) := of_decide_eq_true (by first | (with_reducible assumption) | assumption)
                  have q280 : x43_3 < (l0_1.length : Int) := of_decide_eq_true (by first | (with_reducible assumption) | assumption)
                  obtain ⟨ad280, A280_0, c280_0, e280, hx280_0, hl280_0, hi280_0⟩ := at_L1 HR0_1.out x43_3 p280 q280
                  obtain rfl : ad263 = ad280 := (by injection e280)
                  replace hx280_0 := (HB.out.cell (World.block_lt_of_cell? w _ hx280_0)).trans hx280_0
                  have HR280_0 := ak hi280_0
                  have HC280_0 := ak hl280_0
                  clear hi280_0 hl280_0
                  replace p280 := eq_true p280
                  replace q280 := eq_true q280
                  have ea_ := Option.some.inj (hx267_0.symm.trans hx280_0)
                  have p281 : 0 ≤ (x93_6 : Int) := of_decide_eq_true (by first | (with_reducible assumption) | assumption)
                  have q281 : x93_6 < ((rd_L1 l0_1 x43_3).length : Int) := of_decide_eq_true (by first | (with_reducible assumption) | assumption)
                  obtain ⟨ad281, e281, hx281_0⟩ := Kd.at_int HR280_0.out x93_6 p281 q281
                  cases e281
                  replace hx281_0 := (HB.out.cell (World.block_lt_of_cell? w _ hx281_0)).trans hx281_0
                  replace p281 := eq_true p281
                  replace q281 := eq_true q281
                  as_aux_lemma =>
                   go_wp2_with (first | (go_at_call 65; (with_reducible refine (impl_join.calls k6 _ _ l0_0 x70_5 x93_6 t276 _ ?side1 ?side2 A74.out).mono ?_); (case side1 => exact kC (Kd.C_below HR0_0.out HB.out)); (case side2 => exact HC0_0.out); rintro e w' ⟨rfl, ⟨nd, rfl⟩⟩; (try first | exact ⟨rfl, _, World.drewN_drewN _ _ _⟩ | exact ⟨rfl, _, Eq.trans (World.drewN_drewN _ _ _) (congrArg (World.drewN _) (Nat.add_assoc _ _ _))⟩)) | (go_at_call 65; (with_reducible refine (impl_join.calls k6 _ _ l0_0 (rd (rd_L1 l0_1 x43_3) x70_5) (rd (rd_L1 l0_1 x43_3) x93_6) t282 _ ?side1 ?side2 A78.out).mono ?_); (case side1 => exact kC (Kd.C_below HR0_0.out (bB HB.out))); (case side2 => exact HC0_0.out); rintro e w' ⟨rfl, ⟨nd, rfl⟩⟩; (try first | exact ⟨rfl, _, World.drewN_drewN _ _ _⟩ | exact ⟨rfl, _, Eq.trans (World.drewN_drewN _ _ _) (congrArg (World.drewN _) (Nat.add_assoc _ _ _))⟩)))
                   repeat ((refine wp_region_quiet_lit ?_ ?_ ?_; kernel_rfl; kernel_rfl; (repeat (first | go_big_quiet_step (first | (go_at_call 65; (with_reducible refine (impl_join.calls k6 _ _ l0_0 x70_5 x93_6 t276 _ ?side1 ?side2 A74.out).mono ?_); (case side1 => exact kC (Kd.C_below HR0_0.out HB.out)); (case side2 => exact HC0_0.out); rintro e w' ⟨rfl, ⟨nd, rfl⟩⟩; (try first | exact ⟨rfl, _, World.drewN_drewN _ _ _⟩ | exact ⟨rfl, _, Eq.trans (World.drewN_drewN _ _ _) (congrArg (World.drewN _) (Nat.add_assoc _ _ _))⟩)) | (go_at_call 65; (with_reducible refine (impl_join.calls k6 _ _ l0_0 (rd (rd_L1 l0_1 x43_3) x70_5) (rd (rd_L1 l0_1 x43_3) x93_6) t282 _ ?side1 ?side2 A78.out).mono ?_); (case side1 => exact kC (Kd.C_below HR0_0.out (bB HB.out))); (case side2 => exact HC0_0.out); rintro e w' ⟨rfl, ⟨nd, rfl⟩⟩; (try first | exact ⟨rfl, _, World.drewN_drewN _ _ _⟩ | exact ⟨rfl, _, Eq.trans (World.drewN_drewN _ _ _) (congrArg (World.drewN _) (Nat.add_assoc _ _ _))⟩))) | (refine wpQuiet_step (fun K hK => ?_); go_simp; refine hK _ ?_; clear hK K))); refine wpQuiet_nil ?_; intro _ hw'; obtain ⟨nq, hw''⟩ := hw'; subst hw''); try go_wp2_with (first | (go_at_call 65; (with_reducible refine (impl_join.calls k6 _ _ l0_0 x70_5 x93_6 t276 _ ?side1 ?side2 A74.out).mono ?_); (case side1 => exact kC (Kd.C_below HR0_0.out HB.out)); (case side2 => exact HC0_0.out); rintro e w' ⟨rfl, ⟨nd, rfl⟩⟩; (try first | exact ⟨rfl, _, World.drewN_drewN _ _ _⟩ | exact ⟨rfl, _, Eq.trans (World.drewN_drewN _ _ _) (congrArg (World.drewN _) (Nat.add_assoc _ _ _))⟩)) | (go_at_call 65; (with_reducible refine (impl_join.calls k6 _ _ l0_0 (rd (rd_L1 l0_1 x43_3) x70_5) (rd (rd_L1 l0_1 x43_3) x93_6) t282 _ ?side1 ?side2 A78.out).mono ?_); (case side1 => exact kC (Kd.C_below HR0_0.out (bB HB.out))); (case side2 => exact HC0_0.out); rintro e w' ⟨rfl, ⟨nd, rfl⟩⟩; (try first | exact ⟨rfl, _, World.drewN_drewN _ _ _⟩ | exact ⟨rfl, _, Eq.trans (World.drewN_drewN _ _ _) (congrArg (World.drewN _) (Nat.add_assoc _ _ _))⟩))))
                   go_ret
                   exact ⟨by first | rfl | (simp [errW_none, errW_some] <;> rfl) | (simp [*, errW_none, errW_some] <;> rfl), by repeat (first | (with_reducible first | exact HB.out | apply below_alloc | apply pw_below_drewN | apply below_drew1 | refine below_set ?_ GE254.out | refine below_set ?_ GE255.out) | exact HB.out)⟩
                 rw [if_pos c79] at H
                 have c79b0 : ((rd (rd_L1 l0_1 x43_3) t276) == t282) = true := beq_iff_eq.mpr c79
                 have c79b1 : ((rd (rd_L1 l0_1 x43_3) t276) != t282) = false := bne_eq_false_iff_eq.mpr c79
                 clear c79
                 have H' := ak H
                 clear H
                 have hnb80 := NB254_255.out
                 have hnc80 := NB255_254.out
                 have hcz81_0 : wr.cell? ⟨gb254, 0, none⟩ = some (.slice A0_0 l0_0.length c0_0) := (blk_cell BK254.out 0).trans rfl
                 have hcz81_1 : wr.cell? ⟨gb254, 1, none⟩ = some (.slice (some ad263) l0_1.length c0_1) := (blk_cell BK254.out 1).trans rfl
                 have hfz81_0 := blk_frozen BK254.out 0
                 have hfz81_1 := blk_frozen BK254.out 1
                 have p267 : 0 ≤ (x43_3 : Int) := of_decide_eq_true (by first | (with_reducible assumption) | assumption)
                 have q267 : x43_3 < (l0_1.length : Int) := of_decide_eq_true (by first | (with_reducible assumption) | assumption)
                 obtain ⟨ad267, A267_0, c267_0, e267, hx267_0, hl267_0, hi267_0⟩ := at_L1 HR0_1.out x43_3 p267 q267
                 obtain rfl : ad263 = ad267 := (by injection e267)
                 replace hx267_0 := (HB.out.cell (World.block_lt_of_cell? w _ hx267_0)).trans hx267_0
                 have HR267_0 := ak hi267_0
                 have HC267_0 := ak hl267_0
                 clear hi267_0 hl267_0
                 replace p267 := eq_true p267
                 replace q267 := eq_true q267
                 have p268 : 0 ≤ (x70_5 : Int) := of_decide_eq_true (by first | (with_reducible assumption) | assumption)
                 have q268 : x70_5 < ((rd_L1 l0_1 x43_3).length : Int) := of_decide_eq_true (by first | (with_reducible assumption) | assumption)
                 obtain ⟨ad268, e268, hx268_0⟩ := Kd.at_int HR267_0.out x70_5 p268 q268
                 cases e268
                 replace hx268_0 := (HB.out.cell (World.block_lt_of_cell? w _ hx268_0)).trans hx268_0
                 replace p268 := eq_true p268
                 replace q268 := eq_true q268
                 have p269 : 0 ≤ ((rd (rd_L1 l0_1 x43_3) x70_5) : Int) := of_decide_eq_true (by first | (with_reducible assumption) | assumption)
                 have q269 : (rd (rd_L1 l0_1 x43_3) x70_5) < (l0_1.length : Int) := of_decide_eq_true (by first | (with_reducible assumption) | assumption)
                 obtain ⟨ad269, A269_0, c269_0, e269, hx269_0, hl269_0, hi269_0⟩ := at_L1 HR0_1.out (rd (rd_L1 l0_1 x43_3) x70_5) p269 q269
                 obtain rfl : ad263 = ad269 := (by injection e269)
                 replace hx269_0 := (HB.out.cell (World.block_lt_of_cell? w _ hx269_0)).trans hx269_0
                 have HR269_0 := ak hi269_0
                 have HC269_0 := ak hl269_0
                 clear hi269_0 hl269_0
                 replace p269 := eq_true p269
                 replace q269 := eq_true q269
                 have p270 : 0 ≤ (x93_6 : Int) := of_decide_eq_true (by first | (with_reducible assumption) | assumption)
                 have q270 : x93_6 < ((rd_L1 l0_1 (rd (rd_L1 l0_1 x43_3) x70_5)).length : Int) := of_decide_eq_true (by first | (with_reducible assumption) | assumption)
                 obtain ⟨ad270, e270, hx270_0⟩ := Kd.at_int HR269_0.out x93_6 p270 q270
                 cases e270
                 replace hx270_0 := (HB.out.cell (World.block_lt_of_cell? w _ hx270_0)).trans hx270_0
                 replace p270 := eq_true p270
                 replace q270 := eq_true q270
                 have p271 : 0 ≤ (x43_3 : Int) := of_decide_eq_true (by first | (with_reducible assumption) | assumption)
                 have q271 : x43_3 < (l0_1.length : Int) := of_decide_eq_true (by first | (with_reducible assumption) | assumption)
                 obtain ⟨ad271, A271_0, c271_0, e271, hx271_0, hl271_0, hi271_0⟩ := at_L1 HR0_1.out x43_3 p271 q271
                 obtain rfl : ad263 = ad271 := (by injection e271)
                 replace hx271_0 := (HB.out.cell (World.block_lt_of_cell? w _ hx271_0)).trans hx271_0
                 have HR271_0 := ak hi271_0
                 have HC271_0 := ak hl271_0
                 clear hi271_0 hl271_0
                 replace p271 := eq_true p271
                 replace q271 := eq_true q271
                 have ea_ := Option.some.inj (hx267_0.symm.trans hx271_0)
                 injection ea_ with ea_ en_ ec_
                 subst ea_
                 subst ec_
                 clear en_
                 have p272 : 0 ≤ (x70_5 : Int) := of_decide_eq_true (by first | (with_reducible assumption) | assumption)
                 have q272 : x70_5 < (l0_1.length : Int) := of_decide_eq_true (by first | (with_reducible assumption) | assumption)
                 obtain ⟨ad272, A272_0, c272_0, e272, hx272_0, hl272_0, hi272_0⟩ := at_L1 HR0_1.out x70_5 p272 q272
                 obtain rfl : ad263 = ad272 := (by injection e272)
                 replace hx272_0 := (HB.out.cell (World.block_lt_of_cell? w _ hx272_0)).trans hx272_0
                 have HR272_0 := ak hi272_0
                 have HC272_0 := ak hl272_0
                 clear hi272_0 hl272_0
                 replace p272 := eq_true p272
                 replace q272 := eq_true q272
                 have p273 : 0 ≤ (x93_6 : Int) := of_decide_eq_true (by first | (with_reducible assumption) | assumption)
                 have q273 : x93_6 < ((rd_L1 l0_1 x70_5).length : Int) := of_decide_eq_true (by first | (with_reducible assumption) | assumption)
                 obtain ⟨ad273, e273, hx273_0⟩ := Kd.at_int HR272_0.out x93_6 p273 q273
                 cases e273
                 replace hx273_0 := (HB.out.cell (World.block_lt_of_cell? w _ hx273_0)).trans hx273_0
                 replace p273 := eq_true p273
                 replace q273 := eq_true q273
                 have p274 : 0 ≤ ((rd (rd_L1 l0_1 x70_5) x93_6) : Int) := of_decide_eq_true (by first | (with_reducible assumption) | assumption)
                 have q274 : (rd (rd_L1 l0_1 x70_5) x93_6) < ((rd_L1 l0_1 x43_3).length : Int) := of_decide_eq_true (by first | (with_reducible assumption) | assumption)
                 obtain ⟨ad274, e274, hx274_0⟩ := Kd.at_int HR271_0.out (rd (rd_L1 l0_1 x70_5) x93_6) p274 q274
                 cases e274
                 replace hx274_0 := (HB.out.cell (World.block_lt_of_cell? w _ hx274_0)).trans hx274_0
                 replace p274 := eq_true p274
                 replace q274 := eq_true q274
                 have p275 : 0 ≤ (x43_3 : Int) := of_decide_eq_true (by first | (with_reducible assumption) | assumption)
                 have q275 : x43_3 < (l0_1.length : Int) := of_decide_eq_true (by first | (with_reducible assumption) | assumption)
                 obtain ⟨ad275, A275_0, c275_0, e275, hx275_0, hl275_0, hi275_0⟩ := at_L1 HR0_1.out x43_3 p275 q275
                 obtain rfl : ad263 = ad275 := (by injection e275)
                 replace hx275_0 := (HB.out.cell (World.block_lt_of_cell? w _ hx275_0)).trans hx275_0
                 have HR275_0 := ak hi275_0
                 have HC275_0 := ak hl275_0
                 clear hi275_0 hl275_0
                 replace p275 := eq_true p275
                 replace q275 := eq_true q275
                 have ea_ := Option.some.inj (hx267_0.symm.trans hx275_0)
                 injection ea_ with ea_ en_ ec_
                 subst ea_
                 subst ec_
                 clear en_
                 have p277 : 0 ≤ (t276 : Int) := of_decide_eq_true (by first | (with_reducible assumption) | assumption)
                 have q277 : t276 < ((rd_L1 l0_1 x43_3).length : Int) := of_decide_eq_true (by first | (with_reducible assumption) | assumption)
                 obtain ⟨ad277, e277, hx277_0⟩ := Kd.at_int HR275_0.out t276 p277 q277
                 cases e277
                 replace hx277_0 := (HB.out.cell (World.block_lt_of_cell? w _ hx277_0)).trans hx277_0
                 replace p277 := eq_true p277
                 replace q277 := eq_true q277
                 have p278 : 0 ≤ (x43_3 : Int) := of_decide_eq_true (by first | (with_reducible assumption) | assumption)
                 have q278 : x43_3 < (l0_1.length : Int) := of_decide_eq_true (by first | (with_reducible assumption) | assumption)
                 obtain ⟨ad278, A278_0, c278_0, e278, hx278_0, hl278_0, hi278_0⟩ := at_L1 HR0_1.out x43_3 p278 q278
                 obtain rfl : ad263 = ad278 := (by injection e278)
                 replace hx278_0 := (HB.out.cell (World.block_lt_of_cell? w _ hx278_0)).trans hx278_0
                 have HR278_0 := ak hi278_0
                 have HC278_0 := ak hl278_0
                 clear hi278_0 hl278_0
                 replace p278 := eq_true p278
                 replace q278 := eq_true q278
                 have ea_ := Option.some.inj (hx267_0.symm.trans hx278_0)
                 injection ea_ with ea_ en_ ec_
                 subst ea_
                 subst ec_
                 clear en_
                 have p279 : 0 ≤ (x70_5 : Int) := of_decide_eq_true (by first | (with_reducible assumption) | assumption)
                 have q279 : x70_5 < ((rd_L1 l0_1 x43_3).length : Int) := of_decide_eq_true (by first | (with_reducible assumption) | assumption)
                 obtain ⟨ad279, e279, hx279_0⟩ := Kd.at_int HR278_0.out x70_5 p279 q279
                 cases e279
                 replace hx279_0 := (HB.out.cell (World.block_lt_of_cell? w _ hx279_0)).trans hx279_0
                 replace p279 := eq_true p279
                 replace q279 := eq_true q279
                 have p280 : 0 ≤ (x43_3 : Int) := of_decide_eq_true (by first | (with_reducible assumption) | assumption)
                 have q280 : x43_3 < (l0_1.length : Int) := of_decide_eq_true (by first | (with_reducible assumption) | assumption)
                 obtain ⟨ad280, A280_0, c280_0, e280, hx280_0, hl280_0, hi280_0⟩ := at_L1 HR0_1.out x43_3 p280 q280
                 obtain rfl : ad263 = ad280 := (by injection e280)
                 replace hx280_0 := (HB.out.cell (World.block_lt_of_cell? w _ hx280_0)).trans hx280_0
                 have HR280_0 := ak hi280_0
                 have HC280_0 := ak hl280_0
                 clear hi280_0 hl280_0
                 replace p280 := eq_true p280
                 replace q280 := eq_true q280
                 have ea_ := Option.some.inj (hx267_0.symm.trans hx280_0)
                 have p281 : 0 ≤ (x93_6 : Int) := of_decide_eq_true (by first | (with_reducible assumption) | assumption)
                 have q281 : x93_6 < ((rd_L1 l0_1 x43_3).length : Int) := of_decide_eq_true (by first | (with_reducible assumption) | assumption)
                 obtain ⟨ad281, e281, hx281_0⟩ := Kd.at_int HR280_0.out x93_6 p281 q281
                 cases e281
                 replace hx281_0 := (HB.out.cell (World.block_lt_of_cell? w _ hx281_0)).trans hx281_0
                 replace p281 := eq_true p281
                 replace q281 := eq_true q281
                 as_aux_lemma =>
                  go_wp2_with (first | (go_at_call 65; (with_reducible refine (impl_join.calls k6 _ _ l0_0 x70_5 x93_6 t276 _ ?side1 ?side2 A74.out).mono ?_); (case side1 => exact kC (Kd.C_below HR0_0.out HB.out)); (case side2 => exact HC0_0.out); rintro e w' ⟨rfl, ⟨nd, rfl⟩⟩; (try first | exact ⟨rfl, _, World.drewN_drewN _ _ _⟩ | exact ⟨rfl, _, Eq.trans (World.drewN_drewN _ _ _) (congrArg (World.drewN _) (Nat.add_assoc _ _ _))⟩)) | (go_at_call 65; (with_reducible refine (impl_join.calls k6 _ _ l0_0 (rd (rd_L1 l0_1 x43_3) x70_5) (rd (rd_L1 l0_1 x43_3) x93_6) t282 _ ?side1 ?side2 A78.out).mono ?_); (case side1 => exact kC (Kd.C_below HR0_0.out (bB HB.out))); (case side2 => exact HC0_0.out); rintro e w' ⟨rfl, ⟨nd, rfl⟩⟩; (try first | exact ⟨rfl, _, World.drewN_drewN _ _ _⟩ | exact ⟨rfl, _, Eq.trans (World.drewN_drewN _ _ _) (congrArg (World.drewN _) (Nat.add_assoc _ _ _))⟩)))
                  repeat ((refine wp_region_quiet_lit ?_ ?_ ?_; kernel_rfl; kernel_rfl; (repeat (first | go_big_quiet_step (first | (go_at_call 65; (with_reducible refine (impl_join.calls k6 _ _ l0_0 x70_5 x93_6 t276 _ ?side1 ?side2 A74.out).mono ?_); (case side1 => exact kC (Kd.C_below HR0_0.out HB.out)); (case side2 => exact HC0_0.out); rintro e w' ⟨rfl, ⟨nd, rfl⟩⟩; (try first | exact ⟨rfl, _, World.drewN_drewN _ _ _⟩ | exact ⟨rfl, _, Eq.trans (World.drewN_drewN _ _ _) (congrArg (World.drewN _) (Nat.add_assoc _ _ _))⟩)) | (go_at_call 65; (with_reducible refine (impl_join.calls k6 _ _ l0_0 (rd (rd_L1 l0_1 x43_3) x70_5) (rd (rd_L1 l0_1 x43_3) x93_6) t282 _ ?side1 ?side2 A78.out).mono ?_); (case side1 => exact kC (Kd.C_below HR0_0.out (bB HB.out))); (case side2 => exact HC0_0.out); rintro e w' ⟨rfl, ⟨nd, rfl⟩⟩; (try first | exact ⟨rfl, _, World.drewN_drewN _ _ _⟩ | exact ⟨rfl, _, Eq.trans (World.drewN_drewN _ _ _) (congrArg (World.drewN _) (Nat.add_assoc _ _ _))⟩))) | (refine wpQuiet_step (fun K hK => ?_); go_simp; refine hK _ ?_; clear hK K))); refine wpQuiet_nil ?_; intro _ hw'; obtain ⟨nq, hw''⟩ := hw'; subst hw''); try go_wp2_with (first | (go_at_call 65; (with_reducible refine (impl_join.calls k6 _ _ l0_0 x70_5 x93_6 t276 _ ?side1 ?side2 A74.out).mono ?_); (case side1 => exact kC (Kd.C_below HR0_0.out HB.out)); (case side2 => exact HC0_0.out); rintro e w' ⟨rfl, ⟨nd, rfl⟩⟩; (try first | exact ⟨rfl, _, World.drewN_drewN _ _ _⟩ | exact ⟨rfl, _, Eq.trans (World.drewN_drewN _ _ _) (congrArg (World.drewN _) (Nat.add_assoc _ _ _))⟩)) | (go_at_call 65; (with_reducible refine (impl_join.calls k6 _ _ l0_0 (rd (rd_L1 l0_1 x43_3) x70_5) (rd (rd_L1 l0_1 x43_3) x93_6) t282 _ ?side1 ?side2 A78.out).mono ?_); (case side1 => exact kC (Kd.C_below HR0_0.out (bB HB.out))); (case side2 => exact HC0_0.out); rintro e w' ⟨rfl, ⟨nd, rfl⟩⟩; (try first | exact ⟨rfl, _, World.drewN_drewN _ _ _⟩ | exact ⟨rfl, _, Eq.trans (World.drewN_drewN _ _ _) (congrArg (World.drewN _) (Nat.add_assoc _ _ _))⟩))))
                  go_roundg k6
                  case measure => have := HJ1.out; have := HK2.out; have := HK3.out; have := HJ32.out; have := HK5.out; have := HK6.out; omega
                  case rel => exact ⟨(wrap64 (x93_6 + 1)), (by first | rfl | (simp; done) | (simp [*]; done)), H', ⟨by have := HJ1.out; have := HK2.out; have := HK3.out; have := HJ32.out; have := HK5.out; have := HK6.out; omega⟩, ⟨by (with_reducible repeat (first | refine blk_drewN ?_ _ | refine blk_drew ?_ | refine blk_alloc ?_ _)); exact BK254.out⟩, ⟨by (with_reducible repeat (first | refine blk_drewN ?_ _ | refine blk_drew ?_ | refine blk_alloc ?_ _)); exact BK255.out⟩, ⟨by repeat (first | (with_reducible first | exact HB.out | apply below_alloc | apply pw_below_drewN | apply below_drew1 | refine below_set ?_ GE254.out | refine below_set ?_ GE255.out) | exact HB.out)⟩⟩
end Go.Proofs.Ytomapoenndlbiaa.P

-- shrunk
