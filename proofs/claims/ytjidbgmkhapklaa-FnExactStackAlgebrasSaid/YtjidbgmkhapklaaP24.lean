-- Printed by this session's wip/print2.py (the kit's print.py, widened) out of the translation. Lean checks it.
import Derived.Test.YtjidbgmkhapklaaP0
import Derived.Test.YtjidbgmkhapklaaP23
namespace Go.Proofs.Ytjidbgmkhapklaa.P
open Go.RowKit Go.Proofs.YtjidbgmkhapklaaW.PrintWords Go.Proofs.YtjidbgmkhapklaaW.PrintLast Go.Proofs.YtjidbgmkhapklaaW.PrintMore
attribute [local go_sem] max2_int min2_int max_two min_two max_three min_three max_four min_four   -- for this text's walks alone
set_option linter.unusedVariables false
set_option linter.unusedSimpArgs false

/-! ### impl_copyAlgebra: function 101 -/
def impl_copyAlgebra.l0 : Nat → List (List Int) → Int → Int → List Int → List (List Int) → Option (List Int × (List (List Int)))
 | 0, _, _, _, _, _ => none
 | k + 1, x11, x12, x13, x294000, x294001 => if x13 < x12 then (if 0 ≤ x13 then (if x13 < (x11.length : Int) then ((slices_Clone_int_int.f (rd_L1 x11 x13)).bind fun t295 => (if x294001.length < 5864062014805 then (impl_copyAlgebra.l0 k x11 x12 (wrap64 (x13 + 1)) x294000 (x294001 ++ [t295])) else (none))) else (none)) else (none)) else (some (x294000, x294001))
def impl_copyAlgebra.f (k : Nat) (l0_0 : List Int) (l0_1 : List (List Int)) : Option (List Int × (List (List Int))) := (slices_Clone_int_int.f l0_0).bind fun t290 => (impl_copyAlgebra.l0 k l0_1 (l0_1.length : Int) 0 t290 ([] : List (List Int)))
def impl_copyAlgebra.T5 : Bool × List (List Nat × List Nat) := (true, [([], []), ([0], [0]), ([], []), ([2], [2]), ([3], [3]), ([1, 4, 3], [1, 4]), ([0, 1, 2, 3, 4, 5], []), ([6, 5, 5, 0, 1, 2, 3, 4, 5], [5, 6])])
def impl_copyAlgebra.B5 : List Nat := [0, 1, 0, 4, 12, 31, 63, 127]
theorem impl_copyAlgebra.tab5 : rtab .any (opsOf Try.f101 5) = impl_copyAlgebra.T5 := by kernel_rfl
theorem impl_copyAlgebra.bits5 : waitsOk impl_copyAlgebra.T5.2 impl_copyAlgebra.B5 = true := by kernel_rfl
set_option maxHeartbeats 8000000 in
set_option maxRecDepth 100000 in
theorem impl_copyAlgebra.calls (k : Nat) (A0_0 : Option Addr) (c0_0 : Nat) (l0_0 : List Int) (A0_1 : Option Addr) (c0_1 : Nat) (l0_1 : List (List Int)) (r1 : List Int) (r2 : List (List Int)) (w : World) (hr0_0 : Kd.C (Kd.int .i64) w A0_0 l0_0.length l0_0) (hc0_0 : l0_0.length ≤ c0_0) (hr0_1 : Kd.C (Kd.slice 3 (Kd.int .i64)) w A0_1 l0_1.length l0_1) (hc0_1 : l0_1.length ≤ c0_1) (h : impl_copyAlgebra.f k l0_0 l0_1 = some (r1, r2)) :
  Calls Try.prog 101 #[.agg #[.slice A0_0 l0_0.length c0_0, .slice A0_1 l0_1.length c0_1]] w fun e w' => ∃ v0_ v1_ : Value, e = .returned (.agg #[v0_, v1_]) ∧ Kd.R (Kd.int .i64) 3 w' w.heap.size (fun _ => True) v0_ r1 ∧ Kd.S (Kd.slice 3 (Kd.int .i64)) 22 w' w.heap.size (fun k_ => some k_ ≠ (v0_ : Value).ownBlock) v1_ r2 ∧ Below w.heap.size w w' := by
 have hu25 := Try.underlying25
 have HR0_0 := ak hr0_0
 have HC0_0 := ak hc0_0
 clear hr0_0 hc0_0
 have HR0_1 := ak hr0_1
 have HC0_1 := ak hc0_1
 clear hr0_1 hc0_1
 have HB := ak (Below.refl w.heap.size w)
 have H : ((slices_Clone_int_int.f l0_0).bind fun t290 => (impl_copyAlgebra.l0 k l0_1 (l0_1.length : Int) 0 t290 ([] : List (List Int)))) = some (r1, r2) := h
 clear h
 replace H := bi H
 obtain ⟨t290, A20, H⟩ := H
 try dsimp only at H
 have A2 := ak A20
 clear A20
 have H' := ak H
 clear H
 go_enter Try.func101, Try.ntmps101
 go_wp2_with (first | ((with_reducible refine gate_dst (N := 1) rfl ?_); refine box_event ?hg (N := 1) ?hd (cs := #[.slice A0_0 l0_0.length c0_0, .slice A0_1 l0_1.length c0_1]) (t := 25) ?hr ?_; (case hd => rfl); (case hg => rfl); (case hr => first | (go_simp; done) | (go_simp; rfl)); intro gb288 hg w3 hbox hb; have BK288 := ak (hbox); have GW288 := ak ((by rw [hg]; exact (below_size (bB HB.out)) : w.heap.size ≤ gb288)); have GE288 := ak ((by rw [hg]; exact (below_size (bB HB.out)) : w.heap.size ≤ gb288)); replace HB := ak (below_step (bB HB.out) hb); clear hb hbox hg) | ((with_reducible refine gate_dst (N := 2) rfl ?_); refine box_event ?hg (N := 2) ?hd (cs := #[.slice none 0 0, .slice none 0 0]) (t := 25) ?hr ?_; (case hd => rfl); (case hg => rfl); (case hr => first | (go_simp; done) | (go_simp; rfl)); intro gb289 hg w4 hbox hb; have BK289 := ak (hbox); have GW289 := ak ((by rw [hg]; exact (below_size (bB HB.out)) : w.heap.size ≤ gb289)); have GE289 := ak ((by rw [hg]; exact (below_size (bB HB.out)) : w.heap.size ≤ gb289)); replace HB := ak (below_step (bB HB.out) hb); have NB288_289 := ak ((ne_box hg (kK BK288.out))); have NB289_288 := ak ((ne_box' hg (kK BK288.out))); replace BK288 := ak (blk_below (kK BK288.out) hb); clear hb hbox hg; have hnb5 := NB288_289.out; have hnc5 := NB289_288.out; have hcz6_0 : w4.cell? ⟨gb288, 0, none⟩ = some (.slice A0_0 l0_0.length c0_0) := (blk_cell BK288.out 0).trans rfl; have hcz6_1 : w4.cell? ⟨gb288, 1, none⟩ = some (.slice A0_1 l0_1.length c0_1) := (blk_cell BK288.out 1).trans rfl; have hfz6_0 := blk_frozen BK288.out 0; have hfz6_1 := blk_frozen BK288.out 1) | ((with_reducible refine gate_callee (f := 90) rfl ?_); refine goesL_ (some 8) rfl rfl Try.func90 (by kernel_rfl) rfl #[.slice A0_0 l0_0.length c0_0] rfl (by (try simp only [List.map_toArray, List.map_cons, List.map_nil]); first | done | rfl | (simp only [List.length_drop, List.length_take]; rfl)) ?_; (with_reducible refine (slices_Clone_int_int.calls _ _ l0_0 t290 _ ?side1 ?side2 A2.out).mono ?_); (case side1 => exact kC (Kd.C_below HR0_0.out HB.out)); (case side2 => exact HC0_0.out); rintro e w7 ⟨v291, rfl, ho0, hb⟩; refine ⟨_, rfl, ?_⟩; have HO292 := ak (Kd.R_lower ho0 (below_size (bB HB.out))); replace BK288 := ak (blk_below (kK BK288.out) hb); replace BK289 := ak (blk_below (kK BK289.out) hb); replace HB := ak (below_step (bB HB.out) hb); (try clear hb); (try clear hb2); (try clear hk); (try clear hi); (try clear ho0); obtain ⟨Ao8, co8, eo8⟩ := Kd.R_slice HO292.out; subst eo8) | ((with_reducible refine gate_dst (N := 3) rfl ?_); refine box_event ?hg (N := 3) ?hd (cs := #[.slice none 0 0, .slice none 0 0]) (t := 25) ?hr ?_; (case hd => rfl); (case hg => rfl); (case hr => first | (go_simp; done) | (go_simp; rfl)); intro gb293 hg w9 hbox hb; replace HO292 := ak (Kd.R_below (kR HO292.out) hb); have BK293 := ak (hbox); have GW293 := ak ((by rw [hg]; exact (below_size (bB HB.out)) : w.heap.size ≤ gb293)); have GE293 := ak ((by rw [hg]; exact (below_size (bB HB.out)) : w.heap.size ≤ gb293)); replace HB := ak (below_step (bB HB.out) hb); have NB288_293 := ak ((ne_box hg (kK BK288.out))); have NB293_288 := ak ((ne_box' hg (kK BK288.out))); replace BK288 := ak (blk_below (kK BK288.out) hb); have NB289_293 := ak ((ne_box hg (kK BK289.out))); have NB293_289 := ak ((ne_box' hg (kK BK289.out))); replace BK289 := ak (blk_below (kK BK289.out) hb); clear hb hbox hg; have hnb10 := NB293_288.out; have hnc10 := NB288_293.out; have hnb11 := NB293_289.out; have hnc11 := NB289_293.out; have hcz12_0 : w9.cell? ⟨gb293, 0, none⟩ = some (.slice none 0 0) := (blk_cell BK293.out 0).trans rfl; have hcz12_1 : w9.cell? ⟨gb293, 1, none⟩ = some (.slice none 0 0) := (blk_cell BK293.out 1).trans rfl; have hfz12_0 := blk_frozen BK293.out 0; have hfz12_1 := blk_frozen BK293.out 1; have hcz13_0 : w9.cell? ⟨gb288, 0, none⟩ = some (.slice A0_0 l0_0.length c0_0) := (blk_cell BK288.out 0).trans rfl; have hcz13_1 : w9.cell? ⟨gb288, 1, none⟩ = some (.slice A0_1 l0_1.length c0_1) := (blk_cell BK288.out 1).trans rfl; have hfz13_0 := blk_frozen BK288.out 0; have hfz13_1 := blk_frozen BK288.out 1))
 go_loopg [13] k (fun kq v13 w' => ∃ (x13_1 : Int) (x294001_1 : List (List Int)) (u294001 : Value), v13 = .int .i64 x13_1 ∧ Aside0 (impl_copyAlgebra.l0 kq l0_1 (l0_1.length : Int) x13_1 t290 x294001_1 = some (r1, r2)) ∧ Aside0 (kq ≤ k) ∧ Aside0 (Kd.R (Kd.int .i64) 3 w' w.heap.size (fun _ => True) (.slice Ao8 t290.length co8) t290) ∧ Aside0 (Kd.S (Kd.slice 3 (Kd.int .i64)) 22 w' w.heap.size (fun k_ => some k_ ≠ ((.slice Ao8 t290.length co8) : Value).ownBlock) u294001 x294001_1) ∧ Aside0 (w'.heap[gb288]? = some (.cells #[(.slice A0_0 l0_0.length c0_0), (.slice A0_1 l0_1.length c0_1)] 25 (0, 0))) ∧ Aside0 (w'.heap[gb289]? = some (.cells #[(.slice none 0 0), (.slice none 0 0)] 25 (0, 0))) ∧ Aside0 (w'.heap[gb293]? = some (.cells #[(.slice Ao8 t290.length co8), u294001] 25 (0, 0))) ∧ Aside0 (Below w.heap.size w w'))
 case atStart => exact ⟨(0), (([] : List (List Int))), (.slice none 0 0), (by first | rfl | (simp; done) | (simp [*]; done)), H', ⟨Nat.le_refl _⟩, ⟨by (with_reducible repeat (first | apply Kd.R_alloc | apply Kd.R_drewN | apply Kd.R_drew)); exact Kd.R_mono (Kd.R_far (p := ⟨gb293, 1, none⟩) (Kd.R_far (p := ⟨gb293, 0, none⟩) (Kd.R_types HO292.out BK293.out (by decide)) (fun _ hk => hk.2) (.slice Ao8 t290.length co8)) (fun _ hk => hk.2) (.slice none 0 0)) (fun _ hk => trivial)⟩, ⟨by first | exact Kd.S_nil _ _ _ _ _ | exact Kd.N_nil _ _ _ _ _ | exact Kd.V_nil _ _ _ _ _ | exact Kd.Q_nil _ _ _ _ _ | exact Kd.R_nil _ _ _ _ _⟩, ⟨by (with_reducible repeat (first | refine blk_drewN ?_ _ | refine blk_drew ?_ | refine blk_alloc ?_ _)); refine blk_far ?_ NB288_293.out _; (with_reducible repeat (first | refine blk_drewN ?_ _ | refine blk_drew ?_ | refine blk_alloc ?_ _)); refine blk_far ?_ NB288_293.out _; (with_reducible repeat (first | refine blk_drewN ?_ _ | refine blk_drew ?_ | refine blk_alloc ?_ _)); exact BK288.out⟩, ⟨by (with_reducible repeat (first | refine blk_drewN ?_ _ | refine blk_drew ?_ | refine blk_alloc ?_ _)); refine blk_far ?_ NB289_293.out _; (with_reducible repeat (first | refine blk_drewN ?_ _ | refine blk_drew ?_ | refine blk_alloc ?_ _)); refine blk_far ?_ NB289_293.out _; (with_reducible repeat (first | refine blk_drewN ?_ _ | refine blk_drew ?_ | refine blk_alloc ?_ _)); exact BK289.out⟩, ⟨by (with_reducible repeat (first | refine blk_drewN ?_ _ | refine blk_drew ?_ | refine blk_alloc ?_ _)); refine blk_put (cs := #[.slice Ao8 t290.length co8, .slice none 0 0]) ?_ 1 _ rfl; (with_reducible repeat (first | refine blk_drewN ?_ _ | refine blk_drew ?_ | refine blk_alloc ?_ _)); refine blk_put (cs := #[.slice none 0 0, .slice none 0 0]) ?_ 0 _ rfl; (with_reducible repeat (first | refine blk_drewN ?_ _ | refine blk_drew ?_ | refine blk_alloc ?_ _)); exact BK293.out⟩, ⟨by repeat (first | (with_reducible first | exact HB.out | apply below_alloc | apply pw_below_drewN | apply below_drew1 | refine below_set ?_ GE288.out | refine below_set ?_ GE289.out | refine below_set ?_ GE293.out) | exact HB.out)⟩⟩
 case round =>
  clear H'
  try clear c1
  try clear p2
  try clear c5
  try clear c9
  try clear c10
  try clear c11
  try clear hcz12_0
  try clear hcz12_1
  try clear hcz13_0
  try clear hcz13_1
  try clear hcz6_0
  try clear hcz6_1
  try clear hfz12_0
  try clear hfz12_1
  try clear hfz13_0
  try clear hfz13_1
  try clear hfz6_0
  try clear hfz6_1
  obtain ⟨x13_1, x294001_1, u294001, rfl, HA, HK1, HO_294000, HO_294001, BK288, BK289, BK293, HB⟩ := hrel
  cases gk with
  | zero => exact absurd HA.out (by simp [impl_copyAlgebra.l0])
  | succ k1 =>
   have H := HA.out
   clear HA
   simp only [impl_copyAlgebra.l0] at H
   by_cases c14 : x13_1 < (l0_1.length : Int)
   rotate_left
   ·rw [if_neg c14] at H
    have c14b0 : decide (x13_1 < (l0_1.length : Int)) = false := decide_eq_false c14
    clear c14
    simp only [Option.some.injEq, Prod.mk.injEq] at H
    obtain ⟨rfl, rfl⟩ := H
    have hnb25 := NB293_288.out
    have hnc25 := NB288_293.out
    have hnb26 := NB293_289.out
    have hnc26 := NB289_293.out
    have hcz27_0 : wr.cell? ⟨gb293, 0, none⟩ = some (.slice Ao8 t290.length co8) := (blk_cell BK293.out 0).trans rfl
    have hcz27_1 : wr.cell? ⟨gb293, 1, none⟩ = some (u294001) := (blk_cell BK293.out 1).trans rfl
    have hfz27_0 := blk_frozen BK293.out 0
    have hfz27_1 := blk_frozen BK293.out 1
    have hnb28 := NB289_288.out
    have hnc28 := NB288_289.out
    have hcz29_0 : wr.cell? ⟨gb289, 0, none⟩ = some (.slice none 0 0) := (blk_cell BK289.out 0).trans rfl
    have hcz29_1 : wr.cell? ⟨gb289, 1, none⟩ = some (.slice none 0 0) := (blk_cell BK289.out 1).trans rfl
    have hfz29_0 := blk_frozen BK289.out 0
    have hfz29_1 := blk_frozen BK289.out 1
    obtain ⟨Ao30, co30, eo30⟩ := Kd.S_slice HO_294001.out
    subst eo30
    go_wp2
    refine bodyPost_ret (results_cell_row rfl _ _ gb289 25 #[.slice Ao8 t290.length co8, .slice Ao30 x294001_1.length co30] (0, 0) _ rfl (by (with_reducible repeat (first | refine blk_drewN ?_ _ | refine blk_drew ?_ | refine blk_alloc ?_ _)); refine blk_put (cs := #[.slice Ao8 t290.length co8, .slice none 0 0]) ?_ 1 _ rfl; (with_reducible repeat (first | refine blk_drewN ?_ _ | refine blk_drew ?_ | refine blk_alloc ?_ _)); refine blk_put (cs := #[.slice none 0 0, .slice none 0 0]) ?_ 0 _ rfl; (with_reducible repeat (first | refine blk_drewN ?_ _ | refine blk_drew ?_ | refine blk_alloc ?_ _)); exact BK289.out) Try.underlying25 rfl (by kernel_rfl)) rfl ?_
    exact ⟨_, _, by first | rfl | (simp [errW_none, errW_some] <;> rfl) | (simp [*, errW_none, errW_some] <;> rfl), by (with_reducible repeat (first | apply Kd.R_alloc | apply Kd.R_drewN | apply Kd.R_drew)); exact Kd.R_mono (Kd.R_far (p := ⟨gb289, 1, none⟩) (Kd.R_far (p := ⟨gb289, 0, none⟩) (Kd.R_types HO_294000.out BK289.out (by decide)) (fun _ hk => hk.2) (.slice Ao8 t290.length co8)) (fun _ hk => hk.2) (.slice Ao30 x294001_1.length co30)) (fun _ hk => trivial), by (with_reducible repeat (first | apply Kd.S_alloc | apply Kd.S_drewN | apply Kd.S_drew)); exact Kd.S_mono (Kd.S_far (p := ⟨gb289, 1, none⟩) (Kd.S_far (p := ⟨gb289, 0, none⟩) (Kd.S_types HO_294001.out BK289.out (by decide)) (fun _ hk => hk.2) (.slice Ao8 t290.length co8)) (fun _ hk => hk.2) (.slice Ao30 x294001_1.length co30)) (fun _ hk => hk.1), by repeat (first | (with_reducible first | exact HB.out | apply below_alloc | apply pw_below_drewN | apply below_drew1 | refine below_set ?_ GE288.out | refine below_set ?_ GE289.out | refine below_set ?_ GE293.out) | exact HB.out)⟩
   rw [if_pos c14] at H
   have c14b0 : decide (x13_1 < (l0_1.length : Int)) = true := decide_eq_true c14
   clear c14
   replace H := oi H
   obtain ⟨c15, H⟩ := H
   have c15b0 : decide (0 ≤ x13_1) = true := decide_eq_true c15
   clear c15
   replace H := oi H
   obtain ⟨c16, H⟩ := H
   have c16b0 : decide (x13_1 < (l0_1.length : Int)) = true := decide_eq_true c16
   clear c16
   replace H := bi H
   obtain ⟨t295, A170, H⟩ := H
   try dsimp only at H
   have A17 := ak A170
   clear A170
   replace H := oi H
   obtain ⟨c18, H⟩ := H
   have LMc18 := ak c18
   clear c18
   obtain ⟨y298, hy298⟩ : ∃ y_ : List (List Int), y_ = (x294001_1 ++ [t295]) := ⟨_, rfl⟩
   replace H : (impl_copyAlgebra.l0 k1 l0_1 (l0_1.length : Int) (wrap64 (x13_1 + 1)) t290 y298) = some (r1, r2) := by first | (rw [hy298]; with_reducible exact H) | (have H2_ := (Option.bind_some _ _).symm.trans H; rw [hy298]; with_reducible exact H2_) | (have H2_ := (Option.bind_some _ _).symm.trans H; with_reducible exact H2_) | with_reducible exact H | (rw [hy298]; exact H) | exact H
   have Ny298 := ak hy298
   clear hy298
   have H' := ak H
   clear H
   have p294 : 0 ≤ (x13_1 : Int) := of_decide_eq_true (by first | (with_reducible assumption) | assumption)
   have q294 : x13_1 < (l0_1.length : Int) := of_decide_eq_true (by first | (with_reducible assumption) | assumption)
   obtain ⟨ad294, A294_0, c294_0, e294, hx294_0, hl294_0, hi294_0⟩ := at_L1 HR0_1.out x13_1 p294 q294
   cases e294
   replace hx294_0 := (HB.out.cell (World.block_lt_of_cell? w _ hx294_0)).trans hx294_0
   have HR294_0 := ak hi294_0
   have HC294_0 := ak hl294_0
   clear hi294_0 hl294_0
   replace p294 := eq_true p294
   replace q294 := eq_true q294
   try go_wp2
   replace HO_294000 := ak (Kd.R_drew HO_294000.out)
   replace HO_294001 := ak (Kd.S_drew HO_294001.out)
   replace BK288 := ak (blk_drew BK288.out)
   replace BK289 := ak (blk_drew BK289.out)
   replace BK293 := ak (blk_drew BK293.out)
   replace HB := ak (below_drew1 HB.out)
   refine start_ (n := 8) (S := fun w' => w'.cell? ⟨gb293, 0, none⟩ = some (.slice Ao8 t290.length co8) ∧ w'.cell? ⟨gb293, 1, none⟩ = some (u294001)) (ds := [7]) #[false, false, false, false, false, false, false, false] (by kernel_rfl) rfl rfl ⟨(blk_cell BK293.out 0).trans rfl, (blk_cell BK293.out 1).trans rfl⟩ (fun hHeld => ?_); refine with_tabW impl_copyAlgebra.tab5 impl_copyAlgebra.bits5 (fun HT_ HW_ => ?_)
   generalize wr.drew = w19 at HO_294000 HO_294001 BK288 BK289 BK293 HB hHeld ⊢
   refine pure_ (i := 0) (N := some 17) (v := ?_) (a' := ?_) #[true, false, false, false, false, false, false, false] rfl rfl (any_of HT_.out (by kernel_rfl)) (fun _ _ _ h => h) (Or.inl ⟨by rfl, ?_⟩) ?_ ?_
   rotate_left
   ·intro w'
    go_simp
    with_reducible rfl
   rotate_left
   ·simp only [Act.put, List.setIfInBounds_toArray, List.set_cons_zero, List.set_cons_succ, i64_w, i32_w]
    rfl
   refine pure_ (i := 2) (N := some 19) (v := ?_) (a' := ?_) #[true, false, true, false, false, false, false, false] rfl rfl (any_of HT_.out (by kernel_rfl)) (fun _ _ _ h => h) (Or.inl ⟨by rfl, ?_⟩) ?_ ?_
   rotate_left
   ·intro w'
    go_simp
    with_reducible rfl
   rotate_left
   ·simp only [Act.put, List.setIfInBounds_toArray, List.set_cons_zero, List.set_cons_succ, i64_w, i32_w]
    rfl
   refine take_ (i := 1) (N := some 18) (v := ?_) (a' := ?_) #[true, true, true, false, false, false, false, false] rfl rfl (take_ofW HT_.out HW_.out (by kernel_rfl)) (fun _ _ _ h => h) (Or.inl ⟨by rfl, ?_⟩) hHeld ?_ ?_
   rotate_left
   ·rintro w' ⟨s0, s1⟩
    go_simp
    with_reducible rfl
   rotate_left
   ·simp only [Act.put, List.setIfInBounds_toArray, List.set_cons_zero, List.set_cons_succ, i64_w, i32_w]
    rfl
   refine one_ (i := 3) (N := some 20) #[true, true, true, true, false, false, false, false] rfl rfl (one_of HT_.out (by kernel_rfl)) (by decide) (fun K hK => ?_)
   refine goes_ Try.func90 (by kernel_rfl) rfl #[.slice A294_0 (rd_L1 l0_1 x13_1).length c294_0] (by rfl) rfl rfl (by (try simp only [List.map_toArray, List.map_cons, List.map_nil]); first | done | rfl | (simp only [List.length_drop, List.length_take]; rfl)) ?_
   with_reducible refine (slices_Clone_int_int.calls _ _ (rd_L1 l0_1 x13_1) t295 _ ?side1 ?side2 A17.out).mono ?_
   (case side1 => exact kC (Kd.C_below HR294_0.out HB.out))
   (case side2 => exact HC294_0.out)
   rintro e w20 ⟨v296, rfl, ho0, hb⟩
   refine ⟨_, rfl, ?_⟩
   replace HO_294001 := ak (Kd.S_elder' (kS HO_294001.out) (Kd.R_base ho0) hb)
   have HO297 := ak (Kd.R_lower (Kd.R_new' ho0 (Kd.R_lt (kR HO_294000.out))) (below_size (bB HB.out)))
   replace HO_294000 := ak (Kd.R_elder' (kR HO_294000.out) (Kd.R_base ho0) hb)
   replace BK288 := ak (blk_below (kK BK288.out) hb)
   replace BK289 := ak (blk_below (kK BK289.out) hb)
   replace BK293 := ak (blk_below (kK BK293.out) hb)
   replace HB := ak (below_step (bB HB.out) hb)
   (try clear hb)
   (try clear hb2)
   (try clear hk)
   (try clear hi)
   (try clear ho0)
   obtain ⟨Ao22, co22, eo22⟩ := Kd.R_slice HO297.out
   (first | subst eo22 | (injection eo22 with f1_ f2_ f3_; have f4_ := f1_.symm; have f5_ := f3_.symm; clear f1_ f2_ f3_; subst f4_; subst f5_))
   refine hK.out _ _ ⟨(blk_cell BK293.out 0).trans rfl, (blk_cell BK293.out 1).trans rfl⟩ (fun hHeld => ?_)
   clear hK K
   refine norm_ (a' := ?_) ?_ ?_
   rotate_left
   ·show Act.put _ (some 20) _ = _
    simp only [Act.put, List.setIfInBounds_toArray, List.set_cons_zero, List.set_cons_succ, i64_w, i32_w]
    rfl
   refine one_ (i := 4) (N := some 21) #[true, true, true, true, true, false, false, false] rfl rfl (one_of HT_.out (by kernel_rfl)) (by decide) (fun K hK => ?_)
   refine value_ (w1 := ?_) (v := ?_) (by rfl) rfl ?_ ?_
   rotate_left 2
   ·go_simp
    constructor
    ·rfl
    ·rfl
   refine hK.out _ _ ⟨(blk_cell (blk_alloc BK293.out _) 0).trans rfl, (blk_cell (blk_alloc BK293.out _) 1).trans rfl⟩ (fun hHeld => ?_)
   clear hK K
   refine norm_ (a' := ?_) ?_ ?_
   rotate_left
   ·show Act.put _ (some 21) _ = _
    simp only [Act.put, List.setIfInBounds_toArray, List.set_cons_zero, List.set_cons_succ, i64_w, i32_w]
    rfl
   refine one_ (i := 5) (N := some 22) #[true, true, true, true, true, true, false, false] rfl rfl (one_of HT_.out (by kernel_rfl)) (by decide) (fun K hK => ?_)
   refine Kd.S_append_step (Kd.slice 3 (Kd.int .i64)) (w0 := w) w.heap.size (by rfl) (.tmp 18) (.tmp 21) 23 22 (.slice none 0 0) 24 rfl Try.underlying23 info22 rfl (by decide) (by omega) u294001 x294001_1 t295 [.slice Ao22 t295.length co22] (fun k_ => some k_ ≠ (.slice Ao8 t290.length co8 : Value).ownBlock) (fun k_ => some k_ = (.slice Ao22 t295.length co22 : Value).ownBlock) rfl rfl ?aP (fun k_ hk_ => ((Kd.R_mono (ok' := fun k_ => ((fun k_ => some k_ ≠ (.slice Ao8 t290.length co8 : Value).ownBlock)) k_ ∧ some k_ ≠ (u294001 : Value).ownBlock) (Kd.R_apart' (HO297.out) (Kd.S_typed HO_294001.out) (by decide)) (fun k_ hk => ⟨hk.1.2, hk.2⟩))).1 k_ hk_.symm) ?aF ?aO ?aB ?aS ?aL ?_
   (case aP => exact Kd.M_row (Kd.R_mono (Kd.R_tight rfl (Kd.R_mono (ok' := fun k_ => ((fun k_ => some k_ ≠ (.slice Ao8 t290.length co8 : Value).ownBlock)) k_ ∧ some k_ ≠ (u294001 : Value).ownBlock) (Kd.R_apart' (HO297.out) (Kd.S_typed HO_294001.out) (by decide)) (fun k_ hk => ⟨hk.1.2, hk.2⟩))) (fun _ h_ => h_)))
   (case aB => exact (bB HB.out))
   (case aF => exact (fun k_ hk => Kd.fresh' (Kd.R_lt (kR HO_294000.out)) k_ hk))
   (case aO => exact (kS (Kd.S_mono HO_294001.out (fun k_ hk => ⟨hk.1, fun e_ => hk.2 e_⟩))))
   (case aS => exact (below_size (bB HB.out)))
   (case aL => have := LMc18.out; omega)
   intro v299 w21 ho hb hg hat
   rw [← Ny298.out] at ho
   replace HO_294000 := ak (Kd.R_over' (kR HO_294000.out) (Kd.S_typed (kS HO_294001.out)) (by decide) hg)
   replace BK288 := ak (blk_grown (g := gb288) (o := .cells #[.slice A0_0 l0_0.length c0_0, .slice (some ad294) l0_1.length c0_1] 25 (0, 0)) (kK BK288.out) hg (Kd.S_ne HO_294001.out BK288.out (by decide)))
   replace BK289 := ak (blk_grown (g := gb289) (o := .cells #[.slice none 0 0, .slice none 0 0] 25 (0, 0)) (kK BK289.out) hg (Kd.S_ne HO_294001.out BK289.out (by decide)))
   replace BK293 := ak (blk_grown (g := gb293) (o := .cells #[.slice Ao8 t290.length co8, u294001] 25 (0, 0)) (kK BK293.out) hg (Kd.S_ne HO_294001.out BK293.out (by decide)))
   replace HB := ak (hb)
   have HO300 := ak (ho)
   clear HO_294001 HO297
   clear ho hb hg hat
   obtain ⟨Ao23, co23, eo23⟩ := Kd.S_slice HO300.out
   (first | subst eo23 | (injection eo23 with f1_ f2_ f3_; have f4_ := f1_.symm; have f5_ := f3_.symm; clear f1_ f2_ f3_; subst f4_; subst f5_))
   refine hK.out _ _ ⟨(blk_cell BK293.out 0).trans rfl, (blk_cell BK293.out 1).trans rfl⟩ (fun hHeld => ?_)
   clear hK K
   refine norm_ (a' := ?_) ?_ ?_
   rotate_left
   ·show Act.put _ (some 22) _ = _
    simp only [Act.put, List.setIfInBounds_toArray, List.set_cons_zero, List.set_cons_succ, i64_w, i32_w]
    rfl
   refine pure_ (i := 6) (N := some 23) (v := ?_) (a' := ?_) #[true, true, true, true, true, true, true, false] rfl rfl (any_of HT_.out (by kernel_rfl)) (fun _ _ _ h => h) (Or.inl ⟨by rfl, ?_⟩) ?_ ?_
   rotate_left
   ·intro w'
    go_simp
    with_reducible rfl
   rotate_left
   ·simp only [Act.put, List.setIfInBounds_toArray, List.set_cons_zero, List.set_cons_succ, i64_w, i32_w]
    rfl
   refine last_ (i := 7) (N := none) #[true, true, true, true, true, true, true, true] rfl rfl (one_of HT_.out (by kernel_rfl)) (by decide) (fun K hK => ?_)
   have hs24 : w21.cell? ⟨gb293, 1, none⟩ = some (u294001) := (blk_cell BK293.out 1).trans rfl
   have hfs24 := blk_frozen BK293.out 1
   have hns24_0 := NB288_293.out
   have hns24_1 := NB289_293.out
   have hms24_0 := NB293_288.out
   have hms24_1 := NB293_289.out
   refine skip_ (w1 := ?_) (by rfl) rfl ?_ ?_
   rotate_left
   ·go_simp
    rfl
   refine hK.out _ _ ?_
   clear hK K
   refine done_ (done_of HT_.out (by kernel_rfl)) ?_
   try go_wp2
   go_roundg k1
   case measure => have := HK1.out; omega
   case rel => exact ⟨(wrap64 (x13_1 + 1)), (y298), (.slice Ao23 y298.length co23), (by first | rfl | (simp; done) | (simp [*]; done)), H', ⟨by have := HK1.out; omega⟩, ⟨by (with_reducible repeat (first | apply Kd.R_alloc | apply Kd.R_drewN | apply Kd.R_drew)); exact Kd.R_mono (Kd.R_far (p := ⟨gb293, 1, none⟩) (Kd.R_types HO_294000.out BK293.out (by decide)) (fun _ hk => hk.2) (.slice Ao23 y298.length co23)) (fun _ hk => trivial)⟩, ⟨by (with_reducible repeat (first | apply Kd.S_alloc | apply Kd.S_drewN | apply Kd.S_drew)); exact Kd.S_mono (Kd.S_far (p := ⟨gb293, 1, none⟩) (Kd.S_types HO300.out BK293.out (by decide)) (fun _ hk => hk.2) (.slice Ao23 y298.length co23)) (fun _ hk => hk.1)⟩, ⟨by (with_reducible repeat (first | refine blk_drewN ?_ _ | refine blk_drew ?_ | refine blk_alloc ?_ _)); refine blk_far ?_ NB288_293.out _; (with_reducible repeat (first | refine blk_drewN ?_ _ | refine blk_drew ?_ | refine blk_alloc ?_ _)); exact BK288.out⟩, ⟨by (with_reducible repeat (first | refine blk_drewN ?_ _ | refine blk_drew ?_ | refine blk_alloc ?_ _)); refine blk_far ?_ NB289_293.out _; (with_reducible repeat (first | refine blk_drewN ?_ _ | refine blk_drew ?_ | refine blk_alloc ?_ _)); exact BK289.out⟩, ⟨by (with_reducible repeat (first | refine blk_drewN ?_ _ | refine blk_drew ?_ | refine blk_alloc ?_ _)); refine blk_put (cs := #[.slice Ao8 t290.length co8, u294001]) ?_ 1 _ rfl; (with_reducible repeat (first | refine blk_drewN ?_ _ | refine blk_drew ?_ | refine blk_alloc ?_ _)); exact BK293.out⟩, ⟨by repeat (first | (with_reducible first | exact HB.out | apply below_alloc | apply pw_below_drewN | apply below_drew1 | refine below_set ?_ GE288.out | refine below_set ?_ GE289.out | refine below_set ?_ GE293.out) | exact HB.out)⟩⟩
end Go.Proofs.Ytjidbgmkhapklaa.P

-- shrunk
