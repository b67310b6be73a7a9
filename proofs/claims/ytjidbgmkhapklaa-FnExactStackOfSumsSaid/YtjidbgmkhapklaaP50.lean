-- Printed by this session's wip/print2.py (the kit's print.py, widened) out of the translation. Lean checks it.
import Derived.Test.YtjidbgmkhapklaaP0
import Derived.Test.YtjidbgmkhapklaaP29
import Derived.Test.YtjidbgmkhapklaaP43
namespace Go.Proofs.Ytjidbgmkhapklaa.P
open Go.RowKit Go.Proofs.YtjidbgmkhapklaaW.PrintWords Go.Proofs.YtjidbgmkhapklaaW.PrintLast Go.Proofs.YtjidbgmkhapklaaW.PrintMore
attribute [local go_sem] max2_int min2_int max_two min_two max_three min_three max_four min_four   -- for this text's walks alone
set_option linter.unusedVariables false
set_option linter.unusedSimpArgs false

/-! ### spec_stackOf: function 78 -/
def spec_stackOf.l0 : Nat → List Int → Int → List Int → List (List Int) → Option (List Int × (List (List Int)))
 | 0, _, _, _, _ => none
 | k + 1, x0, x4, x792000, x792001 => if x4 ≥ 0 then (if 0 ≤ x4 then (if x4 < (x0.length : Int) then ((spec_sumChain.f k (wrap64 ((rd x0 x4) + 1))).bind fun bt793 => ((spec_stack.f k bt793.1 bt793.2 x792000 x792001).bind fun bt799 => (spec_stackOf.l0 k x0 (wrap64 (x4 - 1)) bt799.1 bt799.2))) else (none)) else (none)) else (some (x792000, x792001))
def spec_stackOf.f (k : Nat) (l0 : List Int) : Option (List Int × (List (List Int))) := (spec_sumChain.f k 1).bind fun bt785 => (spec_stackOf.l0 k l0 (wrap64 ((l0.length : Int) - 1)) bt785.1 bt785.2)
theorem spec_stackOf.mono_l : ∀ k, (∀ y0 y1 y2 y3, LeO (spec_stackOf.l0 k y0 y1 y2 y3) (spec_stackOf.l0 (k + 1) y0 y1 y2 y3))
 | 0 => fun _ _ _ _ r h => by simp [spec_stackOf.l0] at h
 | k + 1 => by
  have ih0 := spec_stackOf.mono_l k
  ·intro y0 y1 y2 y3
   unfold spec_stackOf.l0
   repeat' first
   | (with_reducible exact ih0 _ _ _ _)
   | (with_reducible exact spec_stack.mono _ _ _ _ _)
   | (with_reducible exact spec_sumChain.mono _ _)
   | (with_reducible exact LeO.refl _)
   | (with_reducible exact LeO.none _)
   | (with_reducible refine LeO.ite ?_ ?_)
   | (with_reducible refine LeO.bind ?_ (fun _ => ?_))
   | exact ih0 _ _ _ _
   | exact spec_stack.mono _ _ _ _ _
   | exact spec_sumChain.mono _ _
   | exact LeO.none _
   | refine LeO.ite ?_ ?_
   | refine LeO.bind ?_ (fun _ => ?_)
theorem spec_stackOf.mono : ∀ a0 k, LeO (spec_stackOf.f k a0) (spec_stackOf.f (k + 1) a0) := by
 intro a0 k
 have ih0 := spec_stackOf.mono_l k
 unfold spec_stackOf.f
 repeat' first
   | (with_reducible exact ih0 _ _ _ _)
   | (with_reducible exact spec_stack.mono _ _ _ _ _)
   | (with_reducible exact spec_sumChain.mono _ _)
   | (with_reducible exact LeO.refl _)
   | (with_reducible exact LeO.none _)
   | (with_reducible refine LeO.ite ?_ ?_)
   | (with_reducible refine LeO.bind ?_ (fun _ => ?_))
   | exact ih0 _ _ _ _
   | exact spec_stack.mono _ _ _ _ _
   | exact spec_sumChain.mono _ _
   | exact LeO.none _
   | refine LeO.ite ?_ ?_
   | refine LeO.bind ?_ (fun _ => ?_)
def spec_stackOf.T5 : Bool × List (List Nat × List Nat) := (true, [([], []), ([], []), ([0, 1], [0, 1]), ([2], [2]), ([3], [3]), ([4], [4]), ([], []), ([5, 6, 5], [5, 6]), ([7, 7, 0, 1, 2, 3, 4, 5, 6, 7], [7])])
def spec_stackOf.B5 : List Nat := [0, 0, 3, 7, 15, 31, 0, 127, 255]
theorem spec_stackOf.tab5 : rtab .any (opsOf Try.f78 5) = spec_stackOf.T5 := by kernel_rfl
theorem spec_stackOf.bits5 : waitsOk spec_stackOf.T5.2 spec_stackOf.B5 = true := by kernel_rfl
set_option maxHeartbeats 8000000 in
set_option maxRecDepth 100000 in
theorem spec_stackOf.calls (k : Nat) (A0 : Option Addr) (c0 : Nat) (l0 : List Int) (r1 : List Int) (r2 : List (List Int)) (w : World) (hr0 : Kd.C (Kd.int .i64) w A0 l0.length l0) (hc0 : l0.length ≤ c0) (h : spec_stackOf.f k l0 = some (r1, r2)) :
  Calls Try.prog 78 #[.slice A0 l0.length c0] w fun e w' => ∃ v0_ v1_ : Value, e = .returned (.agg #[v0_, v1_]) ∧ Kd.R (Kd.int .i64) 3 w' w.heap.size (fun _ => True) v0_ r1 ∧ Kd.S (Kd.slice 3 (Kd.int .i64)) 22 w' w.heap.size (fun k_ => some k_ ≠ (v0_ : Value).ownBlock) v1_ r2 ∧ Below w.heap.size w w' := by
 have hu25 := Try.underlying25
 have HR0 := Aside0.mk hr0
 have HC0 := Aside0.mk hc0
 clear hr0 hc0
 have HB := Aside0.mk (Below.refl w.heap.size w)
 have H : ((spec_sumChain.f k 1).bind fun bt785 => (spec_stackOf.l0 k l0 (wrap64 ((l0.length : Int) - 1)) bt785.1 bt785.2)) = some (r1, r2) := h
 clear h
 replace H := Option.bind_eq_some_iff.mp H
 obtain ⟨⟨t785, t788⟩, A20, H⟩ := H
 replace H : (spec_stackOf.l0 k l0 (wrap64 ((l0.length : Int) - 1)) t785 t788) = some (r1, r2) := H
 have A2 := Aside0.mk A20
 clear A20
 have H' := Aside0.mk H
 clear H
 go_enter Try.func78, Try.ntmps78
 go_wp2_with (first | ((with_reducible refine gate_dst (N := 2) rfl ?_); refine box_event ?hg (N := 2) ?hd (cs := #[.slice none 0 0, .slice none 0 0]) (t := 25) ?hr ?_; (case hd => rfl); (case hg => rfl); (case hr => first | (go_simp; done) | (go_simp; rfl)); intro gb784 hg w3 hbox hb; have n0_ := Aside0.mk (below_step (by repeat (first | (with_reducible first | exact HB.out | apply below_alloc | apply pw_below_drewN | apply below_drew1) | exact HB.out)) hb); have n1_ := Aside0.mk (hbox); have n2_ := Aside0.mk ((by rw [hg]; exact (below_size (by repeat (first | (with_reducible first | exact HB.out | apply below_alloc | apply pw_below_drewN | apply below_drew1) | exact HB.out))) : w.heap.size ≤ gb784)); have n3_ := Aside0.mk ((by rw [hg]; exact (below_size (by repeat (first | (with_reducible first | exact HB.out | apply below_alloc | apply pw_below_drewN | apply below_drew1) | exact HB.out))) : w.heap.size ≤ gb784)); clear HB; have HB := n0_; have BK784 := n1_; have GW784 := n2_; have GE784 := n3_; clear n0_ n1_ n2_ n3_; clear hb hbox hg) | ((with_reducible refine gate_callee (f := 65) rfl ?_); refine goesL_ (some 5) rfl rfl Try.func65 (by kernel_rfl) rfl #[.int .i64 1] rfl (by (try simp only [List.map_toArray, List.map_cons, List.map_nil]); first | done | rfl | (simp only [List.length_drop, List.length_take]; rfl)) ?_; (with_reducible refine (spec_sumChain.calls k 1 t785 t788 _ A2.out).mono ?_); rintro e w4 ⟨v786, v789, rfl, ho0, ho1, hb⟩; refine ⟨_, rfl, ?_⟩; have n0_ := Aside0.mk (Kd.R_lower ho0 (below_size (by repeat (first | (with_reducible first | exact HB.out | apply below_alloc | apply pw_below_drewN | apply below_drew1 | refine below_set ?_ GE784.out) | exact HB.out)))); have n1_ := Aside0.mk (Kd.S_lower ho1 (below_size (by repeat (first | (with_reducible first | exact HB.out | apply below_alloc | apply pw_below_drewN | apply below_drew1 | refine below_set ?_ GE784.out) | exact HB.out)))); have n2_ := Aside0.mk (blk_below (g := gb784) (o := .cells #[.slice none 0 0, .slice none 0 0] 25 (0, 0)) (by (with_reducible repeat (first | refine blk_drewN ?_ _ | refine blk_drew ?_ | refine blk_alloc ?_ _)); exact BK784.out) hb); have n3_ := Aside0.mk (below_step (by repeat (first | (with_reducible first | exact HB.out | apply below_alloc | apply pw_below_drewN | apply below_drew1 | refine below_set ?_ GE784.out) | exact HB.out)) hb); clear BK784; clear HB; have HO787 := n0_; have HO790 := n1_; have BK784 := n2_; have HB := n3_; clear n0_ n1_ n2_ n3_; (try clear hb); (try clear hb2); (try clear hk); (try clear hi); (try clear ho0); (try clear ho1)) | ((with_reducible refine gate_dst (N := 3) rfl ?_); refine box_event ?hg (N := 3) ?hd (cs := #[.slice none 0 0, .slice none 0 0]) (t := 25) ?hr ?_; (case hd => rfl); (case hg => rfl); (case hr => first | (go_simp; done) | (go_simp; rfl)); intro gb791 hg w5 hbox hb; have n0_ := Aside0.mk (Kd.R_below (by (with_reducible repeat (first | apply Kd.R_alloc | apply Kd.R_drewN | apply Kd.R_drew)); exact HO787.out) hb); have n1_ := Aside0.mk (Kd.S_below (by (with_reducible repeat (first | apply Kd.S_alloc | apply Kd.S_drewN | apply Kd.S_drew)); exact HO790.out) hb); have n2_ := Aside0.mk (blk_below (g := gb784) (o := .cells #[.slice none 0 0, .slice none 0 0] 25 (0, 0)) (by (with_reducible repeat (first | refine blk_drewN ?_ _ | refine blk_drew ?_ | refine blk_alloc ?_ _)); exact BK784.out) hb); have n3_ := Aside0.mk (below_step (by repeat (first | (with_reducible first | exact HB.out | apply below_alloc | apply pw_below_drewN | apply below_drew1 | refine below_set ?_ GE784.out) | exact HB.out)) hb); have n4_ := Aside0.mk (hbox); have n5_ := Aside0.mk ((by rw [hg]; exact (below_size (by repeat (first | (with_reducible first | exact HB.out | apply below_alloc | apply pw_below_drewN | apply below_drew1 | refine below_set ?_ GE784.out) | exact HB.out))) : w.heap.size ≤ gb791)); have n6_ := Aside0.mk ((by rw [hg]; exact (below_size (by repeat (first | (with_reducible first | exact HB.out | apply below_alloc | apply pw_below_drewN | apply below_drew1 | refine below_set ?_ GE784.out) | exact HB.out))) : w.heap.size ≤ gb791)); have n7_ := Aside0.mk ((by rw [hg]; exact Nat.ne_of_lt (blk_lt (g := gb784) (o := .cells #[.slice none 0 0, .slice none 0 0] 25 (0, 0)) (by (with_reducible repeat (first | refine blk_drewN ?_ _ | refine blk_drew ?_ | refine blk_alloc ?_ _)); exact BK784.out)) : gb784 ≠ gb791)); have n8_ := Aside0.mk ((by rw [hg]; exact Nat.ne_of_gt (blk_lt (g := gb784) (o := .cells #[.slice none 0 0, .slice none 0 0] 25 (0, 0)) (by (with_reducible repeat (first | refine blk_drewN ?_ _ | refine blk_drew ?_ | refine blk_alloc ?_ _)); exact BK784.out)) : gb791 ≠ gb784)); clear HO787; clear HO790; clear BK784; clear HB; have HO787 := n0_; have HO790 := n1_; have BK784 := n2_; have HB := n3_; have BK791 := n4_; have GW791 := n5_; have GE791 := n6_; have NB784_791 := n7_; have NB791_784 := n8_; clear n0_ n1_ n2_ n3_ n4_ n5_ n6_ n7_ n8_; clear hb hbox hg; obtain ⟨Ao6, co6, eo6⟩ := Kd.R_slice HO787.out; subst eo6; have hnb7 := NB791_784.out; have hnc7 := NB784_791.out; have hcz8_0 : w5.cell? ⟨gb791, 0, none⟩ = some (.slice none 0 0) := (blk_cell BK791.out 0).trans rfl; have hcz8_1 : w5.cell? ⟨gb791, 1, none⟩ = some (.slice none 0 0) := (blk_cell BK791.out 1).trans rfl; have hfz8_0 := blk_frozen BK791.out 0; have hfz8_1 := blk_frozen BK791.out 1; obtain ⟨Ao9, co9, eo9⟩ := Kd.S_slice HO790.out; subst eo9))
 go_loopg [4] k (fun kq v4 w' => ∃ (x4_1 : Int) (x792000_1 : List Int) (x792001_1 : List (List Int)) (u792000 : Value) (u792001 : Value), v4 = .int .i64 x4_1 ∧ Aside0 (spec_stackOf.l0 kq l0 x4_1 x792000_1 x792001_1 = some (r1, r2)) ∧ Aside0 (kq ≤ k) ∧ Aside0 (Kd.R (Kd.int .i64) 3 w' w.heap.size (fun _ => True) u792000 x792000_1) ∧ Aside0 (Kd.S (Kd.slice 3 (Kd.int .i64)) 22 w' w.heap.size (fun k_ => some k_ ≠ (u792000 : Value).ownBlock) u792001 x792001_1) ∧ Aside0 (w'.heap[gb784]? = some (.cells #[(.slice none 0 0), (.slice none 0 0)] 25 (0, 0))) ∧ Aside0 (w'.heap[gb791]? = some (.cells #[u792000, u792001] 25 (0, 0))) ∧ Aside0 (Below w.heap.size w w'))
 case atStart => exact ⟨(wrap64 ((l0.length : Int) - 1)), (t785), (t788), (.slice Ao6 t785.length co6), (.slice Ao9 t788.length co9), (by first | rfl | (simp; done) | (simp [*]; done)), H', ⟨Nat.le_refl _⟩, ⟨by (with_reducible repeat (first | apply Kd.R_alloc | apply Kd.R_drewN | apply Kd.R_drew)); exact Kd.R_mono (Kd.R_far (p := ⟨gb791, 1, none⟩) (Kd.R_far (p := ⟨gb791, 0, none⟩) (Kd.R_types HO787.out BK791.out (by decide)) (fun _ hk => hk.2) (.slice Ao6 t785.length co6)) (fun _ hk => hk.2) (.slice Ao9 t788.length co9)) (fun _ hk => trivial)⟩, ⟨by (with_reducible repeat (first | apply Kd.S_alloc | apply Kd.S_drewN | apply Kd.S_drew)); exact Kd.S_mono (Kd.S_far (p := ⟨gb791, 1, none⟩) (Kd.S_far (p := ⟨gb791, 0, none⟩) (Kd.S_types HO790.out BK791.out (by decide)) (fun _ hk => hk.2) (.slice Ao6 t785.length co6)) (fun _ hk => hk.2) (.slice Ao9 t788.length co9)) (fun _ hk => hk.1)⟩, ⟨by (with_reducible repeat (first | refine blk_drewN ?_ _ | refine blk_drew ?_ | refine blk_alloc ?_ _)); refine blk_far ?_ NB784_791.out _; (with_reducible repeat (first | refine blk_drewN ?_ _ | refine blk_drew ?_ | refine blk_alloc ?_ _)); refine blk_far ?_ NB784_791.out _; (with_reducible repeat (first | refine blk_drewN ?_ _ | refine blk_drew ?_ | refine blk_alloc ?_ _)); exact BK784.out⟩, ⟨by (with_reducible repeat (first | refine blk_drewN ?_ _ | refine blk_drew ?_ | refine blk_alloc ?_ _)); refine blk_put (cs := #[.slice Ao6 t785.length co6, .slice none 0 0]) ?_ 1 _ rfl; (with_reducible repeat (first | refine blk_drewN ?_ _ | refine blk_drew ?_ | refine blk_alloc ?_ _)); refine blk_put (cs := #[.slice none 0 0, .slice none 0 0]) ?_ 0 _ rfl; (with_reducible repeat (first | refine blk_drewN ?_ _ | refine blk_drew ?_ | refine blk_alloc ?_ _)); exact BK791.out⟩, ⟨by repeat (first | (with_reducible first | exact HB.out | apply below_alloc | apply pw_below_drewN | apply below_drew1 | refine below_set ?_ GE784.out | refine below_set ?_ GE791.out) | exact HB.out)⟩⟩
 case round =>
  clear H'
  try clear p2
  try clear c6
  try clear p6
  try clear c7
  try clear hcz8_0
  try clear hcz8_1
  try clear hfz8_0
  try clear hfz8_1
  obtain ⟨x4_1, x792000_1, x792001_1, u792000, u792001, rfl, HA, HK1, HO_792000, HO_792001, BK784, BK791, HB⟩ := hrel
  cases gk with
  | zero => exact absurd HA.out (by simp [spec_stackOf.l0])
  | succ k1 =>
   have H := HA.out
   clear HA
   simp only [spec_stackOf.l0] at H
   by_cases c10 : x4_1 ≥ 0
   ·rw [if_pos c10] at H
    have c10b0 : decide (0 ≤ x4_1) = true := decide_eq_true c10
    clear c10
    by_cases c11 : 0 ≤ x4_1
    ·rw [if_pos c11] at H
     have c11b0 : decide (0 ≤ x4_1) = true := decide_eq_true c11
     clear c11
     by_cases c12 : x4_1 < (l0.length : Int)
     ·rw [if_pos c12] at H
      have c12b0 : decide (x4_1 < (l0.length : Int)) = true := decide_eq_true c12
      clear c12
      replace H := Option.bind_eq_some_iff.mp H
      obtain ⟨⟨t793, t796⟩, A130, H⟩ := H
      replace H : ((spec_stack.f k1 t793 t796 x792000_1 x792001_1).bind fun bt799 => (spec_stackOf.l0 k1 l0 (wrap64 (x4_1 - 1)) bt799.1 bt799.2)) = some (r1, r2) := H
      have A13 := Aside0.mk A130
      clear A130
      replace H := Option.bind_eq_some_iff.mp H
      obtain ⟨⟨t799, t802⟩, A140, H⟩ := H
      replace H : (spec_stackOf.l0 k1 l0 (wrap64 (x4_1 - 1)) t799 t802) = some (r1, r2) := H
      have A14 := Aside0.mk A140
      clear A140
      have H' := Aside0.mk H
      clear H
      try go_wp2
      have n0_ := Aside0.mk (Kd.R_drew HO_792000.out)
      have n1_ := Aside0.mk (Kd.S_drew HO_792001.out)
      have n2_ := Aside0.mk (blk_drew BK784.out)
      have n3_ := Aside0.mk (blk_drew BK791.out)
      have n4_ := Aside0.mk (below_drew1 HB.out)
      clear HO_792000
      clear HO_792001
      clear BK784
      clear BK791
      clear HB
      have HO_792000 := n0_
      have HO_792001 := n1_
      have BK784 := n2_
      have BK791 := n3_
      have HB := n4_
      clear n0_ n1_ n2_ n3_ n4_
      have p792 : 0 ≤ (x4_1 : Int) := of_decide_eq_true (by first | (with_reducible assumption) | assumption)
      have q792 : x4_1 < (l0.length : Int) := of_decide_eq_true (by first | (with_reducible assumption) | assumption)
      obtain ⟨ad792, e792, hx792_0⟩ := Kd.at_int HR0.out x4_1 p792 q792
      have hw792_0 := hx792_0
      cases e792
      replace hx792_0 := (HB.out.cell (World.block_lt_of_cell? w _ hx792_0)).trans hx792_0
      replace p792 := eq_true p792
      replace q792 := eq_true q792
      refine start_ (n := 9) (S := fun w' => w'.cell? ⟨gb791, 0, none⟩ = some (u792000) ∧ w'.cell? ⟨gb791, 1, none⟩ = some (u792001) ∧ w'.cell? (ad792.add (x4_1).toNat) = some (.int .i64 (rd l0 x4_1))) (ds := [8]) #[false, false, false, false, false, false, false, false, false] (by kernel_rfl) rfl rfl ⟨(blk_cell BK791.out 0).trans rfl, (blk_cell BK791.out 1).trans rfl, ((HB.out.cell (World.block_lt_of_cell? w _ hw792_0)).trans hw792_0)⟩ (fun hHeld => ?_); refine with_tabW spec_stackOf.tab5 spec_stackOf.bits5 (fun HT_ HW_ => ?_)
      generalize wr.drew = w15 at HO_792000 HO_792001 BK784 BK791 HB hx792_0 hHeld ⊢
      refine pure_ (i := 0) (N := some 13) (v := ?_) (a' := ?_) #[true, false, false, false, false, false, false, false, false] rfl rfl (any_of HT_.out (by kernel_rfl)) (fun _ _ _ h => h) (Or.inl ⟨by rfl, ?_⟩) ?_ ?_
      rotate_left
      ·intro w'
       go_simp
       with_reducible rfl
      rotate_left
      ·simp only [Act.put, List.setIfInBounds_toArray, List.set_cons_zero, List.set_cons_succ, i64_w, i32_w]
       rfl
      refine pure_ (i := 1) (N := some 14) (v := ?_) (a' := ?_) #[true, true, false, false, false, false, false, false, false] rfl rfl (any_of HT_.out (by kernel_rfl)) (fun _ _ _ h => h) (Or.inl ⟨by rfl, ?_⟩) ?_ ?_
      rotate_left
      ·intro w'
       go_simp
       with_reducible rfl
      rotate_left
      ·simp only [Act.put, List.setIfInBounds_toArray, List.set_cons_zero, List.set_cons_succ, i64_w, i32_w]
       rfl
      refine pure_ (i := 2) (N := some 15) (v := ?_) (a' := ?_) #[true, true, true, false, false, false, false, false, false] rfl rfl (any_of HT_.out (by kernel_rfl)) (fun _ _ _ h => h) (Or.inl ⟨by rfl, ?_⟩) ?_ ?_
      rotate_left
      ·intro w'
       go_simp
       with_reducible rfl
      rotate_left
      ·simp only [Act.put, List.setIfInBounds_toArray, List.set_cons_zero, List.set_cons_succ, i64_w, i32_w]
       rfl
      refine take_ (i := 3) (N := some 16) (v := ?_) (a' := ?_) #[true, true, true, true, false, false, false, false, false] rfl rfl (take_ofW HT_.out HW_.out (by kernel_rfl)) (fun _ _ _ h => h) (Or.inl ⟨by rfl, ?_⟩) hHeld ?_ ?_
      rotate_left
      ·rintro w' ⟨s0, s1, s2⟩
       go_simp
       with_reducible rfl
      rotate_left
      ·simp only [Act.put, List.setIfInBounds_toArray, List.set_cons_zero, List.set_cons_succ, i64_w, i32_w]
       rfl
      refine pure_ (i := 4) (N := some 17) (v := ?_) (a' := ?_) #[true, true, true, true, true, false, false, false, false] rfl rfl (any_of HT_.out (by kernel_rfl)) (fun _ _ _ h => h) (Or.inl ⟨by rfl, ?_⟩) ?_ ?_
      rotate_left
      ·intro w'
       go_simp
       with_reducible rfl
      rotate_left
      ·simp only [Act.put, List.setIfInBounds_toArray, List.set_cons_zero, List.set_cons_succ, i64_w, i32_w]
       rfl
      refine take_ (i := 6) (N := some 19) (v := ?_) (a' := ?_) #[true, true, true, true, true, false, true, false, false] rfl rfl (take_ofW HT_.out HW_.out (by kernel_rfl)) (fun _ _ _ h => h) (Or.inl ⟨by rfl, ?_⟩) hHeld ?_ ?_
      rotate_left
      ·rintro w' ⟨s0, s1, s2⟩
       go_simp
       with_reducible rfl
      rotate_left
      ·simp only [Act.put, List.setIfInBounds_toArray, List.set_cons_zero, List.set_cons_succ, i64_w, i32_w]
       rfl
      refine one_ (i := 5) (N := some 18) #[true, true, true, true, true, true, true, false, false] rfl rfl (one_of HT_.out (by kernel_rfl)) (by decide) (fun K hK => ?_)
      refine goes_ Try.func65 (by kernel_rfl) rfl #[.int .i64 (wrap64 ((rd l0 x4_1) + 1))] (by rfl) rfl rfl (by (try simp only [List.map_toArray, List.map_cons, List.map_nil]); first | done | rfl | (simp only [List.length_drop, List.length_take]; rfl)) ?_
      with_reducible refine (spec_sumChain.calls k1 (wrap64 ((rd l0 x4_1) + 1)) t793 t796 _ A13.out).mono ?_
      rintro e w16 ⟨v794, v797, rfl, ho0, ho1, hb⟩
      refine ⟨_, rfl, ?_⟩
      have n0_ := Aside0.mk (Kd.R_elder' (by (with_reducible repeat (first | apply Kd.R_alloc | apply Kd.R_drewN | apply Kd.R_drew)); exact HO_792000.out) (Kd.R_base ho0) hb)
      have n1_ := Aside0.mk (Kd.S_mono (Kd.S_told (Kd.S_told (Kd.S_old (by (with_reducible repeat (first | apply Kd.S_alloc | apply Kd.S_drewN | apply Kd.S_drew)); exact HO_792001.out) hb) (Kd.R_base ho0)) (Kd.S_base ho1)) (fun _ h_ => h_.1))
      have n2_ := Aside0.mk (Kd.R_lower (Kd.R_new' ho0 (Kd.R_lt (by (with_reducible repeat (first | apply Kd.R_alloc | apply Kd.R_drewN | apply Kd.R_drew)); exact HO_792000.out))) (below_size (by repeat (first | (with_reducible first | exact HB.out | apply below_alloc | apply pw_below_drewN | apply below_drew1 | refine below_set ?_ GE784.out | refine below_set ?_ GE791.out) | exact HB.out))))
      have n3_ := Aside0.mk (Kd.S_lower (Kd.S_new' (Kd.S_new' ho1 (Kd.R_lt (by (with_reducible repeat (first | apply Kd.R_alloc | apply Kd.R_drewN | apply Kd.R_drew)); exact HO_792000.out))) (Kd.S_lt (by (with_reducible repeat (first | apply Kd.S_alloc | apply Kd.S_drewN | apply Kd.S_drew)); exact HO_792001.out))) (below_size (by repeat (first | (with_reducible first | exact HB.out | apply below_alloc | apply pw_below_drewN | apply below_drew1 | refine below_set ?_ GE784.out | refine below_set ?_ GE791.out) | exact HB.out))))
      have n4_ := Aside0.mk (blk_below (g := gb784) (o := .cells #[.slice none 0 0, .slice none 0 0] 25 (0, 0)) (by (with_reducible repeat (first | refine blk_drewN ?_ _ | refine blk_drew ?_ | refine blk_alloc ?_ _)); exact BK784.out) hb)
      have n5_ := Aside0.mk (blk_below (g := gb791) (o := .cells #[u792000, u792001] 25 (0, 0)) (by (with_reducible repeat (first | refine blk_drewN ?_ _ | refine blk_drew ?_ | refine blk_alloc ?_ _)); exact BK791.out) hb)
      have n6_ := Aside0.mk (below_step (by repeat (first | (with_reducible first | exact HB.out | apply below_alloc | apply pw_below_drewN | apply below_drew1 | refine below_set ?_ GE784.out | refine below_set ?_ GE791.out) | exact HB.out)) hb)
      clear HO_792000
      clear HO_792001
      clear BK784
      clear BK791
      clear HB
      have HO_792000 := n0_
      have HO_792001 := n1_
      have HO795 := n2_
      have HO798 := n3_
      have BK784 := n4_
      have BK791 := n5_
      have HB := n6_
      clear n0_ n1_ n2_ n3_ n4_ n5_ n6_
      (try clear hb)
      (try clear hb2)
      (try clear hk)
      (try clear hi)
      (try clear ho0)
      (try clear ho1)
      obtain ⟨Ao17, co17, eo17⟩ := Kd.R_slice HO795.out
      (first | subst eo17 | (injection eo17 with f1_ f2_ f3_; have f4_ := f1_.symm; have f5_ := f3_.symm; clear f1_ f2_ f3_; subst f4_; subst f5_))
      obtain ⟨Ao18, co18, eo18⟩ := Kd.S_slice HO798.out
      (first | subst eo18 | (injection eo18 with f1_ f2_ f3_; have f4_ := f1_.symm; have f5_ := f3_.symm; clear f1_ f2_ f3_; subst f4_; subst f5_))
      obtain ⟨Ao19, co19, eo19⟩ := Kd.R_slice HO_792000.out
      (first | subst eo19 | (injection eo19 with f1_ f2_ f3_; have f4_ := f1_.symm; have f5_ := f3_.symm; clear f1_ f2_ f3_; subst f4_; subst f5_))
      obtain ⟨Ao20, co20, eo20⟩ := Kd.S_slice HO_792001.out
      (first | subst eo20 | (injection eo20 with f1_ f2_ f3_; have f4_ := f1_.symm; have f5_ := f3_.symm; clear f1_ f2_ f3_; subst f4_; subst f5_))
      refine hK.out _ _ ⟨(blk_cell BK791.out 0).trans rfl, (blk_cell BK791.out 1).trans rfl, ((HB.out.cell (World.block_lt_of_cell? w _ hw792_0)).trans hw792_0)⟩ (fun hHeld => ?_)
      clear hK K
      refine norm_ (a' := ?_) ?_ ?_
      rotate_left
      ·show Act.put _ (some 18) _ = _
       simp only [Act.put, List.setIfInBounds_toArray, List.set_cons_zero, List.set_cons_succ, i64_w, i32_w]
       rfl
      refine one_ (i := 7) (N := some 20) #[true, true, true, true, true, true, true, true, false] rfl rfl (one_of HT_.out (by kernel_rfl)) (by decide) (fun K hK => ?_)
      refine goes_ Try.func75 (by kernel_rfl) rfl #[.agg #[.slice Ao17 t793.length co17, .slice Ao18 t796.length co18], .agg #[.slice Ao19 x792000_1.length co19, .slice Ao20 x792001_1.length co20]] (by rfl) rfl rfl (by (try simp only [List.map_toArray, List.map_cons, List.map_nil]); first | done | rfl | (simp only [List.length_drop, List.length_take]; rfl)) ?_
      with_reducible refine (spec_stack.calls k1 _ _ t793 _ _ t796 _ _ x792000_1 _ _ x792001_1 t799 t802 _ ?side1 ?side2 ?side3 ?side4 ?side5 ?side6 ?side7 ?side8 A14.out).mono ?_
      (case side1 => repeat (first | exact (Kd.R_reads' HO795.out).2.2 | (with_reducible refine Kd.C_alloc ?_ _) | (with_reducible refine Kd.C_drewN ?_ _) | (with_reducible refine Kd.C_drew ?_)))
      (case side2 => exact (Kd.R_reads' HO795.out).2.1)
      (case side3 => repeat (first | exact (Kd.S_reads' HO798.out).2.2 | (with_reducible refine Kd.C_alloc ?_ _) | (with_reducible refine Kd.C_drewN ?_ _) | (with_reducible refine Kd.C_drew ?_)))
      (case side4 => exact (Kd.S_reads' HO798.out).2.1)
      (case side5 => repeat (first | exact (Kd.R_reads' HO_792000.out).2.2 | (with_reducible refine Kd.C_alloc ?_ _) | (with_reducible refine Kd.C_drewN ?_ _) | (with_reducible refine Kd.C_drew ?_)))
      (case side6 => exact (Kd.R_reads' HO_792000.out).2.1)
      (case side7 => repeat (first | exact (Kd.S_reads' HO_792001.out).2.2 | (with_reducible refine Kd.C_alloc ?_ _) | (with_reducible refine Kd.C_drewN ?_ _) | (with_reducible refine Kd.C_drew ?_)))
      (case side8 => exact (Kd.S_reads' HO_792001.out).2.1)
      rintro e w21 ⟨v800, v803, rfl, ho0, ho1, hb⟩
      refine ⟨_, rfl, ?_⟩
      have n0_ := Aside0.mk (Kd.R_elder' (by (with_reducible repeat (first | apply Kd.R_alloc | apply Kd.R_drewN | apply Kd.R_drew)); exact HO_792000.out) (Kd.R_base ho0) hb)
      have n1_ := Aside0.mk (Kd.S_mono (Kd.S_told (Kd.S_told (Kd.S_old (by (with_reducible repeat (first | apply Kd.S_alloc | apply Kd.S_drewN | apply Kd.S_drew)); exact HO_792001.out) hb) (Kd.R_base ho0)) (Kd.S_base ho1)) (fun _ h_ => h_.1))
      have n2_ := Aside0.mk (Kd.R_elder' (by (with_reducible repeat (first | apply Kd.R_alloc | apply Kd.R_drewN | apply Kd.R_drew)); exact HO795.out) (Kd.R_base ho0) hb)
      have n3_ := Aside0.mk (Kd.S_mono (Kd.S_told (Kd.S_told (Kd.S_old (by (with_reducible repeat (first | apply Kd.S_alloc | apply Kd.S_drewN | apply Kd.S_drew)); exact HO798.out) hb) (Kd.R_base ho0)) (Kd.S_base ho1)) (fun _ h_ => h_.1))
      have n4_ := Aside0.mk (Kd.R_lower (Kd.R_new' (Kd.R_new' ho0 (Kd.R_lt (by (with_reducible repeat (first | apply Kd.R_alloc | apply Kd.R_drewN | apply Kd.R_drew)); exact HO_792000.out))) (Kd.R_lt (by (with_reducible repeat (first | apply Kd.R_alloc | apply Kd.R_drewN | apply Kd.R_drew)); exact HO795.out))) (below_size (by repeat (first | (with_reducible first | exact HB.out | apply below_alloc | apply pw_below_drewN | apply below_drew1 | refine below_set ?_ GE784.out | refine below_set ?_ GE791.out) | exact HB.out))))
      have n5_ := Aside0.mk (Kd.S_lower (Kd.S_new' (Kd.S_new' (Kd.S_new' (Kd.S_new' ho1 (Kd.R_lt (by (with_reducible repeat (first | apply Kd.R_alloc | apply Kd.R_drewN | apply Kd.R_drew)); exact HO_792000.out))) (Kd.S_lt (by (with_reducible repeat (first | apply Kd.S_alloc | apply Kd.S_drewN | apply Kd.S_drew)); exact HO_792001.out))) (Kd.R_lt (by (with_reducible repeat (first | apply Kd.R_alloc | apply Kd.R_drewN | apply Kd.R_drew)); exact HO795.out))) (Kd.S_lt (by (with_reducible repeat (first | apply Kd.S_alloc | apply Kd.S_drewN | apply Kd.S_drew)); exact HO798.out))) (below_size (by repeat (first | (with_reducible first | exact HB.out | apply below_alloc | apply pw_below_drewN | apply below_drew1 | refine below_set ?_ GE784.out | refine below_set ?_ GE791.out) | exact HB.out))))
      have n6_ := Aside0.mk (blk_below (g := gb784) (o := .cells #[.slice none 0 0, .slice none 0 0] 25 (0, 0)) (by (with_reducible repeat (first | refine blk_drewN ?_ _ | refine blk_drew ?_ | refine blk_alloc ?_ _)); exact BK784.out) hb)
      have n7_ := Aside0.mk (blk_below (g := gb791) (o := .cells #[.slice Ao19 x792000_1.length co19, .slice Ao20 x792001_1.length co20] 25 (0, 0)) (by (with_reducible repeat (first | refine blk_drewN ?_ _ | refine blk_drew ?_ | refine blk_alloc ?_ _)); exact BK791.out) hb)
      have n8_ := Aside0.mk (below_step (by repeat (first | (with_reducible first | exact HB.out | apply below_alloc | apply pw_below_drewN | apply below_drew1 | refine below_set ?_ GE784.out | refine below_set ?_ GE791.out) | exact HB.out)) hb)
      clear HO_792000
      clear HO_792001
      clear HO795
      clear HO798
      clear BK784
      clear BK791
      clear HB
      have HO_792000 := n0_
      have HO_792001 := n1_
      have HO795 := n2_
      have HO798 := n3_
      have HO801 := n4_
      have HO804 := n5_
      have BK784 := n6_
      have BK791 := n7_
      have HB := n8_
      clear n0_ n1_ n2_ n3_ n4_ n5_ n6_ n7_ n8_
      (try clear hb)
      (try clear hb2)
      (try clear hk)
      (try clear hi)
      (try clear ho0)
      (try clear ho1)
      obtain ⟨Ao22, co22, eo22⟩ := Kd.R_slice HO801.out
      (first | subst eo22 | (injection eo22 with f1_ f2_ f3_; have f4_ := f1_.symm; have f5_ := f3_.symm; clear f1_ f2_ f3_; subst f4_; subst f5_))
      obtain ⟨Ao24, co24, eo24⟩ := Kd.S_slice HO804.out
      (first | subst eo24 | (injection eo24 with f1_ f2_ f3_; have f4_ := f1_.symm; have f5_ := f3_.symm; clear f1_ f2_ f3_; subst f4_; subst f5_))
      refine hK.out _ _ ⟨(blk_cell BK791.out 0).trans rfl, (blk_cell BK791.out 1).trans rfl, ((HB.out.cell (World.block_lt_of_cell? w _ hw792_0)).trans hw792_0)⟩ (fun hHeld => ?_)
      clear hK K
      refine norm_ (a' := ?_) ?_ ?_
      rotate_left
      ·show Act.put _ (some 20) _ = _
       simp only [Act.put, List.setIfInBounds_toArray, List.set_cons_zero, List.set_cons_succ, i64_w, i32_w]
       rfl
      refine last_ (i := 8) (N := none) #[true, true, true, true, true, true, true, true, true] rfl rfl (one_of HT_.out (by kernel_rfl)) (by decide) (fun K hK => ?_)
      have hs23 : w21.cell? ⟨gb791, 0, none⟩ = some (.slice Ao19 x792000_1.length co19) := (blk_cell BK791.out 0).trans rfl
      have hfs23 := blk_frozen BK791.out 0
      have hns23_0 := NB784_791.out
      have hms23_0 := NB791_784.out
      have hs25 : w21.cell? ⟨gb791, 1, none⟩ = some (.slice Ao20 x792001_1.length co20) := (blk_cell BK791.out 1).trans rfl
      have hfs25 := blk_frozen BK791.out 1
      have hns25_0 := NB784_791.out
      have hms25_0 := NB791_784.out
      refine skip_ (w1 := ?_) (by rfl) rfl ?_ ?_
      rotate_left
      ·go_simp
       rfl
      refine hK.out _ _ ?_
      clear hK K
      refine done_ (done_of HT_.out (by kernel_rfl)) ?_
      try go_wp2
      go_roundg k1
      case measure => have := HK1.out; omega
      case rel => exact ⟨(wrap64 (x4_1 - 1)), (t799), (t802), (.slice Ao22 t799.length co22), (.slice Ao24 t802.length co24), (by first | rfl | (simp; done) | (simp [*]; done)), H', ⟨by have := HK1.out; omega⟩, ⟨by (with_reducible repeat (first | apply Kd.R_alloc | apply Kd.R_drewN | apply Kd.R_drew)); exact Kd.R_mono (Kd.R_far (p := ⟨gb791, 1, none⟩) (Kd.R_far (p := ⟨gb791, 0, none⟩) (Kd.R_types HO801.out BK791.out (by decide)) (fun _ hk => hk.2) (.slice Ao22 t799.length co22)) (fun _ hk => hk.2) (.slice Ao24 t802.length co24)) (fun _ hk => trivial)⟩, ⟨by (with_reducible repeat (first | apply Kd.S_alloc | apply Kd.S_drewN | apply Kd.S_drew)); exact Kd.S_mono (Kd.S_far (p := ⟨gb791, 1, none⟩) (Kd.S_far (p := ⟨gb791, 0, none⟩) (Kd.S_types HO804.out BK791.out (by decide)) (fun _ hk => hk.2) (.slice Ao22 t799.length co22)) (fun _ hk => hk.2) (.slice Ao24 t802.length co24)) (fun _ hk => hk.1.1.1.1.1)⟩, ⟨by (with_reducible repeat (first | refine blk_drewN ?_ _ | refine blk_drew ?_ | refine blk_alloc ?_ _)); refine blk_far ?_ NB784_791.out _; (with_reducible repeat (first | refine blk_drewN ?_ _ | refine blk_drew ?_ | refine blk_alloc ?_ _)); refine blk_far ?_ NB784_791.out _; (with_reducible repeat (first | refine blk_drewN ?_ _ | refine blk_drew ?_ | refine blk_alloc ?_ _)); exact BK784.out⟩, ⟨by (with_reducible repeat (first | refine blk_drewN ?_ _ | refine blk_drew ?_ | refine blk_alloc ?_ _)); refine blk_put (cs := #[.slice Ao22 t799.length co22, .slice Ao20 x792001_1.length co20]) ?_ 1 _ rfl; (with_reducible repeat (first | refine blk_drewN ?_ _ | refine blk_drew ?_ | refine blk_alloc ?_ _)); refine blk_put (cs := #[.slice Ao19 x792000_1.length co19, .slice Ao20 x792001_1.length co20]) ?_ 0 _ rfl; (with_reducible repeat (first | refine blk_drewN ?_ _ | refine blk_drew ?_ | refine blk_alloc ?_ _)); exact BK791.out⟩, ⟨by repeat (first | (with_reducible first | exact HB.out | apply below_alloc | apply pw_below_drewN | apply below_drew1 | refine below_set ?_ GE784.out | refine below_set ?_ GE791.out) | exact HB.out)⟩⟩
     ·rw [if_neg c12] at H
      exact absurd H (by simp)
    ·rw [if_neg c11] at H
     exact absurd H (by simp)
   ·rw [if_neg c10] at H
    have c10b0 : decide (0 ≤ x4_1) = false := decide_eq_false c10
    clear c10
    simp only [Option.some.injEq, Prod.mk.injEq] at H
    obtain ⟨rfl, rfl⟩ := H
    have hnb26 := NB791_784.out
    have hnc26 := NB784_791.out
    have hcz27_0 : wr.cell? ⟨gb791, 0, none⟩ = some (u792000) := (blk_cell BK791.out 0).trans rfl
    have hcz27_1 : wr.cell? ⟨gb791, 1, none⟩ = some (u792001) := (blk_cell BK791.out 1).trans rfl
    have hfz27_0 := blk_frozen BK791.out 0
    have hfz27_1 := blk_frozen BK791.out 1
    obtain ⟨Ao28, co28, eo28⟩ := Kd.R_slice HO_792000.out
    subst eo28
    have hcz29_0 : wr.cell? ⟨gb784, 0, none⟩ = some (.slice none 0 0) := (blk_cell BK784.out 0).trans rfl
    have hcz29_1 : wr.cell? ⟨gb784, 1, none⟩ = some (.slice none 0 0) := (blk_cell BK784.out 1).trans rfl
    have hfz29_0 := blk_frozen BK784.out 0
    have hfz29_1 := blk_frozen BK784.out 1
    obtain ⟨Ao30, co30, eo30⟩ := Kd.S_slice HO_792001.out
    subst eo30
    go_wp2
    refine bodyPost_ret (results_cell_row rfl _ _ gb784 25 #[.slice Ao28 x792000_1.length co28, .slice Ao30 x792001_1.length co30] (0, 0) _ rfl (by (with_reducible repeat (first | refine blk_drewN ?_ _ | refine blk_drew ?_ | refine blk_alloc ?_ _)); refine blk_put (cs := #[.slice Ao28 x792000_1.length co28, .slice none 0 0]) ?_ 1 _ rfl; (with_reducible repeat (first | refine blk_drewN ?_ _ | refine blk_drew ?_ | refine blk_alloc ?_ _)); refine blk_put (cs := #[.slice none 0 0, .slice none 0 0]) ?_ 0 _ rfl; (with_reducible repeat (first | refine blk_drewN ?_ _ | refine blk_drew ?_ | refine blk_alloc ?_ _)); exact BK784.out) Try.underlying25 rfl (by kernel_rfl)) rfl ?_
    exact ⟨_, _, by first | rfl | (simp [errW_none, errW_some] <;> rfl) | (simp [*, errW_none, errW_some] <;> rfl), by (with_reducible repeat (first | apply Kd.R_alloc | apply Kd.R_drewN | apply Kd.R_drew)); exact Kd.R_mono (Kd.R_far (p := ⟨gb784, 1, none⟩) (Kd.R_far (p := ⟨gb784, 0, none⟩) (Kd.R_types HO_792000.out BK784.out (by decide)) (fun _ hk => hk.2) (.slice Ao28 x792000_1.length co28)) (fun _ hk => hk.2) (.slice Ao30 x792001_1.length co30)) (fun _ hk => trivial), by (with_reducible repeat (first | apply Kd.S_alloc | apply Kd.S_drewN | apply Kd.S_drew)); exact Kd.S_mono (Kd.S_far (p := ⟨gb784, 1, none⟩) (Kd.S_far (p := ⟨gb784, 0, none⟩) (Kd.S_types HO_792001.out BK784.out (by decide)) (fun _ hk => hk.2) (.slice Ao28 x792000_1.length co28)) (fun _ hk => hk.2) (.slice Ao30 x792001_1.length co30)) (fun _ hk => hk.1), by repeat (first | (with_reducible first | exact HB.out | apply below_alloc | apply pw_below_drewN | apply below_drew1 | refine below_set ?_ GE784.out | refine below_set ?_ GE791.out) | exact HB.out)⟩

end Go.Proofs.Ytjidbgmkhapklaa.P

-- shrunk
