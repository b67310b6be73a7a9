-- Printed by this session's wip/print2.py (the kit's print.py, widened) out of the translation. Lean checks it.
import Derived.Test.YtomapoenndlbiaaP0
import Derived.Test.YtomapoenndlbiaaP9
import Derived.Test.YtomapoenndlbiaaP10
import Derived.Test.YtomapoenndlbiaaP11
import Derived.Test.YtomapoenndlbiaaP15
namespace Go.Proofs.Ytomapoenndlbiaa.P
open Go.RowKit Go.Proofs.YtomapoenndlbiaaW.PrintWords Go.Proofs.YtomapoenndlbiaaW.PrintLast Go.Proofs.YtomapoenndlbiaaW.PrintMore
attribute [local go_sem] max2_int min2_int max_two min_two max_three min_three max_four min_four   -- for this text's walks alone
set_option linter.unusedVariables false
set_option linter.unusedSimpArgs false

/-! ### spec_isMap: function 43 -/
mutual
def spec_isMap.l0 : Nat → List Int → Int → Int → List Int → List (List Int) → List Int → List (List Int) → Option (Bool)
 | 0, _, _, _, _, _, _, _ => none
 | k + 1, x2, x7, x8, x201000, x201001, x202000, x202001 => if x8 < x7 then (if 0 ≤ x8 then (if x8 < (x2.length : Int) then ((spec_inRange.f (rd x2 x8) 0 (wrap64 ((x202000.length : Int) - 1))).bind fun t203 => (if t203 = true then (spec_isMap.l0 k x2 x7 (wrap64 (x8 + 1)) x201000 x201001 x202000 x202001) else (some false))) else (none)) else (none)) else (if 0 < (x2.length : Int) then (if (rd x2 0) = 0 then (if 0 ≤ (wrap64 (x7 - 1)) then (if (wrap64 (x7 - 1)) < (x2.length : Int) then (spec_isMap.j1 k x2 x7 ((rd x2 (wrap64 (x7 - 1))) != (wrap64 ((x202000.length : Int) - 1))) x201000 x201001 x202000 x202001) else (none)) else (none)) else (spec_isMap.j1 k x2 x7 true x201000 x201001 x202000 x202001)) else (none))
def spec_isMap.j1 : Nat → List Int → Int → Bool → List Int → List (List Int) → List Int → List (List Int) → Option (Bool)
 | 0, _, _, _, _, _, _, _ => none
 | k + 1, x2, x7, x48, x201000, x201001, x202000, x202001 => if x48 = true then (some false) else (spec_isMap.l1 k x2 x7 0 x201000 x201001 x202000 x202001)
def spec_isMap.l1 : Nat → List Int → Int → Int → List Int → List (List Int) → List Int → List (List Int) → Option (Bool)
 | 0, _, _, _, _, _, _, _ => none
 | k + 1, x2, x7, x9, x201000, x201001, x202000, x202001 => if x9 < x7 then (spec_isMap.l2 k x2 x7 x9 0 x201000 x201001 x202000 x202001) else (some true)
def spec_isMap.l2 : Nat → List Int → Int → Int → Int → List Int → List (List Int) → List Int → List (List Int) → Option (Bool)
 | 0, _, _, _, _, _, _, _, _ => none
 | k + 1, x2, x7, x9, x10, x201000, x201001, x202000, x202001 => if x10 < x7 then (if 0 ≤ x9 then (if x9 < (x201001.length : Int) then (if 0 ≤ x10 then (if x10 < ((rd_L1 x201001 x9).length : Int) then (if 0 ≤ (rd (rd_L1 x201001 x9) x10) then (if (rd (rd_L1 x201001 x9) x10) < (x2.length : Int) then (if x9 < (x2.length : Int) then (if 0 ≤ (rd x2 x9) then (if (rd x2 x9) < (x202001.length : Int) then (if x10 < (x2.length : Int) then (if 0 ≤ (rd x2 x10) then (if (rd x2 x10) < ((rd_L1 x202001 (rd x2 x9)).length : Int) then (if (rd x2 (rd (rd_L1 x201001 x9) x10)) = (rd (rd_L1 x202001 (rd x2 x9)) (rd x2 x10)) then ((spec_imply.f k x201000 x201001 x9 x10).bind fun t213 => (if 0 ≤ t213 then (if t213 < (x2.length : Int) then ((spec_imply.f k x202000 x202001 (rd x2 x9) (rd x2 x10)).bind fun t217 => (if (rd x2 t213) = t217 then ((spec_meet.f k x201000 x9 x10).bind fun t218 => (if 0 ≤ t218 then (if t218 < (x2.length : Int) then ((spec_meet.f k x202000 (rd x2 x9) (rd x2 x10)).bind fun t222 => (if (rd x2 t218) = t222 then ((spec_join.f k x201000 x9 x10).bind fun t223 => (if 0 ≤ t223 then (if t223 < (x2.length : Int) then ((spec_join.f k x202000 (rd x2 x9) (rd x2 x10)).bind fun t227 => (if (rd x2 t223) = t227 then (spec_isMap.l2 k x2 x7 x9 (wrap64 (x10 + 1)) x201000 x201001 x202000 x202001) else (some false))) else (none)) else (none))) else (some false))) else (none)) else (none))) else (some false))) else (none)) else (none))) else (some false)) else (none)) else (none)) else (none)) else (none)) else (none)) else (none)) else (none)) else (none)) else (none)) else (none)) else (none)) else (none)) else (spec_isMap.l1 k x2 x7 (wrap64 (x9 + 1)) x201000 x201001 x202000 x202001)
end
def spec_isMap.f (k : Nat) (l0_0 : List Int) (l0_1 : List (List Int)) (l1_0 : List Int) (l1_1 : List (List Int)) (l2 : List Int) : Option (Bool) := if (l2.length : Int) = (l0_0.length : Int) then (spec_isMap.l0 k l2 (l0_0.length : Int) 0 l0_0 l0_1 l1_0 l1_1) else (some false)
def spec_isMap.T7 : Bool × List (List Nat × List Nat) := (true, [([], []), ([], []), ([0, 1], [0, 1]), ([2], [2]), ([], []), ([4], [4]), ([5], [5]), ([6], [6]), ([3, 7], [3, 7]), ([8], [8])])
def spec_isMap.B7 : List Nat := [0, 0, 3, 7, 0, 16, 48, 112, 255, 511]
theorem spec_isMap.tab7 : rtab .any (opsOf Try.f43 7) = spec_isMap.T7 := by kernel_rfl
theorem spec_isMap.bits7 : waitsOk spec_isMap.T7.2 spec_isMap.B7 = true := by kernel_rfl
def spec_isMap.T9 : Bool × List (List Nat × List Nat) := (true, [([], []), ([0], [0]), ([1], [1]), ([2], [2]), ([3], [3]), ([4], [4]), ([4], [4]), ([6, 4], [4, 6]), ([5, 7, 4], [4, 5, 7]), ([8, 4], [4, 8]), ([4], [4]), ([10, 4], [4, 10]), ([11, 4], [4, 11]), ([12, 4], [4, 12]), ([9, 13, 4], [4, 9, 13]), ([4, 14], [4, 14])])
def spec_isMap.B9 : List Nat := [0, 1, 3, 7, 15, 31, 31, 95, 255, 511, 31, 1055, 3103, 7199, 16383, 32767]
theorem spec_isMap.tab9 : rtab .any (opsOf Try.f43 9) = spec_isMap.T9 := by kernel_rfl
theorem spec_isMap.bits9 : waitsOk spec_isMap.T9.2 spec_isMap.B9 = true := by kernel_rfl
def spec_isMap.T17 : Bool × List (List Nat × List Nat) := (true, [([], []), ([], []), ([1], [1]), ([], []), ([2, 3], [2, 3]), ([4], [4]), ([], []), ([5, 6], [5, 6]), ([7], [7]), ([0, 8], [0, 8]), ([9], [9]), ([], []), ([11], [11]), ([], []), ([], []), ([13, 14], [13, 14]), ([15], [15]), ([12, 16], [12, 16]), ([17], [17]), ([], []), ([], []), ([19, 20], [19, 20]), ([21], [21]), ([18, 22], [18, 22]), ([23], [23]), ([10, 24], [10, 24]), ([25], [25]), ([26], [26]), ([26], [26]), ([26], [26]), ([26], [26]), ([28, 29, 30, 26, 26], [26, 28, 29, 30]), ([27, 31, 26], [26, 27, 31]), ([32, 26], [26, 32]), ([26], [26]), ([26], [26]), ([26], [26]), ([35, 36, 26], [26, 35, 36]), ([37, 26], [26, 37]), ([26], [26]), ([26], [26]), ([39, 40, 26], [26, 39, 40]), ([41, 26], [26, 41]), ([34, 38, 42, 31, 26], [26, 34, 38, 42]), ([33, 43, 26], [26, 33, 43]), ([26, 44], [26, 44]), ([45, 43], [45]), ([46], [46]), ([46], [46]), ([48, 46], [46, 48]), ([46], [46]), ([46], [46]), ([49, 50, 51, 46, 46], [46, 49, 50, 51]), ([47, 52, 46], [46, 47, 52]), ([53, 46], [46, 53]), ([46], [46]), ([55, 46], [46, 55]), ([46], [46]), ([46], [46]), ([57, 58, 46], [46, 57, 58]), ([59, 46], [46, 59]), ([46], [46]), ([46], [46]), ([61, 62, 46], [46, 61, 62]), ([63, 46], [46, 63]), ([56, 60, 64, 52, 46], [46, 56, 60, 64]), ([54, 65, 46], [46, 54, 65]), ([46, 66], [46, 66]), ([67, 65], [67]), ([68], [68]), ([68], [68]), ([70, 68], [68, 70]), ([68], [68]), ([68], [68]), ([71, 72, 73, 68, 68], [68, 71, 72, 73]), ([69, 74, 68], [68, 69, 74]), ([75, 68], [68, 75]), ([68], [68]), ([77, 68], [68, 77]), ([68], [68]), ([68], [68]), ([79, 80, 68], [68, 79, 80]), ([81, 68], [68, 81]), ([68], [68]), ([68], [68]), ([83, 84, 68], [68, 83, 84]), ([85, 68], [68, 85]), ([78, 82, 86, 74, 68], [68, 78, 82, 86]), ([76, 87, 68], [68, 76, 87]), ([68, 88], [68, 88])])
def spec_isMap.B17 : List Nat := [0, 0, 2, 0, 14, 30, 0, 126, 254, 511, 1023, 0, 2048, 0, 0, 24576, 57344, 129024, 260096, 0, 0, 1572864, 3670016, 8386560, 16775168, 33554431, 67108863, 134217727, 134217727, 134217727, 134217727, 2013265919, 4294967295, 8589934591, 134217727, 134217727, 134217727, 103213432831, 240652386303, 134217727, 134217727, 1649401659391, 3848424914943, 8783073902591, 17592186044415, 35184372088831, 70368744177663, 140737488355327, 140737488355327, 422212465065983, 140737488355327, 140737488355327, 4362862139015167, 9007199254740991, 18014398509481983, 140737488355327, 36169534507319295, 140737488355327, 140737488355327, 432486301715922943, 1008947054019346431, 140737488355327, 140737488355327, 6917669765129437183, 16141041801984212991, 36866325812166524927, 73786976294838206463, 147573952589676412927, 295147905179352825855, 590295810358705651711, 590295810358705651711, 1770887431076116955135, 590295810358705651711, 590295810358705651711, 18299170121119875203071, 37778931862957161709567, 75557863725914323419135, 590295810358705651711, 151706023262187352489983, 590295810358705651711, 590295810358705651711, 1813979025232302467710975, 4231830664461560817123327, 590295810358705651711, 590295810358705651711, 29014809966561458898599935, 67700436194229592489197567, 154628577819273304171610111, 309485009821345068724781055, 618970019642690137449562111]
theorem spec_isMap.tab17 : rtab .any (opsOf Try.f43 17) = spec_isMap.T17 := by kernel_rfl
theorem spec_isMap.bits17 : waitsOk spec_isMap.T17.2 spec_isMap.B17 = true := by kernel_rfl
set_option maxHeartbeats 8000000 in
set_option maxRecDepth 100000 in
theorem spec_isMap.calls (k : Nat) (A0_0 : Option Addr) (c0_0 : Nat) (l0_0 : List Int) (A0_1 : Option Addr) (c0_1 : Nat) (l0_1 : List (List Int)) (A1_0 : Option Addr) (c1_0 : Nat) (l1_0 : List Int) (A1_1 : Option Addr) (c1_1 : Nat) (l1_1 : List (List Int)) (A2 : Option Addr) (c2 : Nat) (l2 : List Int) (r : Bool) (w : World) (hr0_0 : Kd.C (Kd.int .i64) w A0_0 l0_0.length l0_0) (hc0_0 : l0_0.length ≤ c0_0) (hr0_1 : Kd.C (Kd.slice 3 (Kd.int .i64)) w A0_1 l0_1.length l0_1) (hc0_1 : l0_1.length ≤ c0_1) (hr1_0 : Kd.C (Kd.int .i64) w A1_0 l1_0.length l1_0) (hc1_0 : l1_0.length ≤ c1_0) (hr1_1 : Kd.C (Kd.slice 3 (Kd.int .i64)) w A1_1 l1_1.length l1_1) (hc1_1 : l1_1.length ≤ c1_1) (hr2 : Kd.C (Kd.int .i64) w A2 l2.length l2) (hc2 : l2.length ≤ c2) (h : spec_isMap.f k l0_0 l0_1 l1_0 l1_1 l2 = some r) :
  Calls Try.prog 43 #[.agg #[.slice A0_0 l0_0.length c0_0, .slice A0_1 l0_1.length c0_1], .agg #[.slice A1_0 l1_0.length c1_0, .slice A1_1 l1_1.length c1_1], .slice A2 l2.length c2] w fun e w' => e = .returned (.bool r) ∧ Below w.heap.size w w' := by
 have hu28 := Try.underlying28
 have HR0_0 := ak hr0_0
 have HC0_0 := ak hc0_0
 clear hr0_0 hc0_0
 have HR0_1 := ak hr0_1
 have HC0_1 := ak hc0_1
 clear hr0_1 hc0_1
 have HR1_0 := ak hr1_0
 have HC1_0 := ak hc1_0
 clear hr1_0 hc1_0
 have HR1_1 := ak hr1_1
 have HC1_1 := ak hc1_1
 clear hr1_1 hc1_1
 have HR2 := ak hr2
 have HC2 := ak hc2
 clear hr2 hc2
 have HB := ak (Below.refl w.heap.size w)
 have H : (if (l2.length : Int) = (l0_0.length : Int) then (spec_isMap.l0 k l2 (l0_0.length : Int) 0 l0_0 l0_1 l1_0 l1_1) else (some false)) = some r := h
 clear h
 by_cases c4 : (l2.length : Int) = (l0_0.length : Int)
 rotate_left
 ·rw [if_neg c4] at H
  have c4b0 : ((l2.length : Int) == (l0_0.length : Int)) = false := beq_eq_false_iff_ne.mpr c4
  have c4b1 : ((l2.length : Int) != (l0_0.length : Int)) = true := bne_iff_ne.mpr c4
  have c4b2 : (l2.length == l0_0.length) = false := by first | simpa using c4 | (simp at c4 ⊢; omega)
  obtain rfl := Option.some.inj H
  go_enter Try.func43, Try.ntmps43
  as_aux_lemma =>
   go_wp2_with (first | ((with_reducible refine gate_dst (N := 3) rfl ?_); (try (refine gate_guard (by rfl) ?_; dsimp only)); refine box_event ?hg (N := 3) ?hd (cs := #[.slice A0_0 l0_0.length c0_0, .slice A0_1 l0_1.length c0_1]) (t := 28) ?hr ?_; (case hd => rfl); (case hg => rfl); (case hr => first | (go_simp; done) | (go_simp; rfl)); intro gb200 hg w68 hbox hb; have BK200 := ak (hbox); have GW200 := ak ((by rw [hg]; exact (below_size (bB HB.out)) : w.heap.size ≤ gb200)); have GE200 := ak ((by rw [hg]; exact (below_size (bB HB.out)) : w.heap.size ≤ gb200)); replace HB := ak (below_step (bB HB.out) hb); clear hb hbox hg) | ((with_reducible refine gate_dst (N := 4) rfl ?_); (try (refine gate_guard (by rfl) ?_; dsimp only)); refine box_event ?hg (N := 4) ?hd (cs := #[.slice A1_0 l1_0.length c1_0, .slice A1_1 l1_1.length c1_1]) (t := 28) ?hr ?_; (case hd => rfl); (case hg => rfl); (case hr => first | (go_simp; done) | (go_simp; rfl)); intro gb201 hg w69 hbox hb; have BK201 := ak (hbox); have GW201 := ak ((by rw [hg]; exact (below_size (bB HB.out)) : w.heap.size ≤ gb201)); have GE201 := ak ((by rw [hg]; exact (below_size (bB HB.out)) : w.heap.size ≤ gb201)); replace HB := ak (below_step (bB HB.out) hb); have NB200_201 := ak ((ne_box hg (kK BK200.out))); have NB201_200 := ak ((ne_box' hg (kK BK200.out))); replace BK200 := ak (blk_below (kK BK200.out) hb); clear hb hbox hg; have hnb70 := NB200_201.out; have hnc70 := NB201_200.out; have hcz71_0 : w69.cell? ⟨gb200, 0, none⟩ = some (.slice A0_0 l0_0.length c0_0) := (blk_cell BK200.out 0).trans rfl; have hcz71_1 : w69.cell? ⟨gb200, 1, none⟩ = some (.slice A0_1 l0_1.length c0_1) := (blk_cell BK200.out 1).trans rfl; have hfz71_0 := blk_frozen BK200.out 0; have hfz71_1 := blk_frozen BK200.out 1))
   go_ret
   exact ⟨by first | rfl | (simp [errW_none, errW_some] <;> rfl) | (simp [*, errW_none, errW_some] <;> rfl), by repeat (first | (with_reducible first | exact HB.out | apply below_alloc | apply pw_below_drewN | apply below_drew1 | refine below_set ?_ GE200.out | refine below_set ?_ GE201.out) | exact HB.out)⟩
 rw [if_pos c4] at H
 have c4b0 : ((l2.length : Int) == (l0_0.length : Int)) = true := beq_iff_eq.mpr c4
 have c4b1 : ((l2.length : Int) != (l0_0.length : Int)) = false := bne_eq_false_iff_eq.mpr c4
 have c4b2 : (l2.length == l0_0.length) = true := by first | simpa using c4 | (simp at c4 ⊢; omega)
 clear c4
 have H' := ak H
 clear H
 go_enter Try.func43, Try.ntmps43
 as_aux_lemma =>
  go_wp2_with (first | ((with_reducible refine gate_dst (N := 3) rfl ?_); (try (refine gate_guard (by rfl) ?_; dsimp only)); refine box_event ?hg (N := 3) ?hd (cs := #[.slice A0_0 l0_0.length c0_0, .slice A0_1 l0_1.length c0_1]) (t := 28) ?hr ?_; (case hd => rfl); (case hg => rfl); (case hr => first | (go_simp; done) | (go_simp; rfl)); intro gb200 hg w5 hbox hb; have BK200 := ak (hbox); have GW200 := ak ((by rw [hg]; exact (below_size (bB HB.out)) : w.heap.size ≤ gb200)); have GE200 := ak ((by rw [hg]; exact (below_size (bB HB.out)) : w.heap.size ≤ gb200)); replace HB := ak (below_step (bB HB.out) hb); clear hb hbox hg) | ((with_reducible refine gate_dst (N := 4) rfl ?_); (try (refine gate_guard (by rfl) ?_; dsimp only)); refine box_event ?hg (N := 4) ?hd (cs := #[.slice A1_0 l1_0.length c1_0, .slice A1_1 l1_1.length c1_1]) (t := 28) ?hr ?_; (case hd => rfl); (case hg => rfl); (case hr => first | (go_simp; done) | (go_simp; rfl)); intro gb201 hg w6 hbox hb; have BK201 := ak (hbox); have GW201 := ak ((by rw [hg]; exact (below_size (bB HB.out)) : w.heap.size ≤ gb201)); have GE201 := ak ((by rw [hg]; exact (below_size (bB HB.out)) : w.heap.size ≤ gb201)); replace HB := ak (below_step (bB HB.out) hb); have NB200_201 := ak ((ne_box hg (kK BK200.out))); have NB201_200 := ak ((ne_box' hg (kK BK200.out))); replace BK200 := ak (blk_below (kK BK200.out) hb); clear hb hbox hg; have hnb7 := NB200_201.out; have hnc7 := NB201_200.out; have hcz8_0 : w6.cell? ⟨gb200, 0, none⟩ = some (.slice A0_0 l0_0.length c0_0) := (blk_cell BK200.out 0).trans rfl; have hcz8_1 : w6.cell? ⟨gb200, 1, none⟩ = some (.slice A0_1 l0_1.length c0_1) := (blk_cell BK200.out 1).trans rfl; have hfz8_0 := blk_frozen BK200.out 0; have hfz8_1 := blk_frozen BK200.out 1))
  go_loopg [8] k (fun kq v8 w' => ∃ (x8_1 : Int), v8 = .int .i64 x8_1 ∧ Aside0 (spec_isMap.l0 kq l2 (l0_0.length : Int) x8_1 l0_0 l0_1 l1_0 l1_1 = some r) ∧ Aside0 (kq ≤ k) ∧ Aside0 (w'.heap[gb200]? = some (.cells #[(.slice A0_0 l0_0.length c0_0), (.slice A0_1 l0_1.length c0_1)] 28 (0, 0))) ∧ Aside0 (w'.heap[gb201]? = some (.cells #[(.slice A1_0 l1_0.length c1_0), (.slice A1_1 l1_1.length c1_1)] 28 (0, 0))) ∧ Aside0 (Below w.heap.size w w'))
  case atStart => exact ⟨(0), (by first | rfl | (simp; done) | (simp [*]; done)), H', ⟨Nat.le_refl _⟩, ⟨by (with_reducible repeat (first | refine blk_drewN ?_ _ | refine blk_drew ?_ | refine blk_alloc ?_ _)); exact BK200.out⟩, ⟨by (with_reducible repeat (first | refine blk_drewN ?_ _ | refine blk_drew ?_ | refine blk_alloc ?_ _)); exact BK201.out⟩, ⟨by repeat (first | (with_reducible first | exact HB.out | apply below_alloc | apply pw_below_drewN | apply below_drew1 | refine below_set ?_ GE200.out | refine below_set ?_ GE201.out) | exact HB.out)⟩⟩
  case round =>
   clear H'
   try clear c1
   try clear c2
   try clear p2
   try clear c4
   try clear c4b0
   try clear c4b1
   try clear c4b2
   try clear c7
   try clear hcz8_0
   try clear hcz8_1
   try clear hfz8_0
   try clear hfz8_1
   obtain ⟨x8_1, rfl, HA, HK1, BK200, BK201, HB⟩ := hrel
   cases gk with
   | zero => exact absurd HA.out (by simp [spec_isMap.l0])
   | succ k1 =>
    have H := HA.out
    clear HA
    simp only [spec_isMap.l0] at H
    by_cases c9 : x8_1 < (l0_0.length : Int)
    ·rw [if_pos c9] at H
     have c9b0 : decide (x8_1 < (l0_0.length : Int)) = true := decide_eq_true c9
     clear c9
     replace H := oi H
     obtain ⟨c10, H⟩ := H
     have c10b0 : decide (0 ≤ x8_1) = true := decide_eq_true c10
     clear c10
     replace H := oi H
     obtain ⟨c11, H⟩ := H
     have c11b0 : decide (x8_1 < (l2.length : Int)) = true := decide_eq_true c11
     clear c11
     replace H := bi H
     obtain ⟨t203, A120, H⟩ := H
     try dsimp only at H
     have A12 := ak A120
     clear A120
     by_cases c13 : t203 = true
     rotate_left
     ·replace c13 := Bool.eq_false_iff.mpr c13
      subst c13
      rw [if_neg (show ¬ (false = true) by decide)] at H
      obtain rfl := Option.some.inj H
      as_aux_lemma =>
       try go_wp2
       replace BK200 := ak (blk_drew BK200.out)
       replace BK201 := ak (blk_drew BK201.out)
       replace HB := ak (below_drew1 HB.out)
       have p202 : 0 ≤ (x8_1 : Int) := of_decide_eq_true (by first | (with_reducible assumption) | assumption)
       have q202 : x8_1 < (l2.length : Int) := of_decide_eq_true (by first | (with_reducible assumption) | assumption)
       obtain ⟨ad202, e202, hx202_0⟩ := Kd.at_int HR2.out x8_1 p202 q202
       have hw202_0 := hx202_0
       cases e202
       replace hx202_0 := (HB.out.cell (World.block_lt_of_cell? w _ hx202_0)).trans hx202_0
       replace p202 := eq_true p202
       replace q202 := eq_true q202
       refine start_ (n := 10) (S := fun w' => w'.cell? ⟨gb201, 0, none⟩ = some (.slice A1_0 l1_0.length c1_0) ∧ w'.cell? ⟨gb201, 1, none⟩ = some (.slice A1_1 l1_1.length c1_1) ∧ w'.cell? (ad202.add (x8_1).toNat) = some (.int .i64 (rd l2 x8_1))) (ds := []) #[false, false, false, false, false, false, false, false, false, false] (by kernel_rfl) rfl rfl ⟨(blk_cell BK201.out 0).trans rfl, (blk_cell BK201.out 1).trans rfl, ((HB.out.cell (World.block_lt_of_cell? w _ hw202_0)).trans hw202_0)⟩ (fun hHeld => ?_); refine with_tabW spec_isMap.tab7 spec_isMap.bits7 (fun HT_ HW_ => ?_)
       generalize wr.drew = w15 at BK200 BK201 HB hx202_0 hHeld ⊢
       refine pu 0 23 1 10 ?_
       refine pu 1 24 3 10 ?_
       refine pu 2 25 7 10 ?_
       refine pu 4 27 23 10 ?_
       refine tk 3 26 31 10 ?_
       refine tk 5 28 63 10 ?_
       refine pu 6 29 127 10 ?_
       refine pu 7 30 255 10 ?_
       refine one_ (i := 8) (N := some 31) #[true, true, true, true, true, true, true, true, true, false] rfl rfl (one_of HT_.out (by kernel_rfl)) (by decide) (fun K hK => ?_)
       refine goes_ Try.func59 (by kernel_rfl) rfl #[.int .i64 (rd l2 x8_1), .int .i64 0, .int .i64 (wrap64 ((l1_0.length : Int) - 1))] (by rfl) rfl rfl (by (try simp only [List.map_toArray, List.map_cons, List.map_nil]); first | done | rfl | (simp only [List.length_drop, List.length_take]; rfl)) ?_
       with_reducible refine (spec_inRange.calls (rd l2 x8_1) 0 (wrap64 ((l1_0.length : Int) - 1)) false _ A12.out).mono ?_
       rintro e w' ⟨rfl, ⟨nd, rfl⟩⟩
       refine ⟨_, rfl, ?_⟩
       refine hK.out _ _ ⟨(blk_cell BK201.out 0).trans rfl, (blk_cell BK201.out 1).trans rfl, ((HB.out.cell (World.block_lt_of_cell? w _ hw202_0)).trans hw202_0)⟩ (fun hHeld => ?_)
       clear hK K
       refine norm_ (a' := ?_) ?_ ?_
       rotate_left
       ·show Act.put _ (some 31) _ = _
        simp only [Act.put, List.setIfInBounds_toArray, List.set_cons_zero, List.set_cons_succ, i64_w, i32_w]
        rfl
       refine pu 9 32 1023 10 ?_
       refine done_ (done_of HT_.out (by kernel_rfl)) ?_
       try go_wp2
       go_ret
       exact ⟨by first | rfl | (simp [errW_none, errW_some] <;> rfl) | (simp [*, errW_none, errW_some] <;> rfl), by repeat (first | (with_reducible first | exact HB.out | apply below_alloc | apply pw_below_drewN | apply below_drew1 | refine below_set ?_ GE200.out | refine below_set ?_ GE201.out) | exact HB.out)⟩
     subst c13
     rw [if_pos rfl] at H
     have H' := ak H
     clear H
     as_aux_lemma =>
      try go_wp2
      replace BK200 := ak (blk_drew BK200.out)
      replace BK201 := ak (blk_drew BK201.out)
      replace HB := ak (below_drew1 HB.out)
      have p202 : 0 ≤ (x8_1 : Int) := of_decide_eq_true (by first | (with_reducible assumption) | assumption)
      have q202 : x8_1 < (l2.length : Int) := of_decide_eq_true (by first | (with_reducible assumption) | assumption)
      obtain ⟨ad202, e202, hx202_0⟩ := Kd.at_int HR2.out x8_1 p202 q202
      have hw202_0 := hx202_0
      cases e202
      replace hx202_0 := (HB.out.cell (World.block_lt_of_cell? w _ hx202_0)).trans hx202_0
      replace p202 := eq_true p202
      replace q202 := eq_true q202
      refine start_ (n := 10) (S := fun w' => w'.cell? ⟨gb201, 0, none⟩ = some (.slice A1_0 l1_0.length c1_0) ∧ w'.cell? ⟨gb201, 1, none⟩ = some (.slice A1_1 l1_1.length c1_1) ∧ w'.cell? (ad202.add (x8_1).toNat) = some (.int .i64 (rd l2 x8_1))) (ds := []) #[false, false, false, false, false, false, false, false, false, false] (by kernel_rfl) rfl rfl ⟨(blk_cell BK201.out 0).trans rfl, (blk_cell BK201.out 1).trans rfl, ((HB.out.cell (World.block_lt_of_cell? w _ hw202_0)).trans hw202_0)⟩ (fun hHeld => ?_); refine with_tabW spec_isMap.tab7 spec_isMap.bits7 (fun HT_ HW_ => ?_)
      generalize wr.drew = w14 at BK200 BK201 HB hx202_0 hHeld ⊢
      refine pu 0 23 1 10 ?_
      refine pu 1 24 3 10 ?_
      refine pu 2 25 7 10 ?_
      refine pu 4 27 23 10 ?_
      refine tk 3 26 31 10 ?_
      refine tk 5 28 63 10 ?_
      refine pu 6 29 127 10 ?_
      refine pu 7 30 255 10 ?_
      refine one_ (i := 8) (N := some 31) #[true, true, true, true, true, true, true, true, true, false] rfl rfl (one_of HT_.out (by kernel_rfl)) (by decide) (fun K hK => ?_)
      refine goes_ Try.func59 (by kernel_rfl) rfl #[.int .i64 (rd l2 x8_1), .int .i64 0, .int .i64 (wrap64 ((l1_0.length : Int) - 1))] (by rfl) rfl rfl (by (try simp only [List.map_toArray, List.map_cons, List.map_nil]); first | done | rfl | (simp only [List.length_drop, List.length_take]; rfl)) ?_
      with_reducible refine (spec_inRange.calls (rd l2 x8_1) 0 (wrap64 ((l1_0.length : Int) - 1)) true _ A12.out).mono ?_
      rintro e w' ⟨rfl, ⟨nd, rfl⟩⟩
      refine ⟨_, rfl, ?_⟩
      refine hK.out _ _ ⟨(blk_cell BK201.out 0).trans rfl, (blk_cell BK201.out 1).trans rfl, ((HB.out.cell (World.block_lt_of_cell? w _ hw202_0)).trans hw202_0)⟩ (fun hHeld => ?_)
      clear hK K
      refine norm_ (a' := ?_) ?_ ?_
      rotate_left
      ·show Act.put _ (some 31) _ = _
       simp only [Act.put, List.setIfInBounds_toArray, List.set_cons_zero, List.set_cons_succ, i64_w, i32_w]
       rfl
      refine pu 9 32 1023 10 ?_
      refine done_ (done_of HT_.out (by kernel_rfl)) ?_
      try go_wp2
      go_roundg k1
      case measure => have := HK1.out; omega
      case rel => exact ⟨(wrap64 (x8_1 + 1)), (by first | rfl | (simp; done) | (simp [*]; done)), H', ⟨by have := HK1.out; omega⟩, ⟨by (with_reducible repeat (first | refine blk_drewN ?_ _ | refine blk_drew ?_ | refine blk_alloc ?_ _)); exact BK200.out⟩, ⟨by (with_reducible repeat (first | refine blk_drewN ?_ _ | refine blk_drew ?_ | refine blk_alloc ?_ _)); exact BK201.out⟩, ⟨by repeat (first | (with_reducible first | exact HB.out | apply below_alloc | apply pw_below_drewN | apply below_drew1 | refine below_set ?_ GE200.out | refine below_set ?_ GE201.out) | exact HB.out)⟩⟩
    rw [if_neg c9] at H
    have c9b0 : decide (x8_1 < (l0_0.length : Int)) = false := decide_eq_false c9
    clear c9
    have HC16 := ak H
    clear H
    go_upto_region 9 with (fail)
    go_cut [48] (fun v48 wc => ∃ (kq : Nat) (x48_15 : Bool), v48 = .bool x48_15 ∧ Aside0 (spec_isMap.j1 kq l2 (l0_0.length : Int) x48_15 l0_0 l0_1 l1_0 l1_1 = some r) ∧ Aside0 (kq ≤ k1) ∧ Aside0 (wc.heap[gb200]? = some (.cells #[(.slice A0_0 l0_0.length c0_0), (.slice A0_1 l0_1.length c0_1)] 28 (0, 0))) ∧ Aside0 (wc.heap[gb201]? = some (.cells #[(.slice A1_0 l1_0.length c1_0), (.slice A1_1 l1_1.length c1_1)] 28 (0, 0))) ∧ Aside0 (Below w.heap.size w wc))
    case first =>
     have H := HC16.out
     clear HC16
     replace H := oi H
     obtain ⟨c17, H⟩ := H
     have c17b0 : decide (0 < (l2.length : Int)) = true := decide_eq_true c17
     have c17b1 : decide (0 < l2.length) = true := decide_eq_true (by omega)
     clear c17
     (first | rw [c17b0] | (simp only [i64_w, i32_w]; rw [c17b0]) | skip)
     by_cases c18 : (rd l2 0) = 0
     rotate_left
     ·rw [if_neg c18] at H
      have c18b0 : ((rd l2 0) == 0) = false := beq_eq_false_iff_ne.mpr c18
      have c18b1 : ((rd l2 0) != 0) = true := bne_iff_ne.mpr c18
      have H' := ak H
      clear H
      as_aux_lemma =>
       try go_wp2
       replace BK200 := ak (blk_drew BK200.out)
       replace BK201 := ak (blk_drew BK201.out)
       replace HB := ak (below_drew1 HB.out)
       have p204 : 0 ≤ (0 : Int) := (by omega)
       have q204 : 0 < (l2.length : Int) := of_decide_eq_true (by first | (with_reducible assumption) | assumption)
       obtain ⟨ad204, e204, hx204_0⟩ := Kd.at_int HR2.out 0 p204 q204
       have hw204_0 := hx204_0
       (try rw [show ((0 : Int)).toNat = 0 from rfl] at hw204_0)
       (try rw [show 0 * 1 = 0 from rfl] at hw204_0)
       (try rw [Addr.add_zero'] at hw204_0)
       cases e204
       have qi204 : (0 < l2.length) = True := eq_true (by omega)
       (try rw [show ((0 : Int)).toNat = 0 from rfl] at hx204_0)
       (try rw [Addr.add_zero'] at hx204_0)
       replace hx204_0 := (HB.out.cell (World.block_lt_of_cell? w _ hx204_0)).trans hx204_0
       replace p204 := eq_true p204
       replace q204 := eq_true q204
       refine start_ (n := 16) (S := fun w' => w'.cell? ad204 = some (.int .i64 (rd l2 0))) (ds := []) #[false, false, false, false, false, false, false, false, false, false, false, false, false, false, false, false] (by kernel_rfl) rfl rfl (((HB.out.cell (World.block_lt_of_cell? w _ hw204_0)).trans hw204_0)) (fun hHeld => ?_); refine with_tabW spec_isMap.tab9 spec_isMap.bits9 (fun HT_ HW_ => ?_)
       generalize wr.drew = w23 at BK200 BK201 HB hx204_0 hHeld ⊢
       refine pu 0 33 1 16 ?_
       refine pu 1 34 3 16 ?_
       refine take_ (i := 2) (N := some 35) (v := ?_) (a' := ?_) #[true, true, true, false, false, false, false, false, false, false, false, false, false, false, false, false] rfl rfl (take_ofW HT_.out HW_.out (by kernel_rfl)) (fun _ _ _ h => h) (Or.inl ⟨by rfl, ?_⟩) hHeld ?_ ?_
       rotate_left
       ·intro w' s0
        go_simp
        with_reducible rfl
       rotate_left
       ·simp only [Act.put, List.setIfInBounds_toArray, List.set_cons_zero, List.set_cons_succ, i64_w, i32_w]
        rfl
       refine pu 3 36 15 16 ?_
       refine pu 4 37 31 16 ?_
       refine pd 5 38 63 16 ?_
       refine pd 6 39 127 16 ?_
       refine pd 7 40 255 16 ?_
       refine pd 8 41 511 16 ?_
       refine pd 9 42 1023 16 ?_
       refine pd 10 43 2047 16 ?_
       refine pd 11 44 4095 16 ?_
       refine pd 12 45 8191 16 ?_
       refine pd 13 46 16383 16 ?_
       refine pd 14 47 32767 16 ?_
       refine pu 15 48 65535 16 ?_
       refine done_ (done_of HT_.out (by kernel_rfl)) ?_
       try go_wp2
       go_meet
       case rel => exact ⟨_, (true), (by first | rfl | (simp; done) | (simp [*]; done)), H', ⟨by have := HK1.out; first | omega | exact Nat.le_refl _⟩, ⟨by (with_reducible repeat (first | refine blk_drewN ?_ _ | refine blk_drew ?_ | refine blk_alloc ?_ _)); exact BK200.out⟩, ⟨by (with_reducible repeat (first | refine blk_drewN ?_ _ | refine blk_drew ?_ | refine blk_alloc ?_ _)); exact BK201.out⟩, ⟨by repeat (first | (with_reducible first | exact HB.out | apply below_alloc | apply pw_below_drewN | apply below_drew1 | refine below_set ?_ GE200.out | refine below_set ?_ GE201.out) | exact HB.out)⟩⟩
     rw [if_pos c18] at H
     have c18b0 : ((rd l2 0) == 0) = true := beq_iff_eq.mpr c18
     have c18b1 : ((rd l2 0) != 0) = false := bne_eq_false_iff_eq.mpr c18
     clear c18
     obtain ⟨ji19, hji19⟩ : ∃ j_ : Int, (wrap64 ((l0_0.length : Int) - 1)) = j_ := ⟨_, rfl⟩
     replace H : (if 0 ≤ (ji19) then (if (ji19) < (l2.length : Int) then (spec_isMap.j1 k1 l2 (l0_0.length : Int) ((rd l2 (ji19)) != (wrap64 ((l1_0.length : Int) - 1))) l0_0 l0_1 l1_0 l1_1) else (none)) else (none)) = some r := by first | (rw [hji19] at H; exact H) | (simp only [hji19] at H ⊢; exact H)
     have hji19w : (IntKind.i64.wrap ((l0_0.length : Int) - 1)) = ji19 := (i64_w _).trans hji19
     replace H := oi H
     obtain ⟨c20, H⟩ := H
     have c20b0 : decide (0 ≤ (ji19)) = true := decide_eq_true c20
     clear c20
     replace H := oi H
     obtain ⟨c21, H⟩ := H
     have c21b0 : decide ((ji19) < (l2.length : Int)) = true := decide_eq_true c21
     clear c21
     have H' := ak H
     clear H
     as_aux_lemma =>
      try go_wp2
      replace BK200 := ak (blk_drew BK200.out)
      replace BK201 := ak (blk_drew BK201.out)
      replace HB := ak (below_drew1 HB.out)
      have p204 : 0 ≤ (0 : Int) := (by omega)
      have q204 : 0 < (l2.length : Int) := of_decide_eq_true (by first | (with_reducible assumption) | assumption)
      obtain ⟨ad204, e204, hx204_0⟩ := Kd.at_int HR2.out 0 p204 q204
      have hw204_0 := hx204_0
      (try rw [show ((0 : Int)).toNat = 0 from rfl] at hw204_0)
      (try rw [show 0 * 1 = 0 from rfl] at hw204_0)
      (try rw [Addr.add_zero'] at hw204_0)
      cases e204
      have qi204 : (0 < l2.length) = True := eq_true (by omega)
      (try rw [show ((0 : Int)).toNat = 0 from rfl] at hx204_0)
      (try rw [Addr.add_zero'] at hx204_0)
      replace hx204_0 := (HB.out.cell (World.block_lt_of_cell? w _ hx204_0)).trans hx204_0
      replace p204 := eq_true p204
      replace q204 := eq_true q204
      have p205 : 0 ≤ ((ji19) : Int) := of_decide_eq_true (by first | (with_reducible assumption) | assumption)
      have q205 : (ji19) < (l2.length : Int) := of_decide_eq_true (by first | (with_reducible assumption) | assumption)
      obtain ⟨ad205, e205, hx205_0⟩ := Kd.at_int HR2.out (ji19) p205 q205
      have hw205_0 := hx205_0
      obtain rfl : ad204 = ad205 := (by injection e205)
      replace hx205_0 := (HB.out.cell (World.block_lt_of_cell? w _ hx205_0)).trans hx205_0
      replace p205 := eq_true p205
      replace q205 := eq_true q205
      refine start_ (n := 16) (S := fun w' => w'.cell? ⟨gb201, 0, none⟩ = some (.slice A1_0 l1_0.length c1_0) ∧ w'.cell? ⟨gb201, 1, none⟩ = some (.slice A1_1 l1_1.length c1_1) ∧ w'.cell? ad204 = some (.int .i64 (rd l2 0)) ∧ w'.cell? (ad204.add ((ji19)).toNat) = some (.int .i64 (rd l2 (ji19)))) (ds := []) #[false, false, false, false, false, false, false, false, false, false, false, false, false, false, false, false] (by kernel_rfl) rfl rfl ⟨(blk_cell BK201.out 0).trans rfl, (blk_cell BK201.out 1).trans rfl, ((HB.out.cell (World.block_lt_of_cell? w _ hw204_0)).trans hw204_0), ((HB.out.cell (World.block_lt_of_cell? w _ hw205_0)).trans hw205_0)⟩ (fun hHeld => ?_); refine with_tabW spec_isMap.tab9 spec_isMap.bits9 (fun HT_ HW_ => ?_)
      generalize wr.drew = w22 at BK200 BK201 HB hx204_0 hx205_0 hHeld ⊢
      refine pu 0 33 1 16 ?_
      refine pu 1 34 3 16 ?_
      refine tk 2 35 7 16 ?_
      refine pu 3 36 15 16 ?_
      refine pu 4 37 31 16 ?_
      refine pu 5 38 63 16 ?_
      refine pu 6 39 127 16 ?_
      refine pu 7 40 255 16 ?_
      refine pu 8 41 511 16 ?_
      refine pu 10 43 1535 16 ?_
      refine tk 9 42 2047 16 ?_
      refine tk 11 44 4095 16 ?_
      refine pu 12 45 8191 16 ?_
      refine pu 13 46 16383 16 ?_
      refine pu 14 47 32767 16 ?_
      refine pu 15 48 65535 16 ?_
      refine done_ (done_of HT_.out (by kernel_rfl)) ?_
      try go_wp2
      go_meet
      case rel => exact ⟨_, (((rd l2 (ji19)) != (wrap64 ((l1_0.length : Int) - 1)))), (by first | rfl | (simp; done) | (simp only [← hji19] <;> (first | rfl | simp)) | (simp [*]; done)), H', ⟨by have := HK1.out; first | omega | exact Nat.le_refl _⟩, ⟨by (with_reducible repeat (first | refine blk_drewN ?_ _ | refine blk_drew ?_ | refine blk_alloc ?_ _)); exact BK200.out⟩, ⟨by (with_reducible repeat (first | refine blk_drewN ?_ _ | refine blk_drew ?_ | refine blk_alloc ?_ _)); exact BK201.out⟩, ⟨by repeat (first | (with_reducible first | exact HB.out | apply below_alloc | apply pw_below_drewN | apply below_drew1 | refine below_set ?_ GE200.out | refine below_set ?_ GE201.out) | exact HB.out)⟩⟩
    case rest =>
     clear HC16
     try clear c1
     try clear c2
     try clear p2
     try clear q2
     try clear hx2
     try clear qi2
     try clear c5
     try clear p6
     try clear c7
     try clear c9
     try clear c9b0
     try clear c10
     try clear c10b0
     try clear c11
     try clear c11b0
     try clear c13
     try clear c17
     try clear c17b0
     try clear c17b1
     try clear c18
     try clear c18b0
     try clear c18b1
     try clear c20
     try clear c20b0
     try clear p20
     try clear q20
     try clear hx20
     try clear qi20
     try clear c21
     try clear c21b0
     try clear hcz8_0
     try clear hcz8_1
     try clear hfz8_0
     try clear hfz8_1
     try clear hx202_0
     try clear hx204_0
     try clear hx205_0
     try clear p202
     try clear p204
     try clear p205
     try clear q202
     try clear q204
     try clear q205
     obtain ⟨kq, x48_15, rfl, HA, HJ15, BK200, BK201, HB⟩ := hcut
     cases kq with
     | zero => exact absurd HA.out (by simp [spec_isMap.j1])
     | succ kj15 =>
      have H := HA.out
      clear HA
      simp only [spec_isMap.j1] at H
      by_cases c24 : x48_15 = true
      ·subst c24
       rw [if_pos rfl] at H
       obtain rfl := Option.some.inj H
       as_aux_lemma =>
        go_wp2
        go_ret
        exact ⟨by first | rfl | (simp [errW_none, errW_some] <;> rfl) | (simp [*, errW_none, errW_some] <;> rfl), by repeat (first | (with_reducible first | exact HB.out | apply below_alloc | apply pw_below_drewN | apply below_drew1 | refine below_set ?_ GE200.out | refine below_set ?_ GE201.out) | exact HB.out)⟩
      replace c24 := Bool.eq_false_iff.mpr c24
      subst c24
      rw [if_neg (show ¬ (false = true) by decide)] at H
      have H' := ak H
      clear H
      as_aux_lemma =>
       go_wp2
       go_loopg [9] kj15 (fun kq v9 w' => ∃ (x9_3 : Int), v9 = .int .i64 x9_3 ∧ Aside0 (spec_isMap.l1 kq l2 (l0_0.length : Int) x9_3 l0_0 l0_1 l1_0 l1_1 = some r) ∧ Aside0 (kq ≤ kj15) ∧ Aside0 (w'.heap[gb200]? = some (.cells #[(.slice A0_0 l0_0.length c0_0), (.slice A0_1 l0_1.length c0_1)] 28 (0, 0))) ∧ Aside0 (w'.heap[gb201]? = some (.cells #[(.slice A1_0 l1_0.length c1_0), (.slice A1_1 l1_1.length c1_1)] 28 (0, 0))) ∧ Aside0 (Below w.heap.size w w'))
       case atStart => exact ⟨(0), (by first | rfl | (simp; done) | (simp [*]; done)), H', ⟨Nat.le_refl _⟩, ⟨by (with_reducible repeat (first | refine blk_drewN ?_ _ | refine blk_drew ?_ | refine blk_alloc ?_ _)); exact BK200.out⟩, ⟨by (with_reducible repeat (first | refine blk_drewN ?_ _ | refine blk_drew ?_ | refine blk_alloc ?_ _)); exact BK201.out⟩, ⟨by repeat (first | (with_reducible first | exact HB.out | apply below_alloc | apply pw_below_drewN | apply below_drew1 | refine below_set ?_ GE200.out | refine below_set ?_ GE201.out) | exact HB.out)⟩⟩
       case round =>
        clear H'
        try clear c1
        try clear c2
        try clear p2
        try clear q2
        try clear hx2
        try clear qi2
        try clear c5
        try clear p6
        try clear c7
        try clear c9
        try clear c9b0
        try clear c10
        try clear c10b0
        try clear c11
        try clear c11b0
        try clear c13
        try clear c17
        try clear c17b0
        try clear c17b1
        try clear c18
        try clear c18b0
        try clear c18b1
        try clear c20
        try clear c20b0
        try clear p20
        try clear q20
        try clear hx20
        try clear qi20
        try clear c21
        try clear c21b0
        try clear c24
        try clear hcz8_0
        try clear hcz8_1
        try clear hfz8_0
        try clear hfz8_1
        try clear hx202_0
        try clear hx204_0
        try clear hx205_0
        try clear p2
        try clear p20
        try clear p202
        try clear p204
        try clear p205
        try clear p6
        try clear q2
        try clear q20
        try clear q202
        try clear q204
        try clear q205
        obtain ⟨x9_3, rfl, HA, HK3, BK200, BK201, HB⟩ := hrel
        cases gk with
        | zero => exact absurd HA.out (by simp [spec_isMap.l1])
        | succ k3 =>
         have H := HA.out
         clear HA
         simp only [spec_isMap.l1] at H
         by_cases c25 : x9_3 < (l0_0.length : Int)
         rotate_left
         ·rw [if_neg c25] at H
          have c25b0 : decide (x9_3 < (l0_0.length : Int)) = false := decide_eq_false c25
          clear c25
          obtain rfl := Option.some.inj H
          as_aux_lemma =>
           go_wp2
           go_ret
           exact ⟨by first | rfl | (simp [errW_none, errW_some] <;> rfl) | (simp [*, errW_none, errW_some] <;> rfl), by repeat (first | (with_reducible first | exact HB.out | apply below_alloc | apply pw_below_drewN | apply below_drew1 | refine below_set ?_ GE200.out | refine below_set ?_ GE201.out) | exact HB.out)⟩
         rw [if_pos c25] at H
         have c25b0 : decide (x9_3 < (l0_0.length : Int)) = true := decide_eq_true c25
         clear c25
         have H' := ak H
         clear H
         as_aux_lemma =>
          go_wp2
          go_loopg [10] k3 (fun kq v10 w' => ∃ (x10_4 : Int), v10 = .int .i64 x10_4 ∧ Aside0 (spec_isMap.l2 kq l2 (l0_0.length : Int) x9_3 x10_4 l0_0 l0_1 l1_0 l1_1 = some r) ∧ Aside0 (kq ≤ k3) ∧ Aside0 (w'.heap[gb200]? = some (.cells #[(.slice A0_0 l0_0.length c0_0), (.slice A0_1 l0_1.length c0_1)] 28 (0, 0))) ∧ Aside0 (w'.heap[gb201]? = some (.cells #[(.slice A1_0 l1_0.length c1_0), (.slice A1_1 l1_1.length c1_1)] 28 (0, 0))) ∧ Aside0 (Below w.heap.size w w'))
          case atStart => exact ⟨(0), (by first | rfl | (simp; done) | (simp [*]; done)), H', ⟨Nat.le_refl _⟩, ⟨by (with_reducible repeat (first | refine blk_drewN ?_ _ | refine blk_drew ?_ | refine blk_alloc ?_ _)); exact BK200.out⟩, ⟨by (with_reducible repeat (first | refine blk_drewN ?_ _ | refine blk_drew ?_ | refine blk_alloc ?_ _)); exact BK201.out⟩, ⟨by repeat (first | (with_reducible first | exact HB.out | apply below_alloc | apply pw_below_drewN | apply below_drew1 | refine below_set ?_ GE200.out | refine below_set ?_ GE201.out) | exact HB.out)⟩⟩
          case round =>
           clear H'
           try clear c1
           try clear c2
           try clear p2
           try clear q2
           try clear hx2
           try clear qi2
           try clear c5
           try clear p6
           try clear c7
           try clear c9
           try clear c9b0
           try clear c10
           try clear c10b0
           try clear c11
           try clear c11b0
           try clear c13
           try clear c17
           try clear c17b0
           try clear c17b1
           try clear c18
           try clear c18b0
           try clear c18b1
           try clear c20
           try clear c20b0
           try clear p20
           try clear q20
           try clear hx20
           try clear qi20
           try clear c21
           try clear c21b0
           try clear c24
           try clear c25
           try clear c25b0
           try clear hcz8_0
           try clear hcz8_1
           try clear hfz8_0
           try clear hfz8_1
           try clear hx202_0
           try clear hx204_0
           try clear hx205_0
           try clear p2
           try clear p20
           try clear p202
           try clear p204
           try clear p205
           try clear p6
           try clear q2
           try clear q20
           try clear q202
           try clear q204
           try clear q205
           obtain ⟨x10_4, rfl, HA, HK4, BK200, BK201, HB⟩ := hrel
           cases gk with
           | zero => exact absurd HA.out (by simp [spec_isMap.l2])
           | succ k4 =>
            have H := HA.out
            clear HA
            simp only [spec_isMap.l2] at H
            by_cases c26 : x10_4 < (l0_0.length : Int)
            rotate_left
            ·rw [if_neg c26] at H
             have c26b0 : decide (x10_4 < (l0_0.length : Int)) = false := decide_eq_false c26
             clear c26
             have H' := ak H
             clear H
             as_aux_lemma =>
              go_wp2
              go_roundg k4
              case measure => have := HK1.out; have := HJ15.out; have := HK3.out; have := HK4.out; omega
              case rel => exact ⟨(wrap64 (x9_3 + 1)), (by first | rfl | (simp; done) | (simp [*]; done)), H', ⟨by have := HK1.out; have := HJ15.out; have := HK3.out; have := HK4.out; omega⟩, ⟨by (with_reducible repeat (first | refine blk_drewN ?_ _ | refine blk_drew ?_ | refine blk_alloc ?_ _)); exact BK200.out⟩, ⟨by (with_reducible repeat (first | refine blk_drewN ?_ _ | refine blk_drew ?_ | refine blk_alloc ?_ _)); exact BK201.out⟩, ⟨by repeat (first | (with_reducible first | exact HB.out | apply below_alloc | apply pw_below_drewN | apply below_drew1 | refine below_set ?_ GE200.out | refine below_set ?_ GE201.out) | exact HB.out)⟩⟩
            rw [if_pos c26] at H
            have c26b0 : decide (x10_4 < (l0_0.length : Int)) = true := decide_eq_true c26
            clear c26
            replace H := oi H
            obtain ⟨c27, H⟩ := H
            have c27b0 : decide (0 ≤ x9_3) = true := decide_eq_true c27
            clear c27
            replace H := oi H
            obtain ⟨c28, H⟩ := H
            have c28b0 : decide (x9_3 < (l0_1.length : Int)) = true := decide_eq_true c28
            clear c28
            replace H := oi H
            obtain ⟨c29, H⟩ := H
            have c29b0 : decide (0 ≤ x10_4) = true := decide_eq_true c29
            clear c29
            replace H := oi H
            obtain ⟨c30, H⟩ := H
            have c30b0 : decide (x10_4 < ((rd_L1 l0_1 x9_3).length : Int)) = true := decide_eq_true c30
            clear c30
            replace H := oi H
            obtain ⟨c31, H⟩ := H
            have c31b0 : decide (0 ≤ (rd (rd_L1 l0_1 x9_3) x10_4)) = true := decide_eq_true c31
            clear c31
            replace H := oi H
            obtain ⟨c32, H⟩ := H
            have c32b0 : decide ((rd (rd_L1 l0_1 x9_3) x10_4) < (l2.length : Int)) = true := decide_eq_true c32
            clear c32
            replace H := oi H
            obtain ⟨c33, H⟩ := H
            have c33b0 : decide (x9_3 < (l2.length : Int)) = true := decide_eq_true c33
            clear c33
            replace H := oi H
            obtain ⟨c34, H⟩ := H
            have c34b0 : decide (0 ≤ (rd l2 x9_3)) = true := decide_eq_true c34
            clear c34
            replace H := oi H
            obtain ⟨c35, H⟩ := H
            have c35b0 : decide ((rd l2 x9_3) < (l1_1.length : Int)) = true := decide_eq_true c35
            clear c35
            replace H := oi H
            obtain ⟨c36, H⟩ := H
            have c36b0 : decide (x10_4 < (l2.length : Int)) = true := decide_eq_true c36
            clear c36
            replace H := oi H
            obtain ⟨c37, H⟩ := H
            have c37b0 : decide (0 ≤ (rd l2 x10_4)) = true := decide_eq_true c37
            clear c37
            replace H := oi H
            obtain ⟨c38, H⟩ := H
            have c38b0 : decide ((rd l2 x10_4) < ((rd_L1 l1_1 (rd l2 x9_3)).length : Int)) = true := decide_eq_true c38
            clear c38
            by_cases c39 : (rd l2 (rd (rd_L1 l0_1 x9_3) x10_4)) = (rd (rd_L1 l1_1 (rd l2 x9_3)) (rd l2 x10_4))
            rotate_left
            ·rw [if_neg c39] at H
             have c39b0 : ((rd l2 (rd (rd_L1 l0_1 x9_3) x10_4)) == (rd (rd_L1 l1_1 (rd l2 x9_3)) (rd l2 x10_4))) = false := beq_eq_false_iff_ne.mpr c39
             have c39b1 : ((rd l2 (rd (rd_L1 l0_1 x9_3) x10_4)) != (rd (rd_L1 l1_1 (rd l2 x9_3)) (rd l2 x10_4))) = true := bne_iff_ne.mpr c39
             obtain rfl := Option.some.inj H
             as_aux_lemma =>
              try go_wp2
              replace BK200 := ak (blk_drew BK200.out)
              replace BK201 := ak (blk_drew BK201.out)
              replace HB := ak (below_drew1 HB.out)
              have p206 : 0 ≤ (x9_3 : Int) := of_decide_eq_true (by first | (with_reducible assumption) | assumption)
              have q206 : x9_3 < (l0_1.length : Int) := of_decide_eq_true (by first | (with_reducible assumption) | assumption)
              obtain ⟨ad206, A206_0, c206_0, e206, hx206_0, hl206_0, hi206_0⟩ := at_L1 HR0_1.out x9_3 p206 q206
              have hw206_0 := hx206_0
              cases e206
              replace hx206_0 := (HB.out.cell (World.block_lt_of_cell? w _ hx206_0)).trans hx206_0
              have HR206_0 := ak hi206_0
              have HC206_0 := ak hl206_0
              clear hi206_0 hl206_0
              replace p206 := eq_true p206
              replace q206 := eq_true q206
              have p207 : 0 ≤ (x10_4 : Int) := of_decide_eq_true (by first | (with_reducible assumption) | assumption)
              have q207 : x10_4 < ((rd_L1 l0_1 x9_3).length : Int) := of_decide_eq_true (by first | (with_reducible assumption) | assumption)
              obtain ⟨ad207, e207, hx207_0⟩ := Kd.at_int HR206_0.out x10_4 p207 q207
              have hw207_0 := hx207_0
              cases e207
              replace hx207_0 := (HB.out.cell (World.block_lt_of_cell? w _ hx207_0)).trans hx207_0
              replace p207 := eq_true p207
              replace q207 := eq_true q207
              have p208 : 0 ≤ ((rd (rd_L1 l0_1 x9_3) x10_4) : Int) := of_decide_eq_true (by first | (with_reducible assumption) | assumption)
              have q208 : (rd (rd_L1 l0_1 x9_3) x10_4) < (l2.length : Int) := of_decide_eq_true (by first | (with_reducible assumption) | assumption)
              obtain ⟨ad208, e208, hx208_0⟩ := Kd.at_int HR2.out (rd (rd_L1 l0_1 x9_3) x10_4) p208 q208
              have hw208_0 := hx208_0
              cases e208
              replace hx208_0 := (HB.out.cell (World.block_lt_of_cell? w _ hx208_0)).trans hx208_0
              replace p208 := eq_true p208
              replace q208 := eq_true q208
              have p209 : 0 ≤ (x9_3 : Int) := of_decide_eq_true (by first | (with_reducible assumption) | assumption)
              have q209 : x9_3 < (l2.length : Int) := of_decide_eq_true (by first | (with_reducible assumption) | assumption)
              obtain ⟨ad209, e209, hx209_0⟩ := Kd.at_int HR2.out x9_3 p209 q209
              have hw209_0 := hx209_0
              obtain rfl : ad208 = ad209 := (by injection e209)
              replace hx209_0 := (HB.out.cell (World.block_lt_of_cell? w _ hx209_0)).trans hx209_0
              replace p209 := eq_true p209
              replace q209 := eq_true q209
              have p210 : 0 ≤ ((rd l2 x9_3) : Int) := of_decide_eq_true (by first | (with_reducible assumption) | assumption)
              have q210 : (rd l2 x9_3) < (l1_1.length : Int) := of_decide_eq_true (by first | (with_reducible assumption) | assumption)
              obtain ⟨ad210, A210_0, c210_0, e210, hx210_0, hl210_0, hi210_0⟩ := at_L1 HR1_1.out (rd l2 x9_3) p210 q210
              have hw210_0 := hx210_0
              cases e210
              replace hx210_0 := (HB.out.cell (World.block_lt_of_cell? w _ hx210_0)).trans hx210_0
              have HR210_0 := ak hi210_0
              have HC210_0 := ak hl210_0
              clear hi210_0 hl210_0
              replace p210 := eq_true p210
              replace q210 := eq_true q210
              have p211 : 0 ≤ (x10_4 : Int) := of_decide_eq_true (by first | (with_reducible assumption) | assumption)
              have q211 : x10_4 < (l2.length : Int) := of_decide_eq_true (by first | (with_reducible assumption) | assumption)
              obtain ⟨ad211, e211, hx211_0⟩ := Kd.at_int HR2.out x10_4 p211 q211
              have hw211_0 := hx211_0
              obtain rfl : ad208 = ad211 := (by injection e211)
              replace hx211_0 := (HB.out.cell (World.block_lt_of_cell? w _ hx211_0)).trans hx211_0
              replace p211 := eq_true p211
              replace q211 := eq_true q211
              have p212 : 0 ≤ ((rd l2 x10_4) : Int) := of_decide_eq_true (by first | (with_reducible assumption) | assumption)
              have q212 : (rd l2 x10_4) < ((rd_L1 l1_1 (rd l2 x9_3)).length : Int) := of_decide_eq_true (by first | (with_reducible assumption) | assumption)
              obtain ⟨ad212, e212, hx212_0⟩ := Kd.at_int HR210_0.out (rd l2 x10_4) p212 q212
              have hw212_0 := hx212_0
              cases e212
              replace hx212_0 := (HB.out.cell (World.block_lt_of_cell? w _ hx212_0)).trans hx212_0
              replace p212 := eq_true p212
              replace q212 := eq_true q212
              refine start_ (n := 90) (S := fun w' => w'.cell? ⟨gb200, 0, none⟩ = some (.slice A0_0 l0_0.length c0_0) ∧ w'.cell? ⟨gb200, 1, none⟩ = some (.slice (some ad206) l0_1.length c0_1) ∧ w'.cell? ⟨gb201, 0, none⟩ = some (.slice A1_0 l1_0.length c1_0) ∧ w'.cell? ⟨gb201, 1, none⟩ = some (.slice (some ad210) l1_1.length c1_1) ∧ w'.cell? (ad206.add (x9_3).toNat) = some (.slice (some ad207) (rd_L1 l0_1 x9_3).length c206_0) ∧ w'.cell? (ad207.add (x10_4).toNat) = some (.int .i64 (rd (rd_L1 l0_1 x9_3) x10_4)) ∧ w'.cell? (ad208.add ((rd (rd_L1 l0_1 x9_3) x10_4)).toNat) = some (.int .i64 (rd l2 (rd (rd_L1 l0_1 x9_3) x10_4))) ∧ w'.cell? (ad208.add (x9_3).toNat) = some (.int .i64 (rd l2 x9_3)) ∧ w'.cell? (ad210.add ((rd l2 x9_3)).toNat) = some (.slice (some ad212) (rd_L1 l1_1 (rd l2 x9_3)).length c210_0) ∧ w'.cell? (ad208.add (x10_4).toNat) = some (.int .i64 (rd l2 x10_4)) ∧ w'.cell? (ad212.add ((rd l2 x10_4)).toNat) = some (.int .i64 (rd (rd_L1 l1_1 (rd l2 x9_3)) (rd l2 x10_4)))) (ds := []) #[false, false, false, false, false, false, false, false, false, false, false, false, false, false, false, false, false, false, false, false, false, false, false, false, false, false, false, false, false, false, false, false, false, false, false, false, false, false, false, false, false, false, false, false, false, false, false, false, false, false, false, false, false, false, false, false, false, false, false, false, false, false, false, false, false, false, false, false, false, false, false, false, false, false, false, false, false, false, false, false, false, false, false, false, false, false, false, false, false, false] (by kernel_rfl) rfl rfl ⟨(blk_cell BK200.out 0).trans rfl, (blk_cell BK200.out 1).trans rfl, (blk_cell BK201.out 0).trans rfl, (blk_cell BK201.out 1).trans rfl, ((HB.out.cell (World.block_lt_of_cell? w _ hw206_0)).trans hw206_0), ((HB.out.cell (World.block_lt_of_cell? w _ hw207_0)).trans hw207_0), ((HB.out.cell (World.block_lt_of_cell? w _ hw208_0)).trans hw208_0), ((HB.out.cell (World.block_lt_of_cell? w _ hw209_0)).trans hw209_0), ((HB.out.cell (World.block_lt_of_cell? w _ hw210_0)).trans hw210_0), ((HB.out.cell (World.block_lt_of_cell? w _ hw211_0)).trans hw211_0), ((HB.out.cell (World.block_lt_of_cell? w _ hw212_0)).trans hw212_0)⟩ (fun hHeld => ?_); refine with_tabW spec_isMap.tab17 spec_isMap.bits17 (fun HT_ HW_ => ?_)
              generalize wr.drew = w67 at BK200 BK201 HB HR206_0 HR210_0 hx206_0 hx207_0 hx208_0 hx209_0 hx210_0 hx211_0 hx212_0 hHeld ⊢
              refine pu 0 59 1 90 ?_
              refine pu 1 60 3 90 ?_
              refine pu 3 62 11 90 ?_
              refine pu 6 65 75 90 ?_
              refine pu 11 70 2123 90 ?_
              refine pu 13 72 10315 90 ?_
              refine pu 14 73 26699 90 ?_
              refine pu 15 74 59467 90 ?_
              refine pu 19 78 583755 90 ?_
              refine pu 20 79 0x18e84b 90 ?_
              refine pu 21 80 0x38e84b 90 ?_
              refine tk 2 61 0x38e84f 90 ?_
              refine pu 4 63 0x38e85f 90 ?_
              refine tk 5 64 0x38e87f 90 ?_
              refine pu 7 66 0x38e8ff 90 ?_
              refine tk 8 67 0x38e9ff 90 ?_
              refine pu 9 68 0x38ebff 90 ?_
              refine tk 10 69 0x38efff 90 ?_
              refine tk 12 71 0x38ffff 90 ?_
              refine tk 16 75 0x39ffff 90 ?_
              refine pu 17 76 0x3bffff 90 ?_
              refine tk 18 77 0x3fffff 90 ?_
              refine tk 22 81 0x7fffff 90 ?_
              refine pu 23 82 0xffffff 90 ?_
              refine tk 24 83 0x1ffffff 90 ?_
              refine pu 25 84 0x3ffffff 90 ?_
              refine pu 26 85 0x7ffffff 90 ?_
              refine pd 27 86 0xfffffff 90 ?_
              refine pd 28 87 0x1fffffff 90 ?_
              refine pd 29 88 0x3fffffff 90 ?_
              refine pd 30 89 0x7fffffff 90 ?_
              refine pd 31 90 0xffffffff 90 ?_
              refine pd 32 91 0x1ffffffff 90 ?_
              refine pd 33 92 0x3ffffffff 90 ?_
              refine pd 34 93 0x7ffffffff 90 ?_
              refine pd 35 94 0xfffffffff 90 ?_
              refine pd 36 95 0x1fffffffff 90 ?_
              refine pd 37 96 0x3fffffffff 90 ?_
              refine pd 38 97 0x7fffffffff 90 ?_
              refine pd 39 98 0xffffffffff 90 ?_
              refine pd 40 99 0x1ffffffffff 90 ?_
              refine pd 41 100 0x3ffffffffff 90 ?_
              refine pd 42 101 0x7ffffffffff 90 ?_
              refine pd 43 102 0xfffffffffff 90 ?_
              refine pd 44 103 0x1fffffffffff 90 ?_
              refine pu 45 104 0x3fffffffffff 90 ?_
              refine pu 46 105 0x7fffffffffff 90 ?_
              refine pd 47 106 0xffffffffffff 90 ?_
              refine pd 48 107 0x1ffffffffffff 90 ?_
              refine pd 49 108 0x3ffffffffffff 90 ?_
              refine pd 50 109 0x7ffffffffffff 90 ?_
              refine pd 51 110 0xfffffffffffff 90 ?_
              refine pd 52 111 0x1fffffffffffff 90 ?_
              refine pd 53 112 0x3fffffffffffff 90 ?_
              refine pd 54 113 0x7fffffffffffff 90 ?_
              refine pd 55 114 0xffffffffffffff 90 ?_
              refine pd 56 115 0x1ffffffffffffff 90 ?_
              refine pd 57 116 0x3ffffffffffffff 90 ?_
              refine pd 58 117 0x7ffffffffffffff 90 ?_
              refine pd 59 118 0xfffffffffffffff 90 ?_
              refine pd 60 119 0x1fffffffffffffff 90 ?_
              refine pd 61 120 0x3fffffffffffffff 90 ?_
              refine pd 62 121 0x7fffffffffffffff 90 ?_
              refine pd 63 122 0xffffffffffffffff 90 ?_
              refine pd 64 123 0x1ffffffffffffffff 90 ?_
              refine pd 65 124 0x3ffffffffffffffff 90 ?_
              refine pd 66 125 0x7ffffffffffffffff 90 ?_
              refine pu 67 126 0xfffffffffffffffff 90 ?_
              refine pu 68 127 0x1fffffffffffffffff 90 ?_
              refine pd 69 128 0x3fffffffffffffffff 90 ?_
              refine pd 70 129 0x7fffffffffffffffff 90 ?_
              refine pd 71 130 0xffffffffffffffffff 90 ?_
              refine pd 72 131 0x1ffffffffffffffffff 90 ?_
              refine pd 73 132 0x3ffffffffffffffffff 90 ?_
              refine pd 74 133 0x7ffffffffffffffffff 90 ?_
              refine pd 75 134 0xfffffffffffffffffff 90 ?_
              refine pd 76 135 0x1fffffffffffffffffff 90 ?_
              refine pd 77 136 0x3fffffffffffffffffff 90 ?_
              refine pd 78 137 0x7fffffffffffffffffff 90 ?_
              refine pd 79 138 0xffffffffffffffffffff 90 ?_
              refine pd 80 139 0x1ffffffffffffffffffff 90 ?_
              refine pd 81 140 0x3ffffffffffffffffffff 90 ?_
              refine pd 82 141 0x7ffffffffffffffffffff 90 ?_
              refine pd 83 142 0xfffffffffffffffffffff 90 ?_
              refine pd 84 143 0x1fffffffffffffffffffff 90 ?_
              refine pd 85 144 0x3fffffffffffffffffffff 90 ?_
              refine pd 86 145 0x7fffffffffffffffffffff 90 ?_
              refine pd 87 146 0xffffffffffffffffffffff 90 ?_
              refine pd 88 147 0x1ffffffffffffffffffffff 90 ?_
              refine pu 89 148 0x3ffffffffffffffffffffff 90 ?_
              refine done_ (done_of HT_.out (by kernel_rfl)) ?_
              try go_wp2
              go_ret
              exact ⟨by first | rfl | (simp [errW_none, errW_some] <;> rfl) | (simp [*, errW_none, errW_some] <;> rfl), by repeat (first | (with_reducible first | exact HB.out | apply below_alloc | apply pw_below_drewN | apply below_drew1 | refine below_set ?_ GE200.out | refine below_set ?_ GE201.out) | exact HB.out)⟩
            rw [if_pos c39] at H
            have c39b0 : ((rd l2 (rd (rd_L1 l0_1 x9_3) x10_4)) == (rd (rd_L1 l1_1 (rd l2 x9_3)) (rd l2 x10_4))) = true := beq_iff_eq.mpr c39
            have c39b1 : ((rd l2 (rd (rd_L1 l0_1 x9_3) x10_4)) != (rd (rd_L1 l1_1 (rd l2 x9_3)) (rd l2 x10_4))) = false := bne_eq_false_iff_eq.mpr c39
            clear c39
            replace H := bi H
            obtain ⟨t213, A400, H⟩ := H
            try dsimp only at H
            have A40 := ak A400
            clear A400
            replace H := oi H
            obtain ⟨c41, H⟩ := H
            have c41b0 : decide (0 ≤ t213) = true := decide_eq_true c41
            clear c41
            replace H := oi H
            obtain ⟨c42, H⟩ := H
            have c42b0 : decide (t213 < (l2.length : Int)) = true := decide_eq_true c42
            clear c42
            replace H := bi H
            obtain ⟨t217, A430, H⟩ := H
            try dsimp only at H
            have A43 := ak A430
            clear A430
            by_cases c44 : (rd l2 t213) = t217
            rotate_left
            ·rw [if_neg c44] at H
             have c44b0 : ((rd l2 t213) == t217) = false := beq_eq_false_iff_ne.mpr c44
             have c44b1 : ((rd l2 t213) != t217) = true := bne_iff_ne.mpr c44
             obtain rfl := Option.some.inj H
             as_aux_lemma =>
              try go_wp2
              replace BK200 := ak (blk_drew BK200.out)
              replace BK201 := ak (blk_drew BK201.out)
              replace HB := ak (below_drew1 HB.out)
              have p206 : 0 ≤ (x9_3 : Int) := of_decide_eq_true (by first | (with_reducible assumption) | assumption)
              have q206 : x9_3 < (l0_1.length : Int) := of_decide_eq_true (by first | (with_reducible assumption) | assumption)
              obtain ⟨ad206, A206_0, c206_0, e206, hx206_0, hl206_0, hi206_0⟩ := at_L1 HR0_1.out x9_3 p206 q206
              have hw206_0 := hx206_0
              cases e206
              replace hx206_0 := (HB.out.cell (World.block_lt_of_cell? w _ hx206_0)).trans hx206_0
              have HR206_0 := ak hi206_0
              have HC206_0 := ak hl206_0
              clear hi206_0 hl206_0
              replace p206 := eq_true p206
              replace q206 := eq_true q206
              have p207 : 0 ≤ (x10_4 : Int) := of_decide_eq_true (by first | (with_reducible assumption) | assumption)
              have q207 : x10_4 < ((rd_L1 l0_1 x9_3).length : Int) := of_decide_eq_true (by first | (with_reducible assumption) | assumption)
              obtain ⟨ad207, e207, hx207_0⟩ := Kd.at_int HR206_0.out x10_4 p207 q207
              have hw207_0 := hx207_0
              cases e207
              replace hx207_0 := (HB.out.cell (World.block_lt_of_cell? w _ hx207_0)).trans hx207_0
              replace p207 := eq_true p207
              replace q207 := eq_true q207
              have p208 : 0 ≤ ((rd (rd_L1 l0_1 x9_3) x10_4) : Int) := of_decide_eq_true (by first | (with_reducible assumption) | assumption)
              have q208 : (rd (rd_L1 l0_1 x9_3) x10_4) < (l2.length : Int) := of_decide_eq_true (by first | (with_reducible assumption) | assumption)
              obtain ⟨ad208, e208, hx208_0⟩ := Kd.at_int HR2.out (rd (rd_L1 l0_1 x9_3) x10_4) p208 q208
              have hw208_0 := hx208_0
              cases e208
              replace hx208_0 := (HB.out.cell (World.block_lt_of_cell? w _ hx208_0)).trans hx208_0
              replace p208 := eq_true p208
              replace q208 := eq_true q208
              have p209 : 0 ≤ (x9_3 : Int) := of_decide_eq_true (by first | (with_reducible assumption) | assumption)
              have q209 : x9_3 < (l2.length : Int) := of_decide_eq_true (by first | (with_reducible assumption) | assumption)
              obtain ⟨ad209, e209, hx209_0⟩ := Kd.at_int HR2.out x9_3 p209 q209
              have hw209_0 := hx209_0
              obtain rfl : ad208 = ad209 := (by injection e209)
              replace hx209_0 := (HB.out.cell (World.block_lt_of_cell? w _ hx209_0)).trans hx209_0
              replace p209 := eq_true p209
              replace q209 := eq_true q209
              have p210 : 0 ≤ ((rd l2 x9_3) : Int) := of_decide_eq_true (by first | (with_reducible assumption) | assumption)
              have q210 : (rd l2 x9_3) < (l1_1.length : Int) := of_decide_eq_true (by first | (with_reducible assumption) | assumption)
              obtain ⟨ad210, A210_0, c210_0, e210, hx210_0, hl210_0, hi210_0⟩ := at_L1 HR1_1.out (rd l2 x9_3) p210 q210
              have hw210_0 := hx210_0
              cases e210
              replace hx210_0 := (HB.out.cell (World.block_lt_of_cell? w _ hx210_0)).trans hx210_0
              have HR210_0 := ak hi210_0
              have HC210_0 := ak hl210_0
              clear hi210_0 hl210_0
              replace p210 := eq_true p210
              replace q210 := eq_true q210
              have p211 : 0 ≤ (x10_4 : Int) := of_decide_eq_true (by first | (with_reducible assumption) | assumption)
              have q211 : x10_4 < (l2.length : Int) := of_decide_eq_true (by first | (with_reducible assumption) | assumption)
              obtain ⟨ad211, e211, hx211_0⟩ := Kd.at_int HR2.out x10_4 p211 q211
              have hw211_0 := hx211_0
              obtain rfl : ad208 = ad211 := (by injection e211)
              replace hx211_0 := (HB.out.cell (World.block_lt_of_cell? w _ hx211_0)).trans hx211_0
              replace p211 := eq_true p211
              replace q211 := eq_true q211
              have p212 : 0 ≤ ((rd l2 x10_4) : Int) := of_decide_eq_true (by first | (with_reducible assumption) | assumption)
              have q212 : (rd l2 x10_4) < ((rd_L1 l1_1 (rd l2 x9_3)).length : Int) := of_decide_eq_true (by first | (with_reducible assumption) | assumption)
              obtain ⟨ad212, e212, hx212_0⟩ := Kd.at_int HR210_0.out (rd l2 x10_4) p212 q212
              have hw212_0 := hx212_0
              cases e212
              replace hx212_0 := (HB.out.cell (World.block_lt_of_cell? w _ hx212_0)).trans hx212_0
              replace p212 := eq_true p212
              replace q212 := eq_true q212
              have p215 : 0 ≤ (x9_3 : Int) := of_decide_eq_true (by first | (with_reducible assumption) | assumption)
              have q215 : x9_3 < (l2.length : Int) := of_decide_eq_true (by first | (with_reducible assumption) | assumption)
              obtain ⟨ad215, e215, hx215_0⟩ := Kd.at_int HR2.out x9_3 p215 q215
              have hw215_0 := hx215_0
              obtain rfl : ad208 = ad215 := (by injection e215)
              replace hx215_0 := (HB.out.cell (World.block_lt_of_cell? w _ hx215_0)).trans hx215_0
              replace p215 := eq_true p215
              replace q215 := eq_true q215
              have p216 : 0 ≤ (x10_4 : Int) := of_decide_eq_true (by first | (with_reducible assumption) | assumption)
              have q216 : x10_4 < (l2.length : Int) := of_decide_eq_true (by first | (with_reducible assumption) | assumption)
              obtain ⟨ad216, e216, hx216_0⟩ := Kd.at_int HR2.out x10_4 p216 q216
              have hw216_0 := hx216_0
              obtain rfl : ad208 = ad216 := (by injection e216)
              replace hx216_0 := (HB.out.cell (World.block_lt_of_cell? w _ hx216_0)).trans hx216_0
              replace p216 := eq_true p216
              replace q216 := eq_true q216
              have p214 : 0 ≤ (t213 : Int) := of_decide_eq_true (by first | (with_reducible assumption) | assumption)
              have q214 : t213 < (l2.length : Int) := of_decide_eq_true (by first | (with_reducible assumption) | assumption)
              obtain ⟨ad214, e214, hx214_0⟩ := Kd.at_int HR2.out t213 p214 q214
              have hw214_0 := hx214_0
              obtain rfl : ad208 = ad214 := (by injection e214)
              replace hx214_0 := (HB.out.cell (World.block_lt_of_cell? w _ hx214_0)).trans hx214_0
              replace p214 := eq_true p214
              replace q214 := eq_true q214
              refine start_ (n := 90) (S := fun w' => w'.cell? ⟨gb200, 0, none⟩ = some (.slice A0_0 l0_0.length c0_0) ∧ w'.cell? ⟨gb200, 1, none⟩ = some (.slice (some ad206) l0_1.length c0_1) ∧ w'.cell? ⟨gb201, 0, none⟩ = some (.slice A1_0 l1_0.length c1_0) ∧ w'.cell? ⟨gb201, 1, none⟩ = some (.slice (some ad210) l1_1.length c1_1) ∧ w'.cell? (ad206.add (x9_3).toNat) = some (.slice (some ad207) (rd_L1 l0_1 x9_3).length c206_0) ∧ w'.cell? (ad207.add (x10_4).toNat) = some (.int .i64 (rd (rd_L1 l0_1 x9_3) x10_4)) ∧ w'.cell? (ad208.add ((rd (rd_L1 l0_1 x9_3) x10_4)).toNat) = some (.int .i64 (rd l2 (rd (rd_L1 l0_1 x9_3) x10_4))) ∧ w'.cell? (ad208.add (x9_3).toNat) = some (.int .i64 (rd l2 x9_3)) ∧ w'.cell? (ad210.add ((rd l2 x9_3)).toNat) = some (.slice (some ad212) (rd_L1 l1_1 (rd l2 x9_3)).length c210_0) ∧ w'.cell? (ad208.add (x10_4).toNat) = some (.int .i64 (rd l2 x10_4)) ∧ w'.cell? (ad212.add ((rd l2 x10_4)).toNat) = some (.int .i64 (rd (rd_L1 l1_1 (rd l2 x9_3)) (rd l2 x10_4))) ∧ w'.cell? (ad208.add (x9_3).toNat) = some (.int .i64 (rd l2 x9_3)) ∧ w'.cell? (ad208.add (x10_4).toNat) = some (.int .i64 (rd l2 x10_4)) ∧ w'.cell? (ad208.add (t213).toNat) = some (.int .i64 (rd l2 t213))) (ds := []) #[false, false, false, false, false, false, false, false, false, false, false, false, false, false, false, false, false, false, false, false, false, false, false, false, false, false, false, false, false, false, false, false, false, false, false, false, false, false, false, false, false, false, false, false, false, false, false, false, false, false, false, false, false, false, false, false, false, false, false, false, false, false, false, false, false, false, false, false, false, false, false, false, false, false, false, false, false, false, false, false, false, false, false, false, false, false, false, false, false, false] (by kernel_rfl) rfl rfl ⟨(blk_cell BK200.out 0).trans rfl, (blk_cell BK200.out 1).trans rfl, (blk_cell BK201.out 0).trans rfl, (blk_cell BK201.out 1).trans rfl, ((HB.out.cell (World.block_lt_of_cell? w _ hw206_0)).trans hw206_0), ((HB.out.cell (World.block_lt_of_cell? w _ hw207_0)).trans hw207_0), ((HB.out.cell (World.block_lt_of_cell? w _ hw208_0)).trans hw208_0), ((HB.out.cell (World.block_lt_of_cell? w _ hw209_0)).trans hw209_0), ((HB.out.cell (World.block_lt_of_cell? w _ hw210_0)).trans hw210_0), ((HB.out.cell (World.block_lt_of_cell? w _ hw211_0)).trans hw211_0), ((HB.out.cell (World.block_lt_of_cell? w _ hw212_0)).trans hw212_0), ((HB.out.cell (World.block_lt_of_cell? w _ hw215_0)).trans hw215_0), ((HB.out.cell (World.block_lt_of_cell? w _ hw216_0)).trans hw216_0), ((HB.out.cell (World.block_lt_of_cell? w _ hw214_0)).trans hw214_0)⟩ (fun hHeld => ?_); refine with_tabW spec_isMap.tab17 spec_isMap.bits17 (fun HT_ HW_ => ?_)
              generalize wr.drew = w64 at BK200 BK201 HB HR206_0 HR210_0 hx206_0 hx207_0 hx208_0 hx209_0 hx210_0 hx211_0 hx212_0 hx214_0 hx215_0 hx216_0 hHeld ⊢
              refine pu 0 59 1 90 ?_
              refine pu 1 60 3 90 ?_
              refine pu 3 62 11 90 ?_
              refine pu 6 65 75 90 ?_
              refine pu 11 70 2123 90 ?_
              refine pu 13 72 10315 90 ?_
              refine pu 14 73 26699 90 ?_
              refine pu 15 74 59467 90 ?_
              refine pu 19 78 583755 90 ?_
              refine pu 20 79 0x18e84b 90 ?_
              refine pu 21 80 0x38e84b 90 ?_
              refine tk 2 61 0x38e84f 90 ?_
              refine pu 4 63 0x38e85f 90 ?_
              refine tk 5 64 0x38e87f 90 ?_
              refine pu 7 66 0x38e8ff 90 ?_
              refine tk 8 67 0x38e9ff 90 ?_
              refine pu 9 68 0x38ebff 90 ?_
              refine tk 10 69 0x38efff 90 ?_
              refine tk 12 71 0x38ffff 90 ?_
              refine tk 16 75 0x39ffff 90 ?_
              refine pu 17 76 0x3bffff 90 ?_
              refine tk 18 77 0x3fffff 90 ?_
              refine tk 22 81 0x7fffff 90 ?_
              refine pu 23 82 0xffffff 90 ?_
              refine tk 24 83 0x1ffffff 90 ?_
              refine pu 25 84 0x3ffffff 90 ?_
              refine pu 26 85 0x7ffffff 90 ?_
              refine pu 27 86 0xfffffff 90 ?_
              refine pu 29 88 0x2fffffff 90 ?_
              refine pu 30 89 0x6fffffff 90 ?_
              refine pu 35 94 0x86fffffff 90 ?_
              refine pu 36 95 0x186fffffff 90 ?_
              refine pu 37 96 0x386fffffff 90 ?_
              refine pu 39 98 0xb86fffffff 90 ?_
              refine pu 40 99 0x1b86fffffff 90 ?_
              refine pu 41 100 0x3b86fffffff 90 ?_
              refine tk 28 87 0x3b87fffffff 90 ?_
              refine tk 34 93 0x3bc7fffffff 90 ?_
              refine tk 38 97 0x3fc7fffffff 90 ?_
              refine tk 42 101 0x7fc7fffffff 90 ?_
              refine one_ (i := 31) (N := some 90) #[true, true, true, true, true, true, true, true, true, true, true, true, true, true, true, true, true, true, true, true, true, true, true, true, true, true, true, true, true, true, true, true, false, false, true, true, true, true, true, true, true, true, true, false, false, false, false, false, false, false, false, false, false, false, false, false, false, false, false, false, false, false, false, false, false, false, false, false, false, false, false, false, false, false, false, false, false, false, false, false, false, false, false, false, false, false, false, false, false, false] rfl rfl (one_of HT_.out (by kernel_rfl)) (by decide) (fun K hK => ?_)
              refine goes_ Try.func68 (by kernel_rfl) rfl #[.agg #[.slice A0_0 l0_0.length c0_0, .slice (some ad206) l0_1.length c0_1], .int .i64 x9_3, .int .i64 x10_4] (by rfl) rfl rfl (by (try simp only [List.map_toArray, List.map_cons, List.map_nil]); first | done | rfl | (simp only [List.length_drop, List.length_take]; rfl)) ?_
              with_reducible refine (spec_imply.calls k4 _ _ l0_0 _ _ l0_1 x9_3 x10_4 t213 _ ?side1 ?side2 ?side3 ?side4 A40.out).mono ?_
              (case side1 => exact kC (Kd.C_below HR0_0.out HB.out))
              (case side2 => exact HC0_0.out)
              (case side3 => exact kC (Kd.C_below HR0_1.out HB.out))
              (case side4 => exact HC0_1.out)
              rintro e w65 ⟨rfl, hb⟩
              refine ⟨_, rfl, ?_⟩
              replace BK200 := ak (blk_below (kK BK200.out) hb)
              replace BK201 := ak (blk_below (kK BK201.out) hb)
              replace HB := ak (below_step (bB HB.out) hb)
              (try clear hb)
              (try clear hb2)
              (try clear hk)
              (try clear hi)
              refine hK.out _ _ ⟨(blk_cell BK200.out 0).trans rfl, (blk_cell BK200.out 1).trans rfl, (blk_cell BK201.out 0).trans rfl, (blk_cell BK201.out 1).trans rfl, ((HB.out.cell (World.block_lt_of_cell? w _ hw206_0)).trans hw206_0), ((HB.out.cell (World.block_lt_of_cell? w _ hw207_0)).trans hw207_0), ((HB.out.cell (World.block_lt_of_cell? w _ hw208_0)).trans hw208_0), ((HB.out.cell (World.block_lt_of_cell? w _ hw209_0)).trans hw209_0), ((HB.out.cell (World.block_lt_of_cell? w _ hw210_0)).trans hw210_0), ((HB.out.cell (World.block_lt_of_cell? w _ hw211_0)).trans hw211_0), ((HB.out.cell (World.block_lt_of_cell? w _ hw212_0)).trans hw212_0), ((HB.out.cell (World.block_lt_of_cell? w _ hw215_0)).trans hw215_0), ((HB.out.cell (World.block_lt_of_cell? w _ hw216_0)).trans hw216_0), ((HB.out.cell (World.block_lt_of_cell? w _ hw214_0)).trans hw214_0)⟩ (fun hHeld => ?_)
              clear hK K
              refine norm_ (a' := ?_) ?_ ?_
              rotate_left
              ·show Act.put _ (some 90) _ = _
               simp only [Act.put, List.setIfInBounds_toArray, List.set_cons_zero, List.set_cons_succ, i64_w, i32_w]
               rfl
              refine pu 32 91 0x7fdffffffff 90 ?_
              refine tk 33 92 0x7ffffffffff 90 ?_
              refine one_ (i := 43) (N := some 102) #[true, true, true, true, true, true, true, true, true, true, true, true, true, true, true, true, true, true, true, true, true, true, true, true, true, true, true, true, true, true, true, true, true, true, true, true, true, true, true, true, true, true, true, true, false, false, false, false, false, false, false, false, false, false, false, false, false, false, false, false, false, false, false, false, false, false, false, false, false, false, false, false, false, false, false, false, false, false, false, false, false, false, false, false, false, false, false, false, false, false] rfl rfl (one_of HT_.out (by kernel_rfl)) (by decide) (fun K hK => ?_)
              refine goes_ Try.func68 (by kernel_rfl) rfl #[.agg #[.slice A1_0 l1_0.length c1_0, .slice (some ad210) l1_1.length c1_1], .int .i64 (rd l2 x9_3), .int .i64 (rd l2 x10_4)] (by rfl) rfl rfl (by (try simp only [List.map_toArray, List.map_cons, List.map_nil]); first | done | rfl | (simp only [List.length_drop, List.length_take]; rfl)) ?_
              with_reducible refine (spec_imply.calls k4 _ _ l1_0 _ _ l1_1 (rd l2 x9_3) (rd l2 x10_4) t217 _ ?side1 ?side2 ?side3 ?side4 A43.out).mono ?_
              (case side1 => exact kC (Kd.C_below HR1_0.out HB.out))
              (case side2 => exact HC1_0.out)
              (case side3 => exact kC (Kd.C_below HR1_1.out HB.out))
              (case side4 => exact HC1_1.out)
              rintro e w66 ⟨rfl, hb⟩
              refine ⟨_, rfl, ?_⟩
              replace BK200 := ak (blk_below (kK BK200.out) hb)
              replace BK201 := ak (blk_below (kK BK201.out) hb)
              replace HB := ak (below_step (bB HB.out) hb)
              (try clear hb)
              (try clear hb2)
              (try clear hk)
              (try clear hi)
              refine hK.out _ _ ⟨(blk_cell BK200.out 0).trans rfl, (blk_cell BK200.out 1).trans rfl, (blk_cell BK201.out 0).trans rfl, (blk_cell BK201.out 1).trans rfl, ((HB.out.cell (World.block_lt_of_cell? w _ hw206_0)).trans hw206_0), ((HB.out.cell (World.block_lt_of_cell? w _ hw207_0)).trans hw207_0), ((HB.out.cell (World.block_lt_of_cell? w _ hw208_0)).trans hw208_0), ((HB.out.cell (World.block_lt_of_cell? w _ hw209_0)).trans hw209_0), ((HB.out.cell (World.block_lt_of_cell? w _ hw210_0)).trans hw210_0), ((HB.out.cell (World.block_lt_of_cell? w _ hw211_0)).trans hw211_0), ((HB.out.cell (World.block_lt_of_cell? w _ hw212_0)).trans hw212_0), ((HB.out.cell (World.block_lt_of_cell? w _ hw215_0)).trans hw215_0), ((HB.out.cell (World.block_lt_of_cell? w _ hw216_0)).trans hw216_0), ((HB.out.cell (World.block_lt_of_cell? w _ hw214_0)).trans hw214_0)⟩ (fun hHeld => ?_)
              clear hK K
              refine norm_ (a' := ?_) ?_ ?_
              rotate_left
              ·show Act.put _ (some 102) _ = _
               simp only [Act.put, List.setIfInBounds_toArray, List.set_cons_zero, List.set_cons_succ, i64_w, i32_w]
               rfl
              refine pu 44 103 0x1fffffffffff 90 ?_
              refine pu 45 104 0x3fffffffffff 90 ?_
              refine pu 46 105 0x7fffffffffff 90 ?_
              refine pd 47 106 0xffffffffffff 90 ?_
              refine pd 48 107 0x1ffffffffffff 90 ?_
              refine pd 49 108 0x3ffffffffffff 90 ?_
              refine pd 50 109 0x7ffffffffffff 90 ?_
              refine pd 51 110 0xfffffffffffff 90 ?_
              refine pd 52 111 0x1fffffffffffff 90 ?_
              refine pd 53 112 0x3fffffffffffff 90 ?_
              refine pd 54 113 0x7fffffffffffff 90 ?_
              refine pd 55 114 0xffffffffffffff 90 ?_
              refine pd 56 115 0x1ffffffffffffff 90 ?_
              refine pd 57 116 0x3ffffffffffffff 90 ?_
              refine pd 58 117 0x7ffffffffffffff 90 ?_
              refine pd 59 118 0xfffffffffffffff 90 ?_
              refine pd 60 119 0x1fffffffffffffff 90 ?_
              refine pd 61 120 0x3fffffffffffffff 90 ?_
              refine pd 62 121 0x7fffffffffffffff 90 ?_
              refine pd 63 122 0xffffffffffffffff 90 ?_
              refine pd 64 123 0x1ffffffffffffffff 90 ?_
              refine pd 65 124 0x3ffffffffffffffff 90 ?_
              refine pd 66 125 0x7ffffffffffffffff 90 ?_
              refine pu 67 126 0xfffffffffffffffff 90 ?_
              refine pu 68 127 0x1fffffffffffffffff 90 ?_
              refine pd 69 128 0x3fffffffffffffffff 90 ?_
              refine pd 70 129 0x7fffffffffffffffff 90 ?_
              refine pd 71 130 0xffffffffffffffffff 90 ?_
              refine pd 72 131 0x1ffffffffffffffffff 90 ?_
              refine pd 73 132 0x3ffffffffffffffffff 90 ?_
              refine pd 74 133 0x7ffffffffffffffffff 90 ?_
              refine pd 75 134 0xfffffffffffffffffff 90 ?_
              refine pd 76 135 0x1fffffffffffffffffff 90 ?_
              refine pd 77 136 0x3fffffffffffffffffff 90 ?_
              refine pd 78 137 0x7fffffffffffffffffff 90 ?_
              refine pd 79 138 0xffffffffffffffffffff 90 ?_
              refine pd 80 139 0x1ffffffffffffffffffff 90 ?_
              refine pd 81 140 0x3ffffffffffffffffffff 90 ?_
              refine pd 82 141 0x7ffffffffffffffffffff 90 ?_
              refine pd 83 142 0xfffffffffffffffffffff 90 ?_
              refine pd 84 143 0x1fffffffffffffffffffff 90 ?_
              refine pd 85 144 0x3fffffffffffffffffffff 90 ?_
              refine pd 86 145 0x7fffffffffffffffffffff 90 ?_
              refine pd 87 146 0xffffffffffffffffffffff 90 ?_
              refine pd 88 147 0x1ffffffffffffffffffffff 90 ?_
              refine pu 89 148 0x3ffffffffffffffffffffff 90 ?_
              refine done_ (done_of HT_.out (by kernel_rfl)) ?_
              try go_wp2
              go_ret
              exact ⟨by first | rfl | (simp [errW_none, errW_some] <;> rfl) | (simp [*, errW_none, errW_some] <;> rfl), by repeat (first | (with_reducible first | exact HB.out | apply below_alloc | apply pw_below_drewN | apply below_drew1 | refine below_set ?_ GE200.out | refine below_set ?_ GE201.out) | exact HB.out)⟩
            rw [if_pos c44] at H
            have c44b0 : ((rd l2 t213) == t217) = true := beq_iff_eq.mpr c44
            have c44b1 : ((rd l2 t213) != t217) = false := bne_eq_false_iff_eq.mpr c44
            clear c44
            replace H := bi H
            obtain ⟨t218, A450, H⟩ := H
            try dsimp only at H
            have A45 := ak A450
            clear A450
            replace H := oi H
            obtain ⟨c46, H⟩ := H
            have c46b0 : decide (0 ≤ t218) = true := decide_eq_true c46
            clear c46
            replace H := oi H
            obtain ⟨c47, H⟩ := H
            have c47b0 : decide (t218 < (l2.length : Int)) = true := decide_eq_true c47
            clear c47
            replace H := bi H
            obtain ⟨t222, A480, H⟩ := H
            try dsimp only at H
            have A48 := ak A480
            clear A480
            by_cases c49 : (rd l2 t218) = t222
            rotate_left
            ·rw [if_neg c49] at H
             have c49b0 : ((rd l2 t218) == t222) = false := beq_eq_false_iff_ne.mpr c49
             have c49b1 : ((rd l2 t218) != t222) = true := bne_iff_ne.mpr c49
             obtain rfl := Option.some.inj H
             as_aux_lemma =>
              try go_wp2
              replace BK200 := ak (blk_drew BK200.out)
              replace BK201 := ak (blk_drew BK201.out)
              replace HB := ak (below_drew1 HB.out)
              have p206 : 0 ≤ (x9_3 : Int) := of_decide_eq_true (by first | (with_reducible assumption) | assumption)
              have q206 : x9_3 < (l0_1.length : Int) := of_decide_eq_true (by first | (with_reducible assumption) | assumption)
              obtain ⟨ad206, A206_0, c206_0, e206, hx206_0, hl206_0, hi206_0⟩ := at_L1 HR0_1.out x9_3 p206 q206
              have hw206_0 := hx206_0
              cases e206
              replace hx206_0 := (HB.out.cell (World.block_lt_of_cell? w _ hx206_0)).trans hx206_0
              have HR206_0 := ak hi206_0
              have HC206_0 := ak hl206_0
              clear hi206_0 hl206_0
              replace p206 := eq_true p206
              replace q206 := eq_true q206
              have p207 : 0 ≤ (x10_4 : Int) := of_decide_eq_true (by first | (with_reducible assumption) | assumption)
              have q207 : x10_4 < ((rd_L1 l0_1 x9_3).length : Int) := of_decide_eq_true (by first | (with_reducible assumption) | assumption)
              obtain ⟨ad207, e207, hx207_0⟩ := Kd.at_int HR206_0.out x10_4 p207 q207
              have hw207_0 := hx207_0
              cases e207
              replace hx207_0 := (HB.out.cell (World.block_lt_of_cell? w _ hx207_0)).trans hx207_0
              replace p207 := eq_true p207
              replace q207 := eq_true q207
              have p208 : 0 ≤ ((rd (rd_L1 l0_1 x9_3) x10_4) : Int) := of_decide_eq_true (by first | (with_reducible assumption) | assumption)
              have q208 : (rd (rd_L1 l0_1 x9_3) x10_4) < (l2.length : Int) := of_decide_eq_true (by first | (with_reducible assumption) | assumption)
              obtain ⟨ad208, e208, hx208_0⟩ := Kd.at_int HR2.out (rd (rd_L1 l0_1 x9_3) x10_4) p208 q208
              have hw208_0 := hx208_0
              cases e208
              replace hx208_0 := (HB.out.cell (World.block_lt_of_cell? w _ hx208_0)).trans hx208_0
              replace p208 := eq_true p208
              replace q208 := eq_true q208
              have p209 : 0 ≤ (x9_3 : Int) := of_decide_eq_true (by first | (with_reducible assumption) | assumption)
              have q209 : x9_3 < (l2.length : Int) := of_decide_eq_true (by first | (with_reducible assumption) | assumption)
              obtain ⟨ad209, e209, hx209_0⟩ := Kd.at_int HR2.out x9_3 p209 q209
              have hw209_0 := hx209_0
              obtain rfl : ad208 = ad209 := (by injection e209)
              replace hx209_0 := (HB.out.cell (World.block_lt_of_cell? w _ hx209_0)).trans hx209_0
              replace p209 := eq_true p209
              replace q209 := eq_true q209
              have p210 : 0 ≤ ((rd l2 x9_3) : Int) := of_decide_eq_true (by first | (with_reducible assumption) | assumption)
              have q210 : (rd l2 x9_3) < (l1_1.length : Int) := of_decide_eq_true (by first | (with_reducible assumption) | assumption)
              obtain ⟨ad210, A210_0, c210_0, e210, hx210_0, hl210_0, hi210_0⟩ := at_L1 HR1_1.out (rd l2 x9_3) p210 q210
              have hw210_0 := hx210_0
              cases e210
              replace hx210_0 := (HB.out.cell (World.block_lt_of_cell? w _ hx210_0)).trans hx210_0
              have HR210_0 := ak hi210_0
              have HC210_0 := ak hl210_0
              clear hi210_0 hl210_0
              replace p210 := eq_true p210
              replace q210 := eq_true q210
              have p211 : 0 ≤ (x10_4 : Int) := of_decide_eq_true (by first | (with_reducible assumption) | assumption)
              have q211 : x10_4 < (l2.length : Int) := of_decide_eq_true (by first | (with_reducible assumption) | assumption)
              obtain ⟨ad211, e211, hx211_0⟩ := Kd.at_int HR2.out x10_4 p211 q211
              have hw211_0 := hx211_0
              obtain rfl : ad208 = ad211 := (by injection e211)
              replace hx211_0 := (HB.out.cell (World.block_lt_of_cell? w _ hx211_0)).trans hx211_0
              replace p211 := eq_true p211
              replace q211 := eq_true q211
              have p212 : 0 ≤ ((rd l2 x10_4) : Int) := of_decide_eq_true (by first | (with_reducible assumption) | assumption)
              have q212 : (rd l2 x10_4) < ((rd_L1 l1_1 (rd l2 x9_3)).length : Int) := of_decide_eq_true (by first | (with_reducible assumption) | assumption)
              obtain ⟨ad212, e212, hx212_0⟩ := Kd.at_int HR210_0.out (rd l2 x10_4) p212 q212
              have hw212_0 := hx212_0
              cases e212
              replace hx212_0 := (HB.out.cell (World.block_lt_of_cell? w _ hx212_0)).trans hx212_0
              replace p212 := eq_true p212
              replace q212 := eq_true q212
              have p215 : 0 ≤ (x9_3 : Int) := of_decide_eq_true (by first | (with_reducible assumption) | assumption)
              have q215 : x9_3 < (l2.length : Int) := of_decide_eq_true (by first | (with_reducible assumption) | assumption)
              obtain ⟨ad215, e215, hx215_0⟩ := Kd.at_int HR2.out x9_3 p215 q215
              have hw215_0 := hx215_0
              obtain rfl : ad208 = ad215 := (by injection e215)
              replace hx215_0 := (HB.out.cell (World.block_lt_of_cell? w _ hx215_0)).trans hx215_0
              replace p215 := eq_true p215
              replace q215 := eq_true q215
              have p216 : 0 ≤ (x10_4 : Int) := of_decide_eq_true (by first | (with_reducible assumption) | assumption)
              have q216 : x10_4 < (l2.length : Int) := of_decide_eq_true (by first | (with_reducible assumption) | assumption)
              obtain ⟨ad216, e216, hx216_0⟩ := Kd.at_int HR2.out x10_4 p216 q216
              have hw216_0 := hx216_0
              obtain rfl : ad208 = ad216 := (by injection e216)
              replace hx216_0 := (HB.out.cell (World.block_lt_of_cell? w _ hx216_0)).trans hx216_0
              replace p216 := eq_true p216
              replace q216 := eq_true q216
              have p214 : 0 ≤ (t213 : Int) := of_decide_eq_true (by first | (with_reducible assumption) | assumption)
              have q214 : t213 < (l2.length : Int) := of_decide_eq_true (by first | (with_reducible assumption) | assumption)
              obtain ⟨ad214, e214, hx214_0⟩ := Kd.at_int HR2.out t213 p214 q214
              have hw214_0 := hx214_0
              obtain rfl : ad208 = ad214 := (by injection e214)
              replace hx214_0 := (HB.out.cell (World.block_lt_of_cell? w _ hx214_0)).trans hx214_0
              replace p214 := eq_true p214
              replace q214 := eq_true q214
              have p219 : 0 ≤ (t218 : Int) := of_decide_eq_true (by first | (with_reducible assumption) | assumption)
              have q219 : t218 < (l2.length : Int) := of_decide_eq_true (by first | (with_reducible assumption) | assumption)
              obtain ⟨ad219, e219, hx219_0⟩ := Kd.at_int HR2.out t218 p219 q219
              have hw219_0 := hx219_0
              obtain rfl : ad208 = ad219 := (by injection e219)
              replace hx219_0 := (HB.out.cell (World.block_lt_of_cell? w _ hx219_0)).trans hx219_0
              replace p219 := eq_true p219
              replace q219 := eq_true q219
              have p220 : 0 ≤ (x9_3 : Int) := of_decide_eq_true (by first | (with_reducible assumption) | assumption)
              have q220 : x9_3 < (l2.length : Int) := of_decide_eq_true (by first | (with_reducible assumption) | assumption)
              obtain ⟨ad220, e220, hx220_0⟩ := Kd.at_int HR2.out x9_3 p220 q220
              have hw220_0 := hx220_0
              obtain rfl : ad208 = ad220 := (by injection e220)
              replace hx220_0 := (HB.out.cell (World.block_lt_of_cell? w _ hx220_0)).trans hx220_0
              replace p220 := eq_true p220
              replace q220 := eq_true q220
              have p221 : 0 ≤ (x10_4 : Int) := of_decide_eq_true (by first | (with_reducible assumption) | assumption)
              have q221 : x10_4 < (l2.length : Int) := of_decide_eq_true (by first | (with_reducible assumption) | assumption)
              obtain ⟨ad221, e221, hx221_0⟩ := Kd.at_int HR2.out x10_4 p221 q221
              have hw221_0 := hx221_0
              obtain rfl : ad208 = ad221 := (by injection e221)
              replace hx221_0 := (HB.out.cell (World.block_lt_of_cell? w _ hx221_0)).trans hx221_0
              replace p221 := eq_true p221
              replace q221 := eq_true q221
              refine start_ (n := 90) (S := fun w' => w'.cell? ⟨gb200, 0, none⟩ = some (.slice A0_0 l0_0.length c0_0) ∧ w'.cell? ⟨gb200, 1, none⟩ = some (.slice (some ad206) l0_1.length c0_1) ∧ w'.cell? ⟨gb201, 0, none⟩ = some (.slice A1_0 l1_0.length c1_0) ∧ w'.cell? ⟨gb201, 1, none⟩ = some (.slice (some ad210) l1_1.length c1_1) ∧ w'.cell? (ad206.add (x9_3).toNat) = some (.slice (some ad207) (rd_L1 l0_1 x9_3).length c206_0) ∧ w'.cell? (ad207.add (x10_4).toNat) = some (.int .i64 (rd (rd_L1 l0_1 x9_3) x10_4)) ∧ w'.cell? (ad208.add ((rd (rd_L1 l0_1 x9_3) x10_4)).toNat) = some (.int .i64 (rd l2 (rd (rd_L1 l0_1 x9_3) x10_4))) ∧ w'.cell? (ad208.add (x9_3).toNat) = some (.int .i64 (rd l2 x9_3)) ∧ w'.cell? (ad210.add ((rd l2 x9_3)).toNat) = some (.slice (some ad212) (rd_L1 l1_1 (rd l2 x9_3)).length c210_0) ∧ w'.cell? (ad208.add (x10_4).toNat) = some (.int .i64 (rd l2 x10_4)) ∧ w'.cell? (ad212.add ((rd l2 x10_4)).toNat) = some (.int .i64 (rd (rd_L1 l1_1 (rd l2 x9_3)) (rd l2 x10_4))) ∧ w'.cell? (ad208.add (x9_3).toNat) = some (.int .i64 (rd l2 x9_3)) ∧ w'.cell? (ad208.add (x10_4).toNat) = some (.int .i64 (rd l2 x10_4)) ∧ w'.cell? (ad208.add (t213).toNat) = some (.int .i64 (rd l2 t213)) ∧ w'.cell? (ad208.add (t218).toNat) = some (.int .i64 (rd l2 t218)) ∧ w'.cell? (ad208.add (x9_3).toNat) = some (.int .i64 (rd l2 x9_3)) ∧ w'.cell? (ad208.add (x10_4).toNat) = some (.int .i64 (rd l2 x10_4))) (ds := []) #[false, false, false, false, false, false, false, false, false, false, false, false, false, false, false, false, false, false, false, false, false, false, false, false, false, false, false, false, false, false, false, false, false, false, false, false, false, false, false, false, false, false, false, false, false, false, false, false, false, false, false, false, false, false, false, false, false, false, false, false, false, false, false, false, false, false, false, false, false, false, false, false, false, false, false, false, false, false, false, false, false, false, false, false, false, false, false, false, false, false] (by kernel_rfl) rfl rfl ⟨(blk_cell BK200.out 0).trans rfl, (blk_cell BK200.out 1).trans rfl, (blk_cell BK201.out 0).trans rfl, (blk_cell BK201.out 1).trans rfl, ((HB.out.cell (World.block_lt_of_cell? w _ hw206_0)).trans hw206_0), ((HB.out.cell (World.block_lt_of_cell? w _ hw207_0)).trans hw207_0), ((HB.out.cell (World.block_lt_of_cell? w _ hw208_0)).trans hw208_0), ((HB.out.cell (World.block_lt_of_cell? w _ hw209_0)).trans hw209_0), ((HB.out.cell (World.block_lt_of_cell? w _ hw210_0)).trans hw210_0), ((HB.out.cell (World.block_lt_of_cell? w _ hw211_0)).trans hw211_0), ((HB.out.cell (World.block_lt_of_cell? w _ hw212_0)).trans hw212_0), ((HB.out.cell (World.block_lt_of_cell? w _ hw215_0)).trans hw215_0), ((HB.out.cell (World.block_lt_of_cell? w _ hw216_0)).trans hw216_0), ((HB.out.cell (World.block_lt_of_cell? w _ hw214_0)).trans hw214_0), ((HB.out.cell (World.block_lt_of_cell? w _ hw219_0)).trans hw219_0), ((HB.out.cell (World.block_lt_of_cell? w _ hw220_0)).trans hw220_0), ((HB.out.cell (World.block_lt_of_cell? w _ hw221_0)).trans hw221_0)⟩ (fun hHeld => ?_); refine with_tabW spec_isMap.tab17 spec_isMap.bits17 (fun HT_ HW_ => ?_)
              generalize wr.drew = w61 at BK200 BK201 HB HR206_0 HR210_0 hx206_0 hx207_0 hx208_0 hx209_0 hx210_0 hx211_0 hx212_0 hx214_0 hx215_0 hx216_0 hx219_0 hx220_0 hx221_0 hHeld ⊢
              refine pu 0 59 1 90 ?_
              refine pu 1 60 3 90 ?_
              refine pu 3 62 11 90 ?_
              refine pu 6 65 75 90 ?_
              refine pu 11 70 2123 90 ?_
              refine pu 13 72 10315 90 ?_
              refine pu 14 73 26699 90 ?_
              refine pu 15 74 59467 90 ?_
              refine pu 19 78 583755 90 ?_
              refine pu 20 79 0x18e84b 90 ?_
              refine pu 21 80 0x38e84b 90 ?_
              refine tk 2 61 0x38e84f 90 ?_
              refine pu 4 63 0x38e85f 90 ?_
              refine tk 5 64 0x38e87f 90 ?_
              refine pu 7 66 0x38e8ff 90 ?_
              refine tk 8 67 0x38e9ff 90 ?_
              refine pu 9 68 0x38ebff 90 ?_
              refine tk 10 69 0x38efff 90 ?_
              refine tk 12 71 0x38ffff 90 ?_
              refine tk 16 75 0x39ffff 90 ?_
              refine pu 17 76 0x3bffff 90 ?_
              refine tk 18 77 0x3fffff 90 ?_
              refine tk 22 81 0x7fffff 90 ?_
              refine pu 23 82 0xffffff 90 ?_
              refine tk 24 83 0x1ffffff 90 ?_
              refine pu 25 84 0x3ffffff 90 ?_
              refine pu 26 85 0x7ffffff 90 ?_
              refine pu 27 86 0xfffffff 90 ?_
              refine pu 29 88 0x2fffffff 90 ?_
              refine pu 30 89 0x6fffffff 90 ?_
              refine pu 35 94 0x86fffffff 90 ?_
              refine pu 36 95 0x186fffffff 90 ?_
              refine pu 37 96 0x386fffffff 90 ?_
              refine pu 39 98 0xb86fffffff 90 ?_
              refine pu 40 99 0x1b86fffffff 90 ?_
              refine pu 41 100 0x3b86fffffff 90 ?_
              refine tk 28 87 0x3b87fffffff 90 ?_
              refine tk 34 93 0x3bc7fffffff 90 ?_
              refine tk 38 97 0x3fc7fffffff 90 ?_
              refine tk 42 101 0x7fc7fffffff 90 ?_
              refine one_ (i := 31) (N := some 90) #[true, true, true, true, true, true, true, true, true, true, true, true, true, true, true, true, true, true, true, true, true, true, true, true, true, true, true, true, true, true, true, true, false, false, true, true, true, true, true, true, true, true, true, false, false, false, false, false, false, false, false, false, false, false, false, false, false, false, false, false, false, false, false, false, false, false, false, false, false, false, false, false, false, false, false, false, false, false, false, false, false, false, false, false, false, false, false, false, false, false] rfl rfl (one_of HT_.out (by kernel_rfl)) (by decide) (fun K hK => ?_)
              refine goes_ Try.func68 (by kernel_rfl) rfl #[.agg #[.slice A0_0 l0_0.length c0_0, .slice (some ad206) l0_1.length c0_1], .int .i64 x9_3, .int .i64 x10_4] (by rfl) rfl rfl (by (try simp only [List.map_toArray, List.map_cons, List.map_nil]); first | done | rfl | (simp only [List.length_drop, List.length_take]; rfl)) ?_
              with_reducible refine (spec_imply.calls k4 _ _ l0_0 _ _ l0_1 x9_3 x10_4 t213 _ ?side1 ?side2 ?side3 ?side4 A40.out).mono ?_
              (case side1 => exact kC (Kd.C_below HR0_0.out HB.out))
              (case side2 => exact HC0_0.out)
              (case side3 => exact kC (Kd.C_below HR0_1.out HB.out))
              (case side4 => exact HC0_1.out)
              rintro e w62 ⟨rfl, hb⟩
              refine ⟨_, rfl, ?_⟩
              replace BK200 := ak (blk_below (kK BK200.out) hb)
              replace BK201 := ak (blk_below (kK BK201.out) hb)
              replace HB := ak (below_step (bB HB.out) hb)
              (try clear hb)
              (try clear hb2)
              (try clear hk)
              (try clear hi)
              refine hK.out _ _ ⟨(blk_cell BK200.out 0).trans rfl, (blk_cell BK200.out 1).trans rfl, (blk_cell BK201.out 0).trans rfl, (blk_cell BK201.out 1).trans rfl, ((HB.out.cell (World.block_lt_of_cell? w _ hw206_0)).trans hw206_0), ((HB.out.cell (World.block_lt_of_cell? w _ hw207_0)).trans hw207_0), ((HB.out.cell (World.block_lt_of_cell? w _ hw208_0)).trans hw208_0), ((HB.out.cell (World.block_lt_of_cell? w _ hw209_0)).trans hw209_0), ((HB.out.cell (World.block_lt_of_cell? w _ hw210_0)).trans hw210_0), ((HB.out.cell (World.block_lt_of_cell? w _ hw211_0)).trans hw211_0), ((HB.out.cell (World.block_lt_of_cell? w _ hw212_0)).trans hw212_0), ((HB.out.cell (World.block_lt_of_cell? w _ hw215_0)).trans hw215_0), ((HB.out.cell (World.block_lt_of_cell? w _ hw216_0)).trans hw216_0), ((HB.out.cell (World.block_lt_of_cell? w _ hw214_0)).trans hw214_0), ((HB.out.cell (World.block_lt_of_cell? w _ hw219_0)).trans hw219_0), ((HB.out.cell (World.block_lt_of_cell? w _ hw220_0)).trans hw220_0), ((HB.out.cell (World.block_lt_of_cell? w _ hw221_0)).trans hw221_0)⟩ (fun hHeld => ?_)
              clear hK K
              refine norm_ (a' := ?_) ?_ ?_
              rotate_left
              ·show Act.put _ (some 90) _ = _
               simp only [Act.put, List.setIfInBounds_toArray, List.set_cons_zero, List.set_cons_succ, i64_w, i32_w]
               rfl
              refine pu 32 91 0x7fdffffffff 90 ?_
              refine tk 33 92 0x7ffffffffff 90 ?_
              refine one_ (i := 43) (N := some 102) #[true, true, true, true, true, true, true, true, true, true, true, true, true, true, true, true, true, true, true, true, true, true, true, true, true, true, true, true, true, true, true, true, true, true, true, true, true, true, true, true, true, true, true, true, false, false, false, false, false, false, false, false, false, false, false, false, false, false, false, false, false, false, false, false, false, false, false, false, false, false, false, false, false, false, false, false, false, false, false, false, false, false, false, false, false, false, false, false, false, false] rfl rfl (one_of HT_.out (by kernel_rfl)) (by decide) (fun K hK => ?_)
              refine goes_ Try.func68 (by kernel_rfl) rfl #[.agg #[.slice A1_0 l1_0.length c1_0, .slice (some ad210) l1_1.length c1_1], .int .i64 (rd l2 x9_3), .int .i64 (rd l2 x10_4)] (by rfl) rfl rfl (by (try simp only [List.map_toArray, List.map_cons, List.map_nil]); first | done | rfl | (simp only [List.length_drop, List.length_take]; rfl)) ?_
              with_reducible refine (spec_imply.calls k4 _ _ l1_0 _ _ l1_1 (rd l2 x9_3) (rd l2 x10_4) t217 _ ?side1 ?side2 ?side3 ?side4 A43.out).mono ?_
              (case side1 => exact kC (Kd.C_below HR1_0.out HB.out))
              (case side2 => exact HC1_0.out)
              (case side3 => exact kC (Kd.C_below HR1_1.out HB.out))
              (case side4 => exact HC1_1.out)
              rintro e w63 ⟨rfl, hb⟩
              refine ⟨_, rfl, ?_⟩
              replace BK200 := ak (blk_below (kK BK200.out) hb)
              replace BK201 := ak (blk_below (kK BK201.out) hb)
              replace HB := ak (below_step (bB HB.out) hb)
              (try clear hb)
              (try clear hb2)
              (try clear hk)
              (try clear hi)
              refine hK.out _ _ ⟨(blk_cell BK200.out 0).trans rfl, (blk_cell BK200.out 1).trans rfl, (blk_cell BK201.out 0).trans rfl, (blk_cell BK201.out 1).trans rfl, ((HB.out.cell (World.block_lt_of_cell? w _ hw206_0)).trans hw206_0), ((HB.out.cell (World.block_lt_of_cell? w _ hw207_0)).trans hw207_0), ((HB.out.cell (World.block_lt_of_cell? w _ hw208_0)).trans hw208_0), ((HB.out.cell (World.block_lt_of_cell? w _ hw209_0)).trans hw209_0), ((HB.out.cell (World.block_lt_of_cell? w _ hw210_0)).trans hw210_0), ((HB.out.cell (World.block_lt_of_cell? w _ hw211_0)).trans hw211_0), ((HB.out.cell (World.block_lt_of_cell? w _ hw212_0)).trans hw212_0), ((HB.out.cell (World.block_lt_of_cell? w _ hw215_0)).trans hw215_0), ((HB.out.cell (World.block_lt_of_cell? w _ hw216_0)).trans hw216_0), ((HB.out.cell (World.block_lt_of_cell? w _ hw214_0)).trans hw214_0), ((HB.out.cell (World.block_lt_of_cell? w _ hw219_0)).trans hw219_0), ((HB.out.cell (World.block_lt_of_cell? w _ hw220_0)).trans hw220_0), ((HB.out.cell (World.block_lt_of_cell? w _ hw221_0)).trans hw221_0)⟩ (fun hHeld => ?_)
              clear hK K
              refine norm_ (a' := ?_) ?_ ?_
              rotate_left
              ·show Act.put _ (some 102) _ = _
               simp only [Act.put, List.setIfInBounds_toArray, List.set_cons_zero, List.set_cons_succ, i64_w, i32_w]
               rfl
              refine pu 44 103 0x1fffffffffff 90 ?_
              refine pu 45 104 0x3fffffffffff 90 ?_
              refine pu 46 105 0x7fffffffffff 90 ?_
              refine pu 47 106 0xffffffffffff 90 ?_
              refine pu 48 107 0x1ffffffffffff 90 ?_
              refine pu 50 109 0x5ffffffffffff 90 ?_
              refine pu 51 110 0xdffffffffffff 90 ?_
              refine pu 55 114 0x8dffffffffffff 90 ?_
              refine pu 57 116 0x28dffffffffffff 90 ?_
              refine pu 58 117 0x68dffffffffffff 90 ?_
              refine pu 59 118 0xe8dffffffffffff 90 ?_
              refine pu 61 120 0x2e8dffffffffffff 90 ?_
              refine pu 62 121 0x6e8dffffffffffff 90 ?_
              refine pu 63 122 0xee8dffffffffffff 90 ?_
              refine tk 49 108 0xee8fffffffffffff 90 ?_
              refine tk 56 115 0xef8fffffffffffff 90 ?_
              refine tk 60 119 0xff8fffffffffffff 90 ?_
              refine tk 64 123 0x1ff8fffffffffffff 90 ?_
              refine one_ (i := 52) (N := some 111) #[true, true, true, true, true, true, true, true, true, true, true, true, true, true, true, true, true, true, true, true, true, true, true, true, true, true, true, true, true, true, true, true, true, true, true, true, true, true, true, true, true, true, true, true, true, true, true, true, true, true, true, true, true, false, false, true, true, true, true, true, true, true, true, true, true, false, false, false, false, false, false, false, false, false, false, false, false, false, false, false, false, false, false, false, false, false, false, false, false, false] rfl rfl (one_of HT_.out (by kernel_rfl)) (by decide) (fun K hK => ?_)
              refine goes_ Try.func69 (by kernel_rfl) rfl #[.slice A0_0 l0_0.length c0_0, .int .i64 x9_3, .int .i64 x10_4] (by rfl) rfl rfl (by (try simp only [List.map_toArray, List.map_cons, List.map_nil]); first | done | rfl | (simp only [List.length_drop, List.length_take]; rfl)) ?_
              with_reducible refine (spec_meet.calls k4 _ _ l0_0 x9_3 x10_4 t218 _ ?side1 ?side2 A45.out).mono ?_
              (case side1 => exact kC (Kd.C_below HR0_0.out HB.out))
              (case side2 => exact HC0_0.out)
              rintro e w' ⟨rfl, ⟨nd, rfl⟩⟩
              refine ⟨_, rfl, ?_⟩
              refine hK.out _ _ ⟨(blk_cell BK200.out 0).trans rfl, (blk_cell BK200.out 1).trans rfl, (blk_cell BK201.out 0).trans rfl, (blk_cell BK201.out 1).trans rfl, ((HB.out.cell (World.block_lt_of_cell? w _ hw206_0)).trans hw206_0), ((HB.out.cell (World.block_lt_of_cell? w _ hw207_0)).trans hw207_0), ((HB.out.cell (World.block_lt_of_cell? w _ hw208_0)).trans hw208_0), ((HB.out.cell (World.block_lt_of_cell? w _ hw209_0)).trans hw209_0), ((HB.out.cell (World.block_lt_of_cell? w _ hw210_0)).trans hw210_0), ((HB.out.cell (World.block_lt_of_cell? w _ hw211_0)).trans hw211_0), ((HB.out.cell (World.block_lt_of_cell? w _ hw212_0)).trans hw212_0), ((HB.out.cell (World.block_lt_of_cell? w _ hw215_0)).trans hw215_0), ((HB.out.cell (World.block_lt_of_cell? w _ hw216_0)).trans hw216_0), ((HB.out.cell (World.block_lt_of_cell? w _ hw214_0)).trans hw214_0), ((HB.out.cell (World.block_lt_of_cell? w _ hw219_0)).trans hw219_0), ((HB.out.cell (World.block_lt_of_cell? w _ hw220_0)).trans hw220_0), ((HB.out.cell (World.block_lt_of_cell? w _ hw221_0)).trans hw221_0)⟩ (fun hHeld => ?_)
              clear hK K
              refine norm_ (a' := ?_) ?_ ?_
              rotate_left
              ·show Act.put _ (some 111) _ = _
               simp only [Act.put, List.setIfInBounds_toArray, List.set_cons_zero, List.set_cons_succ, i64_w, i32_w]
               rfl
              refine pu 53 112 0x1ffbfffffffffffff 90 ?_
              refine tk 54 113 0x1ffffffffffffffff 90 ?_
              refine one_ (i := 65) (N := some 124) #[true, true, true, true, true, true, true, true, true, true, true, true, true, true, true, true, true, true, true, true, true, true, true, true, true, true, true, true, true, true, true, true, true, true, true, true, true, true, true, true, true, true, true, true, true, true, true, true, true, true, true, true, true, true, true, true, true, true, true, true, true, true, true, true, true, true, false, false, false, false, false, false, false, false, false, false, false, false, false, false, false, false, false, false, false, false, false, false, false, false] rfl rfl (one_of HT_.out (by kernel_rfl)) (by decide) (fun K hK => ?_)
              refine goes_ Try.func69 (by kernel_rfl) rfl #[.slice A1_0 l1_0.length c1_0, .int .i64 (rd l2 x9_3), .int .i64 (rd l2 x10_4)] (by rfl) rfl rfl (by (try simp only [List.map_toArray, List.map_cons, List.map_nil]); first | done | rfl | (simp only [List.length_drop, List.length_take]; rfl)) ?_
              with_reducible refine (spec_meet.calls k4 _ _ l1_0 (rd l2 x9_3) (rd l2 x10_4) t222 _ ?side1 ?side2 A48.out).mono ?_
              (case side1 => exact kC (Kd.C_below HR1_0.out (bB HB.out)))
              (case side2 => exact HC1_0.out)
              rintro e w' ⟨rfl, ⟨nd, rfl⟩⟩
              refine ⟨_, rfl, ?_⟩
              refine hK.out _ _ ⟨(blk_cell BK200.out 0).trans rfl, (blk_cell BK200.out 1).trans rfl, (blk_cell BK201.out 0).trans rfl, (blk_cell BK201.out 1).trans rfl, ((HB.out.cell (World.block_lt_of_cell? w _ hw206_0)).trans hw206_0), ((HB.out.cell (World.block_lt_of_cell? w _ hw207_0)).trans hw207_0), ((HB.out.cell (World.block_lt_of_cell? w _ hw208_0)).trans hw208_0), ((HB.out.cell (World.block_lt_of_cell? w _ hw209_0)).trans hw209_0), ((HB.out.cell (World.block_lt_of_cell? w _ hw210_0)).trans hw210_0), ((HB.out.cell (World.block_lt_of_cell? w _ hw211_0)).trans hw211_0), ((HB.out.cell (World.block_lt_of_cell? w _ hw212_0)).trans hw212_0), ((HB.out.cell (World.block_lt_of_cell? w _ hw215_0)).trans hw215_0), ((HB.out.cell (World.block_lt_of_cell? w _ hw216_0)).trans hw216_0), ((HB.out.cell (World.block_lt_of_cell? w _ hw214_0)).trans hw214_0), ((HB.out.cell (World.block_lt_of_cell? w _ hw219_0)).trans hw219_0), ((HB.out.cell (World.block_lt_of_cell? w _ hw220_0)).trans hw220_0), ((HB.out.cell (World.block_lt_of_cell? w _ hw221_0)).trans hw221_0)⟩ (fun hHeld => ?_)
              clear hK K
              refine norm_ (a' := ?_) ?_ ?_
              rotate_left
              ·show Act.put _ (some 124) _ = _
               simp only [Act.put, List.setIfInBounds_toArray, List.set_cons_zero, List.set_cons_succ, i64_w, i32_w]
               rfl
              refine pu 66 125 0x7ffffffffffffffff 90 ?_
              refine pu 67 126 0xfffffffffffffffff 90 ?_
              refine pu 68 127 0x1fffffffffffffffff 90 ?_
              refine pd 69 128 0x3fffffffffffffffff 90 ?_
              refine pd 70 129 0x7fffffffffffffffff 90 ?_
              refine pd 71 130 0xffffffffffffffffff 90 ?_
              refine pd 72 131 0x1ffffffffffffffffff 90 ?_
              refine pd 73 132 0x3ffffffffffffffffff 90 ?_
              refine pd 74 133 0x7ffffffffffffffffff 90 ?_
              refine pd 75 134 0xfffffffffffffffffff 90 ?_
              refine pd 76 135 0x1fffffffffffffffffff 90 ?_
              refine pd 77 136 0x3fffffffffffffffffff 90 ?_
              refine pd 78 137 0x7fffffffffffffffffff 90 ?_
              refine pd 79 138 0xffffffffffffffffffff 90 ?_
              refine pd 80 139 0x1ffffffffffffffffffff 90 ?_
              refine pd 81 140 0x3ffffffffffffffffffff 90 ?_
              refine pd 82 141 0x7ffffffffffffffffffff 90 ?_
              refine pd 83 142 0xfffffffffffffffffffff 90 ?_
              refine pd 84 143 0x1fffffffffffffffffffff 90 ?_
              refine pd 85 144 0x3fffffffffffffffffffff 90 ?_
              refine pd 86 145 0x7fffffffffffffffffffff 90 ?_
              refine pd 87 146 0xffffffffffffffffffffff 90 ?_
              refine pd 88 147 0x1ffffffffffffffffffffff 90 ?_
              refine pu 89 148 0x3ffffffffffffffffffffff 90 ?_
              refine done_ (done_of HT_.out (by kernel_rfl)) ?_
              try go_wp2
              go_ret
              exact ⟨by first | rfl | (simp [errW_none, errW_some] <;> rfl) | (simp [*, errW_none, errW_some] <;> rfl), by repeat (first | (with_reducible first | exact HB.out | apply below_alloc | apply pw_below_drewN | apply below_drew1 | refine below_set ?_ GE200.out | refine below_set ?_ GE201.out) | exact HB.out)⟩
            rw [if_pos c49] at H
            have c49b0 : ((rd l2 t218) == t222) = true := beq_iff_eq.mpr c49
            have c49b1 : ((rd l2 t218) != t222) = false := bne_eq_false_iff_eq.mpr c49
            clear c49
            replace H := bi H
            obtain ⟨t223, A500, H⟩ := H
            try dsimp only at H
            have A50 := ak A500
            clear A500
            replace H := oi H
            obtain ⟨c51, H⟩ := H
            have c51b0 : decide (0 ≤ t223) = true := decide_eq_true c51
            clear c51
            replace H := oi H
            obtain ⟨c52, H⟩ := H
            have c52b0 : decide (t223 < (l2.length : Int)) = true := decide_eq_true c52
            clear c52
            replace H := bi H
            obtain ⟨t227, A530, H⟩ := H
            try dsimp only at H
            have A53 := ak A530
            clear A530
            by_cases c54 : (rd l2 t223) = t227
            rotate_left
            ·rw [if_neg c54] at H
             have c54b0 : ((rd l2 t223) == t227) = false := beq_eq_false_iff_ne.mpr c54
             have c54b1 : ((rd l2 t223) != t227) = true := bne_iff_ne.mpr c54
             obtain rfl := Option.some.inj H
             as_aux_lemma =>
              try go_wp2
              replace BK200 := ak (blk_drew BK200.out)
              replace BK201 := ak (blk_drew BK201.out)
              replace HB := ak (below_drew1 HB.out)
              have p206 : 0 ≤ (x9_3 : Int) := of_decide_eq_true (by first | (with_reducible assumption) | assumption)
              have q206 : x9_3 < (l0_1.length : Int) := of_decide_eq_true (by first | (with_reducible assumption) | assumption)
              obtain ⟨ad206, A206_0, c206_0, e206, hx206_0, hl206_0, hi206_0⟩ := at_L1 HR0_1.out x9_3 p206 q206
              have hw206_0 := hx206_0
              cases e206
              replace hx206_0 := (HB.out.cell (World.block_lt_of_cell? w _ hx206_0)).trans hx206_0
              have HR206_0 := ak hi206_0
              have HC206_0 := ak hl206_0
              clear hi206_0 hl206_0
              replace p206 := eq_true p206
              replace q206 := eq_true q206
              have p207 : 0 ≤ (x10_4 : Int) := of_decide_eq_true (by first | (with_reducible assumption) | assumption)
              have q207 : x10_4 < ((rd_L1 l0_1 x9_3).length : Int) := of_decide_eq_true (by first | (with_reducible assumption) | assumption)
              obtain ⟨ad207, e207, hx207_0⟩ := Kd.at_int HR206_0.out x10_4 p207 q207
              have hw207_0 := hx207_0
              cases e207
              replace hx207_0 := (HB.out.cell (World.block_lt_of_cell? w _ hx207_0)).trans hx207_0
              replace p207 := eq_true p207
              replace q207 := eq_true q207
              have p208 : 0 ≤ ((rd (rd_L1 l0_1 x9_3) x10_4) : Int) := of_decide_eq_true (by first | (with_reducible assumption) | assumption)
              have q208 : (rd (rd_L1 l0_1 x9_3) x10_4) < (l2.length : Int) := of_decide_eq_true (by first | (with_reducible assumption) | assumption)
              obtain ⟨ad208, e208, hx208_0⟩ := Kd.at_int HR2.out (rd (rd_L1 l0_1 x9_3) x10_4) p208 q208
              have hw208_0 := hx208_0
              cases e208
              replace hx208_0 := (HB.out.cell (World.block_lt_of_cell? w _ hx208_0)).trans hx208_0
              replace p208 := eq_true p208
              replace q208 := eq_true q208
              have p209 : 0 ≤ (x9_3 : Int) := of_decide_eq_true (by first | (with_reducible assumption) | assumption)
              have q209 : x9_3 < (l2.length : Int) := of_decide_eq_true (by first | (with_reducible assumption) | assumption)
              obtain ⟨ad209, e209, hx209_0⟩ := Kd.at_int HR2.out x9_3 p209 q209
              have hw209_0 := hx209_0
              obtain rfl : ad208 = ad209 := (by injection e209)
              replace hx209_0 := (HB.out.cell (World.block_lt_of_cell? w _ hx209_0)).trans hx209_0
              replace p209 := eq_true p209
              replace q209 := eq_true q209
              have p210 : 0 ≤ ((rd l2 x9_3) : Int) := of_decide_eq_true (by first | (with_reducible assumption) | assumption)
              have q210 : (rd l2 x9_3) < (l1_1.length : Int) := of_decide_eq_true (by first | (with_reducible assumption) | assumption)
              obtain ⟨ad210, A210_0, c210_0, e210, hx210_0, hl210_0, hi210_0⟩ := at_L1 HR1_1.out (rd l2 x9_3) p210 q210
              have hw210_0 := hx210_0
              cases e210
              replace hx210_0 := (HB.out.cell (World.block_lt_of_cell? w _ hx210_0)).trans hx210_0
              have HR210_0 := ak hi210_0
              have HC210_0 := ak hl210_0
              clear hi210_0 hl210_0
              replace p210 := eq_true p210
              replace q210 := eq_true q210
              have p211 : 0 ≤ (x10_4 : Int) := of_decide_eq_true (by first | (with_reducible assumption) | assumption)
              have q211 : x10_4 < (l2.length : Int) := of_decide_eq_true (by first | (with_reducible assumption) | assumption)
              obtain ⟨ad211, e211, hx211_0⟩ := Kd.at_int HR2.out x10_4 p211 q211
              have hw211_0 := hx211_0
              obtain rfl : ad208 = ad211 := (by injection e211)
              replace hx211_0 := (HB.out.cell (World.block_lt_of_cell? w _ hx211_0)).trans hx211_0
              replace p211 := eq_true p211
              replace q211 := eq_true q211
              have p212 : 0 ≤ ((rd l2 x10_4) : Int) := of_decide_eq_true (by first | (with_reducible assumption) | assumption)
              have q212 : (rd l2 x10_4) < ((rd_L1 l1_1 (rd l2 x9_3)).length : Int) := of_decide_eq_true (by first | (with_reducible assumption) | assumption)
              obtain ⟨ad212, e212, hx212_0⟩ := Kd.at_int HR210_0.out (rd l2 x10_4) p212 q212
              have hw212_0 := hx212_0
              cases e212
              replace hx212_0 := (HB.out.cell (World.block_lt_of_cell? w _ hx212_0)).trans hx212_0
              replace p212 := eq_true p212
              replace q212 := eq_true q212
              have p215 : 0 ≤ (x9_3 : Int) := of_decide_eq_true (by first | (with_reducible assumption) | assumption)
              have q215 : x9_3 < (l2.length : Int) := of_decide_eq_true (by first | (with_reducible assumption) | assumption)
              obtain ⟨ad215, e215, hx215_0⟩ := Kd.at_int HR2.out x9_3 p215 q215
              have hw215_0 := hx215_0
              obtain rfl : ad208 = ad215 := (by injection e215)
              replace hx215_0 := (HB.out.cell (World.block_lt_of_cell? w _ hx215_0)).trans hx215_0
              replace p215 := eq_true p215
              replace q215 := eq_true q215
              have p216 : 0 ≤ (x10_4 : Int) := of_decide_eq_true (by first | (with_reducible assumption) | assumption)
              have q216 : x10_4 < (l2.length : Int) := of_decide_eq_true (by first | (with_reducible assumption) | assumption)
              obtain ⟨ad216, e216, hx216_0⟩ := Kd.at_int HR2.out x10_4 p216 q216
              have hw216_0 := hx216_0
              obtain rfl : ad208 = ad216 := (by injection e216)
              replace hx216_0 := (HB.out.cell (World.block_lt_of_cell? w _ hx216_0)).trans hx216_0
              replace p216 := eq_true p216
              replace q216 := eq_true q216
              have p214 : 0 ≤ (t213 : Int) := of_decide_eq_true (by first | (with_reducible assumption) | assumption)
              have q214 : t213 < (l2.length : Int) := of_decide_eq_true (by first | (with_reducible assumption) | assumption)
              obtain ⟨ad214, e214, hx214_0⟩ := Kd.at_int HR2.out t213 p214 q214
              have hw214_0 := hx214_0
              obtain rfl : ad208 = ad214 := (by injection e214)
              replace hx214_0 := (HB.out.cell (World.block_lt_of_cell? w _ hx214_0)).trans hx214_0
              replace p214 := eq_true p214
              replace q214 := eq_true q214
              have p219 : 0 ≤ (t218 : Int) := of_decide_eq_true (by first | (with_reducible assumption) | assumption)
              have q219 : t218 < (l2.length : Int) := of_decide_eq_true (by first | (with_reducible assumption) | assumption)
              obtain ⟨ad219, e219, hx219_0⟩ := Kd.at_int HR2.out t218 p219 q219
              have hw219_0 := hx219_0
              obtain rfl : ad208 = ad219 := (by injection e219)
              replace hx219_0 := (HB.out.cell (World.block_lt_of_cell? w _ hx219_0)).trans hx219_0
              replace p219 := eq_true p219
              replace q219 := eq_true q219
              have p220 : 0 ≤ (x9_3 : Int) := of_decide_eq_true (by first | (with_reducible assumption) | assumption)
              have q220 : x9_3 < (l2.length : Int) := of_decide_eq_true (by first | (with_reducible assumption) | assumption)
              obtain ⟨ad220, e220, hx220_0⟩ := Kd.at_int HR2.out x9_3 p220 q220
              have hw220_0 := hx220_0
              obtain rfl : ad208 = ad220 := (by injection e220)
              replace hx220_0 := (HB.out.cell (World.block_lt_of_cell? w _ hx220_0)).trans hx220_0
              replace p220 := eq_true p220
              replace q220 := eq_true q220
              have p221 : 0 ≤ (x10_4 : Int) := of_decide_eq_true (by first | (with_reducible assumption) | assumption)
              have q221 : x10_4 < (l2.length : Int) := of_decide_eq_true (by first | (with_reducible assumption) | assumption)
              obtain ⟨ad221, e221, hx221_0⟩ := Kd.at_int HR2.out x10_4 p221 q221
              have hw221_0 := hx221_0
              obtain rfl : ad208 = ad221 := (by injection e221)
              replace hx221_0 := (HB.out.cell (World.block_lt_of_cell? w _ hx221_0)).trans hx221_0
              replace p221 := eq_true p221
              replace q221 := eq_true q221
              have p224 : 0 ≤ (t223 : Int) := of_decide_eq_true (by first | (with_reducible assumption) | assumption)
              have q224 : t223 < (l2.length : Int) := of_decide_eq_true (by first | (with_reducible assumption) | assumption)
              obtain ⟨ad224, e224, hx224_0⟩ := Kd.at_int HR2.out t223 p224 q224
              have hw224_0 := hx224_0
              obtain rfl : ad208 = ad224 := (by injection e224)
              replace hx224_0 := (HB.out.cell (World.block_lt_of_cell? w _ hx224_0)).trans hx224_0
              replace p224 := eq_true p224
              replace q224 := eq_true q224
              have p225 : 0 ≤ (x9_3 : Int) := of_decide_eq_true (by first | (with_reducible assumption) | assumption)
              have q225 : x9_3 < (l2.length : Int) := of_decide_eq_true (by first | (with_reducible assumption) | assumption)
              obtain ⟨ad225, e225, hx225_0⟩ := Kd.at_int HR2.out x9_3 p225 q225
              have hw225_0 := hx225_0
              obtain rfl : ad208 = ad225 := (by injection e225)
              replace hx225_0 := (HB.out.cell (World.block_lt_of_cell? w _ hx225_0)).trans hx225_0
              replace p225 := eq_true p225
              replace q225 := eq_true q225
              have p226 : 0 ≤ (x10_4 : Int) := of_decide_eq_true (by first | (with_reducible assumption) | assumption)
              have q226 : x10_4 < (l2.length : Int) := of_decide_eq_true (by first | (with_reducible assumption) | assumption)
              obtain ⟨ad226, e226, hx226_0⟩ := Kd.at_int HR2.out x10_4 p226 q226
              have hw226_0 := hx226_0
              obtain rfl : ad208 = ad226 := (by injection e226)
              replace hx226_0 := (HB.out.cell (World.block_lt_of_cell? w _ hx226_0)).trans hx226_0
              replace p226 := eq_true p226
              replace q226 := eq_true q226
              refine start_ (n := 90) (S := fun w' => w'.cell? ⟨gb200, 0, none⟩ = some (.slice A0_0 l0_0.length c0_0) ∧ w'.cell? ⟨gb200, 1, none⟩ = some (.slice (some ad206) l0_1.length c0_1) ∧ w'.cell? ⟨gb201, 0, none⟩ = some (.slice A1_0 l1_0.length c1_0) ∧ w'.cell? ⟨gb201, 1, none⟩ = some (.slice (some ad210) l1_1.length c1_1) ∧ w'.cell? (ad206.add (x9_3).toNat) = some (.slice (some ad207) (rd_L1 l0_1 x9_3).length c206_0) ∧ w'.cell? (ad207.add (x10_4).toNat) = some (.int .i64 (rd (rd_L1 l0_1 x9_3) x10_4)) ∧ w'.cell? (ad208.add ((rd (rd_L1 l0_1 x9_3) x10_4)).toNat) = some (.int .i64 (rd l2 (rd (rd_L1 l0_1 x9_3) x10_4))) ∧ w'.cell? (ad208.add (x9_3).toNat) = some (.int .i64 (rd l2 x9_3)) ∧ w'.cell? (ad210.add ((rd l2 x9_3)).toNat) = some (.slice (some ad212) (rd_L1 l1_1 (rd l2 x9_3)).length c210_0) ∧ w'.cell? (ad208.add (x10_4).toNat) = some (.int .i64 (rd l2 x10_4)) ∧ w'.cell? (ad212.add ((rd l2 x10_4)).toNat) = some (.int .i64 (rd (rd_L1 l1_1 (rd l2 x9_3)) (rd l2 x10_4))) ∧ w'.cell? (ad208.add (x9_3).toNat) = some (.int .i64 (rd l2 x9_3)) ∧ w'.cell? (ad208.add (x10_4).toNat) = some (.int .i64 (rd l2 x10_4)) ∧ w'.cell? (ad208.add (t213).toNat) = some (.int .i64 (rd l2 t213)) ∧ w'.cell? (ad208.add (t218).toNat) = some (.int .i64 (rd l2 t218)) ∧ w'.cell? (ad208.add (x9_3).toNat) = some (.int .i64 (rd l2 x9_3)) ∧ w'.cell? (ad208.add (x10_4).toNat) = some (.int .i64 (rd l2 x10_4)) ∧ w'.cell? (ad208.add (t223).toNat) = some (.int .i64 (rd l2 t223)) ∧ w'.cell? (ad208.add (x9_3).toNat) = some (.int .i64 (rd l2 x9_3)) ∧ w'.cell? (ad208.add (x10_4).toNat) = some (.int .i64 (rd l2 x10_4))) (ds := []) #[false, false, false, false, false, false, false, false, false, false, false, false, false, false, false, false, false, false, false, false, false, false, false, false, false, false, false, false, false, false, false, false, false, false, false, false, false, false, false, false, false, false, false, false, false, false, false, false, false, false, false, false, false, false, false, false, false, false, false, false, false, false, false, false, false, false, false, false, false, false, false, false, false, false, false, false, false, false, false, false, false, false, false, false, false, false, false, false, false, false] (by kernel_rfl) rfl rfl ⟨(blk_cell BK200.out 0).trans rfl, (blk_cell BK200.out 1).trans rfl, (blk_cell BK201.out 0).trans rfl, (blk_cell BK201.out 1).trans rfl, ((HB.out.cell (World.block_lt_of_cell? w _ hw206_0)).trans hw206_0), ((HB.out.cell (World.block_lt_of_cell? w _ hw207_0)).trans hw207_0), ((HB.out.cell (World.block_lt_of_cell? w _ hw208_0)).trans hw208_0), ((HB.out.cell (World.block_lt_of_cell? w _ hw209_0)).trans hw209_0), ((HB.out.cell (World.block_lt_of_cell? w _ hw210_0)).trans hw210_0), ((HB.out.cell (World.block_lt_of_cell? w _ hw211_0)).trans hw211_0), ((HB.out.cell (World.block_lt_of_cell? w _ hw212_0)).trans hw212_0), ((HB.out.cell (World.block_lt_of_cell? w _ hw215_0)).trans hw215_0), ((HB.out.cell (World.block_lt_of_cell? w _ hw216_0)).trans hw216_0), ((HB.out.cell (World.block_lt_of_cell? w _ hw214_0)).trans hw214_0), ((HB.out.cell (World.block_lt_of_cell? w _ hw219_0)).trans hw219_0), ((HB.out.cell (World.block_lt_of_cell? w _ hw220_0)).trans hw220_0), ((HB.out.cell (World.block_lt_of_cell? w _ hw221_0)).trans hw221_0), ((HB.out.cell (World.block_lt_of_cell? w _ hw224_0)).trans hw224_0), ((HB.out.cell (World.block_lt_of_cell? w _ hw225_0)).trans hw225_0), ((HB.out.cell (World.block_lt_of_cell? w _ hw226_0)).trans hw226_0)⟩ (fun hHeld => ?_); refine with_tabW spec_isMap.tab17 spec_isMap.bits17 (fun HT_ HW_ => ?_)
              generalize wr.drew = w58 at BK200 BK201 HB HR206_0 HR210_0 hx206_0 hx207_0 hx208_0 hx209_0 hx210_0 hx211_0 hx212_0 hx214_0 hx215_0 hx216_0 hx219_0 hx220_0 hx221_0 hx224_0 hx225_0 hx226_0 hHeld ⊢
              refine pu 0 59 1 90 ?_
              refine pu 1 60 3 90 ?_
              refine pu 3 62 11 90 ?_
              refine pu 6 65 75 90 ?_
              refine pu 11 70 2123 90 ?_
              refine pu 13 72 10315 90 ?_
              refine pu 14 73 26699 90 ?_
              refine pu 15 74 59467 90 ?_
              refine pu 19 78 583755 90 ?_
              refine pu 20 79 0x18e84b 90 ?_
              refine pu 21 80 0x38e84b 90 ?_
              refine tk 2 61 0x38e84f 90 ?_
              refine pu 4 63 0x38e85f 90 ?_
              refine tk 5 64 0x38e87f 90 ?_
              refine pu 7 66 0x38e8ff 90 ?_
              refine tk 8 67 0x38e9ff 90 ?_
              refine pu 9 68 0x38ebff 90 ?_
              refine tk 10 69 0x38efff 90 ?_
              refine tk 12 71 0x38ffff 90 ?_
              refine tk 16 75 0x39ffff 90 ?_
              refine pu 17 76 0x3bffff 90 ?_
              refine tk 18 77 0x3fffff 90 ?_
              refine tk 22 81 0x7fffff 90 ?_
              refine pu 23 82 0xffffff 90 ?_
              refine tk 24 83 0x1ffffff 90 ?_
              refine pu 25 84 0x3ffffff 90 ?_
              refine pu 26 85 0x7ffffff 90 ?_
              refine pu 27 86 0xfffffff 90 ?_
              refine pu 29 88 0x2fffffff 90 ?_
              refine pu 30 89 0x6fffffff 90 ?_
              refine pu 35 94 0x86fffffff 90 ?_
              refine pu 36 95 0x186fffffff 90 ?_
              refine pu 37 96 0x386fffffff 90 ?_
              refine pu 39 98 0xb86fffffff 90 ?_
              refine pu 40 99 0x1b86fffffff 90 ?_
              refine pu 41 100 0x3b86fffffff 90 ?_
              refine tk 28 87 0x3b87fffffff 90 ?_
              refine tk 34 93 0x3bc7fffffff 90 ?_
              refine tk 38 97 0x3fc7fffffff 90 ?_
              refine tk 42 101 0x7fc7fffffff 90 ?_
              refine one_ (i := 31) (N := some 90) #[true, true, true, true, true, true, true, true, true, true, true, true, true, true, true, true, true, true, true, true, true, true, true, true, true, true, true, true, true, true, true, true, false, false, true, true, true, true, true, true, true, true, true, false, false, false, false, false, false, false, false, false, false, false, false, false, false, false, false, false, false, false, false, false, false, false, false, false, false, false, false, false, false, false, false, false, false, false, false, false, false, false, false, false, false, false, false, false, false, false] rfl rfl (one_of HT_.out (by kernel_rfl)) (by decide) (fun K hK => ?_)
              refine goes_ Try.func68 (by kernel_rfl) rfl #[.agg #[.slice A0_0 l0_0.length c0_0, .slice (some ad206) l0_1.length c0_1], .int .i64 x9_3, .int .i64 x10_4] (by rfl) rfl rfl (by (try simp only [List.map_toArray, List.map_cons, List.map_nil]); first | done | rfl | (simp only [List.length_drop, List.length_take]; rfl)) ?_
              with_reducible refine (spec_imply.calls k4 _ _ l0_0 _ _ l0_1 x9_3 x10_4 t213 _ ?side1 ?side2 ?side3 ?side4 A40.out).mono ?_
              (case side1 => exact kC (Kd.C_below HR0_0.out HB.out))
              (case side2 => exact HC0_0.out)
              (case side3 => exact kC (Kd.C_below HR0_1.out HB.out))
              (case side4 => exact HC0_1.out)
              rintro e w59 ⟨rfl, hb⟩
              refine ⟨_, rfl, ?_⟩
              replace BK200 := ak (blk_below (kK BK200.out) hb)
              replace BK201 := ak (blk_below (kK BK201.out) hb)
              replace HB := ak (below_step (bB HB.out) hb)
              (try clear hb)
              (try clear hb2)
              (try clear hk)
              (try clear hi)
              refine hK.out _ _ ⟨(blk_cell BK200.out 0).trans rfl, (blk_cell BK200.out 1).trans rfl, (blk_cell BK201.out 0).trans rfl, (blk_cell BK201.out 1).trans rfl, ((HB.out.cell (World.block_lt_of_cell? w _ hw206_0)).trans hw206_0), ((HB.out.cell (World.block_lt_of_cell? w _ hw207_0)).trans hw207_0), ((HB.out.cell (World.block_lt_of_cell? w _ hw208_0)).trans hw208_0), ((HB.out.cell (World.block_lt_of_cell? w _ hw209_0)).trans hw209_0), ((HB.out.cell (World.block_lt_of_cell? w _ hw210_0)).trans hw210_0), ((HB.out.cell (World.block_lt_of_cell? w _ hw211_0)).trans hw211_0), ((HB.out.cell (World.block_lt_of_cell? w _ hw212_0)).trans hw212_0), ((HB.out.cell (World.block_lt_of_cell? w _ hw215_0)).trans hw215_0), ((HB.out.cell (World.block_lt_of_cell? w _ hw216_0)).trans hw216_0), ((HB.out.cell (World.block_lt_of_cell? w _ hw214_0)).trans hw214_0), ((HB.out.cell (World.block_lt_of_cell? w _ hw219_0)).trans hw219_0), ((HB.out.cell (World.block_lt_of_cell? w _ hw220_0)).trans hw220_0), ((HB.out.cell (World.block_lt_of_cell? w _ hw221_0)).trans hw221_0), ((HB.out.cell (World.block_lt_of_cell? w _ hw224_0)).trans hw224_0), ((HB.out.cell (World.block_lt_of_cell? w _ hw225_0)).trans hw225_0), ((HB.out.cell (World.block_lt_of_cell? w _ hw226_0)).trans hw226_0)⟩ (fun hHeld => ?_)
              clear hK K
              refine norm_ (a' := ?_) ?_ ?_
              rotate_left
              ·show Act.put _ (some 90) _ = _
               simp only [Act.put, List.setIfInBounds_toArray, List.set_cons_zero, List.set_cons_succ, i64_w, i32_w]
               rfl
              refine pu 32 91 0x7fdffffffff 90 ?_
              refine tk 33 92 0x7ffffffffff 90 ?_
              refine one_ (i := 43) (N := some 102) #[true, true, true, true, true, true, true, true, true, true, true, true, true, true, true, true, true, true, true, true, true, true, true, true, true, true, true, true, true, true, true, true, true, true, true, true, true, true, true, true, true, true, true, true, false, false, false, false, false, false, false, false, false, false, false, false, false, false, false, false, false, false, false, false, false, false, false, false, false, false, false, false, false, false, false, false, false, false, false, false, false, false, false, false, false, false, false, false, false, false] rfl rfl (one_of HT_.out (by kernel_rfl)) (by decide) (fun K hK => ?_)
              refine goes_ Try.func68 (by kernel_rfl) rfl #[.agg #[.slice A1_0 l1_0.length c1_0, .slice (some ad210) l1_1.length c1_1], .int .i64 (rd l2 x9_3), .int .i64 (rd l2 x10_4)] (by rfl) rfl rfl (by (try simp only [List.map_toArray, List.map_cons, List.map_nil]); first | done | rfl | (simp only [List.length_drop, List.length_take]; rfl)) ?_
              with_reducible refine (spec_imply.calls k4 _ _ l1_0 _ _ l1_1 (rd l2 x9_3) (rd l2 x10_4) t217 _ ?side1 ?side2 ?side3 ?side4 A43.out).mono ?_
              (case side1 => exact kC (Kd.C_below HR1_0.out HB.out))
              (case side2 => exact HC1_0.out)
              (case side3 => exact kC (Kd.C_below HR1_1.out HB.out))
              (case side4 => exact HC1_1.out)
              rintro e w60 ⟨rfl, hb⟩
              refine ⟨_, rfl, ?_⟩
              replace BK200 := ak (blk_below (kK BK200.out) hb)
              replace BK201 := ak (blk_below (kK BK201.out) hb)
              replace HB := ak (below_step (bB HB.out) hb)
              (try clear hb)
              (try clear hb2)
              (try clear hk)
              (try clear hi)
              refine hK.out _ _ ⟨(blk_cell BK200.out 0).trans rfl, (blk_cell BK200.out 1).trans rfl, (blk_cell BK201.out 0).trans rfl, (blk_cell BK201.out 1).trans rfl, ((HB.out.cell (World.block_lt_of_cell? w _ hw206_0)).trans hw206_0), ((HB.out.cell (World.block_lt_of_cell? w _ hw207_0)).trans hw207_0), ((HB.out.cell (World.block_lt_of_cell? w _ hw208_0)).trans hw208_0), ((HB.out.cell (World.block_lt_of_cell? w _ hw209_0)).trans hw209_0), ((HB.out.cell (World.block_lt_of_cell? w _ hw210_0)).trans hw210_0), ((HB.out.cell (World.block_lt_of_cell? w _ hw211_0)).trans hw211_0), ((HB.out.cell (World.block_lt_of_cell? w _ hw212_0)).trans hw212_0), ((HB.out.cell (World.block_lt_of_cell? w _ hw215_0)).trans hw215_0), ((HB.out.cell (World.block_lt_of_cell? w _ hw216_0)).trans hw216_0), ((HB.out.cell (World.block_lt_of_cell? w _ hw214_0)).trans hw214_0), ((HB.out.cell (World.block_lt_of_cell? w _ hw219_0)).trans hw219_0), ((HB.out.cell (World.block_lt_of_cell? w _ hw220_0)).trans hw220_0), ((HB.out.cell (World.block_lt_of_cell? w _ hw221_0)).trans hw221_0), ((HB.out.cell (World.block_lt_of_cell? w _ hw224_0)).trans hw224_0), ((HB.out.cell (World.block_lt_of_cell? w _ hw225_0)).trans hw225_0), ((HB.out.cell (World.block_lt_of_cell? w _ hw226_0)).trans hw226_0)⟩ (fun hHeld => ?_)
              clear hK K
              refine norm_ (a' := ?_) ?_ ?_
              rotate_left
              ·show Act.put _ (some 102) _ = _
               simp only [Act.put, List.setIfInBounds_toArray, List.set_cons_zero, List.set_cons_succ, i64_w, i32_w]
               rfl
              refine pu 44 103 0x1fffffffffff 90 ?_
              refine pu 45 104 0x3fffffffffff 90 ?_
              refine pu 46 105 0x7fffffffffff 90 ?_
              refine pu 47 106 0xffffffffffff 90 ?_
              refine pu 48 107 0x1ffffffffffff 90 ?_
              refine pu 50 109 0x5ffffffffffff 90 ?_
              refine pu 51 110 0xdffffffffffff 90 ?_
              refine pu 55 114 0x8dffffffffffff 90 ?_
              refine pu 57 116 0x28dffffffffffff 90 ?_
              refine pu 58 117 0x68dffffffffffff 90 ?_
              refine pu 59 118 0xe8dffffffffffff 90 ?_
              refine pu 61 120 0x2e8dffffffffffff 90 ?_
              refine pu 62 121 0x6e8dffffffffffff 90 ?_
              refine pu 63 122 0xee8dffffffffffff 90 ?_
              refine tk 49 108 0xee8fffffffffffff 90 ?_
              refine tk 56 115 0xef8fffffffffffff 90 ?_
              refine tk 60 119 0xff8fffffffffffff 90 ?_
              refine tk 64 123 0x1ff8fffffffffffff 90 ?_
              refine one_ (i := 52) (N := some 111) #[true, true, true, true, true, true, true, true, true, true, true, true, true, true, true, true, true, true, true, true, true, true, true, true, true, true, true, true, true, true, true, true, true, true, true, true, true, true, true, true, true, true, true, true, true, true, true, true, true, true, true, true, true, false, false, true, true, true, true, true, true, true, true, true, true, false, false, false, false, false, false, false, false, false, false, false, false, false, false, false, false, false, false, false, false, false, false, false, false, false] rfl rfl (one_of HT_.out (by kernel_rfl)) (by decide) (fun K hK => ?_)
              refine goes_ Try.func69 (by kernel_rfl) rfl #[.slice A0_0 l0_0.length c0_0, .int .i64 x9_3, .int .i64 x10_4] (by rfl) rfl rfl (by (try simp only [List.map_toArray, List.map_cons, List.map_nil]); first | done | rfl | (simp only [List.length_drop, List.length_take]; rfl)) ?_
              with_reducible refine (spec_meet.calls k4 _ _ l0_0 x9_3 x10_4 t218 _ ?side1 ?side2 A45.out).mono ?_
              (case side1 => exact kC (Kd.C_below HR0_0.out HB.out))
              (case side2 => exact HC0_0.out)
              rintro e w' ⟨rfl, ⟨nd, rfl⟩⟩
              refine ⟨_, rfl, ?_⟩
              refine hK.out _ _ ⟨(blk_cell BK200.out 0).trans rfl, (blk_cell BK200.out 1).trans rfl, (blk_cell BK201.out 0).trans rfl, (blk_cell BK201.out 1).trans rfl, ((HB.out.cell (World.block_lt_of_cell? w _ hw206_0)).trans hw206_0), ((HB.out.cell (World.block_lt_of_cell? w _ hw207_0)).trans hw207_0), ((HB.out.cell (World.block_lt_of_cell? w _ hw208_0)).trans hw208_0), ((HB.out.cell (World.block_lt_of_cell? w _ hw209_0)).trans hw209_0), ((HB.out.cell (World.block_lt_of_cell? w _ hw210_0)).trans hw210_0), ((HB.out.cell (World.block_lt_of_cell? w _ hw211_0)).trans hw211_0), ((HB.out.cell (World.block_lt_of_cell? w _ hw212_0)).trans hw212_0), ((HB.out.cell (World.block_lt_of_cell? w _ hw215_0)).trans hw215_0), ((HB.out.cell (World.block_lt_of_cell? w _ hw216_0)).trans hw216_0), ((HB.out.cell (World.block_lt_of_cell? w _ hw214_0)).trans hw214_0), ((HB.out.cell (World.block_lt_of_cell? w _ hw219_0)).trans hw219_0), ((HB.out.cell (World.block_lt_of_cell? w _ hw220_0)).trans hw220_0), ((HB.out.cell (World.block_lt_of_cell? w _ hw221_0)).trans hw221_0), ((HB.out.cell (World.block_lt_of_cell? w _ hw224_0)).trans hw224_0), ((HB.out.cell (World.block_lt_of_cell? w _ hw225_0)).trans hw225_0), ((HB.out.cell (World.block_lt_of_cell? w _ hw226_0)).trans hw226_0)⟩ (fun hHeld => ?_)
              clear hK K
              refine norm_ (a' := ?_) ?_ ?_
              rotate_left
              ·show Act.put _ (some 111) _ = _
               simp only [Act.put, List.setIfInBounds_toArray, List.set_cons_zero, List.set_cons_succ, i64_w, i32_w]
               rfl
              refine pu 53 112 0x1ffbfffffffffffff 90 ?_
              refine tk 54 113 0x1ffffffffffffffff 90 ?_
              refine one_ (i := 65) (N := some 124) #[true, true, true, true, true, true, true, true, true, true, true, true, true, true, true, true, true, true, true, true, true, true, true, true, true, true, true, true, true, true, true, true, true, true, true, true, true, true, true, true, true, true, true, true, true, true, true, true, true, true, true, true, true, true, true, true, true, true, true, true, true, true, true, true, true, true, false, false, false, false, false, false, false, false, false, false, false, false, false, false, false, false, false, false, false, false, false, false, false, false] rfl rfl (one_of HT_.out (by kernel_rfl)) (by decide) (fun K hK => ?_)
              refine goes_ Try.func69 (by kernel_rfl) rfl #[.slice A1_0 l1_0.length c1_0, .int .i64 (rd l2 x9_3), .int .i64 (rd l2 x10_4)] (by rfl) rfl rfl (by (try simp only [List.map_toArray, List.map_cons, List.map_nil]); first | done | rfl | (simp only [List.length_drop, List.length_take]; rfl)) ?_
              with_reducible refine (spec_meet.calls k4 _ _ l1_0 (rd l2 x9_3) (rd l2 x10_4) t222 _ ?side1 ?side2 A48.out).mono ?_
              (case side1 => exact kC (Kd.C_below HR1_0.out (bB HB.out)))
              (case side2 => exact HC1_0.out)
              rintro e w' ⟨rfl, ⟨nd, rfl⟩⟩
              refine ⟨_, rfl, ?_⟩
              refine hK.out _ _ ⟨(blk_cell BK200.out 0).trans rfl, (blk_cell BK200.out 1).trans rfl, (blk_cell BK201.out 0).trans rfl, (blk_cell BK201.out 1).trans rfl, ((HB.out.cell (World.block_lt_of_cell? w _ hw206_0)).trans hw206_0), ((HB.out.cell (World.block_lt_of_cell? w _ hw207_0)).trans hw207_0), ((HB.out.cell (World.block_lt_of_cell? w _ hw208_0)).trans hw208_0), ((HB.out.cell (World.block_lt_of_cell? w _ hw209_0)).trans hw209_0), ((HB.out.cell (World.block_lt_of_cell? w _ hw210_0)).trans hw210_0), ((HB.out.cell (World.block_lt_of_cell? w _ hw211_0)).trans hw211_0), ((HB.out.cell (World.block_lt_of_cell? w _ hw212_0)).trans hw212_0), ((HB.out.cell (World.block_lt_of_cell? w _ hw215_0)).trans hw215_0), ((HB.out.cell (World.block_lt_of_cell? w _ hw216_0)).trans hw216_0), ((HB.out.cell (World.block_lt_of_cell? w _ hw214_0)).trans hw214_0), ((HB.out.cell (World.block_lt_of_cell? w _ hw219_0)).trans hw219_0), ((HB.out.cell (World.block_lt_of_cell? w _ hw220_0)).trans hw220_0), ((HB.out.cell (World.block_lt_of_cell? w _ hw221_0)).trans hw221_0), ((HB.out.cell (World.block_lt_of_cell? w _ hw224_0)).trans hw224_0), ((HB.out.cell (World.block_lt_of_cell? w _ hw225_0)).trans hw225_0), ((HB.out.cell (World.block_lt_of_cell? w _ hw226_0)).trans hw226_0)⟩ (fun hHeld => ?_)
              clear hK K
              refine norm_ (a' := ?_) ?_ ?_
              rotate_left
              ·show Act.put _ (some 124) _ = _
               simp only [Act.put, List.setIfInBounds_toArray, List.set_cons_zero, List.set_cons_succ, i64_w, i32_w]
               rfl
              refine pu 66 125 0x7ffffffffffffffff 90 ?_
              refine pu 67 126 0xfffffffffffffffff 90 ?_
              refine pu 68 127 0x1fffffffffffffffff 90 ?_
              refine pu 69 128 0x3fffffffffffffffff 90 ?_
              refine pu 70 129 0x7fffffffffffffffff 90 ?_
              refine pu 72 131 0x17fffffffffffffffff 90 ?_
              refine pu 73 132 0x37fffffffffffffffff 90 ?_
              refine pu 77 136 0x237fffffffffffffffff 90 ?_
              refine pu 79 138 0xa37fffffffffffffffff 90 ?_
              refine pu 80 139 0x1a37fffffffffffffffff 90 ?_
              refine pu 81 140 0x3a37fffffffffffffffff 90 ?_
              refine pu 83 142 0xba37fffffffffffffffff 90 ?_
              refine pu 84 143 0x1ba37fffffffffffffffff 90 ?_
              refine pu 85 144 0x3ba37fffffffffffffffff 90 ?_
              refine tk 71 130 0x3ba3ffffffffffffffffff 90 ?_
              refine tk 78 137 0x3be3ffffffffffffffffff 90 ?_
              refine tk 82 141 0x3fe3ffffffffffffffffff 90 ?_
              refine tk 86 145 0x7fe3ffffffffffffffffff 90 ?_
              refine one_ (i := 74) (N := some 133) #[true, true, true, true, true, true, true, true, true, true, true, true, true, true, true, true, true, true, true, true, true, true, true, true, true, true, true, true, true, true, true, true, true, true, true, true, true, true, true, true, true, true, true, true, true, true, true, true, true, true, true, true, true, true, true, true, true, true, true, true, true, true, true, true, true, true, true, true, true, true, true, true, true, true, true, false, false, true, true, true, true, true, true, true, true, true, true, false, false, false] rfl rfl (one_of HT_.out (by kernel_rfl)) (by decide) (fun K hK => ?_)
              refine goes_ Try.func60 (by kernel_rfl) rfl #[.slice A0_0 l0_0.length c0_0, .int .i64 x9_3, .int .i64 x10_4] (by rfl) rfl rfl (by (try simp only [List.map_toArray, List.map_cons, List.map_nil]); first | done | rfl | (simp only [List.length_drop, List.length_take]; rfl)) ?_
              with_reducible refine (spec_join.calls k4 _ _ l0_0 x9_3 x10_4 t223 _ ?side1 ?side2 A50.out).mono ?_
              (case side1 => exact kC (Kd.C_below HR0_0.out (bB HB.out)))
              (case side2 => exact HC0_0.out)
              rintro e w' ⟨rfl, ⟨nd, rfl⟩⟩
              refine ⟨_, rfl, ?_⟩
              refine hK.out _ _ ⟨(blk_cell BK200.out 0).trans rfl, (blk_cell BK200.out 1).trans rfl, (blk_cell BK201.out 0).trans rfl, (blk_cell BK201.out 1).trans rfl, ((HB.out.cell (World.block_lt_of_cell? w _ hw206_0)).trans hw206_0), ((HB.out.cell (World.block_lt_of_cell? w _ hw207_0)).trans hw207_0), ((HB.out.cell (World.block_lt_of_cell? w _ hw208_0)).trans hw208_0), ((HB.out.cell (World.block_lt_of_cell? w _ hw209_0)).trans hw209_0), ((HB.out.cell (World.block_lt_of_cell? w _ hw210_0)).trans hw210_0), ((HB.out.cell (World.block_lt_of_cell? w _ hw211_0)).trans hw211_0), ((HB.out.cell (World.block_lt_of_cell? w _ hw212_0)).trans hw212_0), ((HB.out.cell (World.block_lt_of_cell? w _ hw215_0)).trans hw215_0), ((HB.out.cell (World.block_lt_of_cell? w _ hw216_0)).trans hw216_0), ((HB.out.cell (World.block_lt_of_cell? w _ hw214_0)).trans hw214_0), ((HB.out.cell (World.block_lt_of_cell? w _ hw219_0)).trans hw219_0), ((HB.out.cell (World.block_lt_of_cell? w _ hw220_0)).trans hw220_0), ((HB.out.cell (World.block_lt_of_cell? w _ hw221_0)).trans hw221_0), ((HB.out.cell (World.block_lt_of_cell? w _ hw224_0)).trans hw224_0), ((HB.out.cell (World.block_lt_of_cell? w _ hw225_0)).trans hw225_0), ((HB.out.cell (World.block_lt_of_cell? w _ hw226_0)).trans hw226_0)⟩ (fun hHeld => ?_)
              clear hK K
              refine norm_ (a' := ?_) ?_ ?_
              rotate_left
              ·show Act.put _ (some 133) _ = _
               simp only [Act.put, List.setIfInBounds_toArray, List.set_cons_zero, List.set_cons_succ, i64_w, i32_w]
               rfl
              refine pu 75 134 0x7fefffffffffffffffffff 90 ?_
              refine tk 76 135 0x7fffffffffffffffffffff 90 ?_
              refine one_ (i := 87) (N := some 146) #[true, true, true, true, true, true, true, true, true, true, true, true, true, true, true, true, true, true, true, true, true, true, true, true, true, true, true, true, true, true, true, true, true, true, true, true, true, true, true, true, true, true, true, true, true, true, true, true, true, true, true, true, true, true, true, true, true, true, true, true, true, true, true, true, true, true, true, true, true, true, true, true, true, true, true, true, true, true, true, true, true, true, true, true, true, true, true, true, false, false] rfl rfl (one_of HT_.out (by kernel_rfl)) (by decide) (fun K hK => ?_)
              refine goes_ Try.func60 (by kernel_rfl) rfl #[.slice A1_0 l1_0.length c1_0, .int .i64 (rd l2 x9_3), .int .i64 (rd l2 x10_4)] (by rfl) rfl rfl (by (try simp only [List.map_toArray, List.map_cons, List.map_nil]); first | done | rfl | (simp only [List.length_drop, List.length_take]; rfl)) ?_
              with_reducible refine (spec_join.calls k4 _ _ l1_0 (rd l2 x9_3) (rd l2 x10_4) t227 _ ?side1 ?side2 A53.out).mono ?_
              (case side1 => exact kC (Kd.C_below HR1_0.out (bB HB.out)))
              (case side2 => exact HC1_0.out)
              rintro e w' ⟨rfl, ⟨nd, rfl⟩⟩
              refine ⟨_, rfl, ?_⟩
              refine hK.out _ _ ⟨(blk_cell BK200.out 0).trans rfl, (blk_cell BK200.out 1).trans rfl, (blk_cell BK201.out 0).trans rfl, (blk_cell BK201.out 1).trans rfl, ((HB.out.cell (World.block_lt_of_cell? w _ hw206_0)).trans hw206_0), ((HB.out.cell (World.block_lt_of_cell? w _ hw207_0)).trans hw207_0), ((HB.out.cell (World.block_lt_of_cell? w _ hw208_0)).trans hw208_0), ((HB.out.cell (World.block_lt_of_cell? w _ hw209_0)).trans hw209_0), ((HB.out.cell (World.block_lt_of_cell? w _ hw210_0)).trans hw210_0), ((HB.out.cell (World.block_lt_of_cell? w _ hw211_0)).trans hw211_0), ((HB.out.cell (World.block_lt_of_cell? w _ hw212_0)).trans hw212_0), ((HB.out.cell (World.block_lt_of_cell? w _ hw215_0)).trans hw215_0), ((HB.out.cell (World.block_lt_of_cell? w _ hw216_0)).trans hw216_0), ((HB.out.cell (World.block_lt_of_cell? w _ hw214_0)).trans hw214_0), ((HB.out.cell (World.block_lt_of_cell? w _ hw219_0)).trans hw219_0), ((HB.out.cell (World.block_lt_of_cell? w _ hw220_0)).trans hw220_0), ((HB.out.cell (World.block_lt_of_cell? w _ hw221_0)).trans hw221_0), ((HB.out.cell (World.block_lt_of_cell? w _ hw224_0)).trans hw224_0), ((HB.out.cell (World.block_lt_of_cell? w _ hw225_0)).trans hw225_0), ((HB.out.cell (World.block_lt_of_cell? w _ hw226_0)).trans hw226_0)⟩ (fun hHeld => ?_)
              clear hK K
              refine norm_ (a' := ?_) ?_ ?_
              rotate_left
              ·show Act.put _ (some 146) _ = _
               simp only [Act.put, List.setIfInBounds_toArray, List.set_cons_zero, List.set_cons_succ, i64_w, i32_w]
               rfl
              refine pu 88 147 0x1ffffffffffffffffffffff 90 ?_
              refine pu 89 148 0x3ffffffffffffffffffffff 90 ?_
              refine done_ (done_of HT_.out (by kernel_rfl)) ?_
              try go_wp2
              go_ret
              exact ⟨by first | rfl | (simp [errW_none, errW_some] <;> rfl) | (simp [*, errW_none, errW_some] <;> rfl), by repeat (first | (with_reducible first | exact HB.out | apply below_alloc | apply pw_below_drewN | apply below_drew1 | refine below_set ?_ GE200.out | refine below_set ?_ GE201.out) | exact HB.out)⟩
            rw [if_pos c54] at H
            have c54b0 : ((rd l2 t223) == t227) = true := beq_iff_eq.mpr c54
            have c54b1 : ((rd l2 t223) != t227) = false := bne_eq_false_iff_eq.mpr c54
            clear c54
            have H' := ak H
            clear H
            as_aux_lemma =>
             try go_wp2
             replace BK200 := ak (blk_drew BK200.out)
             replace BK201 := ak (blk_drew BK201.out)
             replace HB := ak (below_drew1 HB.out)
             have p206 : 0 ≤ (x9_3 : Int) := of_decide_eq_true (by first | (with_reducible assumption) | assumption)
             have q206 : x9_3 < (l0_1.length : Int) := of_decide_eq_true (by first | (with_reducible assumption) | assumption)
             obtain ⟨ad206, A206_0, c206_0, e206, hx206_0, hl206_0, hi206_0⟩ := at_L1 HR0_1.out x9_3 p206 q206
             have hw206_0 := hx206_0
             cases e206
             replace hx206_0 := (HB.out.cell (World.block_lt_of_cell? w _ hx206_0)).trans hx206_0
             have HR206_0 := ak hi206_0
             have HC206_0 := ak hl206_0
             clear hi206_0 hl206_0
             replace p206 := eq_true p206
             replace q206 := eq_true q206
             have p207 : 0 ≤ (x10_4 : Int) := of_decide_eq_true (by first | (with_reducible assumption) | assumption)
             have q207 : x10_4 < ((rd_L1 l0_1 x9_3).length : Int) := of_decide_eq_true (by first | (with_reducible assumption) | assumption)
             obtain ⟨ad207, e207, hx207_0⟩ := Kd.at_int HR206_0.out x10_4 p207 q207
             have hw207_0 := hx207_0
             cases e207
             replace hx207_0 := (HB.out.cell (World.block_lt_of_cell? w _ hx207_0)).trans hx207_0
             replace p207 := eq_true p207
             replace q207 := eq_true q207
             have p208 : 0 ≤ ((rd (rd_L1 l0_1 x9_3) x10_4) : Int) := of_decide_eq_true (by first | (with_reducible assumption) | assumption)
             have q208 : (rd (rd_L1 l0_1 x9_3) x10_4) < (l2.length : Int) := of_decide_eq_true (by first | (with_reducible assumption) | assumption)
             obtain ⟨ad208, e208, hx208_0⟩ := Kd.at_int HR2.out (rd (rd_L1 l0_1 x9_3) x10_4) p208 q208
             have hw208_0 := hx208_0
             cases e208
             replace hx208_0 := (HB.out.cell (World.block_lt_of_cell? w _ hx208_0)).trans hx208_0
             replace p208 := eq_true p208
             replace q208 := eq_true q208
             have p209 : 0 ≤ (x9_3 : Int) := of_decide_eq_true (by first | (with_reducible assumption) | assumption)
             have q209 : x9_3 < (l2.length : Int) := of_decide_eq_true (by first | (with_reducible assumption) | assumption)
             obtain ⟨ad209, e209, hx209_0⟩ := Kd.at_int HR2.out x9_3 p209 q209
             have hw209_0 := hx209_0
             obtain rfl : ad208 = ad209 := (by injection e209)
             replace hx209_0 := (HB.out.cell (World.block_lt_of_cell? w _ hx209_0)).trans hx209_0
             replace p209 := eq_true p209
             replace q209 := eq_true q209
             have p210 : 0 ≤ ((rd l2 x9_3) : Int) := of_decide_eq_true (by first | (with_reducible assumption) | assumption)
             have q210 : (rd l2 x9_3) < (l1_1.length : Int) := of_decide_eq_true (by first | (with_reducible assumption) | assumption)
             obtain ⟨ad210, A210_0, c210_0, e210, hx210_0, hl210_0, hi210_0⟩ := at_L1 HR1_1.out (rd l2 x9_3) p210 q210
             have hw210_0 := hx210_0
             cases e210
             replace hx210_0 := (HB.out.cell (World.block_lt_of_cell? w _ hx210_0)).trans hx210_0
             have HR210_0 := ak hi210_0
             have HC210_0 := ak hl210_0
             clear hi210_0 hl210_0
             replace p210 := eq_true p210
             replace q210 := eq_true q210
             have p211 : 0 ≤ (x10_4 : Int) := of_decide_eq_true (by first | (with_reducible assumption) | assumption)
             have q211 : x10_4 < (l2.length : Int) := of_decide_eq_true (by first | (with_reducible assumption) | assumption)
             obtain ⟨ad211, e211, hx211_0⟩ := Kd.at_int HR2.out x10_4 p211 q211
             have hw211_0 := hx211_0
             obtain rfl : ad208 = ad211 := (by injection e211)
             replace hx211_0 := (HB.out.cell (World.block_lt_of_cell? w _ hx211_0)).trans hx211_0
             replace p211 := eq_true p211
             replace q211 := eq_true q211
             have p212 : 0 ≤ ((rd l2 x10_4) : Int) := of_decide_eq_true (by first | (with_reducible assumption) | assumption)
             have q212 : (rd l2 x10_4) < ((rd_L1 l1_1 (rd l2 x9_3)).length : Int) := of_decide_eq_true (by first | (with_reducible assumption) | assumption)
             obtain ⟨ad212, e212, hx212_0⟩ := Kd.at_int HR210_0.out (rd l2 x10_4) p212 q212
             have hw212_0 := hx212_0
             cases e212
             replace hx212_0 := (HB.out.cell (World.block_lt_of_cell? w _ hx212_0)).trans hx212_0
             replace p212 := eq_true p212
             replace q212 := eq_true q212
             have p215 : 0 ≤ (x9_3 : Int) := of_decide_eq_true (by first | (with_reducible assumption) | assumption)
             have q215 : x9_3 < (l2.length : Int) := of_decide_eq_true (by first | (with_reducible assumption) | assumption)
             obtain ⟨ad215, e215, hx215_0⟩ := Kd.at_int HR2.out x9_3 p215 q215
             have hw215_0 := hx215_0
             obtain rfl : ad208 = ad215 := (by injection e215)
             replace hx215_0 := (HB.out.cell (World.block_lt_of_cell? w _ hx215_0)).trans hx215_0
             replace p215 := eq_true p215
             replace q215 := eq_true q215
             have p216 : 0 ≤ (x10_4 : Int) := of_decide_eq_true (by first | (with_reducible assumption) | assumption)
             have q216 : x10_4 < (l2.length : Int) := of_decide_eq_true (by first | (with_reducible assumption) | assumption)
             obtain ⟨ad216, e216, hx216_0⟩ := Kd.at_int HR2.out x10_4 p216 q216
             have hw216_0 := hx216_0
             obtain rfl : ad208 = ad216 := (by injection e216)
             replace hx216_0 := (HB.out.cell (World.block_lt_of_cell? w _ hx216_0)).trans hx216_0
             replace p216 := eq_true p216
             replace q216 := eq_true q216
             have p214 : 0 ≤ (t213 : Int) := of_decide_eq_true (by first | (with_reducible assumption) | assumption)
             have q214 : t213 < (l2.length : Int) := of_decide_eq_true (by first | (with_reducible assumption) | assumption)
             obtain ⟨ad214, e214, hx214_0⟩ := Kd.at_int HR2.out t213 p214 q214
             have hw214_0 := hx214_0
             obtain rfl : ad208 = ad214 := (by injection e214)
             replace hx214_0 := (HB.out.cell (World.block_lt_of_cell? w _ hx214_0)).trans hx214_0
             replace p214 := eq_true p214
             replace q214 := eq_true q214
             have p219 : 0 ≤ (t218 : Int) := of_decide_eq_true (by first | (with_reducible assumption) | assumption)
             have q219 : t218 < (l2.length : Int) := of_decide_eq_true (by first | (with_reducible assumption) | assumption)
             obtain ⟨ad219, e219, hx219_0⟩ := Kd.at_int HR2.out t218 p219 q219
             have hw219_0 := hx219_0
             obtain rfl : ad208 = ad219 := (by injection e219)
             replace hx219_0 := (HB.out.cell (World.block_lt_of_cell? w _ hx219_0)).trans hx219_0
             replace p219 := eq_true p219
             replace q219 := eq_true q219
             have p220 : 0 ≤ (x9_3 : Int) := of_decide_eq_true (by first | (with_reducible assumption) | assumption)
             have q220 : x9_3 < (l2.length : Int) := of_decide_eq_true (by first | (with_reducible assumption) | assumption)
             obtain ⟨ad220, e220, hx220_0⟩ := Kd.at_int HR2.out x9_3 p220 q220
             have hw220_0 := hx220_0
             obtain rfl : ad208 = ad220 := (by injection e220)
             replace hx220_0 := (HB.out.cell (World.block_lt_of_cell? w _ hx220_0)).trans hx220_0
             replace p220 := eq_true p220
             replace q220 := eq_true q220
             have p221 : 0 ≤ (x10_4 : Int) := of_decide_eq_true (by first | (with_reducible assumption) | assumption)
             have q221 : x10_4 < (l2.length : Int) := of_decide_eq_true (by first | (with_reducible assumption) | assumption)
             obtain ⟨ad221, e221, hx221_0⟩ := Kd.at_int HR2.out x10_4 p221 q221
             have hw221_0 := hx221_0
             obtain rfl : ad208 = ad221 := (by injection e221)
             replace hx221_0 := (HB.out.cell (World.block_lt_of_cell? w _ hx221_0)).trans hx221_0
             replace p221 := eq_true p221
             replace q221 := eq_true q221
             have p224 : 0 ≤ (t223 : Int) := of_decide_eq_true (by first | (with_reducible assumption) | assumption)
             have q224 : t223 < (l2.length : Int) := of_decide_eq_true (by first | (with_reducible assumption) | assumption)
             obtain ⟨ad224, e224, hx224_0⟩ := Kd.at_int HR2.out t223 p224 q224
             have hw224_0 := hx224_0
             obtain rfl : ad208 = ad224 := (by injection e224)
             replace hx224_0 := (HB.out.cell (World.block_lt_of_cell? w _ hx224_0)).trans hx224_0
             replace p224 := eq_true p224
             replace q224 := eq_true q224
             have p225 : 0 ≤ (x9_3 : Int) := of_decide_eq_true (by first | (with_reducible assumption) | assumption)
             have q225 : x9_3 < (l2.length : Int) := of_decide_eq_true (by first | (with_reducible assumption) | assumption)
             obtain ⟨ad225, e225, hx225_0⟩ := Kd.at_int HR2.out x9_3 p225 q225
             have hw225_0 := hx225_0
             obtain rfl : ad208 = ad225 := (by injection e225)
             replace hx225_0 := (HB.out.cell (World.block_lt_of_cell? w _ hx225_0)).trans hx225_0
             replace p225 := eq_true p225
             replace q225 := eq_true q225
             have p226 : 0 ≤ (x10_4 : Int) := of_decide_eq_true (by first | (with_reducible assumption) | assumption)
             have q226 : x10_4 < (l2.length : Int) := of_decide_eq_true (by first | (with_reducible assumption) | assumption)
             obtain ⟨ad226, e226, hx226_0⟩ := Kd.at_int HR2.out x10_4 p226 q226
             have hw226_0 := hx226_0
             obtain rfl : ad208 = ad226 := (by injection e226)
             replace hx226_0 := (HB.out.cell (World.block_lt_of_cell? w _ hx226_0)).trans hx226_0
             replace p226 := eq_true p226
             replace q226 := eq_true q226
             refine start_ (n := 90) (S := fun w' => w'.cell? ⟨gb200, 0, none⟩ = some (.slice A0_0 l0_0.length c0_0) ∧ w'.cell? ⟨gb200, 1, none⟩ = some (.slice (some ad206) l0_1.length c0_1) ∧ w'.cell? ⟨gb201, 0, none⟩ = some (.slice A1_0 l1_0.length c1_0) ∧ w'.cell? ⟨gb201, 1, none⟩ = some (.slice (some ad210) l1_1.length c1_1) ∧ w'.cell? (ad206.add (x9_3).toNat) = some (.slice (some ad207) (rd_L1 l0_1 x9_3).length c206_0) ∧ w'.cell? (ad207.add (x10_4).toNat) = some (.int .i64 (rd (rd_L1 l0_1 x9_3) x10_4)) ∧ w'.cell? (ad208.add ((rd (rd_L1 l0_1 x9_3) x10_4)).toNat) = some (.int .i64 (rd l2 (rd (rd_L1 l0_1 x9_3) x10_4))) ∧ w'.cell? (ad208.add (x9_3).toNat) = some (.int .i64 (rd l2 x9_3)) ∧ w'.cell? (ad210.add ((rd l2 x9_3)).toNat) = some (.slice (some ad212) (rd_L1 l1_1 (rd l2 x9_3)).length c210_0) ∧ w'.cell? (ad208.add (x10_4).toNat) = some (.int .i64 (rd l2 x10_4)) ∧ w'.cell? (ad212.add ((rd l2 x10_4)).toNat) = some (.int .i64 (rd (rd_L1 l1_1 (rd l2 x9_3)) (rd l2 x10_4))) ∧ w'.cell? (ad208.add (x9_3).toNat) = some (.int .i64 (rd l2 x9_3)) ∧ w'.cell? (ad208.add (x10_4).toNat) = some (.int .i64 (rd l2 x10_4)) ∧ w'.cell? (ad208.add (t213).toNat) = some (.int .i64 (rd l2 t213)) ∧ w'.cell? (ad208.add (t218).toNat) = some (.int .i64 (rd l2 t218)) ∧ w'.cell? (ad208.add (x9_3).toNat) = some (.int .i64 (rd l2 x9_3)) ∧ w'.cell? (ad208.add (x10_4).toNat) = some (.int .i64 (rd l2 x10_4)) ∧ w'.cell? (ad208.add (t223).toNat) = some (.int .i64 (rd l2 t223)) ∧ w'.cell? (ad208.add (x9_3).toNat) = some (.int .i64 (rd l2 x9_3)) ∧ w'.cell? (ad208.add (x10_4).toNat) = some (.int .i64 (rd l2 x10_4))) (ds := []) #[false, false, false, false, false, false, false, false, false, false, false, false, false, false, false, false, false, false, false, false, false, false, false, false, false, false, false, false, false, false, false, false, false, false, false, false, false, false, false, false, false, false, false, false, false, false, false, false, false, false, false, false, false, false, false, false, false, false, false, false, false, false, false, false, false, false, false, false, false, false, false, false, false, false, false, false, false, false, false, false, false, false, false, false, false, false, false, false, false, false] (by kernel_rfl) rfl rfl ⟨(blk_cell BK200.out 0).trans rfl, (blk_cell BK200.out 1).trans rfl, (blk_cell BK201.out 0).trans rfl, (blk_cell BK201.out 1).trans rfl, ((HB.out.cell (World.block_lt_of_cell? w _ hw206_0)).trans hw206_0), ((HB.out.cell (World.block_lt_of_cell? w _ hw207_0)).trans hw207_0), ((HB.out.cell (World.block_lt_of_cell? w _ hw208_0)).trans hw208_0), ((HB.out.cell (World.block_lt_of_cell? w _ hw209_0)).trans hw209_0), ((HB.out.cell (World.block_lt_of_cell? w _ hw210_0)).trans hw210_0), ((HB.out.cell (World.block_lt_of_cell? w _ hw211_0)).trans hw211_0), ((HB.out.cell (World.block_lt_of_cell? w _ hw212_0)).trans hw212_0), ((HB.out.cell (World.block_lt_of_cell? w _ hw215_0)).trans hw215_0), ((HB.out.cell (World.block_lt_of_cell? w _ hw216_0)).trans hw216_0), ((HB.out.cell (World.block_lt_of_cell? w _ hw214_0)).trans hw214_0), ((HB.out.cell (World.block_lt_of_cell? w _ hw219_0)).trans hw219_0), ((HB.out.cell (World.block_lt_of_cell? w _ hw220_0)).trans hw220_0), ((HB.out.cell (World.block_lt_of_cell? w _ hw221_0)).trans hw221_0), ((HB.out.cell (World.block_lt_of_cell? w _ hw224_0)).trans hw224_0), ((HB.out.cell (World.block_lt_of_cell? w _ hw225_0)).trans hw225_0), ((HB.out.cell (World.block_lt_of_cell? w _ hw226_0)).trans hw226_0)⟩ (fun hHeld => ?_); refine with_tabW spec_isMap.tab17 spec_isMap.bits17 (fun HT_ HW_ => ?_)
             generalize wr.drew = w55 at BK200 BK201 HB HR206_0 HR210_0 hx206_0 hx207_0 hx208_0 hx209_0 hx210_0 hx211_0 hx212_0 hx214_0 hx215_0 hx216_0 hx219_0 hx220_0 hx221_0 hx224_0 hx225_0 hx226_0 hHeld ⊢
             refine pu 0 59 1 90 ?_
             refine pu 1 60 3 90 ?_
             refine pu 3 62 11 90 ?_
             refine pu 6 65 75 90 ?_
             refine pu 11 70 2123 90 ?_
             refine pu 13 72 10315 90 ?_
             refine pu 14 73 26699 90 ?_
             refine pu 15 74 59467 90 ?_
             refine pu 19 78 583755 90 ?_
             refine pu 20 79 0x18e84b 90 ?_
             refine pu 21 80 0x38e84b 90 ?_
             refine tk 2 61 0x38e84f 90 ?_
             refine pu 4 63 0x38e85f 90 ?_
             refine tk 5 64 0x38e87f 90 ?_
             refine pu 7 66 0x38e8ff 90 ?_
             refine tk 8 67 0x38e9ff 90 ?_
             refine pu 9 68 0x38ebff 90 ?_
             refine tk 10 69 0x38efff 90 ?_
             refine tk 12 71 0x38ffff 90 ?_
             refine tk 16 75 0x39ffff 90 ?_
             refine pu 17 76 0x3bffff 90 ?_
             refine tk 18 77 0x3fffff 90 ?_
             refine tk 22 81 0x7fffff 90 ?_
             refine pu 23 82 0xffffff 90 ?_
             refine tk 24 83 0x1ffffff 90 ?_
             refine pu 25 84 0x3ffffff 90 ?_
             refine pu 26 85 0x7ffffff 90 ?_
             refine pu 27 86 0xfffffff 90 ?_
             refine pu 29 88 0x2fffffff 90 ?_
             refine pu 30 89 0x6fffffff 90 ?_
             refine pu 35 94 0x86fffffff 90 ?_
             refine pu 36 95 0x186fffffff 90 ?_
             refine pu 37 96 0x386fffffff 90 ?_
             refine pu 39 98 0xb86fffffff 90 ?_
             refine pu 40 99 0x1b86fffffff 90 ?_
             refine pu 41 100 0x3b86fffffff 90 ?_
             refine tk 28 87 0x3b87fffffff 90 ?_
             refine tk 34 93 0x3bc7fffffff 90 ?_
             refine tk 38 97 0x3fc7fffffff 90 ?_
             refine tk 42 101 0x7fc7fffffff 90 ?_
             refine one_ (i := 31) (N := some 90) #[true, true, true, true, true, true, true, true, true, true, true, true, true, true, true, true, true, true, true, true, true, true, true, true, true, true, true, true, true, true, true, true, false, false, true, true, true, true, true, true, true, true, true, false, false, false, false, false, false, false, false, false, false, false, false, false, false, false, false, false, false, false, false, false, false, false, false, false, false, false, false, false, false, false, false, false, false, false, false, false, false, false, false, false, false, false, false, false, false, false] rfl rfl (one_of HT_.out (by kernel_rfl)) (by decide) (fun K hK => ?_)
             refine goes_ Try.func68 (by kernel_rfl) rfl #[.agg #[.slice A0_0 l0_0.length c0_0, .slice (some ad206) l0_1.length c0_1], .int .i64 x9_3, .int .i64 x10_4] (by rfl) rfl rfl (by (try simp only [List.map_toArray, List.map_cons, List.map_nil]); first | done | rfl | (simp only [List.length_drop, List.length_take]; rfl)) ?_
             with_reducible refine (spec_imply.calls k4 _ _ l0_0 _ _ l0_1 x9_3 x10_4 t213 _ ?side1 ?side2 ?side3 ?side4 A40.out).mono ?_
             (case side1 => exact kC (Kd.C_below HR0_0.out HB.out))
             (case side2 => exact HC0_0.out)
             (case side3 => exact kC (Kd.C_below HR0_1.out HB.out))
             (case side4 => exact HC0_1.out)
             rintro e w56 ⟨rfl, hb⟩
             refine ⟨_, rfl, ?_⟩
             replace BK200 := ak (blk_below (kK BK200.out) hb)
             replace BK201 := ak (blk_below (kK BK201.out) hb)
             replace HB := ak (below_step (bB HB.out) hb)
             (try clear hb)
             (try clear hb2)
             (try clear hk)
             (try clear hi)
             refine hK.out _ _ ⟨(blk_cell BK200.out 0).trans rfl, (blk_cell BK200.out 1).trans rfl, (blk_cell BK201.out 0).trans rfl, (blk_cell BK201.out 1).trans rfl, ((HB.out.cell (World.block_lt_of_cell? w _ hw206_0)).trans hw206_0), ((HB.out.cell (World.block_lt_of_cell? w _ hw207_0)).trans hw207_0), ((HB.out.cell (World.block_lt_of_cell? w _ hw208_0)).trans hw208_0), ((HB.out.cell (World.block_lt_of_cell? w _ hw209_0)).trans hw209_0), ((HB.out.cell (World.block_lt_of_cell? w _ hw210_0)).trans hw210_0), ((HB.out.cell (World.block_lt_of_cell? w _ hw211_0)).trans hw211_0), ((HB.out.cell (World.block_lt_of_cell? w _ hw212_0)).trans hw212_0), ((HB.out.cell (World.block_lt_of_cell? w _ hw215_0)).trans hw215_0), ((HB.out.cell (World.block_lt_of_cell? w _ hw216_0)).trans hw216_0), ((HB.out.cell (World.block_lt_of_cell? w _ hw214_0)).trans hw214_0), ((HB.out.cell (World.block_lt_of_cell? w _ hw219_0)).trans hw219_0), ((HB.out.cell (World.block_lt_of_cell? w _ hw220_0)).trans hw220_0), ((HB.out.cell (World.block_lt_of_cell? w _ hw221_0)).trans hw221_0), ((HB.out.cell (World.block_lt_of_cell? w _ hw224_0)).trans hw224_0), ((HB.out.cell (World.block_lt_of_cell? w _ hw225_0)).trans hw225_0), ((HB.out.cell (World.block_lt_of_cell? w _ hw226_0)).trans hw226_0)⟩ (fun hHeld => ?_)
             clear hK K
             refine norm_ (a' := ?_) ?_ ?_
             rotate_left
             ·show Act.put _ (some 90) _ = _
              simp only [Act.put, List.setIfInBounds_toArray, List.set_cons_zero, List.set_cons_succ, i64_w, i32_w]
              rfl
             refine pu 32 91 0x7fdffffffff 90 ?_
             refine tk 33 92 0x7ffffffffff 90 ?_
             refine one_ (i := 43) (N := some 102) #[true, true, true, true, true, true, true, true, true, true, true, true, true, true, true, true, true, true, true, true, true, true, true, true, true, true, true, true, true, true, true, true, true, true, true, true, true, true, true, true, true, true, true, true, false, false, false, false, false, false, false, false, false, false, false, false, false, false, false, false, false, false, false, false, false, false, false, false, false, false, false, false, false, false, false, false, false, false, false, false, false, false, false, false, false, false, false, false, false, false] rfl rfl (one_of HT_.out (by kernel_rfl)) (by decide) (fun K hK => ?_)
             refine goes_ Try.func68 (by kernel_rfl) rfl #[.agg #[.slice A1_0 l1_0.length c1_0, .slice (some ad210) l1_1.length c1_1], .int .i64 (rd l2 x9_3), .int .i64 (rd l2 x10_4)] (by rfl) rfl rfl (by (try simp only [List.map_toArray, List.map_cons, List.map_nil]); first | done | rfl | (simp only [List.length_drop, List.length_take]; rfl)) ?_
             with_reducible refine (spec_imply.calls k4 _ _ l1_0 _ _ l1_1 (rd l2 x9_3) (rd l2 x10_4) t217 _ ?side1 ?side2 ?side3 ?side4 A43.out).mono ?_
             (case side1 => exact kC (Kd.C_below HR1_0.out HB.out))
             (case side2 => exact HC1_0.out)
             (case side3 => exact kC (Kd.C_below HR1_1.out HB.out))
             (case side4 => exact HC1_1.out)
             rintro e w57 ⟨rfl, hb⟩
             refine ⟨_, rfl, ?_⟩
             replace BK200 := ak (blk_below (kK BK200.out) hb)
             replace BK201 := ak (blk_below (kK BK201.out) hb)
             replace HB := ak (below_step (bB HB.out) hb)
             (try clear hb)
             (try clear hb2)
             (try clear hk)
             (try clear hi)
             refine hK.out _ _ ⟨(blk_cell BK200.out 0).trans rfl, (blk_cell BK200.out 1).trans rfl, (blk_cell BK201.out 0).trans rfl, (blk_cell BK201.out 1).trans rfl, ((HB.out.cell (World.block_lt_of_cell? w _ hw206_0)).trans hw206_0), ((HB.out.cell (World.block_lt_of_cell? w _ hw207_0)).trans hw207_0), ((HB.out.cell (World.block_lt_of_cell? w _ hw208_0)).trans hw208_0), ((HB.out.cell (World.block_lt_of_cell? w _ hw209_0)).trans hw209_0), ((HB.out.cell (World.block_lt_of_cell? w _ hw210_0)).trans hw210_0), ((HB.out.cell (World.block_lt_of_cell? w _ hw211_0)).trans hw211_0), ((HB.out.cell (World.block_lt_of_cell? w _ hw212_0)).trans hw212_0), ((HB.out.cell (World.block_lt_of_cell? w _ hw215_0)).trans hw215_0), ((HB.out.cell (World.block_lt_of_cell? w _ hw216_0)).trans hw216_0), ((HB.out.cell (World.block_lt_of_cell? w _ hw214_0)).trans hw214_0), ((HB.out.cell (World.block_lt_of_cell? w _ hw219_0)).trans hw219_0), ((HB.out.cell (World.block_lt_of_cell? w _ hw220_0)).trans hw220_0), ((HB.out.cell (World.block_lt_of_cell? w _ hw221_0)).trans hw221_0), ((HB.out.cell (World.block_lt_of_cell? w _ hw224_0)).trans hw224_0), ((HB.out.cell (World.block_lt_of_cell? w _ hw225_0)).trans hw225_0), ((HB.out.cell (World.block_lt_of_cell? w _ hw226_0)).trans hw226_0)⟩ (fun hHeld => ?_)
             clear hK K
             refine norm_ (a' := ?_) ?_ ?_
             rotate_left
             ·show Act.put _ (some 102) _ = _
              simp only [Act.put, List.setIfInBounds_toArray, List.set_cons_zero, List.set_cons_succ, i64_w, i32_w]
              rfl
             refine pu 44 103 0x1fffffffffff 90 ?_
             refine pu 45 104 0x3fffffffffff 90 ?_
             refine pu 46 105 0x7fffffffffff 90 ?_
             refine pu 47 106 0xffffffffffff 90 ?_
             refine pu 48 107 0x1ffffffffffff 90 ?_
             refine pu 50 109 0x5ffffffffffff 90 ?_
             refine pu 51 110 0xdffffffffffff 90 ?_
             refine pu 55 114 0x8dffffffffffff 90 ?_
             refine pu 57 116 0x28dffffffffffff 90 ?_
             refine pu 58 117 0x68dffffffffffff 90 ?_
             refine pu 59 118 0xe8dffffffffffff 90 ?_
             refine pu 61 120 0x2e8dffffffffffff 90 ?_
             refine pu 62 121 0x6e8dffffffffffff 90 ?_
             refine pu 63 122 0xee8dffffffffffff 90 ?_
             refine tk 49 108 0xee8fffffffffffff 90 ?_
             refine tk 56 115 0xef8fffffffffffff 90 ?_
             refine tk 60 119 0xff8fffffffffffff 90 ?_
             refine tk 64 123 0x1ff8fffffffffffff 90 ?_
             refine one_ (i := 52) (N := some 111) #[true, true, true, true, true, true, true, true, true, true, true, true, true, true, true, true, true, true, true, true, true, true, true, true, true, true, true, true, true, true, true, true, true, true, true, true, true, true, true, true, true, true, true, true, true, true, true, true, true, true, true, true, true, false, false, true, true, true, true, true, true, true, true, true, true, false, false, false, false, false, false, false, false, false, false, false, false, false, false, false, false, false, false, false, false, false, false, false, false, false] rfl rfl (one_of HT_.out (by kernel_rfl)) (by decide) (fun K hK => ?_)
             refine goes_ Try.func69 (by kernel_rfl) rfl #[.slice A0_0 l0_0.length c0_0, .int .i64 x9_3, .int .i64 x10_4] (by rfl) rfl rfl (by (try simp only [List.map_toArray, List.map_cons, List.map_nil]); first | done | rfl | (simp only [List.length_drop, List.length_take]; rfl)) ?_
             with_reducible refine (spec_meet.calls k4 _ _ l0_0 x9_3 x10_4 t218 _ ?side1 ?side2 A45.out).mono ?_
             (case side1 => exact kC (Kd.C_below HR0_0.out HB.out))
             (case side2 => exact HC0_0.out)
             rintro e w' ⟨rfl, ⟨nd, rfl⟩⟩
             refine ⟨_, rfl, ?_⟩
             refine hK.out _ _ ⟨(blk_cell BK200.out 0).trans rfl, (blk_cell BK200.out 1).trans rfl, (blk_cell BK201.out 0).trans rfl, (blk_cell BK201.out 1).trans rfl, ((HB.out.cell (World.block_lt_of_cell? w _ hw206_0)).trans hw206_0), ((HB.out.cell (World.block_lt_of_cell? w _ hw207_0)).trans hw207_0), ((HB.out.cell (World.block_lt_of_cell? w _ hw208_0)).trans hw208_0), ((HB.out.cell (World.block_lt_of_cell? w _ hw209_0)).trans hw209_0), ((HB.out.cell (World.block_lt_of_cell? w _ hw210_0)).trans hw210_0), ((HB.out.cell (World.block_lt_of_cell? w _ hw211_0)).trans hw211_0), ((HB.out.cell (World.block_lt_of_cell? w _ hw212_0)).trans hw212_0), ((HB.out.cell (World.block_lt_of_cell? w _ hw215_0)).trans hw215_0), ((HB.out.cell (World.block_lt_of_cell? w _ hw216_0)).trans hw216_0), ((HB.out.cell (World.block_lt_of_cell? w _ hw214_0)).trans hw214_0), ((HB.out.cell (World.block_lt_of_cell? w _ hw219_0)).trans hw219_0), ((HB.out.cell (World.block_lt_of_cell? w _ hw220_0)).trans hw220_0), ((HB.out.cell (World.block_lt_of_cell? w _ hw221_0)).trans hw221_0), ((HB.out.cell (World.block_lt_of_cell? w _ hw224_0)).trans hw224_0), ((HB.out.cell (World.block_lt_of_cell? w _ hw225_0)).trans hw225_0), ((HB.out.cell (World.block_lt_of_cell? w _ hw226_0)).trans hw226_0)⟩ (fun hHeld => ?_)
             clear hK K
             refine norm_ (a' := ?_) ?_ ?_
             rotate_left
             ·show Act.put _ (some 111) _ = _
              simp only [Act.put, List.setIfInBounds_toArray, List.set_cons_zero, List.set_cons_succ, i64_w, i32_w]
              rfl
             refine pu 53 112 0x1ffbfffffffffffff 90 ?_
             refine tk 54 113 0x1ffffffffffffffff 90 ?_
             refine one_ (i := 65) (N := some 124) #[true, true, true, true, true, true, true, true, true, true, true, true, true, true, true, true, true, true, true, true, true, true, true, true, true, true, true, true, true, true, true, true, true, true, true, true, true, true, true, true, true, true, true, true, true, true, true, true, true, true, true, true, true, true, true, true, true, true, true, true, true, true, true, true, true, true, false, false, false, false, false, false, false, false, false, false, false, false, false, false, false, false, false, false, false, false, false, false, false, false] rfl rfl (one_of HT_.out (by kernel_rfl)) (by decide) (fun K hK => ?_)
             refine goes_ Try.func69 (by kernel_rfl) rfl #[.slice A1_0 l1_0.length c1_0, .int .i64 (rd l2 x9_3), .int .i64 (rd l2 x10_4)] (by rfl) rfl rfl (by (try simp only [List.map_toArray, List.map_cons, List.map_nil]); first | done | rfl | (simp only [List.length_drop, List.length_take]; rfl)) ?_
             with_reducible refine (spec_meet.calls k4 _ _ l1_0 (rd l2 x9_3) (rd l2 x10_4) t222 _ ?side1 ?side2 A48.out).mono ?_
             (case side1 => exact kC (Kd.C_below HR1_0.out (bB HB.out)))
             (case side2 => exact HC1_0.out)
             rintro e w' ⟨rfl, ⟨nd, rfl⟩⟩
             refine ⟨_, rfl, ?_⟩
             refine hK.out _ _ ⟨(blk_cell BK200.out 0).trans rfl, (blk_cell BK200.out 1).trans rfl, (blk_cell BK201.out 0).trans rfl, (blk_cell BK201.out 1).trans rfl, ((HB.out.cell (World.block_lt_of_cell? w _ hw206_0)).trans hw206_0), ((HB.out.cell (World.block_lt_of_cell? w _ hw207_0)).trans hw207_0), ((HB.out.cell (World.block_lt_of_cell? w _ hw208_0)).trans hw208_0), ((HB.out.cell (World.block_lt_of_cell? w _ hw209_0)).trans hw209_0), ((HB.out.cell (World.block_lt_of_cell? w _ hw210_0)).trans hw210_0), ((HB.out.cell (World.block_lt_of_cell? w _ hw211_0)).trans hw211_0), ((HB.out.cell (World.block_lt_of_cell? w _ hw212_0)).trans hw212_0), ((HB.out.cell (World.block_lt_of_cell? w _ hw215_0)).trans hw215_0), ((HB.out.cell (World.block_lt_of_cell? w _ hw216_0)).trans hw216_0), ((HB.out.cell (World.block_lt_of_cell? w _ hw214_0)).trans hw214_0), ((HB.out.cell (World.block_lt_of_cell? w _ hw219_0)).trans hw219_0), ((HB.out.cell (World.block_lt_of_cell? w _ hw220_0)).trans hw220_0), ((HB.out.cell (World.block_lt_of_cell? w _ hw221_0)).trans hw221_0), ((HB.out.cell (World.block_lt_of_cell? w _ hw224_0)).trans hw224_0), ((HB.out.cell (World.block_lt_of_cell? w _ hw225_0)).trans hw225_0), ((HB.out.cell (World.block_lt_of_cell? w _ hw226_0)).trans hw226_0)⟩ (fun hHeld => ?_)
             clear hK K
             refine norm_ (a' := ?_) ?_ ?_
             rotate_left
             ·show Act.put _ (some 124) _ = _
              simp only [Act.put, List.setIfInBounds_toArray, List.set_cons_zero, List.set_cons_succ, i64_w, i32_w]
              rfl
             refine pu 66 125 0x7ffffffffffffffff 90 ?_
             refine pu 67 126 0xfffffffffffffffff 90 ?_
             refine pu 68 127 0x1fffffffffffffffff 90 ?_
             refine pu 69 128 0x3fffffffffffffffff 90 ?_
             refine pu 70 129 0x7fffffffffffffffff 90 ?_
             refine pu 72 131 0x17fffffffffffffffff 90 ?_
             refine pu 73 132 0x37fffffffffffffffff 90 ?_
             refine pu 77 136 0x237fffffffffffffffff 90 ?_
             refine pu 79 138 0xa37fffffffffffffffff 90 ?_
             refine pu 80 139 0x1a37fffffffffffffffff 90 ?_
             refine pu 81 140 0x3a37fffffffffffffffff 90 ?_
             refine pu 83 142 0xba37fffffffffffffffff 90 ?_
             refine pu 84 143 0x1ba37fffffffffffffffff 90 ?_
             refine pu 85 144 0x3ba37fffffffffffffffff 90 ?_
             refine tk 71 130 0x3ba3ffffffffffffffffff 90 ?_
             refine tk 78 137 0x3be3ffffffffffffffffff 90 ?_
             refine tk 82 141 0x3fe3ffffffffffffffffff 90 ?_
             refine tk 86 145 0x7fe3ffffffffffffffffff 90 ?_
             refine one_ (i := 74) (N := some 133) #[true, true, true, true, true, true, true, true, true, true, true, true, true, true, true, true, true, true, true, true, true, true, true, true, true, true, true, true, true, true, true, true, true, true, true, true, true, true, true, true, true, true, true, true, true, true, true, true, true, true, true, true, true, true, true, true, true, true, true, true, true, true, true, true, true, true, true, true, true, true, true, true, true, true, true, false, false, true, true, true, true, true, true, true, true, true, true, false, false, false] rfl rfl (one_of HT_.out (by kernel_rfl)) (by decide) (fun K hK => ?_)
             refine goes_ Try.func60 (by kernel_rfl) rfl #[.slice A0_0 l0_0.length c0_0, .int .i64 x9_3, .int .i64 x10_4] (by rfl) rfl rfl (by (try simp only [List.map_toArray, List.map_cons, List.map_nil]); first | done | rfl | (simp only [List.length_drop, List.length_take]; rfl)) ?_
             with_reducible refine (spec_join.calls k4 _ _ l0_0 x9_3 x10_4 t223 _ ?side1 ?side2 A50.out).mono ?_
             (case side1 => exact kC (Kd.C_below HR0_0.out (bB HB.out)))
             (case side2 => exact HC0_0.out)
             rintro e w' ⟨rfl, ⟨nd, rfl⟩⟩
             refine ⟨_, rfl, ?_⟩
             refine hK.out _ _ ⟨(blk_cell BK200.out 0).trans rfl, (blk_cell BK200.out 1).trans rfl, (blk_cell BK201.out 0).trans rfl, (blk_cell BK201.out 1).trans rfl, ((HB.out.cell (World.block_lt_of_cell? w _ hw206_0)).trans hw206_0), ((HB.out.cell (World.block_lt_of_cell? w _ hw207_0)).trans hw207_0), ((HB.out.cell (World.block_lt_of_cell? w _ hw208_0)).trans hw208_0), ((HB.out.cell (World.block_lt_of_cell? w _ hw209_0)).trans hw209_0), ((HB.out.cell (World.block_lt_of_cell? w _ hw210_0)).trans hw210_0), ((HB.out.cell (World.block_lt_of_cell? w _ hw211_0)).trans hw211_0), ((HB.out.cell (World.block_lt_of_cell? w _ hw212_0)).trans hw212_0), ((HB.out.cell (World.block_lt_of_cell? w _ hw215_0)).trans hw215_0), ((HB.out.cell (World.block_lt_of_cell? w _ hw216_0)).trans hw216_0), ((HB.out.cell (World.block_lt_of_cell? w _ hw214_0)).trans hw214_0), ((HB.out.cell (World.block_lt_of_cell? w _ hw219_0)).trans hw219_0), ((HB.out.cell (World.block_lt_of_cell? w _ hw220_0)).trans hw220_0), ((HB.out.cell (World.block_lt_of_cell? w _ hw221_0)).trans hw221_0), ((HB.out.cell (World.block_lt_of_cell? w _ hw224_0)).trans hw224_0), ((HB.out.cell (World.block_lt_of_cell? w _ hw225_0)).trans hw225_0), ((HB.out.cell (World.block_lt_of_cell? w _ hw226_0)).trans hw226_0)⟩ (fun hHeld => ?_)
             clear hK K
             refine norm_ (a' := ?_) ?_ ?_
             rotate_left
             ·show Act.put _ (some 133) _ = _
              simp only [Act.put, List.setIfInBounds_toArray, List.set_cons_zero, List.set_cons_succ, i64_w, i32_w]
              rfl
             refine pu 75 134 0x7fefffffffffffffffffff 90 ?_
             refine tk 76 135 0x7fffffffffffffffffffff 90 ?_
             refine one_ (i := 87) (N := some 146) #[true, true, true, true, true, true, true, true, true, true, true, true, true, true, true, true, true, true, true, true, true, true, true, true, true, true, true, true, true, true, true, true, true, true, true, true, true, true, true, true, true, true, true, true, true, true, true, true, true, true, true, true, true, true, true, true, true, true, true, true, true, true, true, true, true, true, true, true, true, true, true, true, true, true, true, true, true, true, true, true, true, true, true, true, true, true, true, true, false, false] rfl rfl (one_of HT_.out (by kernel_rfl)) (by decide) (fun K hK => ?_)
             refine goes_ Try.func60 (by kernel_rfl) rfl #[.slice A1_0 l1_0.length c1_0, .int .i64 (rd l2 x9_3), .int .i64 (rd l2 x10_4)] (by rfl) rfl rfl (by (try simp only [List.map_toArray, List.map_cons, List.map_nil]); first | done | rfl | (simp only [List.length_drop, List.length_take]; rfl)) ?_
             with_reducible refine (spec_join.calls k4 _ _ l1_0 (rd l2 x9_3) (rd l2 x10_4) t227 _ ?side1 ?side2 A53.out).mono ?_
             (case side1 => exact kC (Kd.C_below HR1_0.out (bB HB.out)))
             (case side2 => exact HC1_0.out)
             rintro e w' ⟨rfl, ⟨nd, rfl⟩⟩
             refine ⟨_, rfl, ?_⟩
             refine hK.out _ _ ⟨(blk_cell BK200.out 0).trans rfl, (blk_cell BK200.out 1).trans rfl, (blk_cell BK201.out 0).trans rfl, (blk_cell BK201.out 1).trans rfl, ((HB.out.cell (World.block_lt_of_cell? w _ hw206_0)).trans hw206_0), ((HB.out.cell (World.block_lt_of_cell? w _ hw207_0)).trans hw207_0), ((HB.out.cell (World.block_lt_of_cell? w _ hw208_0)).trans hw208_0), ((HB.out.cell (World.block_lt_of_cell? w _ hw209_0)).trans hw209_0), ((HB.out.cell (World.block_lt_of_cell? w _ hw210_0)).trans hw210_0), ((HB.out.cell (World.block_lt_of_cell? w _ hw211_0)).trans hw211_0), ((HB.out.cell (World.block_lt_of_cell? w _ hw212_0)).trans hw212_0), ((HB.out.cell (World.block_lt_of_cell? w _ hw215_0)).trans hw215_0), ((HB.out.cell (World.block_lt_of_cell? w _ hw216_0)).trans hw216_0), ((HB.out.cell (World.block_lt_of_cell? w _ hw214_0)).trans hw214_0), ((HB.out.cell (World.block_lt_of_cell? w _ hw219_0)).trans hw219_0), ((HB.out.cell (World.block_lt_of_cell? w _ hw220_0)).trans hw220_0), ((HB.out.cell (World.block_lt_of_cell? w _ hw221_0)).trans hw221_0), ((HB.out.cell (World.block_lt_of_cell? w _ hw224_0)).trans hw224_0), ((HB.out.cell (World.block_lt_of_cell? w _ hw225_0)).trans hw225_0), ((HB.out.cell (World.block_lt_of_cell? w _ hw226_0)).trans hw226_0)⟩ (fun hHeld => ?_)
             clear hK K
             refine norm_ (a' := ?_) ?_ ?_
             rotate_left
             ·show Act.put _ (some 146) _ = _
              simp only [Act.put, List.setIfInBounds_toArray, List.set_cons_zero, List.set_cons_succ, i64_w, i32_w]
              rfl
             refine pu 88 147 0x1ffffffffffffffffffffff 90 ?_
             refine pu 89 148 0x3ffffffffffffffffffffff 90 ?_
             refine done_ (done_of HT_.out (by kernel_rfl)) ?_
             try go_wp2
             go_roundg k4
             case measure => have := HK1.out; have := HJ15.out; have := HK3.out; have := HK4.out; omega
             case rel => exact ⟨(wrap64 (x10_4 + 1)), (by first | rfl | (simp; done) | (simp [*]; done)), H', ⟨by have := HK1.out; have := HJ15.out; have := HK3.out; have := HK4.out; omega⟩, ⟨by (with_reducible repeat (first | refine blk_drewN ?_ _ | refine blk_drew ?_ | refine blk_alloc ?_ _)); exact BK200.out⟩, ⟨by (with_reducible repeat (first | refine blk_drewN ?_ _ | refine blk_drew ?_ | refine blk_alloc ?_ _)); exact BK201.out⟩, ⟨by repeat (first | (with_reducible first | exact HB.out | apply below_alloc | apply pw_below_drewN | apply below_drew1 | refine below_set ?_ GE200.out | refine below_set ?_ GE201.out) | exact HB.out)⟩⟩
end Go.Proofs.Ytomapoenndlbiaa.P

-- shrunk
