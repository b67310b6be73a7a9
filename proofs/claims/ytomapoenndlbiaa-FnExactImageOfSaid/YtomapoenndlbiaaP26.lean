-- Printed by this session's wip/print2.py (the kit's print.py, widened) out of the translation. Lean checks it.
import Derived.Test.YtomapoenndlbiaaP0
import Derived.Test.YtomapoenndlbiaaP18
import Derived.Test.YtomapoenndlbiaaP20
import Derived.Test.YtomapoenndlbiaaP24
import Derived.Test.YtomapoenndlbiaaP25
namespace Go.Proofs.Ytomapoenndlbiaa.P
open Go.RowKit Go.Proofs.YtomapoenndlbiaaW.PrintWords Go.Proofs.YtomapoenndlbiaaW.PrintLast Go.Proofs.YtomapoenndlbiaaW.PrintMore
attribute [local go_sem] max2_int min2_int max_two min_two max_three min_three max_four min_four   -- for this text's walks alone
set_option linter.unusedVariables false
set_option linter.unusedSimpArgs false

/-! ### impl_isMap: function 44 -/
mutual
def impl_isMap.j0 : Nat → List Int → Bool → List Int → List (List Int) → List Int → List (List Int) → Option (Bool)
 | 0, _, _, _, _, _, _ => none
 | k + 1, x2, x19, x289000, x289001, x290000, x290001 => if x19 = true then (some false) else (if 0 < (x2.length : Int) then (if (rd x2 0) = 0 then (if 0 ≤ (wrap64 ((x2.length : Int) - 1)) then (if (wrap64 ((x2.length : Int) - 1)) < (x2.length : Int) then (impl_isMap.j1 k x2 ((rd x2 (wrap64 ((x2.length : Int) - 1))) != (wrap64 ((x290000.length : Int) - 1))) x289000 x289001 x290000 x290001) else (none)) else (none)) else (impl_isMap.j1 k x2 true x289000 x289001 x290000 x290001)) else (none))
def impl_isMap.j1 : Nat → List Int → Bool → List Int → List (List Int) → List Int → List (List Int) → Option (Bool)
 | 0, _, _, _, _, _, _ => none
 | k + 1, x2, x36, x289000, x289001, x290000, x290001 => if x36 = true then (some false) else (impl_isMap.l0 k x2 (x2.length : Int) 0 x289000 x289001 x290000 x290001)
def impl_isMap.l0 : Nat → List Int → Int → Int → List Int → List (List Int) → List Int → List (List Int) → Option (Bool)
 | 0, _, _, _, _, _, _, _ => none
 | k + 1, x2, x38, x39, x289000, x289001, x290000, x290001 => if x39 < x38 then (impl_isMap.l1 k x2 x39 x38 x39 (x2.length : Int) 0 x289000 x289001 x290000 x290001) else (some true)
def impl_isMap.l1 : Nat → List Int → Int → Int → Int → Int → Int → List Int → List (List Int) → List Int → List (List Int) → Option (Bool)
 | 0, _, _, _, _, _, _, _, _, _, _ => none
 | k + 1, x2, x7, x38, x39, x43, x44, x289000, x289001, x290000, x290001 => if x44 < x43 then (if 0 ≤ x7 then (if x7 < (x289001.length : Int) then (if 0 ≤ x44 then (if x44 < ((rd_L1 x289001 x7).length : Int) then (if 0 ≤ (rd (rd_L1 x289001 x7) x44) then (if (rd (rd_L1 x289001 x7) x44) < (x2.length : Int) then (if x7 < (x2.length : Int) then (if 0 ≤ (rd x2 x7) then (if (rd x2 x7) < (x290001.length : Int) then (if x44 < (x2.length : Int) then (if 0 ≤ (rd x2 x44) then (if (rd x2 x44) < ((rd_L1 x290001 (rd x2 x7)).length : Int) then (if (rd x2 (rd (rd_L1 x289001 x7) x44)) = (rd (rd_L1 x290001 (rd x2 x7)) (rd x2 x44)) then ((impl_imply.f k x289000 x289001 x7 x44).bind fun t300 => (if 0 ≤ t300 then (if t300 < (x2.length : Int) then ((impl_imply.f k x290000 x290001 (rd x2 x7) (rd x2 x44)).bind fun t304 => (if (rd x2 t300) = t304 then ((impl_meet.f k x289000 x7 x44).bind fun t305 => (if 0 ≤ t305 then (if t305 < (x2.length : Int) then ((impl_meet.f k x290000 (rd x2 x7) (rd x2 x44)).bind fun t309 => (if (rd x2 t305) = t309 then ((impl_join.f k x289000 x7 x44).bind fun t310 => (if 0 ≤ t310 then (if t310 < (x2.length : Int) then ((impl_join.f k x290000 (rd x2 x7) (rd x2 x44)).bind fun t314 => (if (rd x2 t310) = t314 then (impl_isMap.l1 k x2 x7 x38 x39 x43 (wrap64 (x44 + 1)) x289000 x289001 x290000 x290001) else (some false))) else (none)) else (none))) else (some false))) else (none)) else (none))) else (some false))) else (none)) else (none))) else (some false)) else (none)) else (none)) else (none)) else (none)) else (none)) else (none)) else (none)) else (none)) else (none)) else (none)) else (none)) else (none)) else (impl_isMap.l0 k x2 x38 (wrap64 (x39 + 1)) x289000 x289001 x290000 x290001)
end
def impl_isMap.f (k : Nat) (l0_0 : List Int) (l0_1 : List (List Int)) (l1_0 : List Int) (l1_1 : List (List Int)) (l2 : List Int) : Option (Bool) := if (l2.length : Int) = (l0_0.length : Int) then ((cf_isMap_1.f l2 l1_0 l1_1).bind fun t290 => (impl_isMap.j0 k l2 t290 l0_0 l0_1 l1_0 l1_1)) else (impl_isMap.j0 k l2 true l0_0 l0_1 l1_0 l1_1)
def impl_isMap.T3 : Bool × List (List Nat × List Nat) := (true, [([], []), ([0], [0]), ([1], [1]), ([2], [2]), ([3], [3]), ([4], [4]), ([4], [4]), ([6, 4], [4, 6]), ([7, 4], [4, 7]), ([5, 8, 4], [4, 5, 8]), ([9, 4], [4, 9]), ([4], [4]), ([11, 4], [4, 11]), ([12, 4], [4, 12]), ([13, 4], [4, 13]), ([10, 14, 4], [4, 10, 14]), ([4, 15], [4, 15])])
def impl_isMap.B3 : List Nat := [0, 1, 3, 7, 15, 31, 31, 95, 223, 511, 1023, 31, 2079, 6175, 14367, 32767, 65535]
theorem impl_isMap.tab3 : rtab .any (opsOf Try.f44 3) = impl_isMap.T3 := by kernel_rfl
theorem impl_isMap.bits3 : waitsOk impl_isMap.T3.2 impl_isMap.B3 = true := by kernel_rfl
def impl_isMap.T11 : Bool × List (List Nat × List Nat) := (true, [([], []), ([], []), ([1], [1]), ([], []), ([2, 3], [2, 3]), ([4], [4]), ([], []), ([5, 6], [5, 6]), ([7], [7]), ([0, 8], [0, 8]), ([9], [9]), ([], []), ([11], [11]), ([], []), ([], []), ([13, 14], [13, 14]), ([15], [15]), ([12, 16], [12, 16]), ([17], [17]), ([], []), ([], []), ([19, 20], [19, 20]), ([21], [21]), ([18, 22], [18, 22]), ([23], [23]), ([10, 24], [10, 24]), ([25], [25]), ([26], [26]), ([26], [26]), ([26], [26]), ([26], [26]), ([28, 29, 30, 26, 26], [26, 28, 29, 30]), ([27, 31, 26], [26, 27, 31]), ([32, 26], [26, 32]), ([26], [26]), ([26], [26]), ([26], [26]), ([35, 36, 26], [26, 35, 36]), ([37, 26], [26, 37]), ([26], [26]), ([26], [26]), ([39, 40, 26], [26, 39, 40]), ([41, 26], [26, 41]), ([34, 38, 42, 31, 26], [26, 34, 38, 42]), ([33, 43, 26], [26, 33, 43]), ([26, 44], [26, 44]), ([45, 43], [45]), ([46], [46]), ([46], [46]), ([48, 46], [46, 48]), ([46], [46]), ([46], [46]), ([49, 50, 51, 46, 46], [46, 49, 50, 51]), ([47, 52, 46], [46, 47, 52]), ([53, 46], [46, 53]), ([46], [46]), ([55, 46], [46, 55]), ([46], [46]), ([46], [46]), ([57, 58, 46], [46, 57, 58]), ([59, 46], [46, 59]), ([46], [46]), ([46], [46]), ([61, 62, 46], [46, 61, 62]), ([63, 46], [46, 63]), ([56, 60, 64, 52, 46], [46, 56, 60, 64]), ([54, 65, 46], [46, 54, 65]), ([46, 66], [46, 66]), ([67, 65], [67]), ([68], [68]), ([68], [68]), ([70, 68], [68, 70]), ([68], [68]), ([68], [68]), ([71, 72, 73, 68, 68], [68, 71, 72, 73]), ([69, 74, 68], [68, 69, 74]), ([75, 68], [68, 75]), ([68], [68]), ([77, 68], [68, 77]), ([68], [68]), ([68], [68]), ([79, 80, 68], [68, 79, 80]), ([81, 68], [68, 81]), ([68], [68]), ([68], [68]), ([83, 84, 68], [68, 83, 84]), ([85, 68], [68, 85]), ([78, 82, 86, 74, 68], [68, 78, 82, 86]), ([76, 87, 68], [68, 76, 87]), ([68, 88], [68, 88])])
def impl_isMap.B11 : List Nat := [0, 0, 2, 0, 14, 30, 0, 126, 254, 511, 1023, 0, 2048, 0, 0, 24576, 57344, 129024, 260096, 0, 0, 1572864, 3670016, 8386560, 16775168, 33554431, 67108863, 134217727, 134217727, 134217727, 134217727, 2013265919, 4294967295, 8589934591, 134217727, 134217727, 134217727, 103213432831, 240652386303, 134217727, 134217727, 1649401659391, 3848424914943, 8783073902591, 17592186044415, 35184372088831, 70368744177663, 140737488355327, 140737488355327, 422212465065983, 140737488355327, 140737488355327, 4362862139015167, 9007199254740991, 18014398509481983, 140737488355327, 36169534507319295, 140737488355327, 140737488355327, 432486301715922943, 1008947054019346431, 140737488355327, 140737488355327, 6917669765129437183, 16141041801984212991, 36866325812166524927, 73786976294838206463, 147573952589676412927, 295147905179352825855, 590295810358705651711, 590295810358705651711, 1770887431076116955135, 590295810358705651711, 590295810358705651711, 18299170121119875203071, 37778931862957161709567, 75557863725914323419135, 590295810358705651711, 151706023262187352489983, 590295810358705651711, 590295810358705651711, 1813979025232302467710975, 4231830664461560817123327, 590295810358705651711, 590295810358705651711, 29014809966561458898599935, 67700436194229592489197567, 154628577819273304171610111, 309485009821345068724781055, 618970019642690137449562111]
theorem impl_isMap.tab11 : rtab .any (opsOf Try.f44 11) = impl_isMap.T11 := by kernel_rfl
theorem impl_isMap.bits11 : waitsOk impl_isMap.T11.2 impl_isMap.B11 = true := by kernel_rfl
set_option maxHeartbeats 8000000 in
set_option maxRecDepth 100000 in
theorem impl_isMap.calls (k : Nat) (A0_0 : Option Addr) (c0_0 : Nat) (l0_0 : List Int) (A0_1 : Option Addr) (c0_1 : Nat) (l0_1 : List (List Int)) (A1_0 : Option Addr) (c1_0 : Nat) (l1_0 : List Int) (A1_1 : Option Addr) (c1_1 : Nat) (l1_1 : List (List Int)) (A2 : Option Addr) (c2 : Nat) (l2 : List Int) (r : Bool) (w : World) (hr0_0 : Kd.C (Kd.int .i64) w A0_0 l0_0.length l0_0) (hc0_0 : l0_0.length ≤ c0_0) (hr0_1 : Kd.C (Kd.slice 3 (Kd.int .i64)) w A0_1 l0_1.length l0_1) (hc0_1 : l0_1.length ≤ c0_1) (hr1_0 : Kd.C (Kd.int .i64) w A1_0 l1_0.length l1_0) (hc1_0 : l1_0.length ≤ c1_0) (hr1_1 : Kd.C (Kd.slice 3 (Kd.int .i64)) w A1_1 l1_1.length l1_1) (hc1_1 : l1_1.length ≤ c1_1) (hr2 : Kd.C (Kd.int .i64) w A2 l2.length l2) (hc2 : l2.length ≤ c2) (h : impl_isMap.f k l0_0 l0_1 l1_0 l1_1 l2 = some r) :
  Calls Try.prog 44 #[.agg #[.slice A0_0 l0_0.length c0_0, .slice A0_1 l0_1.length c0_1], .agg #[.slice A1_0 l1_0.length c1_0, .slice A1_1 l1_1.length c1_1], .slice A2 l2.length c2] w fun e w' => e = .returned (.bool r) ∧ Below w.heap.size w w' := by
 have hu28 := Try.underlying28
 have HR0_0 := ak hr0_0
 have HC0_0 := ak hc0_0
 clear hr0_0 hc0_0
 have HR0_1 := ak hr0_1
 have HC0_1 := ak hc0_1
 clear hr0_1 hc0_1
 have HR1_0 := ak hr1_0
 have HC1_0 := ak hc1_0
 clear hr1_0 hc1_0
 have HR1_1 := ak hr1_1
 have HC1_1 := ak hc1_1
 clear hr1_1 hc1_1
 have HR2 := ak hr2
 have HC2 := ak hc2
 clear hr2 hc2
 have HB := ak (Below.refl w.heap.size w)
 have H : (if (l2.length : Int) = (l0_0.length : Int) then ((cf_isMap_1.f l2 l1_0 l1_1).bind fun t290 => (impl_isMap.j0 k l2 t290 l0_0 l0_1 l1_0 l1_1)) else (impl_isMap.j0 k l2 true l0_0 l0_1 l1_0 l1_1)) = some r := h
 clear h
 have HC4 := ak H
 clear H
 have hmf : ∀ (fn : Fn) (first cap : Array Value) (w : World), (Instr.makeFunc fn first cap).run Try.prog w = .ok (.func fn first cap) w := fun _ _ _ _ => rfl
 go_enter Try.func44, Try.ntmps44
 go_upto_region 1 with (first | ((with_reducible refine gate_dst (N := 3) rfl ?_); (try (refine gate_guard (by rfl) ?_; dsimp only)); refine box_event ?hg (N := 3) ?hd (cs := #[.slice A0_0 l0_0.length c0_0, .slice A0_1 l0_1.length c0_1]) (t := 28) ?hr ?_; (case hd => rfl); (case hg => rfl); (case hr => first | (go_simp; done) | (go_simp; rfl)); intro gb288 hg w5 hbox hb; have BK288 := ak (hbox); have GW288 := ak ((by rw [hg]; exact (below_size (bB HB.out)) : w.heap.size ≤ gb288)); have GE288 := ak ((by rw [hg]; exact (below_size (bB HB.out)) : w.heap.size ≤ gb288)); replace HB := ak (below_step (bB HB.out) hb); clear hb hbox hg) | ((with_reducible refine gate_dst (N := 4) rfl ?_); (try (refine gate_guard (by rfl) ?_; dsimp only)); refine box_event ?hg (N := 4) ?hd (cs := #[.slice A1_0 l1_0.length c1_0, .slice A1_1 l1_1.length c1_1]) (t := 28) ?hr ?_; (case hd => rfl); (case hg => rfl); (case hr => first | (go_simp; done) | (go_simp; rfl)); intro gb289 hg w6 hbox hb; have BK289 := ak (hbox); have GW289 := ak ((by rw [hg]; exact (below_size (bB HB.out)) : w.heap.size ≤ gb289)); have GE289 := ak ((by rw [hg]; exact (below_size (bB HB.out)) : w.heap.size ≤ gb289)); replace HB := ak (below_step (bB HB.out) hb); have NB288_289 := ak ((ne_box hg (kK BK288.out))); have NB289_288 := ak ((ne_box' hg (kK BK288.out))); replace BK288 := ak (blk_below (kK BK288.out) hb); clear hb hbox hg))
 (try simp only [Act.put, List.setIfInBounds_toArray, List.set_cons_zero, List.set_cons_succ])
 go_cut [19] (fun v19 wc => ∃ (kq : Nat) (x19_3 : Bool), v19 = .bool x19_3 ∧ Aside0 (impl_isMap.j0 kq l2 x19_3 l0_0 l0_1 l1_0 l1_1 = some r) ∧ Aside0 (kq ≤ k) ∧ Aside0 (wc.heap[gb288]? = some (.cells #[(.slice A0_0 l0_0.length c0_0), (.slice A0_1 l0_1.length c0_1)] 28 (0, 0))) ∧ Aside0 (wc.heap[gb289]? = some (.cells #[(.slice A1_0 l1_0.length c1_0), (.slice A1_1 l1_1.length c1_1)] 28 (0, 0))) ∧ Aside0 (Below w.heap.size w wc))
 case first =>
  have H := HC4.out
  clear HC4
  by_cases c7 : (l2.length : Int) = (l0_0.length : Int)
  rotate_left
  ·rw [if_neg c7] at H
   have c7b0 : ((l2.length : Int) == (l0_0.length : Int)) = false := beq_eq_false_iff_ne.mpr c7
   have c7b1 : ((l2.length : Int) != (l0_0.length : Int)) = true := bne_iff_ne.mpr c7
   have c7b2 : (l2.length == l0_0.length) = false := by first | simpa using c7 | (simp at c7 ⊢; omega)
   (first | rw [c7b0] | (simp only [i64_w, i32_w]; rw [c7b0]) | skip)
   have H' := ak H
   clear H
   have hnb11 := NB288_289.out
   have hnc11 := NB289_288.out
   have hcz12_0 : w6.cell? ⟨gb288, 0, none⟩ = some (.slice A0_0 l0_0.length c0_0) := (blk_cell BK288.out 0).trans rfl
   have hcz12_1 : w6.cell? ⟨gb288, 1, none⟩ = some (.slice A0_1 l0_1.length c0_1) := (blk_cell BK288.out 1).trans rfl
   have hfz12_0 := blk_frozen BK288.out 0
   have hfz12_1 := blk_frozen BK288.out 1
   as_aux_lemma =>
    go_wp2
    go_meet
    case rel => exact ⟨_, (true), (by first | rfl | (simp; done) | (simp [*]; done)), H', ⟨by first | omega | exact Nat.le_refl _⟩, ⟨by (with_reducible repeat (first | refine blk_drewN ?_ _ | refine blk_drew ?_ | refine blk_alloc ?_ _)); exact BK288.out⟩, ⟨by (with_reducible repeat (first | refine blk_drewN ?_ _ | refine blk_drew ?_ | refine blk_alloc ?_ _)); exact BK289.out⟩, ⟨by repeat (first | (with_reducible first | exact HB.out | apply below_alloc | apply pw_below_drewN | apply below_drew1 | refine below_set ?_ GE288.out | refine below_set ?_ GE289.out) | exact HB.out)⟩⟩
  rw [if_pos c7] at H
  have c7b0 : ((l2.length : Int) == (l0_0.length : Int)) = true := beq_iff_eq.mpr c7
  have c7b1 : ((l2.length : Int) != (l0_0.length : Int)) = false := bne_eq_false_iff_eq.mpr c7
  have c7b2 : (l2.length == l0_0.length) = true := by first | simpa using c7 | (simp at c7 ⊢; omega)
  clear c7
  (first | rw [c7b0] | (simp only [i64_w, i32_w]; rw [c7b0]) | skip)
  replace H := bi H
  obtain ⟨t290, A80, H⟩ := H
  try dsimp only at H
  have A8 := ak A80
  clear A80
  have H' := ak H
  clear H
  have hnb9 := NB288_289.out
  have hnc9 := NB289_288.out
  have hcz10_0 : w6.cell? ⟨gb288, 0, none⟩ = some (.slice A0_0 l0_0.length c0_0) := (blk_cell BK288.out 0).trans rfl
  have hcz10_1 : w6.cell? ⟨gb288, 1, none⟩ = some (.slice A0_1 l0_1.length c0_1) := (blk_cell BK288.out 1).trans rfl
  have hfz10_0 := blk_frozen BK288.out 0
  have hfz10_1 := blk_frozen BK288.out 1
  as_aux_lemma =>
   go_wp2_with (first | (go_at_call 56; (with_reducible refine (cf_isMap_1.calls _ _ l2 gb289 A1_0 c1_0 l1_0 A1_1 c1_1 l1_1 t290 _ ?side1 ?side2 ?side3 ?side4 ?side5 ?side6 ?side7 A8.out).mono ?_); (case side1 => exact kC (Kd.C_below HR2.out HB.out)); (case side2 => exact HC2.out); (case side3 => exact kC (Kd.C_below HR1_0.out HB.out)); (case side4 => exact HC1_0.out); (case side5 => exact kC (Kd.C_below HR1_1.out HB.out)); (case side6 => exact HC1_1.out); (case side7 => exact (show _ from by (with_reducible repeat (first | refine blk_drewN ?_ _ | refine blk_drew ?_ | refine blk_alloc ?_ _)); exact BK289.out)); rintro e w' ⟨rfl, ⟨nd, rfl⟩⟩))
   go_meet
   case rel => exact ⟨_, (t290), (by first | rfl | (simp; done) | (simp [*]; done)), H', ⟨by first | omega | exact Nat.le_refl _⟩, ⟨by (with_reducible repeat (first | refine blk_drewN ?_ _ | refine blk_drew ?_ | refine blk_alloc ?_ _)); exact BK288.out⟩, ⟨by (with_reducible repeat (first | refine blk_drewN ?_ _ | refine blk_drew ?_ | refine blk_alloc ?_ _)); exact BK289.out⟩, ⟨by repeat (first | (with_reducible first | exact HB.out | apply below_alloc | apply pw_below_drewN | apply below_drew1 | refine below_set ?_ GE288.out | refine below_set ?_ GE289.out) | exact HB.out)⟩⟩
 case rest =>
  clear HC4
  try clear c1
  try clear c2
  try clear p2
  try clear c4
  try clear c7
  try clear c7b0
  try clear c7b1
  try clear c7b2
  try clear c9
  try clear c11
  try clear hcz10_0
  try clear hcz10_1
  try clear hcz12_0
  try clear hcz12_1
  try clear hfz10_0
  try clear hfz10_1
  try clear hfz12_0
  try clear hfz12_1
  obtain ⟨kq, x19_3, rfl, HA, HJ3, BK288, BK289, HB⟩ := hcut
  cases kq with
  | zero => exact absurd HA.out (by simp [impl_isMap.j0])
  | succ kj3 =>
   have H := HA.out
   clear HA
   simp only [impl_isMap.j0] at H
   by_cases c13 : x19_3 = true
   ·subst c13
    rw [if_pos rfl] at H
    obtain rfl := Option.some.inj H
    as_aux_lemma =>
     go_wp2
     go_ret
     exact ⟨by first | rfl | (simp [errW_none, errW_some] <;> rfl) | (simp [*, errW_none, errW_some] <;> rfl), by repeat (first | (with_reducible first | exact HB.out | apply below_alloc | apply pw_below_drewN | apply below_drew1 | refine below_set ?_ GE288.out | refine below_set ?_ GE289.out) | exact HB.out)⟩
   replace c13 := Bool.eq_false_iff.mpr c13
   subst c13
   rw [if_neg (show ¬ (false = true) by decide)] at H
   have HC14 := ak H
   clear H
   go_upto_region 3 with (fail)
   go_cut [36] (fun v36 wc => ∃ (kq : Nat) (x36_13 : Bool), v36 = .bool x36_13 ∧ Aside0 (impl_isMap.j1 kq l2 x36_13 l0_0 l0_1 l1_0 l1_1 = some r) ∧ Aside0 (kq ≤ kj3) ∧ Aside0 (wc.heap[gb288]? = some (.cells #[(.slice A0_0 l0_0.length c0_0), (.slice A0_1 l0_1.length c0_1)] 28 (0, 0))) ∧ Aside0 (wc.heap[gb289]? = some (.cells #[(.slice A1_0 l1_0.length c1_0), (.slice A1_1 l1_1.length c1_1)] 28 (0, 0))) ∧ Aside0 (Below w.heap.size w wc))
   case first =>
    have H := HC14.out
    clear HC14
    replace H := oi H
    obtain ⟨c15, H⟩ := H
    have c15b0 : decide (0 < (l2.length : Int)) = true := decide_eq_true c15
    have c15b1 : decide (0 < l2.length) = true := decide_eq_true (by omega)
    clear c15
    (first | rw [c15b0] | (simp only [i64_w, i32_w]; rw [c15b0]) | skip)
    by_cases c16 : (rd l2 0) = 0
    rotate_left
    ·rw [if_neg c16] at H
     have c16b0 : ((rd l2 0) == 0) = false := beq_eq_false_iff_ne.mpr c16
     have c16b1 : ((rd l2 0) != 0) = true := bne_iff_ne.mpr c16
     have H' := ak H
     clear H
     as_aux_lemma =>
      try go_wp2
      replace BK288 := ak (blk_drew BK288.out)
      replace BK289 := ak (blk_drew BK289.out)
      replace HB := ak (below_drew1 HB.out)
      have p291 : 0 ≤ (0 : Int) := (by omega)
      have q291 : 0 < (l2.length : Int) := of_decide_eq_true (by first | (with_reducible assumption) | assumption)
      obtain ⟨ad291, e291, hx291_0⟩ := Kd.at_int HR2.out 0 p291 q291
      have hw291_0 := hx291_0
      (try rw [show ((0 : Int)).toNat = 0 from rfl] at hw291_0)
      (try rw [show 0 * 1 = 0 from rfl] at hw291_0)
      (try rw [Addr.add_zero'] at hw291_0)
      cases e291
      have qi291 : (0 < l2.length) = True := eq_true (by omega)
      (try rw [show ((0 : Int)).toNat = 0 from rfl] at hx291_0)
      (try rw [Addr.add_zero'] at hx291_0)
      replace hx291_0 := (HB.out.cell (World.block_lt_of_cell? w _ hx291_0)).trans hx291_0
      replace p291 := eq_true p291
      replace q291 := eq_true q291
      refine start_ (n := 17) (S := fun w' => w'.cell? ad291 = some (.int .i64 (rd l2 0))) (ds := []) #[false, false, false, false, false, false, false, false, false, false, false, false, false, false, false, false, false] (by kernel_rfl) rfl rfl (((HB.out.cell (World.block_lt_of_cell? w _ hw291_0)).trans hw291_0)) (fun hHeld => ?_); refine with_tabW impl_isMap.tab3 impl_isMap.bits3 (fun HT_ HW_ => ?_)
      generalize wc.drew = w21 at BK288 BK289 HB hx291_0 hHeld ⊢
      refine pu 0 20 1 17 ?_
      refine pu 1 21 3 17 ?_
      refine take_ (i := 2) (N := some 22) (v := ?_) (a' := ?_) #[true, true, true, false, false, false, false, false, false, false, false, false, false, false, false, false, false] rfl rfl (take_ofW HT_.out HW_.out (by kernel_rfl)) (fun _ _ _ h => h) (Or.inl ⟨by rfl, ?_⟩) hHeld ?_ ?_
      rotate_left
      ·intro w' s0
       go_simp
       with_reducible rfl
      rotate_left
      ·simp only [Act.put, List.setIfInBounds_toArray, List.set_cons_zero, List.set_cons_succ, i64_w, i32_w]
       rfl
      refine pu 3 23 15 17 ?_
      refine pu 4 24 31 17 ?_
      refine pd 5 25 63 17 ?_
      refine pd 6 26 127 17 ?_
      refine pd 7 27 255 17 ?_
      refine pd 8 28 511 17 ?_
      refine pd 9 29 1023 17 ?_
      refine pd 10 30 2047 17 ?_
      refine pd 11 31 4095 17 ?_
      refine pd 12 32 8191 17 ?_
      refine pd 13 33 16383 17 ?_
      refine pd 14 34 32767 17 ?_
      refine pd 15 35 65535 17 ?_
      refine pu 16 36 131071 17 ?_
      refine done_ (done_of HT_.out (by kernel_rfl)) ?_
      try go_wp2
      go_meet
      case rel => exact ⟨_, (true), (by first | rfl | (simp; done) | (simp [*]; done)), H', ⟨by have := HJ3.out; first | omega | exact Nat.le_refl _⟩, ⟨by (with_reducible repeat (first | refine blk_drewN ?_ _ | refine blk_drew ?_ | refine blk_alloc ?_ _)); exact BK288.out⟩, ⟨by (with_reducible repeat (first | refine blk_drewN ?_ _ | refine blk_drew ?_ | refine blk_alloc ?_ _)); exact BK289.out⟩, ⟨by repeat (first | (with_reducible first | exact HB.out | apply below_alloc | apply pw_below_drewN | apply below_drew1 | refine below_set ?_ GE288.out | refine below_set ?_ GE289.out) | exact HB.out)⟩⟩
    rw [if_pos c16] at H
    have c16b0 : ((rd l2 0) == 0) = true := beq_iff_eq.mpr c16
    have c16b1 : ((rd l2 0) != 0) = false := bne_eq_false_iff_eq.mpr c16
    clear c16
    obtain ⟨ji17, hji17⟩ : ∃ j_ : Int, (wrap64 ((l2.length : Int) - 1)) = j_ := ⟨_, rfl⟩
    replace H : (if 0 ≤ (ji17) then (if (ji17) < (l2.length : Int) then (impl_isMap.j1 kj3 l2 ((rd l2 (ji17)) != (wrap64 ((l1_0.length : Int) - 1))) l0_0 l0_1 l1_0 l1_1) else (none)) else (none)) = some r := by first | (rw [hji17] at H; exact H) | (simp only [hji17] at H ⊢; exact H)
    have hji17w : (IntKind.i64.wrap ((l2.length : Int) - 1)) = ji17 := (i64_w _).trans hji17
    replace H := oi H
    obtain ⟨c18, H⟩ := H
    have c18b0 : decide (0 ≤ (ji17)) = true := decide_eq_true c18
    clear c18
    replace H := oi H
    obtain ⟨c19, H⟩ := H
    have c19b0 : decide ((ji17) < (l2.length : Int)) = true := decide_eq_true c19
    clear c19
    have H' := ak H
    clear H
    as_aux_lemma =>
     try go_wp2
     replace BK288 := ak (blk_drew BK288.out)
     replace BK289 := ak (blk_drew BK289.out)
     replace HB := ak (below_drew1 HB.out)
     have p291 : 0 ≤ (0 : Int) := (by omega)
     have q291 : 0 < (l2.length : Int) := of_decide_eq_true (by first | (with_reducible assumption) | assumption)
     obtain ⟨ad291, e291, hx291_0⟩ := Kd.at_int HR2.out 0 p291 q291
     have hw291_0 := hx291_0
     (try rw [show ((0 : Int)).toNat = 0 from rfl] at hw291_0)
     (try rw [show 0 * 1 = 0 from rfl] at hw291_0)
     (try rw [Addr.add_zero'] at hw291_0)
     cases e291
     have qi291 : (0 < l2.length) = True := eq_true (by omega)
     (try rw [show ((0 : Int)).toNat = 0 from rfl] at hx291_0)
     (try rw [Addr.add_zero'] at hx291_0)
     replace hx291_0 := (HB.out.cell (World.block_lt_of_cell? w _ hx291_0)).trans hx291_0
     replace p291 := eq_true p291
     replace q291 := eq_true q291
     have p292 : 0 ≤ ((ji17) : Int) := of_decide_eq_true (by first | (with_reducible assumption) | assumption)
     have q292 : (ji17) < (l2.length : Int) := of_decide_eq_true (by first | (with_reducible assumption) | assumption)
     obtain ⟨ad292, e292, hx292_0⟩ := Kd.at_int HR2.out (ji17) p292 q292
     have hw292_0 := hx292_0
     obtain rfl : ad291 = ad292 := (by injection e292)
     replace hx292_0 := (HB.out.cell (World.block_lt_of_cell? w _ hx292_0)).trans hx292_0
     replace p292 := eq_true p292
     replace q292 := eq_true q292
     refine start_ (n := 17) (S := fun w' => w'.cell? ⟨gb289, 0, none⟩ = some (.slice A1_0 l1_0.length c1_0) ∧ w'.cell? ⟨gb289, 1, none⟩ = some (.slice A1_1 l1_1.length c1_1) ∧ w'.cell? ad291 = some (.int .i64 (rd l2 0)) ∧ w'.cell? (ad291.add ((ji17)).toNat) = some (.int .i64 (rd l2 (ji17)))) (ds := []) #[false, false, false, false, false, false, false, false, false, false, false, false, false, false, false, false, false] (by kernel_rfl) rfl rfl ⟨(blk_cell BK289.out 0).trans rfl, (blk_cell BK289.out 1).trans rfl, ((HB.out.cell (World.block_lt_of_cell? w _ hw291_0)).trans hw291_0), ((HB.out.cell (World.block_lt_of_cell? w _ hw292_0)).trans hw292_0)⟩ (fun hHeld => ?_); refine with_tabW impl_isMap.tab3 impl_isMap.bits3 (fun HT_ HW_ => ?_)
     generalize wc.drew = w20 at BK288 BK289 HB hx291_0 hx292_0 hHeld ⊢
     refine pu 0 20 1 17 ?_
     refine pu 1 21 3 17 ?_
     refine tk 2 22 7 17 ?_
     refine pu 3 23 15 17 ?_
     refine pu 4 24 31 17 ?_
     refine pu 5 25 63 17 ?_
     refine pu 6 26 127 17 ?_
     refine pu 7 27 255 17 ?_
     refine pu 8 28 511 17 ?_
     refine pu 9 29 1023 17 ?_
     refine pu 11 31 3071 17 ?_
     refine tk 10 30 4095 17 ?_
     refine tk 12 32 8191 17 ?_
     refine pu 13 33 16383 17 ?_
     refine pu 14 34 32767 17 ?_
     refine pu 15 35 65535 17 ?_
     refine pu 16 36 131071 17 ?_
     refine done_ (done_of HT_.out (by kernel_rfl)) ?_
     try go_wp2
     go_meet
     case rel => exact ⟨_, (((rd l2 (ji17)) != (wrap64 ((l1_0.length : Int) - 1)))), (by first | rfl | (simp; done) | (simp only [← hji17] <;> (first | rfl | simp)) | (simp [*]; done)), H', ⟨by have := HJ3.out; first | omega | exact Nat.le_refl _⟩, ⟨by (with_reducible repeat (first | refine blk_drewN ?_ _ | refine blk_drew ?_ | refine blk_alloc ?_ _)); exact BK288.out⟩, ⟨by (with_reducible repeat (first | refine blk_drewN ?_ _ | refine blk_drew ?_ | refine blk_alloc ?_ _)); exact BK289.out⟩, ⟨by repeat (first | (with_reducible first | exact HB.out | apply below_alloc | apply pw_below_drewN | apply below_drew1 | refine below_set ?_ GE288.out | refine below_set ?_ GE289.out) | exact HB.out)⟩⟩
   case rest =>
    clear HC14
    try clear c1
    try clear c2
    try clear p2
    try clear q2
    try clear hx2
    try clear qi2
    try clear c4
    try clear p6
    try clear c7
    try clear c7b0
    try clear c7b1
    try clear c7b2
    try clear c9
    try clear c11
    try clear c13
    try clear c15
    try clear c15b0
    try clear c15b1
    try clear c16
    try clear c16b0
    try clear c16b1
    try clear c18
    try clear c18b0
    try clear c19
    try clear c19b0
    try clear hcz10_0
    try clear hcz10_1
    try clear hcz12_0
    try clear hcz12_1
    try clear hfz10_0
    try clear hfz10_1
    try clear hfz12_0
    try clear hfz12_1
    try clear hx291_0
    try clear hx292_0
    try clear p2
    try clear p291
    try clear p292
    try clear q291
    try clear q292
    obtain ⟨kq, x36_13, rfl, HA, HJ13, BK288, BK289, HB⟩ := hcut
    cases kq with
    | zero => exact absurd HA.out (by simp [impl_isMap.j1])
    | succ kj13 =>
     have H := HA.out
     clear HA
     simp only [impl_isMap.j1] at H
     by_cases c22 : x36_13 = true
     ·subst c22
      rw [if_pos rfl] at H
      obtain rfl := Option.some.inj H
      as_aux_lemma =>
       go_wp2
       go_ret
       exact ⟨by first | rfl | (simp [errW_none, errW_some] <;> rfl) | (simp [*, errW_none, errW_some] <;> rfl), by repeat (first | (with_reducible first | exact HB.out | apply below_alloc | apply pw_below_drewN | apply below_drew1 | refine below_set ?_ GE288.out | refine below_set ?_ GE289.out) | exact HB.out)⟩
     replace c22 := Bool.eq_false_iff.mpr c22
     subst c22
     rw [if_neg (show ¬ (false = true) by decide)] at H
     have H' := ak H
     clear H
     as_aux_lemma =>
      go_wp2
      go_loopg [39] kj13 (fun kq v39 w' => ∃ (x39_3 : Int), v39 = .int .i64 x39_3 ∧ Aside0 (impl_isMap.l0 kq l2 (l2.length : Int) x39_3 l0_0 l0_1 l1_0 l1_1 = some r) ∧ Aside0 (kq ≤ kj13) ∧ Aside0 (w'.heap[gb288]? = some (.cells #[(.slice A0_0 l0_0.length c0_0), (.slice A0_1 l0_1.length c0_1)] 28 (0, 0))) ∧ Aside0 (w'.heap[gb289]? = some (.cells #[(.slice A1_0 l1_0.length c1_0), (.slice A1_1 l1_1.length c1_1)] 28 (0, 0))) ∧ Aside0 (Below w.heap.size w w'))
      case atStart => exact ⟨(0), (by first | rfl | (simp; done) | (simp [*]; done)), H', ⟨Nat.le_refl _⟩, ⟨by (with_reducible repeat (first | refine blk_drewN ?_ _ | refine blk_drew ?_ | refine blk_alloc ?_ _)); exact BK288.out⟩, ⟨by (with_reducible repeat (first | refine blk_drewN ?_ _ | refine blk_drew ?_ | refine blk_alloc ?_ _)); exact BK289.out⟩, ⟨by repeat (first | (with_reducible first | exact HB.out | apply below_alloc | apply pw_below_drewN | apply below_drew1 | refine below_set ?_ GE288.out | refine below_set ?_ GE289.out) | exact HB.out)⟩⟩
      case round =>
       clear H'
       try clear c1
       try clear c2
       try clear p2
       try clear q2
       try clear hx2
       try clear qi2
       try clear c4
       try clear p6
       try clear c7
       try clear c7b0
       try clear c7b1
       try clear c7b2
       try clear c9
       try clear c11
       try clear c13
       try clear c15
       try clear c15b0
       try clear c15b1
       try clear c16
       try clear c16b0
       try clear c16b1
       try clear c18
       try clear c18b0
       try clear c19
       try clear c19b0
       try clear c22
       try clear hcz10_0
       try clear hcz10_1
       try clear hcz12_0
       try clear hcz12_1
       try clear hfz10_0
       try clear hfz10_1
       try clear hfz12_0
       try clear hfz12_1
       try clear hx291_0
       try clear hx292_0
       try clear p2
       try clear p291
       try clear p292
       try clear p6
       try clear q2
       try clear q291
       try clear q292
       obtain ⟨x39_3, rfl, HA, HK3, BK288, BK289, HB⟩ := hrel
       cases gk with
       | zero => exact absurd HA.out (by simp [impl_isMap.l0])
       | succ k3 =>
        have H := HA.out
        clear HA
        simp only [impl_isMap.l0] at H
        by_cases c23 : x39_3 < (l2.length : Int)
        rotate_left
        ·rw [if_neg c23] at H
         have c23b0 : decide (x39_3 < (l2.length : Int)) = false := decide_eq_false c23
         clear c23
         obtain rfl := Option.some.inj H
         as_aux_lemma =>
          go_wp2
          go_ret
          exact ⟨by first | rfl | (simp [errW_none, errW_some] <;> rfl) | (simp [*, errW_none, errW_some] <;> rfl), by repeat (first | (with_reducible first | exact HB.out | apply below_alloc | apply pw_below_drewN | apply below_drew1 | refine below_set ?_ GE288.out | refine below_set ?_ GE289.out) | exact HB.out)⟩
        rw [if_pos c23] at H
        have c23b0 : decide (x39_3 < (l2.length : Int)) = true := decide_eq_true c23
        clear c23
        have H' := ak H
        clear H
        as_aux_lemma =>
         go_wp2
         go_loopg [44] k3 (fun kq v44 w' => ∃ (x44_4 : Int), v44 = .int .i64 x44_4 ∧ Aside0 (impl_isMap.l1 kq l2 x39_3 (l2.length : Int) x39_3 (l2.length : Int) x44_4 l0_0 l0_1 l1_0 l1_1 = some r) ∧ Aside0 (kq ≤ k3) ∧ Aside0 (w'.heap[gb288]? = some (.cells #[(.slice A0_0 l0_0.length c0_0), (.slice A0_1 l0_1.length c0_1)] 28 (0, 0))) ∧ Aside0 (w'.heap[gb289]? = some (.cells #[(.slice A1_0 l1_0.length c1_0), (.slice A1_1 l1_1.length c1_1)] 28 (0, 0))) ∧ Aside0 (Below w.heap.size w w'))
         case atStart => exact ⟨(0), (by first | rfl | (simp; done) | (simp [*]; done)), H', ⟨Nat.le_refl _⟩, ⟨by (with_reducible repeat (first | refine blk_drewN ?_ _ | refine blk_drew ?_ | refine blk_alloc ?_ _)); exact BK288.out⟩, ⟨by (with_reducible repeat (first | refine blk_drewN ?_ _ | refine blk_drew ?_ | refine blk_alloc ?_ _)); exact BK289.out⟩, ⟨by repeat (first | (with_reducible first | exact HB.out | apply below_alloc | apply pw_below_drewN | apply below_drew1 | refine below_set ?_ GE288.out | refine below_set ?_ GE289.out) | exact HB.out)⟩⟩
         case round =>
          clear H'
          try clear c1
          try clear c2
          try clear p2
          try clear q2
          try clear hx2
          try clear qi2
          try clear c4
          try clear p6
          try clear c7
          try clear c7b0
          try clear c7b1
          try clear c7b2
          try clear c9
          try clear c11
          try clear c13
          try clear c15
          try clear c15b0
          try clear c15b1
          try clear c16
          try clear c16b0
          try clear c16b1
          try clear c18
          try clear c18b0
          try clear c19
          try clear c19b0
          try clear c22
          try clear c23
          try clear c23b0
          try clear hcz10_0
          try clear hcz10_1
          try clear hcz12_0
          try clear hcz12_1
          try clear hfz10_0
          try clear hfz10_1
          try clear hfz12_0
          try clear hfz12_1
          try clear hx291_0
          try clear hx292_0
          try clear p2
          try clear p291
          try clear p292
          try clear p6
          try clear q2
          try clear q291
          try clear q292
          obtain ⟨x44_4, rfl, HA, HK4, BK288, BK289, HB⟩ := hrel
          cases gk with
          | zero => exact absurd HA.out (by simp [impl_isMap.l1])
          | succ k4 =>
           have H := HA.out
           clear HA
           simp only [impl_isMap.l1] at H
           by_cases c24 : x44_4 < (l2.length : Int)
           rotate_left
           ·rw [if_neg c24] at H
            have c24b0 : decide (x44_4 < (l2.length : Int)) = false := decide_eq_false c24
            clear c24
            have H' := ak H
            clear H
            as_aux_lemma =>
             go_wp2
             go_roundg k4
             case measure => have := HJ3.out; have := HJ13.out; have := HK3.out; have := HK4.out; omega
             case rel => exact ⟨(wrap64 (x39_3 + 1)), (by first | rfl | (simp; done) | (simp [*]; done)), H', ⟨by have := HJ3.out; have := HJ13.out; have := HK3.out; have := HK4.out; omega⟩, ⟨by (with_reducible repeat (first | refine blk_drewN ?_ _ | refine blk_drew ?_ | refine blk_alloc ?_ _)); exact BK288.out⟩, ⟨by (with_reducible repeat (first | refine blk_drewN ?_ _ | refine blk_drew ?_ | refine blk_alloc ?_ _)); exact BK289.out⟩, ⟨by repeat (first | (with_reducible first | exact HB.out | apply below_alloc | apply pw_below_drewN | apply below_drew1 | refine below_set ?_ GE288.out | refine below_set ?_ GE289.out) | exact HB.out)⟩⟩
           rw [if_pos c24] at H
           have c24b0 : decide (x44_4 < (l2.length : Int)) = true := decide_eq_true c24
           clear c24
           replace H := oi H
           obtain ⟨c25, H⟩ := H
           have c25b0 : decide (0 ≤ x39_3) = true := decide_eq_true c25
           clear c25
           replace H := oi H
           obtain ⟨c26, H⟩ := H
           have c26b0 : decide (x39_3 < (l0_1.length : Int)) = true := decide_eq_true c26
           clear c26
           replace H := oi H
           obtain ⟨c27, H⟩ := H
           have c27b0 : decide (0 ≤ x44_4) = true := decide_eq_true c27
           clear c27
           replace H := oi H
           obtain ⟨c28, H⟩ := H
           have c28b0 : decide (x44_4 < ((rd_L1 l0_1 x39_3).length : Int)) = true := decide_eq_true c28
           clear c28
           replace H := oi H
           obtain ⟨c29, H⟩ := H
           have c29b0 : decide (0 ≤ (rd (rd_L1 l0_1 x39_3) x44_4)) = true := decide_eq_true c29
           clear c29
           replace H := oi H
           obtain ⟨c30, H⟩ := H
           have c30b0 : decide ((rd (rd_L1 l0_1 x39_3) x44_4) < (l2.length : Int)) = true := decide_eq_true c30
           clear c30
           replace H := oi H
           obtain ⟨c31, H⟩ := H
           have c31b0 : decide (x39_3 < (l2.length : Int)) = true := decide_eq_true c31
           clear c31
           replace H := oi H
           obtain ⟨c32, H⟩ := H
           have c32b0 : decide (0 ≤ (rd l2 x39_3)) = true := decide_eq_true c32
           clear c32
           replace H := oi H
           obtain ⟨c33, H⟩ := H
           have c33b0 : decide ((rd l2 x39_3) < (l1_1.length : Int)) = true := decide_eq_true c33
           clear c33
           replace H := oi H
           obtain ⟨c34, H⟩ := H
           have c34b0 : decide (x44_4 < (l2.length : Int)) = true := decide_eq_true c34
           clear c34
           replace H := oi H
           obtain ⟨c35, H⟩ := H
           have c35b0 : decide (0 ≤ (rd l2 x44_4)) = true := decide_eq_true c35
           clear c35
           replace H := oi H
           obtain ⟨c36, H⟩ := H
           have c36b0 : decide ((rd l2 x44_4) < ((rd_L1 l1_1 (rd l2 x39_3)).length : Int)) = true := decide_eq_true c36
           clear c36
           by_cases c37 : (rd l2 (rd (rd_L1 l0_1 x39_3) x44_4)) = (rd (rd_L1 l1_1 (rd l2 x39_3)) (rd l2 x44_4))
           rotate_left
           ·rw [if_neg c37] at H
            have c37b0 : ((rd l2 (rd (rd_L1 l0_1 x39_3) x44_4)) == (rd (rd_L1 l1_1 (rd l2 x39_3)) (rd l2 x44_4))) = false := beq_eq_false_iff_ne.mpr c37
            have c37b1 : ((rd l2 (rd (rd_L1 l0_1 x39_3) x44_4)) != (rd (rd_L1 l1_1 (rd l2 x39_3)) (rd l2 x44_4))) = true := bne_iff_ne.mpr c37
            obtain rfl := Option.some.inj H
            as_aux_lemma =>
             try go_wp2
             replace BK288 := ak (blk_drew BK288.out)
             replace BK289 := ak (blk_drew BK289.out)
             replace HB := ak (below_drew1 HB.out)
             have p293 : 0 ≤ (x39_3 : Int) := of_decide_eq_true (by first | (with_reducible assumption) | assumption)
             have q293 : x39_3 < (l0_1.length : Int) := of_decide_eq_true (by first | (with_reducible assumption) | assumption)
             obtain ⟨ad293, A293_0, c293_0, e293, hx293_0, hl293_0, hi293_0⟩ := at_L1 HR0_1.out x39_3 p293 q293
             have hw293_0 := hx293_0
             cases e293
             replace hx293_0 := (HB.out.cell (World.block_lt_of_cell? w _ hx293_0)).trans hx293_0
             have HR293_0 := ak hi293_0
             have HC293_0 := ak hl293_0
             clear hi293_0 hl293_0
             replace p293 := eq_true p293
             replace q293 := eq_true q293
             have p294 : 0 ≤ (x44_4 : Int) := of_decide_eq_true (by first | (with_reducible assumption) | assumption)
             have q294 : x44_4 < ((rd_L1 l0_1 x39_3).length : Int) := of_decide_eq_true (by first | (with_reducible assumption) | assumption)
             obtain ⟨ad294, e294, hx294_0⟩ := Kd.at_int HR293_0.out x44_4 p294 q294
             have hw294_0 := hx294_0
             cases e294
             replace hx294_0 := (HB.out.cell (World.block_lt_of_cell? w _ hx294_0)).trans hx294_0
             replace p294 := eq_true p294
             replace q294 := eq_true q294
             have p295 : 0 ≤ ((rd (rd_L1 l0_1 x39_3) x44_4) : Int) := of_decide_eq_true (by first | (with_reducible assumption) | assumption)
             have q295 : (rd (rd_L1 l0_1 x39_3) x44_4) < (l2.length : Int) := of_decide_eq_true (by first | (with_reducible assumption) | assumption)
             obtain ⟨ad295, e295, hx295_0⟩ := Kd.at_int HR2.out (rd (rd_L1 l0_1 x39_3) x44_4) p295 q295
             have hw295_0 := hx295_0
             cases e295
             replace hx295_0 := (HB.out.cell (World.block_lt_of_cell? w _ hx295_0)).trans hx295_0
             replace p295 := eq_true p295
             replace q295 := eq_true q295
             have p296 : 0 ≤ (x39_3 : Int) := of_decide_eq_true (by first | (with_reducible assumption) | assumption)
             have q296 : x39_3 < (l2.length : Int) := of_decide_eq_true (by first | (with_reducible assumption) | assumption)
             obtain ⟨ad296, e296, hx296_0⟩ := Kd.at_int HR2.out x39_3 p296 q296
             have hw296_0 := hx296_0
             obtain rfl : ad295 = ad296 := (by injection e296)
             replace hx296_0 := (HB.out.cell (World.block_lt_of_cell? w _ hx296_0)).trans hx296_0
             replace p296 := eq_true p296
             replace q296 := eq_true q296
             have p297 : 0 ≤ ((rd l2 x39_3) : Int) := of_decide_eq_true (by first | (with_reducible assumption) | assumption)
             have q297 : (rd l2 x39_3) < (l1_1.length : Int) := of_decide_eq_true (by first | (with_reducible assumption) | assumption)
             obtain ⟨ad297, A297_0, c297_0, e297, hx297_0, hl297_0, hi297_0⟩ := at_L1 HR1_1.out (rd l2 x39_3) p297 q297
             have hw297_0 := hx297_0
             cases e297
             replace hx297_0 := (HB.out.cell (World.block_lt_of_cell? w _ hx297_0)).trans hx297_0
             have HR297_0 := ak hi297_0
             have HC297_0 := ak hl297_0
             clear hi297_0 hl297_0
             replace p297 := eq_true p297
             replace q297 := eq_true q297
             have p298 : 0 ≤ (x44_4 : Int) := of_decide_eq_true (by first | (with_reducible assumption) | assumption)
             have q298 : x44_4 < (l2.length : Int) := of_decide_eq_true (by first | (with_reducible assumption) | assumption)
             obtain ⟨ad298, e298, hx298_0⟩ := Kd.at_int HR2.out x44_4 p298 q298
             have hw298_0 := hx298_0
             obtain rfl : ad295 = ad298 := (by injection e298)
             replace hx298_0 := (HB.out.cell (World.block_lt_of_cell? w _ hx298_0)).trans hx298_0
             replace p298 := eq_true p298
             replace q298 := eq_true q298
             have p299 : 0 ≤ ((rd l2 x44_4) : Int) := of_decide_eq_true (by first | (with_reducible assumption) | assumption)
             have q299 : (rd l2 x44_4) < ((rd_L1 l1_1 (rd l2 x39_3)).length : Int) := of_decide_eq_true (by first | (with_reducible assumption) | assumption)
             obtain ⟨ad299, e299, hx299_0⟩ := Kd.at_int HR297_0.out (rd l2 x44_4) p299 q299
             have hw299_0 := hx299_0
             cases e299
             replace hx299_0 := (HB.out.cell (World.block_lt_of_cell? w _ hx299_0)).trans hx299_0
             replace p299 := eq_true p299
             replace q299 := eq_true q299
             refine start_ (n := 90) (S := fun w' => w'.cell? ⟨gb288, 0, none⟩ = some (.slice A0_0 l0_0.length c0_0) ∧ w'.cell? ⟨gb288, 1, none⟩ = some (.slice (some ad293) l0_1.length c0_1) ∧ w'.cell? ⟨gb289, 0, none⟩ = some (.slice A1_0 l1_0.length c1_0) ∧ w'.cell? ⟨gb289, 1, none⟩ = some (.slice (some ad297) l1_1.length c1_1) ∧ w'.cell? (ad293.add (x39_3).toNat) = some (.slice (some ad294) (rd_L1 l0_1 x39_3).length c293_0) ∧ w'.cell? (ad294.add (x44_4).toNat) = some (.int .i64 (rd (rd_L1 l0_1 x39_3) x44_4)) ∧ w'.cell? (ad295.add ((rd (rd_L1 l0_1 x39_3) x44_4)).toNat) = some (.int .i64 (rd l2 (rd (rd_L1 l0_1 x39_3) x44_4))) ∧ w'.cell? (ad295.add (x39_3).toNat) = some (.int .i64 (rd l2 x39_3)) ∧ w'.cell? (ad297.add ((rd l2 x39_3)).toNat) = some (.slice (some ad299) (rd_L1 l1_1 (rd l2 x39_3)).length c297_0) ∧ w'.cell? (ad295.add (x44_4).toNat) = some (.int .i64 (rd l2 x44_4)) ∧ w'.cell? (ad299.add ((rd l2 x44_4)).toNat) = some (.int .i64 (rd (rd_L1 l1_1 (rd l2 x39_3)) (rd l2 x44_4)))) (ds := []) #[false, false, false, false, false, false, false, false, false, false, false, false, false, false, false, false, false, false, false, false, false, false, false, false, false, false, false, false, false, false, false, false, false, false, false, false, false, false, false, false, false, false, false, false, false, false, false, false, false, false, false, false, false, false, false, false, false, false, false, false, false, false, false, false, false, false, false, false, false, false, false, false, false, false, false, false, false, false, false, false, false, false, false, false, false, false, false, false, false, false] (by kernel_rfl) rfl rfl ⟨(blk_cell BK288.out 0).trans rfl, (blk_cell BK288.out 1).trans rfl, (blk_cell BK289.out 0).trans rfl, (blk_cell BK289.out 1).trans rfl, ((HB.out.cell (World.block_lt_of_cell? w _ hw293_0)).trans hw293_0), ((HB.out.cell (World.block_lt_of_cell? w _ hw294_0)).trans hw294_0), ((HB.out.cell (World.block_lt_of_cell? w _ hw295_0)).trans hw295_0), ((HB.out.cell (World.block_lt_of_cell? w _ hw296_0)).trans hw296_0), ((HB.out.cell (World.block_lt_of_cell? w _ hw297_0)).trans hw297_0), ((HB.out.cell (World.block_lt_of_cell? w _ hw298_0)).trans hw298_0), ((HB.out.cell (World.block_lt_of_cell? w _ hw299_0)).trans hw299_0)⟩ (fun hHeld => ?_); refine with_tabW impl_isMap.tab11 impl_isMap.bits11 (fun HT_ HW_ => ?_)
             generalize wr.drew = w65 at BK288 BK289 HB HR293_0 HR297_0 hx293_0 hx294_0 hx295_0 hx296_0 hx297_0 hx298_0 hx299_0 hHeld ⊢
             refine pu 0 47 1 90 ?_
             refine pu 1 48 3 90 ?_
             refine pu 3 50 11 90 ?_
             refine pu 6 53 75 90 ?_
             refine pu 11 58 2123 90 ?_
             refine pu 13 60 10315 90 ?_
             refine pu 14 61 26699 90 ?_
             refine pu 15 62 59467 90 ?_
             refine pu 19 66 583755 90 ?_
             refine pu 20 67 0x18e84b 90 ?_
             refine pu 21 68 0x38e84b 90 ?_
             refine tk 2 49 0x38e84f 90 ?_
             refine pu 4 51 0x38e85f 90 ?_
             refine tk 5 52 0x38e87f 90 ?_
             refine pu 7 54 0x38e8ff 90 ?_
             refine tk 8 55 0x38e9ff 90 ?_
             refine pu 9 56 0x38ebff 90 ?_
             refine tk 10 57 0x38efff 90 ?_
             refine tk 12 59 0x38ffff 90 ?_
             refine tk 16 63 0x39ffff 90 ?_
             refine pu 17 64 0x3bffff 90 ?_
             refine tk 18 65 0x3fffff 90 ?_
             refine tk 22 69 0x7fffff 90 ?_
             refine pu 23 70 0xffffff 90 ?_
             refine tk 24 71 0x1ffffff 90 ?_
             refine pu 25 72 0x3ffffff 90 ?_
             refine pu 26 73 0x7ffffff 90 ?_
             refine pd 27 74 0xfffffff 90 ?_
             refine pd 28 75 0x1fffffff 90 ?_
             refine pd 29 76 0x3fffffff 90 ?_
             refine pd 30 77 0x7fffffff 90 ?_
             refine pd 31 78 0xffffffff 90 ?_
             refine pd 32 79 0x1ffffffff 90 ?_
             refine pd 33 80 0x3ffffffff 90 ?_
             refine pd 34 81 0x7ffffffff 90 ?_
             refine pd 35 82 0xfffffffff 90 ?_
             refine pd 36 83 0x1fffffffff 90 ?_
             refine pd 37 84 0x3fffffffff 90 ?_
             refine pd 38 85 0x7fffffffff 90 ?_
             refine pd 39 86 0xffffffffff 90 ?_
             refine pd 40 87 0x1ffffffffff 90 ?_
             refine pd 41 88 0x3ffffffffff 90 ?_
             refine pd 42 89 0x7ffffffffff 90 ?_
             refine pd 43 90 0xfffffffffff 90 ?_
             refine pd 44 91 0x1fffffffffff 90 ?_
             refine pu 45 92 0x3fffffffffff 90 ?_
             refine pu 46 93 0x7fffffffffff 90 ?_
             refine pd 47 94 0xffffffffffff 90 ?_
             refine pd 48 95 0x1ffffffffffff 90 ?_
             refine pd 49 96 0x3ffffffffffff 90 ?_
             refine pd 50 97 0x7ffffffffffff 90 ?_
             refine pd 51 98 0xfffffffffffff 90 ?_
             refine pd 52 99 0x1fffffffffffff 90 ?_
             refine pd 53 100 0x3fffffffffffff 90 ?_
             refine pd 54 101 0x7fffffffffffff 90 ?_
             refine pd 55 102 0xffffffffffffff 90 ?_
             refine pd 56 103 0x1ffffffffffffff 90 ?_
             refine pd 57 104 0x3ffffffffffffff 90 ?_
             refine pd 58 105 0x7ffffffffffffff 90 ?_
             refine pd 59 106 0xfffffffffffffff 90 ?_
             refine pd 60 107 0x1fffffffffffffff 90 ?_
             refine pd 61 108 0x3fffffffffffffff 90 ?_
             refine pd 62 109 0x7fffffffffffffff 90 ?_
             refine pd 63 110 0xffffffffffffffff 90 ?_
             refine pd 64 111 0x1ffffffffffffffff 90 ?_
             refine pd 65 112 0x3ffffffffffffffff 90 ?_
             refine pd 66 113 0x7ffffffffffffffff 90 ?_
             refine pu 67 114 0xfffffffffffffffff 90 ?_
             refine pu 68 115 0x1fffffffffffffffff 90 ?_
             refine pd 69 116 0x3fffffffffffffffff 90 ?_
             refine pd 70 117 0x7fffffffffffffffff 90 ?_
             refine pd 71 118 0xffffffffffffffffff 90 ?_
             refine pd 72 119 0x1ffffffffffffffffff 90 ?_
             refine pd 73 120 0x3ffffffffffffffffff 90 ?_
             refine pd 74 121 0x7ffffffffffffffffff 90 ?_
             refine pd 75 122 0xfffffffffffffffffff 90 ?_
             refine pd 76 123 0x1fffffffffffffffffff 90 ?_
             refine pd 77 124 0x3fffffffffffffffffff 90 ?_
             refine pd 78 125 0x7fffffffffffffffffff 90 ?_
             refine pd 79 126 0xffffffffffffffffffff 90 ?_
             refine pd 80 127 0x1ffffffffffffffffffff 90 ?_
             refine pd 81 128 0x3ffffffffffffffffffff 90 ?_
             refine pd 82 129 0x7ffffffffffffffffffff 90 ?_
             refine pd 83 130 0xfffffffffffffffffffff 90 ?_
             refine pd 84 131 0x1fffffffffffffffffffff 90 ?_
             refine pd 85 132 0x3fffffffffffffffffffff 90 ?_
             refine pd 86 133 0x7fffffffffffffffffffff 90 ?_
             refine pd 87 134 0xffffffffffffffffffffff 90 ?_
             refine pd 88 135 0x1ffffffffffffffffffffff 90 ?_
             refine pu 89 136 0x3ffffffffffffffffffffff 90 ?_
             refine done_ (done_of HT_.out (by kernel_rfl)) ?_
             try go_wp2
             go_ret
             exact ⟨by first | rfl | (simp [errW_none, errW_some] <;> rfl) | (simp [*, errW_none, errW_some] <;> rfl), by repeat (first | (with_reducible first | exact HB.out | apply below_alloc | apply pw_below_drewN | apply below_drew1 | refine below_set ?_ GE288.out | refine below_set ?_ GE289.out) | exact HB.out)⟩
           rw [if_pos c37] at H
           have c37b0 : ((rd l2 (rd (rd_L1 l0_1 x39_3) x44_4)) == (rd (rd_L1 l1_1 (rd l2 x39_3)) (rd l2 x44_4))) = true := beq_iff_eq.mpr c37
           have c37b1 : ((rd l2 (rd (rd_L1 l0_1 x39_3) x44_4)) != (rd (rd_L1 l1_1 (rd l2 x39_3)) (rd l2 x44_4))) = false := bne_eq_false_iff_eq.mpr c37
           clear c37
           replace H := bi H
           obtain ⟨t300, A380, H⟩ := H
           try dsimp only at H
           have A38 := ak A380
           clear A380
           replace H := oi H
           obtain ⟨c39, H⟩ := H
           have c39b0 : decide (0 ≤ t300) = true := decide_eq_true c39
           clear c39
           replace H := oi H
           obtain ⟨c40, H⟩ := H
           have c40b0 : decide (t300 < (l2.length : Int)) = true := decide_eq_true c40
           clear c40
           replace H := bi H
           obtain ⟨t304, A410, H⟩ := H
           try dsimp only at H
           have A41 := ak A410
           clear A410
           by_cases c42 : (rd l2 t300) = t304
           rotate_left
           ·rw [if_neg c42] at H
            have c42b0 : ((rd l2 t300) == t304) = false := beq_eq_false_iff_ne.mpr c42
            have c42b1 : ((rd l2 t300) != t304) = true := bne_iff_ne.mpr c42
            obtain rfl := Option.some.inj H
            as_aux_lemma =>
             try go_wp2
             replace BK288 := ak (blk_drew BK288.out)
             replace BK289 := ak (blk_drew BK289.out)
             replace HB := ak (below_drew1 HB.out)
             have p293 : 0 ≤ (x39_3 : Int) := of_decide_eq_true (by first | (with_reducible assumption) | assumption)
             have q293 : x39_3 < (l0_1.length : Int) := of_decide_eq_true (by first | (with_reducible assumption) | assumption)
             obtain ⟨ad293, A293_0, c293_0, e293, hx293_0, hl293_0, hi293_0⟩ := at_L1 HR0_1.out x39_3 p293 q293
             have hw293_0 := hx293_0
             cases e293
             replace hx293_0 := (HB.out.cell (World.block_lt_of_cell? w _ hx293_0)).trans hx293_0
             have HR293_0 := ak hi293_0
             have HC293_0 := ak hl293_0
             clear hi293_0 hl293_0
             replace p293 := eq_true p293
             replace q293 := eq_true q293
             have p294 : 0 ≤ (x44_4 : Int) := of_decide_eq_true (by first | (with_reducible assumption) | assumption)
             have q294 : x44_4 < ((rd_L1 l0_1 x39_3).length : Int) := of_decide_eq_true (by first | (with_reducible assumption) | assumption)
             obtain ⟨ad294, e294, hx294_0⟩ := Kd.at_int HR293_0.out x44_4 p294 q294
             have hw294_0 := hx294_0
             cases e294
             replace hx294_0 := (HB.out.cell (World.block_lt_of_cell? w _ hx294_0)).trans hx294_0
             replace p294 := eq_true p294
             replace q294 := eq_true q294
             have p295 : 0 ≤ ((rd (rd_L1 l0_1 x39_3) x44_4) : Int) := of_decide_eq_true (by first | (with_reducible assumption) | assumption)
             have q295 : (rd (rd_L1 l0_1 x39_3) x44_4) < (l2.length : Int) := of_decide_eq_true (by first | (with_reducible assumption) | assumption)
             obtain ⟨ad295, e295, hx295_0⟩ := Kd.at_int HR2.out (rd (rd_L1 l0_1 x39_3) x44_4) p295 q295
             have hw295_0 := hx295_0
             cases e295
             replace hx295_0 := (HB.out.cell (World.block_lt_of_cell? w _ hx295_0)).trans hx295_0
             replace p295 := eq_true p295
             replace q295 := eq_true q295
             have p296 : 0 ≤ (x39_3 : Int) := of_decide_eq_true (by first | (with_reducible assumption) | assumption)
             have q296 : x39_3 < (l2.length : Int) := of_decide_eq_true (by first | (with_reducible assumption) | assumption)
             obtain ⟨ad296, e296, hx296_0⟩ := Kd.at_int HR2.out x39_3 p296 q296
             have hw296_0 := hx296_0
             obtain rfl : ad295 = ad296 := (by injection e296)
             replace hx296_0 := (HB.out.cell (World.block_lt_of_cell? w _ hx296_0)).trans hx296_0
             replace p296 := eq_true p296
             replace q296 := eq_true q296
             have p297 : 0 ≤ ((rd l2 x39_3) : Int) := of_decide_eq_true (by first | (with_reducible assumption) | assumption)
             have q297 : (rd l2 x39_3) < (l1_1.length : Int) := of_decide_eq_true (by first | (with_reducible assumption) | assumption)
             obtain ⟨ad297, A297_0, c297_0, e297, hx297_0, hl297_0, hi297_0⟩ := at_L1 HR1_1.out (rd l2 x39_3) p297 q297
             have hw297_0 := hx297_0
             cases e297
             replace hx297_0 := (HB.out.cell (World.block_lt_of_cell? w _ hx297_0)).trans hx297_0
             have HR297_0 := ak hi297_0
             have HC297_0 := ak hl297_0
             clear hi297_0 hl297_0
             replace p297 := eq_true p297
             replace q297 := eq_true q297
             have p298 : 0 ≤ (x44_4 : Int) := of_decide_eq_true (by first | (with_reducible assumption) | assumption)
             have q298 : x44_4 < (l2.length : Int) := of_decide_eq_true (by first | (with_reducible assumption) | assumption)
             obtain ⟨ad298, e298, hx298_0⟩ := Kd.at_int HR2.out x44_4 p298 q298
             have hw298_0 := hx298_0
             obtain rfl : ad295 = ad298 := (by injection e298)
             replace hx298_0 := (HB.out.cell (World.block_lt_of_cell? w _ hx298_0)).trans hx298_0
             replace p298 := eq_true p298
             replace q298 := eq_true q298
             have p299 : 0 ≤ ((rd l2 x44_4) : Int) := of_decide_eq_true (by first | (with_reducible assumption) | assumption)
             have q299 : (rd l2 x44_4) < ((rd_L1 l1_1 (rd l2 x39_3)).length : Int) := of_decide_eq_true (by first | (with_reducible assumption) | assumption)
             obtain ⟨ad299, e299, hx299_0⟩ := Kd.at_int HR297_0.out (rd l2 x44_4) p299 q299
             have hw299_0 := hx299_0
             cases e299
             replace hx299_0 := (HB.out.cell (World.block_lt_of_cell? w _ hx299_0)).trans hx299_0
             replace p299 := eq_true p299
             replace q299 := eq_true q299
             have p302 : 0 ≤ (x39_3 : Int) := of_decide_eq_true (by first | (with_reducible assumption) | assumption)
             have q302 : x39_3 < (l2.length : Int) := of_decide_eq_true (by first | (with_reducible assumption) | assumption)
             obtain ⟨ad302, e302, hx302_0⟩ := Kd.at_int HR2.out x39_3 p302 q302
             have hw302_0 := hx302_0
             obtain rfl : ad295 = ad302 := (by injection e302)
             replace hx302_0 := (HB.out.cell (World.block_lt_of_cell? w _ hx302_0)).trans hx302_0
             replace p302 := eq_true p302
             replace q302 := eq_true q302
             have p303 : 0 ≤ (x44_4 : Int) := of_decide_eq_true (by first | (with_reducible assumption) | assumption)
             have q303 : x44_4 < (l2.length : Int) := of_decide_eq_true (by first | (with_reducible assumption) | assumption)
             obtain ⟨ad303, e303, hx303_0⟩ := Kd.at_int HR2.out x44_4 p303 q303
             have hw303_0 := hx303_0
             obtain rfl : ad295 = ad303 := (by injection e303)
             replace hx303_0 := (HB.out.cell (World.block_lt_of_cell? w _ hx303_0)).trans hx303_0
             replace p303 := eq_true p303
             replace q303 := eq_true q303
             have p301 : 0 ≤ (t300 : Int) := of_decide_eq_true (by first | (with_reducible assumption) | assumption)
             have q301 : t300 < (l2.length : Int) := of_decide_eq_true (by first | (with_reducible assumption) | assumption)
             obtain ⟨ad301, e301, hx301_0⟩ := Kd.at_int HR2.out t300 p301 q301
             have hw301_0 := hx301_0
             obtain rfl : ad295 = ad301 := (by injection e301)
             replace hx301_0 := (HB.out.cell (World.block_lt_of_cell? w _ hx301_0)).trans hx301_0
             replace p301 := eq_true p301
             replace q301 := eq_true q301
             refine start_ (n := 90) (S := fun w' => w'.cell? ⟨gb288, 0, none⟩ = some (.slice A0_0 l0_0.length c0_0) ∧ w'.cell? ⟨gb288, 1, none⟩ = some (.slice (some ad293) l0_1.length c0_1) ∧ w'.cell? ⟨gb289, 0, none⟩ = some (.slice A1_0 l1_0.length c1_0) ∧ w'.cell? ⟨gb289, 1, none⟩ = some (.slice (some ad297) l1_1.length c1_1) ∧ w'.cell? (ad293.add (x39_3).toNat) = some (.slice (some ad294) (rd_L1 l0_1 x39_3).length c293_0) ∧ w'.cell? (ad294.add (x44_4).toNat) = some (.int .i64 (rd (rd_L1 l0_1 x39_3) x44_4)) ∧ w'.cell? (ad295.add ((rd (rd_L1 l0_1 x39_3) x44_4)).toNat) = some (.int .i64 (rd l2 (rd (rd_L1 l0_1 x39_3) x44_4))) ∧ w'.cell? (ad295.add (x39_3).toNat) = some (.int .i64 (rd l2 x39_3)) ∧ w'.cell? (ad297.add ((rd l2 x39_3)).toNat) = some (.slice (some ad299) (rd_L1 l1_1 (rd l2 x39_3)).length c297_0) ∧ w'.cell? (ad295.add (x44_4).toNat) = some (.int .i64 (rd l2 x44_4)) ∧ w'.cell? (ad299.add ((rd l2 x44_4)).toNat) = some (.int .i64 (rd (rd_L1 l1_1 (rd l2 x39_3)) (rd l2 x44_4))) ∧ w'.cell? (ad295.add (x39_3).toNat) = some (.int .i64 (rd l2 x39_3)) ∧ w'.cell? (ad295.add (x44_4).toNat) = some (.int .i64 (rd l2 x44_4)) ∧ w'.cell? (ad295.add (t300).toNat) = some (.int .i64 (rd l2 t300))) (ds := []) #[false, false, false, false, false, false, false, false, false, false, false, false, false, false, false, false, false, false, false, false, false, false, false, false, false, false, false, false, false, false, false, false, false, false, false, false, false, false, false, false, false, false, false, false, false, false, false, false, false, false, false, false, false, false, false, false, false, false, false, false, false, false, false, false, false, false, false, false, false, false, false, false, false, false, false, false, false, false, false, false, false, false, false, false, false, false, false, false, false, false] (by kernel_rfl) rfl rfl ⟨(blk_cell BK288.out 0).trans rfl, (blk_cell BK288.out 1).trans rfl, (blk_cell BK289.out 0).trans rfl, (blk_cell BK289.out 1).trans rfl, ((HB.out.cell (World.block_lt_of_cell? w _ hw293_0)).trans hw293_0), ((HB.out.cell (World.block_lt_of_cell? w _ hw294_0)).trans hw294_0), ((HB.out.cell (World.block_lt_of_cell? w _ hw295_0)).trans hw295_0), ((HB.out.cell (World.block_lt_of_cell? w _ hw296_0)).trans hw296_0), ((HB.out.cell (World.block_lt_of_cell? w _ hw297_0)).trans hw297_0), ((HB.out.cell (World.block_lt_of_cell? w _ hw298_0)).trans hw298_0), ((HB.out.cell (World.block_lt_of_cell? w _ hw299_0)).trans hw299_0), ((HB.out.cell (World.block_lt_of_cell? w _ hw302_0)).trans hw302_0), ((HB.out.cell (World.block_lt_of_cell? w _ hw303_0)).trans hw303_0), ((HB.out.cell (World.block_lt_of_cell? w _ hw301_0)).trans hw301_0)⟩ (fun hHeld => ?_); refine with_tabW impl_isMap.tab11 impl_isMap.bits11 (fun HT_ HW_ => ?_)
             generalize wr.drew = w62 at BK288 BK289 HB HR293_0 HR297_0 hx293_0 hx294_0 hx295_0 hx296_0 hx297_0 hx298_0 hx299_0 hx301_0 hx302_0 hx303_0 hHeld ⊢
             refine pu 0 47 1 90 ?_
             refine pu 1 48 3 90 ?_
             refine pu 3 50 11 90 ?_
             refine pu 6 53 75 90 ?_
             refine pu 11 58 2123 90 ?_
             refine pu 13 60 10315 90 ?_
             refine pu 14 61 26699 90 ?_
             refine pu 15 62 59467 90 ?_
             refine pu 19 66 583755 90 ?_
             refine pu 20 67 0x18e84b 90 ?_
             refine pu 21 68 0x38e84b 90 ?_
             refine tk 2 49 0x38e84f 90 ?_
             refine pu 4 51 0x38e85f 90 ?_
             refine tk 5 52 0x38e87f 90 ?_
             refine pu 7 54 0x38e8ff 90 ?_
             refine tk 8 55 0x38e9ff 90 ?_
             refine pu 9 56 0x38ebff 90 ?_
             refine tk 10 57 0x38efff 90 ?_
             refine tk 12 59 0x38ffff 90 ?_
             refine tk 16 63 0x39ffff 90 ?_
             refine pu 17 64 0x3bffff 90 ?_
             refine tk 18 65 0x3fffff 90 ?_
             refine tk 22 69 0x7fffff 90 ?_
             refine pu 23 70 0xffffff 90 ?_
             refine tk 24 71 0x1ffffff 90 ?_
             refine pu 25 72 0x3ffffff 90 ?_
             refine pu 26 73 0x7ffffff 90 ?_
             refine pu 27 74 0xfffffff 90 ?_
             refine pu 29 76 0x2fffffff 90 ?_
             refine pu 30 77 0x6fffffff 90 ?_
             refine pu 35 82 0x86fffffff 90 ?_
             refine pu 36 83 0x186fffffff 90 ?_
             refine pu 37 84 0x386fffffff 90 ?_
             refine pu 39 86 0xb86fffffff 90 ?_
             refine pu 40 87 0x1b86fffffff 90 ?_
             refine pu 41 88 0x3b86fffffff 90 ?_
             refine tk 28 75 0x3b87fffffff 90 ?_
             refine tk 34 81 0x3bc7fffffff 90 ?_
             refine tk 38 85 0x3fc7fffffff 90 ?_
             refine tk 42 89 0x7fc7fffffff 90 ?_
             refine one_ (i := 31) (N := some 78) #[true, true, true, true, true, true, true, true, true, true, true, true, true, true, true, true, true, true, true, true, true, true, true, true, true, true, true, true, true, true, true, true, false, false, true, true, true, true, true, true, true, true, true, false, false, false, false, false, false, false, false, false, false, false, false, false, false, false, false, false, false, false, false, false, false, false, false, false, false, false, false, false, false, false, false, false, false, false, false, false, false, false, false, false, false, false, false, false, false, false] rfl rfl (one_of HT_.out (by kernel_rfl)) (by decide) (fun K hK => ?_)
             refine goes_ Try.func71 (by kernel_rfl) rfl #[.agg #[.slice A0_0 l0_0.length c0_0, .slice (some ad293) l0_1.length c0_1], .int .i64 x39_3, .int .i64 x44_4] (by rfl) rfl rfl (by (try simp only [List.map_toArray, List.map_cons, List.map_nil]); first | done | rfl | (simp only [List.length_drop, List.length_take]; rfl)) ?_
             with_reducible refine (impl_imply.calls k4 _ _ l0_0 _ _ l0_1 x39_3 x44_4 t300 _ ?side1 ?side2 ?side3 ?side4 A38.out).mono ?_
             (case side1 => exact kC (Kd.C_below HR0_0.out HB.out))
             (case side2 => exact HC0_0.out)
             (case side3 => exact kC (Kd.C_below HR0_1.out HB.out))
             (case side4 => exact HC0_1.out)
             rintro e w63 ⟨rfl, hb⟩
             refine ⟨_, rfl, ?_⟩
             replace BK288 := ak (blk_below (kK BK288.out) hb)
             replace BK289 := ak (blk_below (kK BK289.out) hb)
             replace HB := ak (below_step (bB HB.out) hb)
             (try clear hb)
             (try clear hb2)
             (try clear hk)
             (try clear hi)
             refine hK.out _ _ ⟨(blk_cell BK288.out 0).trans rfl, (blk_cell BK288.out 1).trans rfl, (blk_cell BK289.out 0).trans rfl, (blk_cell BK289.out 1).trans rfl, ((HB.out.cell (World.block_lt_of_cell? w _ hw293_0)).trans hw293_0), ((HB.out.cell (World.block_lt_of_cell? w _ hw294_0)).trans hw294_0), ((HB.out.cell (World.block_lt_of_cell? w _ hw295_0)).trans hw295_0), ((HB.out.cell (World.block_lt_of_cell? w _ hw296_0)).trans hw296_0), ((HB.out.cell (World.block_lt_of_cell? w _ hw297_0)).trans hw297_0), ((HB.out.cell (World.block_lt_of_cell? w _ hw298_0)).trans hw298_0), ((HB.out.cell (World.block_lt_of_cell? w _ hw299_0)).trans hw299_0), ((HB.out.cell (World.block_lt_of_cell? w _ hw302_0)).trans hw302_0), ((HB.out.cell (World.block_lt_of_cell? w _ hw303_0)).trans hw303_0), ((HB.out.cell (World.block_lt_of_cell? w _ hw301_0)).trans hw301_0)⟩ (fun hHeld => ?_)
             clear hK K
             refine norm_ (a' := ?_) ?_ ?_
             rotate_left
             ·show Act.put _ (some 78) _ = _
              simp only [Act.put, List.setIfInBounds_toArray, List.set_cons_zero, List.set_cons_succ, i64_w, i32_w]
              rfl
             refine pu 32 79 0x7fdffffffff 90 ?_
             refine tk 33 80 0x7ffffffffff 90 ?_
             refine one_ (i := 43) (N := some 90) #[true, true, true, true, true, true, true, true, true, true, true, true, true, true, true, true, true, true, true, true, true, true, true, true, true, true, true, true, true, true, true, true, true, true, true, true, true, true, true, true, true, true, true, true, false, false, false, false, false, false, false, false, false, false, false, false, false, false, false, false, false, false, false, false, false, false, false, false, false, false, false, false, false, false, false, false, false, false, false, false, false, false, false, false, false, false, false, false, false, false] rfl rfl (one_of HT_.out (by kernel_rfl)) (by decide) (fun K hK => ?_)
             refine goes_ Try.func71 (by kernel_rfl) rfl #[.agg #[.slice A1_0 l1_0.length c1_0, .slice (some ad297) l1_1.length c1_1], .int .i64 (rd l2 x39_3), .int .i64 (rd l2 x44_4)] (by rfl) rfl rfl (by (try simp only [List.map_toArray, List.map_cons, List.map_nil]); first | done | rfl | (simp only [List.length_drop, List.length_take]; rfl)) ?_
             with_reducible refine (impl_imply.calls k4 _ _ l1_0 _ _ l1_1 (rd l2 x39_3) (rd l2 x44_4) t304 _ ?side1 ?side2 ?side3 ?side4 A41.out).mono ?_
             (case side1 => exact kC (Kd.C_below HR1_0.out HB.out))
             (case side2 => exact HC1_0.out)
             (case side3 => exact kC (Kd.C_below HR1_1.out HB.out))
             (case side4 => exact HC1_1.out)
             rintro e w64 ⟨rfl, hb⟩
             refine ⟨_, rfl, ?_⟩
             replace BK288 := ak (blk_below (kK BK288.out) hb)
             replace BK289 := ak (blk_below (kK BK289.out) hb)
             replace HB := ak (below_step (bB HB.out) hb)
             (try clear hb)
             (try clear hb2)
             (try clear hk)
             (try clear hi)
             refine hK.out _ _ ⟨(blk_cell BK288.out 0).trans rfl, (blk_cell BK288.out 1).trans rfl, (blk_cell BK289.out 0).trans rfl, (blk_cell BK289.out 1).trans rfl, ((HB.out.cell (World.block_lt_of_cell? w _ hw293_0)).trans hw293_0), ((HB.out.cell (World.block_lt_of_cell? w _ hw294_0)).trans hw294_0), ((HB.out.cell (World.block_lt_of_cell? w _ hw295_0)).trans hw295_0), ((HB.out.cell (World.block_lt_of_cell? w _ hw296_0)).trans hw296_0), ((HB.out.cell (World.block_lt_of_cell? w _ hw297_0)).trans hw297_0), ((HB.out.cell (World.block_lt_of_cell? w _ hw298_0)).trans hw298_0), ((HB.out.cell (World.block_lt_of_cell? w _ hw299_0)).trans hw299_0), ((HB.out.cell (World.block_lt_of_cell? w _ hw302_0)).trans hw302_0), ((HB.out.cell (World.block_lt_of_cell? w _ hw303_0)).trans hw303_0), ((HB.out.cell (World.block_lt_of_cell? w _ hw301_0)).trans hw301_0)⟩ (fun hHeld => ?_)
             clear hK K
             refine norm_ (a' := ?_) ?_ ?_
             rotate_left
             ·show Act.put _ (some 90) _ = _
              simp only [Act.put, List.setIfInBounds_toArray, List.set_cons_zero, List.set_cons_succ, i64_w, i32_w]
              rfl
             refine pu 44 91 0x1fffffffffff 90 ?_
             refine pu 45 92 0x3fffffffffff 90 ?_
             refine pu 46 93 0x7fffffffffff 90 ?_
             refine pd 47 94 0xffffffffffff 90 ?_
             refine pd 48 95 0x1ffffffffffff 90 ?_
             refine pd 49 96 0x3ffffffffffff 90 ?_
             refine pd 50 97 0x7ffffffffffff 90 ?_
             refine pd 51 98 0xfffffffffffff 90 ?_
             refine pd 52 99 0x1fffffffffffff 90 ?_
             refine pd 53 100 0x3fffffffffffff 90 ?_
             refine pd 54 101 0x7fffffffffffff 90 ?_
             refine pd 55 102 0xffffffffffffff 90 ?_
             refine pd 56 103 0x1ffffffffffffff 90 ?_
             refine pd 57 104 0x3ffffffffffffff 90 ?_
             refine pd 58 105 0x7ffffffffffffff 90 ?_
             refine pd 59 106 0xfffffffffffffff 90 ?_
             refine pd 60 107 0x1fffffffffffffff 90 ?_
             refine pd 61 108 0x3fffffffffffffff 90 ?_
             refine pd 62 109 0x7fffffffffffffff 90 ?_
             refine pd 63 110 0xffffffffffffffff 90 ?_
             refine pd 64 111 0x1ffffffffffffffff 90 ?_
             refine pd 65 112 0x3ffffffffffffffff 90 ?_
             refine pd 66 113 0x7ffffffffffffffff 90 ?_
             refine pu 67 114 0xfffffffffffffffff 90 ?_
             refine pu 68 115 0x1fffffffffffffffff 90 ?_
             refine pd 69 116 0x3fffffffffffffffff 90 ?_
             refine pd 70 117 0x7fffffffffffffffff 90 ?_
             refine pd 71 118 0xffffffffffffffffff 90 ?_
             refine pd 72 119 0x1ffffffffffffffffff 90 ?_
             refine pd 73 120 0x3ffffffffffffffffff 90 ?_
             refine pd 74 121 0x7ffffffffffffffffff 90 ?_
             refine pd 75 122 0xfffffffffffffffffff 90 ?_
             refine pd 76 123 0x1fffffffffffffffffff 90 ?_
             refine pd 77 124 0x3fffffffffffffffffff 90 ?_
             refine pd 78 125 0x7fffffffffffffffffff 90 ?_
             refine pd 79 126 0xffffffffffffffffffff 90 ?_
             refine pd 80 127 0x1ffffffffffffffffffff 90 ?_
             refine pd 81 128 0x3ffffffffffffffffffff 90 ?_
             refine pd 82 129 0x7ffffffffffffffffffff 90 ?_
             refine pd 83 130 0xfffffffffffffffffffff 90 ?_
             refine pd 84 131 0x1fffffffffffffffffffff 90 ?_
             refine pd 85 132 0x3fffffffffffffffffffff 90 ?_
             refine pd 86 133 0x7fffffffffffffffffffff 90 ?_
             refine pd 87 134 0xffffffffffffffffffffff 90 ?_
             refine pd 88 135 0x1ffffffffffffffffffffff 90 ?_
             refine pu 89 136 0x3ffffffffffffffffffffff 90 ?_
             refine done_ (done_of HT_.out (by kernel_rfl)) ?_
             try go_wp2
             go_ret
             exact ⟨by first | rfl | (simp [errW_none, errW_some] <;> rfl) | (simp [*, errW_none, errW_some] <;> rfl), by repeat (first | (with_reducible first | exact HB.out | apply below_alloc | apply pw_below_drewN | apply below_drew1 | refine below_set ?_ GE288.out | refine below_set ?_ GE289.out) | exact HB.out)⟩
           rw [if_pos c42] at H
           have c42b0 : ((rd l2 t300) == t304) = true := beq_iff_eq.mpr c42
           have c42b1 : ((rd l2 t300) != t304) = false := bne_eq_false_iff_eq.mpr c42
           clear c42
           replace H := bi H
           obtain ⟨t305, A430, H⟩ := H
           try dsimp only at H
           have A43 := ak A430
           clear A430
           replace H := oi H
           obtain ⟨c44, H⟩ := H
           have c44b0 : decide (0 ≤ t305) = true := decide_eq_true c44
           clear c44
           replace H := oi H
           obtain ⟨c45, H⟩ := H
           have c45b0 : decide (t305 < (l2.length : Int)) = true := decide_eq_true c45
           clear c45
           replace H := bi H
           obtain ⟨t309, A460, H⟩ := H
           try dsimp only at H
           have A46 := ak A460
           clear A460
           by_cases c47 : (rd l2 t305) = t309
           rotate_left
           ·rw [if_neg c47] at H
            have c47b0 : ((rd l2 t305) == t309) = false := beq_eq_false_iff_ne.mpr c47
            have c47b1 : ((rd l2 t305) != t309) = true := bne_iff_ne.mpr c47
            obtain rfl := Option.some.inj H
            as_aux_lemma =>
             try go_wp2
             replace BK288 := ak (blk_drew BK288.out)
             replace BK289 := ak (blk_drew BK289.out)
             replace HB := ak (below_drew1 HB.out)
             have p293 : 0 ≤ (x39_3 : Int) := of_decide_eq_true (by first | (with_reducible assumption) | assumption)
             have q293 : x39_3 < (l0_1.length : Int) := of_decide_eq_true (by first | (with_reducible assumption) | assumption)
             obtain ⟨ad293, A293_0, c293_0, e293, hx293_0, hl293_0, hi293_0⟩ := at_L1 HR0_1.out x39_3 p293 q293
             have hw293_0 := hx293_0
             cases e293
             replace hx293_0 := (HB.out.cell (World.block_lt_of_cell? w _ hx293_0)).trans hx293_0
             have HR293_0 := ak hi293_0
             have HC293_0 := ak hl293_0
             clear hi293_0 hl293_0
             replace p293 := eq_true p293
             replace q293 := eq_true q293
             have p294 : 0 ≤ (x44_4 : Int) := of_decide_eq_true (by first | (with_reducible assumption) | assumption)
             have q294 : x44_4 < ((rd_L1 l0_1 x39_3).length : Int) := of_decide_eq_true (by first | (with_reducible assumption) | assumption)
             obtain ⟨ad294, e294, hx294_0⟩ := Kd.at_int HR293_0.out x44_4 p294 q294
             have hw294_0 := hx294_0
             cases e294
             replace hx294_0 := (HB.out.cell (World.block_lt_of_cell? w _ hx294_0)).trans hx294_0
             replace p294 := eq_true p294
             replace q294 := eq_true q294
             have p295 : 0 ≤ ((rd (rd_L1 l0_1 x39_3) x44_4) : Int) := of_decide_eq_true (by first | (with_reducible assumption) | assumption)
             have q295 : (rd (rd_L1 l0_1 x39_3) x44_4) < (l2.length : Int) := of_decide_eq_true (by first | (with_reducible assumption) | assumption)
             obtain ⟨ad295, e295, hx295_0⟩ := Kd.at_int HR2.out (rd (rd_L1 l0_1 x39_3) x44_4) p295 q295
             have hw295_0 := hx295_0
             cases e295
             replace hx295_0 := (HB.out.cell (World.block_lt_of_cell? w _ hx295_0)).trans hx295_0
             replace p295 := eq_true p295
             replace q295 := eq_true q295
             have p296 : 0 ≤ (x39_3 : Int) := of_decide_eq_true (by first | (with_reducible assumption) | assumption)
             have q296 : x39_3 < (l2.length : Int) := of_decide_eq_true (by first | (with_reducible assumption) | assumption)
             obtain ⟨ad296, e296, hx296_0⟩ := Kd.at_int HR2.out x39_3 p296 q296
             have hw296_0 := hx296_0
             obtain rfl : ad295 = ad296 := (by injection e296)
             replace hx296_0 := (HB.out.cell (World.block_lt_of_cell? w _ hx296_0)).trans hx296_0
             replace p296 := eq_true p296
             replace q296 := eq_true q296
             have p297 : 0 ≤ ((rd l2 x39_3) : Int) := of_decide_eq_true (by first | (with_reducible assumption) | assumption)
             have q297 : (rd l2 x39_3) < (l1_1.length : Int) := of_decide_eq_true (by first | (with_reducible assumption) | assumption)
             obtain ⟨ad297, A297_0, c297_0, e297, hx297_0, hl297_0, hi297_0⟩ := at_L1 HR1_1.out (rd l2 x39_3) p297 q297
             have hw297_0 := hx297_0
             cases e297
             replace hx297_0 := (HB.out.cell (World.block_lt_of_cell? w _ hx297_0)).trans hx297_0
             have HR297_0 := ak hi297_0
             have HC297_0 := ak hl297_0
             clear hi297_0 hl297_0
             replace p297 := eq_true p297
             replace q297 := eq_true q297
             have p298 : 0 ≤ (x44_4 : Int) := of_decide_eq_true (by first | (with_reducible assumption) | assumption)
             have q298 : x44_4 < (l2.length : Int) := of_decide_eq_true (by first | (with_reducible assumption) | assumption)
             obtain ⟨ad298, e298, hx298_0⟩ := Kd.at_int HR2.out x44_4 p298 q298
             have hw298_0 := hx298_0
             obtain rfl : ad295 = ad298 := (by injection e298)
             replace hx298_0 := (HB.out.cell (World.block_lt_of_cell? w _ hx298_0)).trans hx298_0
             replace p298 := eq_true p298
             replace q298 := eq_true q298
             have p299 : 0 ≤ ((rd l2 x44_4) : Int) := of_decide_eq_true (by first | (with_reducible assumption) | assumption)
             have q299 : (rd l2 x44_4) < ((rd_L1 l1_1 (rd l2 x39_3)).length : Int) := of_decide_eq_true (by first | (with_reducible assumption) | assumption)
             obtain ⟨ad299, e299, hx299_0⟩ := Kd.at_int HR297_0.out (rd l2 x44_4) p299 q299
             have hw299_0 := hx299_0
             cases e299
             replace hx299_0 := (HB.out.cell (World.block_lt_of_cell? w _ hx299_0)).trans hx299_0
             replace p299 := eq_true p299
             replace q299 := eq_true q299
             have p302 : 0 ≤ (x39_3 : Int) := of_decide_eq_true (by first | (with_reducible assumption) | assumption)
             have q302 : x39_3 < (l2.length : Int) := of_decide_eq_true (by first | (with_reducible assumption) | assumption)
             obtain ⟨ad302, e302, hx302_0⟩ := Kd.at_int HR2.out x39_3 p302 q302
             have hw302_0 := hx302_0
             obtain rfl : ad295 = ad302 := (by injection e302)
             replace hx302_0 := (HB.out.cell (World.block_lt_of_cell? w _ hx302_0)).trans hx302_0
             replace p302 := eq_true p302
             replace q302 := eq_true q302
             have p303 : 0 ≤ (x44_4 : Int) := of_decide_eq_true (by first | (with_reducible assumption) | assumption)
             have q303 : x44_4 < (l2.length : Int) := of_decide_eq_true (by first | (with_reducible assumption) | assumption)
             obtain ⟨ad303, e303, hx303_0⟩ := Kd.at_int HR2.out x44_4 p303 q303
             have hw303_0 := hx303_0
             obtain rfl : ad295 = ad303 := (by injection e303)
             replace hx303_0 := (HB.out.cell (World.block_lt_of_cell? w _ hx303_0)).trans hx303_0
             replace p303 := eq_true p303
             replace q303 := eq_true q303
             have p301 : 0 ≤ (t300 : Int) := of_decide_eq_true (by first | (with_reducible assumption) | assumption)
             have q301 : t300 < (l2.length : Int) := of_decide_eq_true (by first | (with_reducible assumption) | assumption)
             obtain ⟨ad301, e301, hx301_0⟩ := Kd.at_int HR2.out t300 p301 q301
             have hw301_0 := hx301_0
             obtain rfl : ad295 = ad301 := (by injection e301)
             replace hx301_0 := (HB.out.cell (World.block_lt_of_cell? w _ hx301_0)).trans hx301_0
             replace p301 := eq_true p301
             replace q301 := eq_true q301
             have p306 : 0 ≤ (t305 : Int) := of_decide_eq_true (by first | (with_reducible assumption) | assumption)
             have q306 : t305 < (l2.length : Int) := of_decide_eq_true (by first | (with_reducible assumption) | assumption)
             obtain ⟨ad306, e306, hx306_0⟩ := Kd.at_int HR2.out t305 p306 q306
             have hw306_0 := hx306_0
             obtain rfl : ad295 = ad306 := (by injection e306)
             replace hx306_0 := (HB.out.cell (World.block_lt_of_cell? w _ hx306_0)).trans hx306_0
             replace p306 := eq_true p306
             replace q306 := eq_true q306
             have p307 : 0 ≤ (x39_3 : Int) := of_decide_eq_true (by first | (with_reducible assumption) | assumption)
             have q307 : x39_3 < (l2.length : Int) := of_decide_eq_true (by first | (with_reducible assumption) | assumption)
             obtain ⟨ad307, e307, hx307_0⟩ := Kd.at_int HR2.out x39_3 p307 q307
             have hw307_0 := hx307_0
             obtain rfl : ad295 = ad307 := (by injection e307)
             replace hx307_0 := (HB.out.cell (World.block_lt_of_cell? w _ hx307_0)).trans hx307_0
             replace p307 := eq_true p307
             replace q307 := eq_true q307
             have p308 : 0 ≤ (x44_4 : Int) := of_decide_eq_true (by first | (with_reducible assumption) | assumption)
             have q308 : x44_4 < (l2.length : Int) := of_decide_eq_true (by first | (with_reducible assumption) | assumption)
             obtain ⟨ad308, e308, hx308_0⟩ := Kd.at_int HR2.out x44_4 p308 q308
             have hw308_0 := hx308_0
             obtain rfl : ad295 = ad308 := (by injection e308)
             replace hx308_0 := (HB.out.cell (World.block_lt_of_cell? w _ hx308_0)).trans hx308_0
             replace p308 := eq_true p308
             replace q308 := eq_true q308
             refine start_ (n := 90) (S := fun w' => w'.cell? ⟨gb288, 0, none⟩ = some (.slice A0_0 l0_0.length c0_0) ∧ w'.cell? ⟨gb288, 1, none⟩ = some (.slice (some ad293) l0_1.length c0_1) ∧ w'.cell? ⟨gb289, 0, none⟩ = some (.slice A1_0 l1_0.length c1_0) ∧ w'.cell? ⟨gb289, 1, none⟩ = some (.slice (some ad297) l1_1.length c1_1) ∧ w'.cell? (ad293.add (x39_3).toNat) = some (.slice (some ad294) (rd_L1 l0_1 x39_3).length c293_0) ∧ w'.cell? (ad294.add (x44_4).toNat) = some (.int .i64 (rd (rd_L1 l0_1 x39_3) x44_4)) ∧ w'.cell? (ad295.add ((rd (rd_L1 l0_1 x39_3) x44_4)).toNat) = some (.int .i64 (rd l2 (rd (rd_L1 l0_1 x39_3) x44_4))) ∧ w'.cell? (ad295.add (x39_3).toNat) = some (.int .i64 (rd l2 x39_3)) ∧ w'.cell? (ad297.add ((rd l2 x39_3)).toNat) = some (.slice (some ad299) (rd_L1 l1_1 (rd l2 x39_3)).length c297_0) ∧ w'.cell? (ad295.add (x44_4).toNat) = some (.int .i64 (rd l2 x44_4)) ∧ w'.cell? (ad299.add ((rd l2 x44_4)).toNat) = some (.int .i64 (rd (rd_L1 l1_1 (rd l2 x39_3)) (rd l2 x44_4))) ∧ w'.cell? (ad295.add (x39_3).toNat) = some (.int .i64 (rd l2 x39_3)) ∧ w'.cell? (ad295.add (x44_4).toNat) = some (.int .i64 (rd l2 x44_4)) ∧ w'.cell? (ad295.add (t300).toNat) = some (.int .i64 (rd l2 t300)) ∧ w'.cell? (ad295.add (t305).toNat) = some (.int .i64 (rd l2 t305)) ∧ w'.cell? (ad295.add (x39_3).toNat) = some (.int .i64 (rd l2 x39_3)) ∧ w'.cell? (ad295.add (x44_4).toNat) = some (.int .i64 (rd l2 x44_4))) (ds := []) #[false, false, false, false, false, false, false, false, false, false, false, false, false, false, false, false, false, false, false, false, false, false, false, false, false, false, false, false, false, false, false, false, false, false, false, false, false, false, false, false, false, false, false, false, false, false, false, false, false, false, false, false, false, false, false, false, false, false, false, false, false, false, false, false, false, false, false, false, false, false, false, false, false, false, false, false, false, false, false, false, false, false, false, false, false, false, false, false, false, false] (by kernel_rfl) rfl rfl ⟨(blk_cell BK288.out 0).trans rfl, (blk_cell BK288.out 1).trans rfl, (blk_cell BK289.out 0).trans rfl, (blk_cell BK289.out 1).trans rfl, ((HB.out.cell (World.block_lt_of_cell? w _ hw293_0)).trans hw293_0), ((HB.out.cell (World.block_lt_of_cell? w _ hw294_0)).trans hw294_0), ((HB.out.cell (World.block_lt_of_cell? w _ hw295_0)).trans hw295_0), ((HB.out.cell (World.block_lt_of_cell? w _ hw296_0)).trans hw296_0), ((HB.out.cell (World.block_lt_of_cell? w _ hw297_0)).trans hw297_0), ((HB.out.cell (World.block_lt_of_cell? w _ hw298_0)).trans hw298_0), ((HB.out.cell (World.block_lt_of_cell? w _ hw299_0)).trans hw299_0), ((HB.out.cell (World.block_lt_of_cell? w _ hw302_0)).trans hw302_0), ((HB.out.cell (World.block_lt_of_cell? w _ hw303_0)).trans hw303_0), ((HB.out.cell (World.block_lt_of_cell? w _ hw301_0)).trans hw301_0), ((HB.out.cell (World.block_lt_of_cell? w _ hw306_0)).trans hw306_0), ((HB.out.cell (World.block_lt_of_cell? w _ hw307_0)).trans hw307_0), ((HB.out.cell (World.block_lt_of_cell? w _ hw308_0)).trans hw308_0)⟩ (fun hHeld => ?_); refine with_tabW impl_isMap.tab11 impl_isMap.bits11 (fun HT_ HW_ => ?_)
             generalize wr.drew = w59 at BK288 BK289 HB HR293_0 HR297_0 hx293_0 hx294_0 hx295_0 hx296_0 hx297_0 hx298_0 hx299_0 hx301_0 hx302_0 hx303_0 hx306_0 hx307_0 hx308_0 hHeld ⊢
             refine pu 0 47 1 90 ?_
             refine pu 1 48 3 90 ?_
             refine pu 3 50 11 90 ?_
             refine pu 6 53 75 90 ?_
             refine pu 11 58 2123 90 ?_
             refine pu 13 60 10315 90 ?_
             refine pu 14 61 26699 90 ?_
             refine pu 15 62 59467 90 ?_
             refine pu 19 66 583755 90 ?_
             refine pu 20 67 0x18e84b 90 ?_
             refine pu 21 68 0x38e84b 90 ?_
             refine tk 2 49 0x38e84f 90 ?_
             refine pu 4 51 0x38e85f 90 ?_
             refine tk 5 52 0x38e87f 90 ?_
             refine pu 7 54 0x38e8ff 90 ?_
             refine tk 8 55 0x38e9ff 90 ?_
             refine pu 9 56 0x38ebff 90 ?_
             refine tk 10 57 0x38efff 90 ?_
             refine tk 12 59 0x38ffff 90 ?_
             refine tk 16 63 0x39ffff 90 ?_
             refine pu 17 64 0x3bffff 90 ?_
             refine tk 18 65 0x3fffff 90 ?_
             refine tk 22 69 0x7fffff 90 ?_
             refine pu 23 70 0xffffff 90 ?_
             refine tk 24 71 0x1ffffff 90 ?_
             refine pu 25 72 0x3ffffff 90 ?_
             refine pu 26 73 0x7ffffff 90 ?_
             refine pu 27 74 0xfffffff 90 ?_
             refine pu 29 76 0x2fffffff 90 ?_
             refine pu 30 77 0x6fffffff 90 ?_
             refine pu 35 82 0x86fffffff 90 ?_
             refine pu 36 83 0x186fffffff 90 ?_
             refine pu 37 84 0x386fffffff 90 ?_
             refine pu 39 86 0xb86fffffff 90 ?_
             refine pu 40 87 0x1b86fffffff 90 ?_
             refine pu 41 88 0x3b86fffffff 90 ?_
             refine tk 28 75 0x3b87fffffff 90 ?_
             refine tk 34 81 0x3bc7fffffff 90 ?_
             refine tk 38 85 0x3fc7fffffff 90 ?_
             refine tk 42 89 0x7fc7fffffff 90 ?_
             refine one_ (i := 31) (N := some 78) #[true, true, true, true, true, true, true, true, true, true, true, true, true, true, true, true, true, true, true, true, true, true, true, true, true, true, true, true, true, true, true, true, false, false, true, true, true, true, true, true, true, true, true, false, false, false, false, false, false, false, false, false, false, false, false, false, false, false, false, false, false, false, false, false, false, false, false, false, false, false, false, false, false, false, false, false, false, false, false, false, false, false, false, false, false, false, false, false, false, false] rfl rfl (one_of HT_.out (by kernel_rfl)) (by decide) (fun K hK => ?_)
             refine goes_ Try.func71 (by kernel_rfl) rfl #[.agg #[.slice A0_0 l0_0.length c0_0, .slice (some ad293) l0_1.length c0_1], .int .i64 x39_3, .int .i64 x44_4] (by rfl) rfl rfl (by (try simp only [List.map_toArray, List.map_cons, List.map_nil]); first | done | rfl | (simp only [List.length_drop, List.length_take]; rfl)) ?_
             with_reducible refine (impl_imply.calls k4 _ _ l0_0 _ _ l0_1 x39_3 x44_4 t300 _ ?side1 ?side2 ?side3 ?side4 A38.out).mono ?_
             (case side1 => exact kC (Kd.C_below HR0_0.out HB.out))
             (case side2 => exact HC0_0.out)
             (case side3 => exact kC (Kd.C_below HR0_1.out HB.out))
             (case side4 => exact HC0_1.out)
             rintro e w60 ⟨rfl, hb⟩
             refine ⟨_, rfl, ?_⟩
             replace BK288 := ak (blk_below (kK BK288.out) hb)
             replace BK289 := ak (blk_below (kK BK289.out) hb)
             replace HB := ak (below_step (bB HB.out) hb)
             (try clear hb)
             (try clear hb2)
             (try clear hk)
             (try clear hi)
             refine hK.out _ _ ⟨(blk_cell BK288.out 0).trans rfl, (blk_cell BK288.out 1).trans rfl, (blk_cell BK289.out 0).trans rfl, (blk_cell BK289.out 1).trans rfl, ((HB.out.cell (World.block_lt_of_cell? w _ hw293_0)).trans hw293_0), ((HB.out.cell (World.block_lt_of_cell? w _ hw294_0)).trans hw294_0), ((HB.out.cell (World.block_lt_of_cell? w _ hw295_0)).trans hw295_0), ((HB.out.cell (World.block_lt_of_cell? w _ hw296_0)).trans hw296_0), ((HB.out.cell (World.block_lt_of_cell? w _ hw297_0)).trans hw297_0), ((HB.out.cell (World.block_lt_of_cell? w _ hw298_0)).trans hw298_0), ((HB.out.cell (World.block_lt_of_cell? w _ hw299_0)).trans hw299_0), ((HB.out.cell (World.block_lt_of_cell? w _ hw302_0)).trans hw302_0), ((HB.out.cell (World.block_lt_of_cell? w _ hw303_0)).trans hw303_0), ((HB.out.cell (World.block_lt_of_cell? w _ hw301_0)).trans hw301_0), ((HB.out.cell (World.block_lt_of_cell? w _ hw306_0)).trans hw306_0), ((HB.out.cell (World.block_lt_of_cell? w _ hw307_0)).trans hw307_0), ((HB.out.cell (World.block_lt_of_cell? w _ hw308_0)).trans hw308_0)⟩ (fun hHeld => ?_)
             clear hK K
             refine norm_ (a' := ?_) ?_ ?_
             rotate_left
             ·show Act.put _ (some 78) _ = _
              simp only [Act.put, List.setIfInBounds_toArray, List.set_cons_zero, List.set_cons_succ, i64_w, i32_w]
              rfl
             refine pu 32 79 0x7fdffffffff 90 ?_
             refine tk 33 80 0x7ffffffffff 90 ?_
             refine one_ (i := 43) (N := some 90) #[true, true, true, true, true, true, true, true, true, true, true, true, true, true, true, true, true, true, true, true, true, true, true, true, true, true, true, true, true, true, true, true, true, true, true, true, true, true, true, true, true, true, true, true, false, false, false, false, false, false, false, false, false, false, false, false, false, false, false, false, false, false, false, false, false, false, false, false, false, false, false, false, false, false, false, false, false, false, false, false, false, false, false, false, false, false, false, false, false, false] rfl rfl (one_of HT_.out (by kernel_rfl)) (by decide) (fun K hK => ?_)
             refine goes_ Try.func71 (by kernel_rfl) rfl #[.agg #[.slice A1_0 l1_0.length c1_0, .slice (some ad297) l1_1.length c1_1], .int .i64 (rd l2 x39_3), .int .i64 (rd l2 x44_4)] (by rfl) rfl rfl (by (try simp only [List.map_toArray, List.map_cons, List.map_nil]); first | done | rfl | (simp only [List.length_drop, List.length_take]; rfl)) ?_
             with_reducible refine (impl_imply.calls k4 _ _ l1_0 _ _ l1_1 (rd l2 x39_3) (rd l2 x44_4) t304 _ ?side1 ?side2 ?side3 ?side4 A41.out).mono ?_
             (case side1 => exact kC (Kd.C_below HR1_0.out HB.out))
             (case side2 => exact HC1_0.out)
             (case side3 => exact kC (Kd.C_below HR1_1.out HB.out))
             (case side4 => exact HC1_1.out)
             rintro e w61 ⟨rfl, hb⟩
             refine ⟨_, rfl, ?_⟩
             replace BK288 := ak (blk_below (kK BK288.out) hb)
             replace BK289 := ak (blk_below (kK BK289.out) hb)
             replace HB := ak (below_step (bB HB.out) hb)
             (try clear hb)
             (try clear hb2)
             (try clear hk)
             (try clear hi)
             refine hK.out _ _ ⟨(blk_cell BK288.out 0).trans rfl, (blk_cell BK288.out 1).trans rfl, (blk_cell BK289.out 0).trans rfl, (blk_cell BK289.out 1).trans rfl, ((HB.out.cell (World.block_lt_of_cell? w _ hw293_0)).trans hw293_0), ((HB.out.cell (World.block_lt_of_cell? w _ hw294_0)).trans hw294_0), ((HB.out.cell (World.block_lt_of_cell? w _ hw295_0)).trans hw295_0), ((HB.out.cell (World.block_lt_of_cell? w _ hw296_0)).trans hw296_0), ((HB.out.cell (World.block_lt_of_cell? w _ hw297_0)).trans hw297_0), ((HB.out.cell (World.block_lt_of_cell? w _ hw298_0)).trans hw298_0), ((HB.out.cell (World.block_lt_of_cell? w _ hw299_0)).trans hw299_0), ((HB.out.cell (World.block_lt_of_cell? w _ hw302_0)).trans hw302_0), ((HB.out.cell (World.block_lt_of_cell? w _ hw303_0)).trans hw303_0), ((HB.out.cell (World.block_lt_of_cell? w _ hw301_0)).trans hw301_0), ((HB.out.cell (World.block_lt_of_cell? w _ hw306_0)).trans hw306_0), ((HB.out.cell (World.block_lt_of_cell? w _ hw307_0)).trans hw307_0), ((HB.out.cell (World.block_lt_of_cell? w _ hw308_0)).trans hw308_0)⟩ (fun hHeld => ?_)
             clear hK K
             refine norm_ (a' := ?_) ?_ ?_
             rotate_left
             ·show Act.put _ (some 90) _ = _
              simp only [Act.put, List.setIfInBounds_toArray, List.set_cons_zero, List.set_cons_succ, i64_w, i32_w]
              rfl
             refine pu 44 91 0x1fffffffffff 90 ?_
             refine pu 45 92 0x3fffffffffff 90 ?_
             refine pu 46 93 0x7fffffffffff 90 ?_
             refine pu 47 94 0xffffffffffff 90 ?_
             refine pu 48 95 0x1ffffffffffff 90 ?_
             refine pu 50 97 0x5ffffffffffff 90 ?_
             refine pu 51 98 0xdffffffffffff 90 ?_
             refine pu 55 102 0x8dffffffffffff 90 ?_
             refine pu 57 104 0x28dffffffffffff 90 ?_
             refine pu 58 105 0x68dffffffffffff 90 ?_
             refine pu 59 106 0xe8dffffffffffff 90 ?_
             refine pu 61 108 0x2e8dffffffffffff 90 ?_
             refine pu 62 109 0x6e8dffffffffffff 90 ?_
             refine pu 63 110 0xee8dffffffffffff 90 ?_
             refine tk 49 96 0xee8fffffffffffff 90 ?_
             refine tk 56 103 0xef8fffffffffffff 90 ?_
             refine tk 60 107 0xff8fffffffffffff 90 ?_
             refine tk 64 111 0x1ff8fffffffffffff 90 ?_
             refine one_ (i := 52) (N := some 99) #[true, true, true, true, true, true, true, true, true, true, true, true, true, true, true, true, true, true, true, true, true, true, true, true, true, true, true, true, true, true, true, true, true, true, true, true, true, true, true, true, true, true, true, true, true, true, true, true, true, true, true, true, true, false, false, true, true, true, true, true, true, true, true, true, true, false, false, false, false, false, false, false, false, false, false, false, false, false, false, false, false, false, false, false, false, false, false, false, false, false] rfl rfl (one_of HT_.out (by kernel_rfl)) (by decide) (fun K hK => ?_)
             refine goes_ Try.func72 (by kernel_rfl) rfl #[.slice A0_0 l0_0.length c0_0, .int .i64 x39_3, .int .i64 x44_4] (by rfl) rfl rfl (by (try simp only [List.map_toArray, List.map_cons, List.map_nil]); first | done | rfl | (simp only [List.length_drop, List.length_take]; rfl)) ?_
             with_reducible refine (impl_meet.calls k4 _ _ l0_0 x39_3 x44_4 t305 _ ?side1 ?side2 A43.out).mono ?_
             (case side1 => exact kC (Kd.C_below HR0_0.out HB.out))
             (case side2 => exact HC0_0.out)
             rintro e w' ⟨rfl, ⟨nd, rfl⟩⟩
             refine ⟨_, rfl, ?_⟩
             refine hK.out _ _ ⟨(blk_cell BK288.out 0).trans rfl, (blk_cell BK288.out 1).trans rfl, (blk_cell BK289.out 0).trans rfl, (blk_cell BK289.out 1).trans rfl, ((HB.out.cell (World.block_lt_of_cell? w _ hw293_0)).trans hw293_0), ((HB.out.cell (World.block_lt_of_cell? w _ hw294_0)).trans hw294_0), ((HB.out.cell (World.block_lt_of_cell? w _ hw295_0)).trans hw295_0), ((HB.out.cell (World.block_lt_of_cell? w _ hw296_0)).trans hw296_0), ((HB.out.cell (World.block_lt_of_cell? w _ hw297_0)).trans hw297_0), ((HB.out.cell (World.block_lt_of_cell? w _ hw298_0)).trans hw298_0), ((HB.out.cell (World.block_lt_of_cell? w _ hw299_0)).trans hw299_0), ((HB.out.cell (World.block_lt_of_cell? w _ hw302_0)).trans hw302_0), ((HB.out.cell (World.block_lt_of_cell? w _ hw303_0)).trans hw303_0), ((HB.out.cell (World.block_lt_of_cell? w _ hw301_0)).trans hw301_0), ((HB.out.cell (World.block_lt_of_cell? w _ hw306_0)).trans hw306_0), ((HB.out.cell (World.block_lt_of_cell? w _ hw307_0)).trans hw307_0), ((HB.out.cell (World.block_lt_of_cell? w _ hw308_0)).trans hw308_0)⟩ (fun hHeld => ?_)
             clear hK K
             refine norm_ (a' := ?_) ?_ ?_
             rotate_left
             ·show Act.put _ (some 99) _ = _
              simp only [Act.put, List.setIfInBounds_toArray, List.set_cons_zero, List.set_cons_succ, i64_w, i32_w]
              rfl
             refine pu 53 100 0x1ffbfffffffffffff 90 ?_
             refine tk 54 101 0x1ffffffffffffffff 90 ?_
             refine one_ (i := 65) (N := some 112) #[true, true, true, true, true, true, true, true, true, true, true, true, true, true, true, true, true, true, true, true, true, true, true, true, true, true, true, true, true, true, true, true, true, true, true, true, true, true, true, true, true, true, true, true, true, true, true, true, true, true, true, true, true, true, true, true, true, true, true, true, true, true, true, true, true, true, false, false, false, false, false, false, false, false, false, false, false, false, false, false, false, false, false, false, false, false, false, false, false, false] rfl rfl (one_of HT_.out (by kernel_rfl)) (by decide) (fun K hK => ?_)
             refine goes_ Try.func72 (by kernel_rfl) rfl #[.slice A1_0 l1_0.length c1_0, .int .i64 (rd l2 x39_3), .int .i64 (rd l2 x44_4)] (by rfl) rfl rfl (by (try simp only [List.map_toArray, List.map_cons, List.map_nil]); first | done | rfl | (simp only [List.length_drop, List.length_take]; rfl)) ?_
             with_reducible refine (impl_meet.calls k4 _ _ l1_0 (rd l2 x39_3) (rd l2 x44_4) t309 _ ?side1 ?side2 A46.out).mono ?_
             (case side1 => exact kC (Kd.C_below HR1_0.out (bB HB.out)))
             (case side2 => exact HC1_0.out)
             rintro e w' ⟨rfl, ⟨nd, rfl⟩⟩
             refine ⟨_, rfl, ?_⟩
             refine hK.out _ _ ⟨(blk_cell BK288.out 0).trans rfl, (blk_cell BK288.out 1).trans rfl, (blk_cell BK289.out 0).trans rfl, (blk_cell BK289.out 1).trans rfl, ((HB.out.cell (World.block_lt_of_cell? w _ hw293_0)).trans hw293_0), ((HB.out.cell (World.block_lt_of_cell? w _ hw294_0)).trans hw294_0), ((HB.out.cell (World.block_lt_of_cell? w _ hw295_0)).trans hw295_0), ((HB.out.cell (World.block_lt_of_cell? w _ hw296_0)).trans hw296_0), ((HB.out.cell (World.block_lt_of_cell? w _ hw297_0)).trans hw297_0), ((HB.out.cell (World.block_lt_of_cell? w _ hw298_0)).trans hw298_0), ((HB.out.cell (World.block_lt_of_cell? w _ hw299_0)).trans hw299_0), ((HB.out.cell (World.block_lt_of_cell? w _ hw302_0)).trans hw302_0), ((HB.out.cell (World.block_lt_of_cell? w _ hw303_0)).trans hw303_0), ((HB.out.cell (World.block_lt_of_cell? w _ hw301_0)).trans hw301_0), ((HB.out.cell (World.block_lt_of_cell? w _ hw306_0)).trans hw306_0), ((HB.out.cell (World.block_lt_of_cell? w _ hw307_0)).trans hw307_0), ((HB.out.cell (World.block_lt_of_cell? w _ hw308_0)).trans hw308_0)⟩ (fun hHeld => ?_)
             clear hK K
             refine norm_ (a' := ?_) ?_ ?_
             rotate_left
             ·show Act.put _ (some 112) _ = _
              simp only [Act.put, List.setIfInBounds_toArray, List.set_cons_zero, List.set_cons_succ, i64_w, i32_w]
              rfl
             refine pu 66 113 0x7ffffffffffffffff 90 ?_
             refine pu 67 114 0xfffffffffffffffff 90 ?_
             refine pu 68 115 0x1fffffffffffffffff 90 ?_
             refine pd 69 116 0x3fffffffffffffffff 90 ?_
             refine pd 70 117 0x7fffffffffffffffff 90 ?_
             refine pd 71 118 0xffffffffffffffffff 90 ?_
             refine pd 72 119 0x1ffffffffffffffffff 90 ?_
             refine pd 73 120 0x3ffffffffffffffffff 90 ?_
             refine pd 74 121 0x7ffffffffffffffffff 90 ?_
             refine pd 75 122 0xfffffffffffffffffff 90 ?_
             refine pd 76 123 0x1fffffffffffffffffff 90 ?_
             refine pd 77 124 0x3fffffffffffffffffff 90 ?_
             refine pd 78 125 0x7fffffffffffffffffff 90 ?_
             refine pd 79 126 0xffffffffffffffffffff 90 ?_
             refine pd 80 127 0x1ffffffffffffffffffff 90 ?_
             refine pd 81 128 0x3ffffffffffffffffffff 90 ?_
             refine pd 82 129 0x7ffffffffffffffffffff 90 ?_
             refine pd 83 130 0xfffffffffffffffffffff 90 ?_
             refine pd 84 131 0x1fffffffffffffffffffff 90 ?_
             refine pd 85 132 0x3fffffffffffffffffffff 90 ?_
             refine pd 86 133 0x7fffffffffffffffffffff 90 ?_
             refine pd 87 134 0xffffffffffffffffffffff 90 ?_
             refine pd 88 135 0x1ffffffffffffffffffffff 90 ?_
             refine pu 89 136 0x3ffffffffffffffffffffff 90 ?_
             refine done_ (done_of HT_.out (by kernel_rfl)) ?_
             try go_wp2
             go_ret
             exact ⟨by first | rfl | (simp [errW_none, errW_some] <;> rfl) | (simp [*, errW_none, errW_some] <;> rfl), by repeat (first | (with_reducible first | exact HB.out | apply below_alloc | apply pw_below_drewN | apply below_drew1 | refine below_set ?_ GE288.out | refine below_set ?_ GE289.out) | exact HB.out)⟩
           rw [if_pos c47] at H
           have c47b0 : ((rd l2 t305) == t309) = true := beq_iff_eq.mpr c47
           have c47b1 : ((rd l2 t305) != t309) = false := bne_eq_false_iff_eq.mpr c47
           clear c47
           replace H := bi H
           obtain ⟨t310, A480, H⟩ := H
           try dsimp only at H
           have A48 := ak A480
           clear A480
           replace H := oi H
           obtain ⟨c49, H⟩ := H
           have c49b0 : decide (0 ≤ t310) = true := decide_eq_true c49
           clear c49
           replace H := oi H
           obtain ⟨c50, H⟩ := H
           have c50b0 : decide (t310 < (l2.length : Int)) = true := decide_eq_true c50
           clear c50
           replace H := bi H
           obtain ⟨t314, A510, H⟩ := H
           try dsimp only at H
           have A51 := ak A510
           clear A510
           by_cases c52 : (rd l2 t310) = t314
           rotate_left
           ·rw [if_neg c52] at H
            have c52b0 : ((rd l2 t310) == t314) = false := beq_eq_false_iff_ne.mpr c52
            have c52b1 : ((rd l2 t310) != t314) = true := bne_iff_ne.mpr c52
            obtain rfl := Option.some.inj H
            as_aux_lemma =>
             try go_wp2
             replace BK288 := ak (blk_drew BK288.out)
             replace BK289 := ak (blk_drew BK289.out)
             replace HB := ak (below_drew1 HB.out)
             have p293 : 0 ≤ (x39_3 : Int) := of_decide_eq_true (by first | (with_reducible assumption) | assumption)
             have q293 : x39_3 < (l0_1.length : Int) := of_decide_eq_true (by first | (with_reducible assumption) | assumption)
             obtain ⟨ad293, A293_0, c293_0, e293, hx293_0, hl293_0, hi293_0⟩ := at_L1 HR0_1.out x39_3 p293 q293
             have hw293_0 := hx293_0
             cases e293
             replace hx293_0 := (HB.out.cell (World.block_lt_of_cell? w _ hx293_0)).trans hx293_0
             have HR293_0 := ak hi293_0
             have HC293_0 := ak hl293_0
             clear hi293_0 hl293_0
             replace p293 := eq_true p293
             replace q293 := eq_true q293
             have p294 : 0 ≤ (x44_4 : Int) := of_decide_eq_true (by first | (with_reducible assumption) | assumption)
             have q294 : x44_4 < ((rd_L1 l0_1 x39_3).length : Int) := of_decide_eq_true (by first | (with_reducible assumption) | assumption)
             obtain ⟨ad294, e294, hx294_0⟩ := Kd.at_int HR293_0.out x44_4 p294 q294
             have hw294_0 := hx294_0
             cases e294
             replace hx294_0 := (HB.out.cell (World.block_lt_of_cell? w _ hx294_0)).trans hx294_0
             replace p294 := eq_true p294
             replace q294 := eq_true q294
             have p295 : 0 ≤ ((rd (rd_L1 l0_1 x39_3) x44_4) : Int) := of_decide_eq_true (by first | (with_reducible assumption) | assumption)
             have q295 : (rd (rd_L1 l0_1 x39_3) x44_4) < (l2.length : Int) := of_decide_eq_true (by first | (with_reducible assumption) | assumption)
             obtain ⟨ad295, e295, hx295_0⟩ := Kd.at_int HR2.out (rd (rd_L1 l0_1 x39_3) x44_4) p295 q295
             have hw295_0 := hx295_0
             cases e295
             replace hx295_0 := (HB.out.cell (World.block_lt_of_cell? w _ hx295_0)).trans hx295_0
             replace p295 := eq_true p295
             replace q295 := eq_true q295
             have p296 : 0 ≤ (x39_3 : Int) := of_decide_eq_true (by first | (with_reducible assumption) | assumption)
             have q296 : x39_3 < (l2.length : Int) := of_decide_eq_true (by first | (with_reducible assumption) | assumption)
             obtain ⟨ad296, e296, hx296_0⟩ := Kd.at_int HR2.out x39_3 p296 q296
             have hw296_0 := hx296_0
             obtain rfl : ad295 = ad296 := (by injection e296)
             replace hx296_0 := (HB.out.cell (World.block_lt_of_cell? w _ hx296_0)).trans hx296_0
             replace p296 := eq_true p296
             replace q296 := eq_true q296
             have p297 : 0 ≤ ((rd l2 x39_3) : Int) := of_decide_eq_true (by first | (with_reducible assumption) | assumption)
             have q297 : (rd l2 x39_3) < (l1_1.length : Int) := of_decide_eq_true (by first | (with_reducible assumption) | assumption)
             obtain ⟨ad297, A297_0, c297_0, e297, hx297_0, hl297_0, hi297_0⟩ := at_L1 HR1_1.out (rd l2 x39_3) p297 q297
             have hw297_0 := hx297_0
             cases e297
             replace hx297_0 := (HB.out.cell (World.block_lt_of_cell? w _ hx297_0)).trans hx297_0
             have HR297_0 := ak hi297_0
             have HC297_0 := ak hl297_0
             clear hi297_0 hl297_0
             replace p297 := eq_true p297
             replace q297 := eq_true q297
             have p298 : 0 ≤ (x44_4 : Int) := of_decide_eq_true (by first | (with_reducible assumption) | assumption)
             have q298 : x44_4 < (l2.length : Int) := of_decide_eq_true (by first | (with_reducible assumption) | assumption)
             obtain ⟨ad298, e298, hx298_0⟩ := Kd.at_int HR2.out x44_4 p298 q298
             have hw298_0 := hx298_0
             obtain rfl : ad295 = ad298 := (by injection e298)
             replace hx298_0 := (HB.out.cell (World.block_lt_of_cell? w _ hx298_0)).trans hx298_0
             replace p298 := eq_true p298
             replace q298 := eq_true q298
             have p299 : 0 ≤ ((rd l2 x44_4) : Int) := of_decide_eq_true (by first | (with_reducible assumption) | assumption)
             have q299 : (rd l2 x44_4) < ((rd_L1 l1_1 (rd l2 x39_3)).length : Int) := of_decide_eq_true (by first | (with_reducible assumption) | assumption)
             obtain ⟨ad299, e299, hx299_0⟩ := Kd.at_int HR297_0.out (rd l2 x44_4) p299 q299
             have hw299_0 := hx299_0
             cases e299
             replace hx299_0 := (HB.out.cell (World.block_lt_of_cell? w _ hx299_0)).trans hx299_0
             replace p299 := eq_true p299
             replace q299 := eq_true q299
             have p302 : 0 ≤ (x39_3 : Int) := of_decide_eq_true (by first | (with_reducible assumption) | assumption)
             have q302 : x39_3 < (l2.length : Int) := of_decide_eq_true (by first | (with_reducible assumption) | assumption)
             obtain ⟨ad302, e302, hx302_0⟩ := Kd.at_int HR2.out x39_3 p302 q302
             have hw302_0 := hx302_0
             obtain rfl : ad295 = ad302 := (by injection e302)
             replace hx302_0 := (HB.out.cell (World.block_lt_of_cell? w _ hx302_0)).trans hx302_0
             replace p302 := eq_true p302
             replace q302 := eq_true q302
             have p303 : 0 ≤ (x44_4 : Int) := of_decide_eq_true (by first | (with_reducible assumption) | assumption)
             have q303 : x44_4 < (l2.length : Int) := of_decide_eq_true (by first | (with_reducible assumption) | assumption)
             obtain ⟨ad303, e303, hx303_0⟩ := Kd.at_int HR2.out x44_4 p303 q303
             have hw303_0 := hx303_0
             obtain rfl : ad295 = ad303 := (by injection e303)
             replace hx303_0 := (HB.out.cell (World.block_lt_of_cell? w _ hx303_0)).trans hx303_0
             replace p303 := eq_true p303
             replace q303 := eq_true q303
             have p301 : 0 ≤ (t300 : Int) := of_decide_eq_true (by first | (with_reducible assumption) | assumption)
             have q301 : t300 < (l2.length : Int) := of_decide_eq_true (by first | (with_reducible assumption) | assumption)
             obtain ⟨ad301, e301, hx301_0⟩ := Kd.at_int HR2.out t300 p301 q301
             have hw301_0 := hx301_0
             obtain rfl : ad295 = ad301 := (by injection e301)
             replace hx301_0 := (HB.out.cell (World.block_lt_of_cell? w _ hx301_0)).trans hx301_0
             replace p301 := eq_true p301
             replace q301 := eq_true q301
             have p306 : 0 ≤ (t305 : Int) := of_decide_eq_true (by first | (with_reducible assumption) | assumption)
             have q306 : t305 < (l2.length : Int) := of_decide_eq_true (by first | (with_reducible assumption) | assumption)
             obtain ⟨ad306, e306, hx306_0⟩ := Kd.at_int HR2.out t305 p306 q306
             have hw306_0 := hx306_0
             obtain rfl : ad295 = ad306 := (by injection e306)
             replace hx306_0 := (HB.out.cell (World.block_lt_of_cell? w _ hx306_0)).trans hx306_0
             replace p306 := eq_true p306
             replace q306 := eq_true q306
             have p307 : 0 ≤ (x39_3 : Int) := of_decide_eq_true (by first | (with_reducible assumption) | assumption)
             have q307 : x39_3 < (l2.length : Int) := of_decide_eq_true (by first | (with_reducible assumption) | assumption)
             obtain ⟨ad307, e307, hx307_0⟩ := Kd.at_int HR2.out x39_3 p307 q307
             have hw307_0 := hx307_0
             obtain rfl : ad295 = ad307 := (by injection e307)
             replace hx307_0 := (HB.out.cell (World.block_lt_of_cell? w _ hx307_0)).trans hx307_0
             replace p307 := eq_true p307
             replace q307 := eq_true q307
             have p308 : 0 ≤ (x44_4 : Int) := of_decide_eq_true (by first | (with_reducible assumption) | assumption)
             have q308 : x44_4 < (l2.length : Int) := of_decide_eq_true (by first | (with_reducible assumption) | assumption)
             obtain ⟨ad308, e308, hx308_0⟩ := Kd.at_int HR2.out x44_4 p308 q308
             have hw308_0 := hx308_0
             obtain rfl : ad295 = ad308 := (by injection e308)
             replace hx308_0 := (HB.out.cell (World.block_lt_of_cell? w _ hx308_0)).trans hx308_0
             replace p308 := eq_true p308
             replace q308 := eq_true q308
             have p311 : 0 ≤ (t310 : Int) := of_decide_eq_true (by first | (with_reducible assumption) | assumption)
             have q311 : t310 < (l2.length : Int) := of_decide_eq_true (by first | (with_reducible assumption) | assumption)
             obtain ⟨ad311, e311, hx311_0⟩ := Kd.at_int HR2.out t310 p311 q311
             have hw311_0 := hx311_0
             obtain rfl : ad295 = ad311 := (by injection e311)
             replace hx311_0 := (HB.out.cell (World.block_lt_of_cell? w _ hx311_0)).trans hx311_0
             replace p311 := eq_true p311
             replace q311 := eq_true q311
             have p312 : 0 ≤ (x39_3 : Int) := of_decide_eq_true (by first | (with_reducible assumption) | assumption)
             have q312 : x39_3 < (l2.length : Int) := of_decide_eq_true (by first | (with_reducible assumption) | assumption)
             obtain ⟨ad312, e312, hx312_0⟩ := Kd.at_int HR2.out x39_3 p312 q312
             have hw312_0 := hx312_0
             obtain rfl : ad295 = ad312 := (by injection e312)
             replace hx312_0 := (HB.out.cell (World.block_lt_of_cell? w _ hx312_0)).trans hx312_0
             replace p312 := eq_true p312
             replace q312 := eq_true q312
             have p313 : 0 ≤ (x44_4 : Int) := of_decide_eq_true (by first | (with_reducible assumption) | assumption)
             have q313 : x44_4 < (l2.length : Int) := of_decide_eq_true (by first | (with_reducible assumption) | assumption)
             obtain ⟨ad313, e313, hx313_0⟩ := Kd.at_int HR2.out x44_4 p313 q313
             have hw313_0 := hx313_0
             obtain rfl : ad295 = ad313 := (by injection e313)
             replace hx313_0 := (HB.out.cell (World.block_lt_of_cell? w _ hx313_0)).trans hx313_0
             replace p313 := eq_true p313
             replace q313 := eq_true q313
             refine start_ (n := 90) (S := fun w' => w'.cell? ⟨gb288, 0, none⟩ = some (.slice A0_0 l0_0.length c0_0) ∧ w'.cell? ⟨gb288, 1, none⟩ = some (.slice (some ad293) l0_1.length c0_1) ∧ w'.cell? ⟨gb289, 0, none⟩ = some (.slice A1_0 l1_0.length c1_0) ∧ w'.cell? ⟨gb289, 1, none⟩ = some (.slice (some ad297) l1_1.length c1_1) ∧ w'.cell? (ad293.add (x39_3).toNat) = some (.slice (some ad294) (rd_L1 l0_1 x39_3).length c293_0) ∧ w'.cell? (ad294.add (x44_4).toNat) = some (.int .i64 (rd (rd_L1 l0_1 x39_3) x44_4)) ∧ w'.cell? (ad295.add ((rd (rd_L1 l0_1 x39_3) x44_4)).toNat) = some (.int .i64 (rd l2 (rd (rd_L1 l0_1 x39_3) x44_4))) ∧ w'.cell? (ad295.add (x39_3).toNat) = some (.int .i64 (rd l2 x39_3)) ∧ w'.cell? (ad297.add ((rd l2 x39_3)).toNat) = some (.slice (some ad299) (rd_L1 l1_1 (rd l2 x39_3)).length c297_0) ∧ w'.cell? (ad295.add (x44_4).toNat) = some (.int .i64 (rd l2 x44_4)) ∧ w'.cell? (ad299.add ((rd l2 x44_4)).toNat) = some (.int .i64 (rd (rd_L1 l1_1 (rd l2 x39_3)) (rd l2 x44_4))) ∧ w'.cell? (ad295.add (x39_3).toNat) = some (.int .i64 (rd l2 x39_3)) ∧ w'.cell? (ad295.add (x44_4).toNat) = some (.int .i64 (rd l2 x44_4)) ∧ w'.cell? (ad295.add (t300).toNat) = some (.int .i64 (rd l2 t300)) ∧ w'.cell? (ad295.add (t305).toNat) = some (.int .i64 (rd l2 t305)) ∧ w'.cell? (ad295.add (x39_3).toNat) = some (.int .i64 (rd l2 x39_3)) ∧ w'.cell? (ad295.add (x44_4).toNat) = some (.int .i64 (rd l2 x44_4)) ∧ w'.cell? (ad295.add (t310).toNat) = some (.int .i64 (rd l2 t310)) ∧ w'.cell? (ad295.add (x39_3).toNat) = some (.int .i64 (rd l2 x39_3)) ∧ w'.cell? (ad295.add (x44_4).toNat) = some (.int .i64 (rd l2 x44_4))) (ds := []) #[false, false, false, false, false, false, false, false, false, false, false, false, false, false, false, false, false, false, false, false, false, false, false, false, false, false, false, false, false, false, false, false, false, false, false, false, false, false, false, false, false, false, false, false, false, false, false, false, false, false, false, false, false, false, false, false, false, false, false, false, false, false, false, false, false, false, false, false, false, false, false, false, false, false, false, false, false, false, false, false, false, false, false, false, false, false, false, false, false, false] (by kernel_rfl) rfl rfl ⟨(blk_cell BK288.out 0).trans rfl, (blk_cell BK288.out 1).trans rfl, (blk_cell BK289.out 0).trans rfl, (blk_cell BK289.out 1).trans rfl, ((HB.out.cell (World.block_lt_of_cell? w _ hw293_0)).trans hw293_0), ((HB.out.cell (World.block_lt_of_cell? w _ hw294_0)).trans hw294_0), ((HB.out.cell (World.block_lt_of_cell? w _ hw295_0)).trans hw295_0), ((HB.out.cell (World.block_lt_of_cell? w _ hw296_0)).trans hw296_0), ((HB.out.cell (World.block_lt_of_cell? w _ hw297_0)).trans hw297_0), ((HB.out.cell (World.block_lt_of_cell? w _ hw298_0)).trans hw298_0), ((HB.out.cell (World.block_lt_of_cell? w _ hw299_0)).trans hw299_0), ((HB.out.cell (World.block_lt_of_cell? w _ hw302_0)).trans hw302_0), ((HB.out.cell (World.block_lt_of_cell? w _ hw303_0)).trans hw303_0), ((HB.out.cell (World.block_lt_of_cell? w _ hw301_0)).trans hw301_0), ((HB.out.cell (World.block_lt_of_cell? w _ hw306_0)).trans hw306_0), ((HB.out.cell (World.block_lt_of_cell? w _ hw307_0)).trans hw307_0), ((HB.out.cell (World.block_lt_of_cell? w _ hw308_0)).trans hw308_0), ((HB.out.cell (World.block_lt_of_cell? w _ hw311_0)).trans hw311_0), ((HB.out.cell (World.block_lt_of_cell? w _ hw312_0)).trans hw312_0), ((HB.out.cell (World.block_lt_of_cell? w _ hw313_0)).trans hw313_0)⟩ (fun hHeld => ?_); refine with_tabW impl_isMap.tab11 impl_isMap.bits11 (fun HT_ HW_ => ?_)
             generalize wr.drew = w56 at BK288 BK289 HB HR293_0 HR297_0 hx293_0 hx294_0 hx295_0 hx296_0 hx297_0 hx298_0 hx299_0 hx301_0 hx302_0 hx303_0 hx306_0 hx307_0 hx308_0 hx311_0 hx312_0 hx313_0 hHeld ⊢
             refine pu 0 47 1 90 ?_
             refine pu 1 48 3 90 ?_
             refine pu 3 50 11 90 ?_
             refine pu 6 53 75 90 ?_
             refine pu 11 58 2123 90 ?_
             refine pu 13 60 10315 90 ?_
             refine pu 14 61 26699 90 ?_
             refine pu 15 62 59467 90 ?_
             refine pu 19 66 583755 90 ?_
             refine pu 20 67 0x18e84b 90 ?_
             refine pu 21 68 0x38e84b 90 ?_
             refine tk 2 49 0x38e84f 90 ?_
             refine pu 4 51 0x38e85f 90 ?_
             refine tk 5 52 0x38e87f 90 ?_
             refine pu 7 54 0x38e8ff 90 ?_
             refine tk 8 55 0x38e9ff 90 ?_
             refine pu 9 56 0x38ebff 90 ?_
             refine tk 10 57 0x38efff 90 ?_
             refine tk 12 59 0x38ffff 90 ?_
             refine tk 16 63 0x39ffff 90 ?_
             refine pu 17 64 0x3bffff 90 ?_
             refine tk 18 65 0x3fffff 90 ?_
             refine tk 22 69 0x7fffff 90 ?_
             refine pu 23 70 0xffffff 90 ?_
             refine tk 24 71 0x1ffffff 90 ?_
             refine pu 25 72 0x3ffffff 90 ?_
             refine pu 26 73 0x7ffffff 90 ?_
             refine pu 27 74 0xfffffff 90 ?_
             refine pu 29 76 0x2fffffff 90 ?_
             refine pu 30 77 0x6fffffff 90 ?_
             refine pu 35 82 0x86fffffff 90 ?_
             refine pu 36 83 0x186fffffff 90 ?_
             refine pu 37 84 0x386fffffff 90 ?_
             refine pu 39 86 0xb86fffffff 90 ?_
             refine pu 40 87 0x1b86fffffff 90 ?_
             refine pu 41 88 0x3b86fffffff 90 ?_
             refine tk 28 75 0x3b87fffffff 90 ?_
             refine tk 34 81 0x3bc7fffffff 90 ?_
             refine tk 38 85 0x3fc7fffffff 90 ?_
             refine tk 42 89 0x7fc7fffffff 90 ?_
             refine one_ (i := 31) (N := some 78) #[true, true, true, true, true, true, true, true, true, true, true, true, true, true, true, true, true, true, true, true, true, true, true, true, true, true, true, true, true, true, true, true, false, false, true, true, true, true, true, true, true, true, true, false, false, false, false, false, false, false, false, false, false, false, false, false, false, false, false, false, false, false, false, false, false, false, false, false, false, false, false, false, false, false, false, false, false, false, false, false, false, false, false, false, false, false, false, false, false, false] rfl rfl (one_of HT_.out (by kernel_rfl)) (by decide) (fun K hK => ?_)
             refine goes_ Try.func71 (by kernel_rfl) rfl #[.agg #[.slice A0_0 l0_0.length c0_0, .slice (some ad293) l0_1.length c0_1], .int .i64 x39_3, .int .i64 x44_4] (by rfl) rfl rfl (by (try simp only [List.map_toArray, List.map_cons, List.map_nil]); first | done | rfl | (simp only [List.length_drop, List.length_take]; rfl)) ?_
             with_reducible refine (impl_imply.calls k4 _ _ l0_0 _ _ l0_1 x39_3 x44_4 t300 _ ?side1 ?side2 ?side3 ?side4 A38.out).mono ?_
             (case side1 => exact kC (Kd.C_below HR0_0.out HB.out))
             (case side2 => exact HC0_0.out)
             (case side3 => exact kC (Kd.C_below HR0_1.out HB.out))
             (case side4 => exact HC0_1.out)
             rintro e w57 ⟨rfl, hb⟩
             refine ⟨_, rfl, ?_⟩
             replace BK288 := ak (blk_below (kK BK288.out) hb)
             replace BK289 := ak (blk_below (kK BK289.out) hb)
             replace HB := ak (below_step (bB HB.out) hb)
             (try clear hb)
             (try clear hb2)
             (try clear hk)
             (try clear hi)
             refine hK.out _ _ ⟨(blk_cell BK288.out 0).trans rfl, (blk_cell BK288.out 1).trans rfl, (blk_cell BK289.out 0).trans rfl, (blk_cell BK289.out 1).trans rfl, ((HB.out.cell (World.block_lt_of_cell? w _ hw293_0)).trans hw293_0), ((HB.out.cell (World.block_lt_of_cell? w _ hw294_0)).trans hw294_0), ((HB.out.cell (World.block_lt_of_cell? w _ hw295_0)).trans hw295_0), ((HB.out.cell (World.block_lt_of_cell? w _ hw296_0)).trans hw296_0), ((HB.out.cell (World.block_lt_of_cell? w _ hw297_0)).trans hw297_0), ((HB.out.cell (World.block_lt_of_cell? w _ hw298_0)).trans hw298_0), ((HB.out.cell (World.block_lt_of_cell? w _ hw299_0)).trans hw299_0), ((HB.out.cell (World.block_lt_of_cell? w _ hw302_0)).trans hw302_0), ((HB.out.cell (World.block_lt_of_cell? w _ hw303_0)).trans hw303_0), ((HB.out.cell (World.block_lt_of_cell? w _ hw301_0)).trans hw301_0), ((HB.out.cell (World.block_lt_of_cell? w _ hw306_0)).trans hw306_0), ((HB.out.cell (World.block_lt_of_cell? w _ hw307_0)).trans hw307_0), ((HB.out.cell (World.block_lt_of_cell? w _ hw308_0)).trans hw308_0), ((HB.out.cell (World.block_lt_of_cell? w _ hw311_0)).trans hw311_0), ((HB.out.cell (World.block_lt_of_cell? w _ hw312_0)).trans hw312_0), ((HB.out.cell (World.block_lt_of_cell? w _ hw313_0)).trans hw313_0)⟩ (fun hHeld => ?_)
             clear hK K
             refine norm_ (a' := ?_) ?_ ?_
             rotate_left
             ·show Act.put _ (some 78) _ = _
              simp only [Act.put, List.setIfInBounds_toArray, List.set_cons_zero, List.set_cons_succ, i64_w, i32_w]
              rfl
             refine pu 32 79 0x7fdffffffff 90 ?_
             refine tk 33 80 0x7ffffffffff 90 ?_
             refine one_ (i := 43) (N := some 90) #[true, true, true, true, true, true, true, true, true, true, true, true, true, true, true, true, true, true, true, true, true, true, true, true, true, true, true, true, true, true, true, true, true, true, true, true, true, true, true, true, true, true, true, true, false, false, false, false, false, false, false, false, false, false, false, false, false, false, false, false, false, false, false, false, false, false, false, false, false, false, false, false, false, false, false, false, false, false, false, false, false, false, false, false, false, false, false, false, false, false] rfl rfl (one_of HT_.out (by kernel_rfl)) (by decide) (fun K hK => ?_)
             refine goes_ Try.func71 (by kernel_rfl) rfl #[.agg #[.slice A1_0 l1_0.length c1_0, .slice (some ad297) l1_1.length c1_1], .int .i64 (rd l2 x39_3), .int .i64 (rd l2 x44_4)] (by rfl) rfl rfl (by (try simp only [List.map_toArray, List.map_cons, List.map_nil]); first | done | rfl | (simp only [List.length_drop, List.length_take]; rfl)) ?_
             with_reducible refine (impl_imply.calls k4 _ _ l1_0 _ _ l1_1 (rd l2 x39_3) (rd l2 x44_4) t304 _ ?side1 ?side2 ?side3 ?side4 A41.out).mono ?_
             (case side1 => exact kC (Kd.C_below HR1_0.out HB.out))
             (case side2 => exact HC1_0.out)
             (case side3 => exact kC (Kd.C_below HR1_1.out HB.out))
             (case side4 => exact HC1_1.out)
             rintro e w58 ⟨rfl, hb⟩
             refine ⟨_, rfl, ?_⟩
             replace BK288 := ak (blk_below (kK BK288.out) hb)
             replace BK289 := ak (blk_below (kK BK289.out) hb)
             replace HB := ak (below_step (bB HB.out) hb)
             (try clear hb)
             (try clear hb2)
             (try clear hk)
             (try clear hi)
             refine hK.out _ _ ⟨(blk_cell BK288.out 0).trans rfl, (blk_cell BK288.out 1).trans rfl, (blk_cell BK289.out 0).trans rfl, (blk_cell BK289.out 1).trans rfl, ((HB.out.cell (World.block_lt_of_cell? w _ hw293_0)).trans hw293_0), ((HB.out.cell (World.block_lt_of_cell? w _ hw294_0)).trans hw294_0), ((HB.out.cell (World.block_lt_of_cell? w _ hw295_0)).trans hw295_0), ((HB.out.cell (World.block_lt_of_cell? w _ hw296_0)).trans hw296_0), ((HB.out.cell (World.block_lt_of_cell? w _ hw297_0)).trans hw297_0), ((HB.out.cell (World.block_lt_of_cell? w _ hw298_0)).trans hw298_0), ((HB.out.cell (World.block_lt_of_cell? w _ hw299_0)).trans hw299_0), ((HB.out.cell (World.block_lt_of_cell? w _ hw302_0)).trans hw302_0), ((HB.out.cell (World.block_lt_of_cell? w _ hw303_0)).trans hw303_0), ((HB.out.cell (World.block_lt_of_cell? w _ hw301_0)).trans hw301_0), ((HB.out.cell (World.block_lt_of_cell? w _ hw306_0)).trans hw306_0), ((HB.out.cell (World.block_lt_of_cell? w _ hw307_0)).trans hw307_0), ((HB.out.cell (World.block_lt_of_cell? w _ hw308_0)).trans hw308_0), ((HB.out.cell (World.block_lt_of_cell? w _ hw311_0)).trans hw311_0), ((HB.out.cell (World.block_lt_of_cell? w _ hw312_0)).trans hw312_0), ((HB.out.cell (World.block_lt_of_cell? w _ hw313_0)).trans hw313_0)⟩ (fun hHeld => ?_)
             clear hK K
             refine norm_ (a' := ?_) ?_ ?_
             rotate_left
             ·show Act.put _ (some 90) _ = _
              simp only [Act.put, List.setIfInBounds_toArray, List.set_cons_zero, List.set_cons_succ, i64_w, i32_w]
              rfl
             refine pu 44 91 0x1fffffffffff 90 ?_
             refine pu 45 92 0x3fffffffffff 90 ?_
             refine pu 46 93 0x7fffffffffff 90 ?_
             refine pu 47 94 0xffffffffffff 90 ?_
             refine pu 48 95 0x1ffffffffffff 90 ?_
             refine pu 50 97 0x5ffffffffffff 90 ?_
             refine pu 51 98 0xdffffffffffff 90 ?_
             refine pu 55 102 0x8dffffffffffff 90 ?_
             refine pu 57 104 0x28dffffffffffff 90 ?_
             refine pu 58 105 0x68dffffffffffff 90 ?_
             refine pu 59 106 0xe8dffffffffffff 90 ?_
             refine pu 61 108 0x2e8dffffffffffff 90 ?_
             refine pu 62 109 0x6e8dffffffffffff 90 ?_
             refine pu 63 110 0xee8dffffffffffff 90 ?_
             refine tk 49 96 0xee8fffffffffffff 90 ?_
             refine tk 56 103 0xef8fffffffffffff 90 ?_
             refine tk 60 107 0xff8fffffffffffff 90 ?_
             refine tk 64 111 0x1ff8fffffffffffff 90 ?_
             refine one_ (i := 52) (N := some 99) #[true, true, true, true, true, true, true, true, true, true, true, true, true, true, true, true, true, true, true, true, true, true, true, true, true, true, true, true, true, true, true, true, true, true, true, true, true, true, true, true, true, true, true, true, true, true, true, true, true, true, true, true, true, false, false, true, true, true, true, true, true, true, true, true, true, false, false, false, false, false, false, false, false, false, false, false, false, false, false, false, false, false, false, false, false, false, false, false, false, false] rfl rfl (one_of HT_.out (by kernel_rfl)) (by decide) (fun K hK => ?_)
             refine goes_ Try.func72 (by kernel_rfl) rfl #[.slice A0_0 l0_0.length c0_0, .int .i64 x39_3, .int .i64 x44_4] (by rfl) rfl rfl (by (try simp only [List.map_toArray, List.map_cons, List.map_nil]); first | done | rfl | (simp only [List.length_drop, List.length_take]; rfl)) ?_
             with_reducible refine (impl_meet.calls k4 _ _ l0_0 x39_3 x44_4 t305 _ ?side1 ?side2 A43.out).mono ?_
             (case side1 => exact kC (Kd.C_below HR0_0.out HB.out))
             (case side2 => exact HC0_0.out)
             rintro e w' ⟨rfl, ⟨nd, rfl⟩⟩
             refine ⟨_, rfl, ?_⟩
             refine hK.out _ _ ⟨(blk_cell BK288.out 0).trans rfl, (blk_cell BK288.out 1).trans rfl, (blk_cell BK289.out 0).trans rfl, (blk_cell BK289.out 1).trans rfl, ((HB.out.cell (World.block_lt_of_cell? w _ hw293_0)).trans hw293_0), ((HB.out.cell (World.block_lt_of_cell? w _ hw294_0)).trans hw294_0), ((HB.out.cell (World.block_lt_of_cell? w _ hw295_0)).trans hw295_0), ((HB.out.cell (World.block_lt_of_cell? w _ hw296_0)).trans hw296_0), ((HB.out.cell (World.block_lt_of_cell? w _ hw297_0)).trans hw297_0), ((HB.out.cell (World.block_lt_of_cell? w _ hw298_0)).trans hw298_0), ((HB.out.cell (World.block_lt_of_cell? w _ hw299_0)).trans hw299_0), ((HB.out.cell (World.block_lt_of_cell? w _ hw302_0)).trans hw302_0), ((HB.out.cell (World.block_lt_of_cell? w _ hw303_0)).trans hw303_0), ((HB.out.cell (World.block_lt_of_cell? w _ hw301_0)).trans hw301_0), ((HB.out.cell (World.block_lt_of_cell? w _ hw306_0)).trans hw306_0), ((HB.out.cell (World.block_lt_of_cell? w _ hw307_0)).trans hw307_0), ((HB.out.cell (World.block_lt_of_cell? w _ hw308_0)).trans hw308_0), ((HB.out.cell (World.block_lt_of_cell? w _ hw311_0)).trans hw311_0), ((HB.out.cell (World.block_lt_of_cell? w _ hw312_0)).trans hw312_0), ((HB.out.cell (World.block_lt_of_cell? w _ hw313_0)).trans hw313_0)⟩ (fun hHeld => ?_)
             clear hK K
             refine norm_ (a' := ?_) ?_ ?_
             rotate_left
             ·show Act.put _ (some 99) _ = _
              simp only [Act.put, List.setIfInBounds_toArray, List.set_cons_zero, List.set_cons_succ, i64_w, i32_w]
              rfl
             refine pu 53 100 0x1ffbfffffffffffff 90 ?_
             refine tk 54 101 0x1ffffffffffffffff 90 ?_
             refine one_ (i := 65) (N := some 112) #[true, true, true, true, true, true, true, true, true, true, true, true, true, true, true, true, true, true, true, true, true, true, true, true, true, true, true, true, true, true, true, true, true, true, true, true, true, true, true, true, true, true, true, true, true, true, true, true, true, true, true, true, true, true, true, true, true, true, true, true, true, true, true, true, true, true, false, false, false, false, false, false, false, false, false, false, false, false, false, false, false, false, false, false, false, false, false, false, false, false] rfl rfl (one_of HT_.out (by kernel_rfl)) (by decide) (fun K hK => ?_)
             refine goes_ Try.func72 (by kernel_rfl) rfl #[.slice A1_0 l1_0.length c1_0, .int .i64 (rd l2 x39_3), .int .i64 (rd l2 x44_4)] (by rfl) rfl rfl (by (try simp only [List.map_toArray, List.map_cons, List.map_nil]); first | done | rfl | (simp only [List.length_drop, List.length_take]; rfl)) ?_
             with_reducible refine (impl_meet.calls k4 _ _ l1_0 (rd l2 x39_3) (rd l2 x44_4) t309 _ ?side1 ?side2 A46.out).mono ?_
             (case side1 => exact kC (Kd.C_below HR1_0.out (bB HB.out)))
             (case side2 => exact HC1_0.out)
             rintro e w' ⟨rfl, ⟨nd, rfl⟩⟩
             refine ⟨_, rfl, ?_⟩
             refine hK.out _ _ ⟨(blk_cell BK288.out 0).trans rfl, (blk_cell BK288.out 1).trans rfl, (blk_cell BK289.out 0).trans rfl, (blk_cell BK289.out 1).trans rfl, ((HB.out.cell (World.block_lt_of_cell? w _ hw293_0)).trans hw293_0), ((HB.out.cell (World.block_lt_of_cell? w _ hw294_0)).trans hw294_0), ((HB.out.cell (World.block_lt_of_cell? w _ hw295_0)).trans hw295_0), ((HB.out.cell (World.block_lt_of_cell? w _ hw296_0)).trans hw296_0), ((HB.out.cell (World.block_lt_of_cell? w _ hw297_0)).trans hw297_0), ((HB.out.cell (World.block_lt_of_cell? w _ hw298_0)).trans hw298_0), ((HB.out.cell (World.block_lt_of_cell? w _ hw299_0)).trans hw299_0), ((HB.out.cell (World.block_lt_of_cell? w _ hw302_0)).trans hw302_0), ((HB.out.cell (World.block_lt_of_cell? w _ hw303_0)).trans hw303_0), ((HB.out.cell (World.block_lt_of_cell? w _ hw301_0)).trans hw301_0), ((HB.out.cell (World.block_lt_of_cell? w _ hw306_0)).trans hw306_0), ((HB.out.cell (World.block_lt_of_cell? w _ hw307_0)).trans hw307_0), ((HB.out.cell (World.block_lt_of_cell? w _ hw308_0)).trans hw308_0), ((HB.out.cell (World.block_lt_of_cell? w _ hw311_0)).trans hw311_0), ((HB.out.cell (World.block_lt_of_cell? w _ hw312_0)).trans hw312_0), ((HB.out.cell (World.block_lt_of_cell? w _ hw313_0)).trans hw313_0)⟩ (fun hHeld => ?_)
             clear hK K
             refine norm_ (a' := ?_) ?_ ?_
             rotate_left
             ·show Act.put _ (some 112) _ = _
              simp only [Act.put, List.setIfInBounds_toArray, List.set_cons_zero, List.set_cons_succ, i64_w, i32_w]
              rfl
             refine pu 66 113 0x7ffffffffffffffff 90 ?_
             refine pu 67 114 0xfffffffffffffffff 90 ?_
             refine pu 68 115 0x1fffffffffffffffff 90 ?_
             refine pu 69 116 0x3fffffffffffffffff 90 ?_
             refine pu 70 117 0x7fffffffffffffffff 90 ?_
             refine pu 72 119 0x17fffffffffffffffff 90 ?_
             refine pu 73 120 0x37fffffffffffffffff 90 ?_
             refine pu 77 124 0x237fffffffffffffffff 90 ?_
             refine pu 79 126 0xa37fffffffffffffffff 90 ?_
             refine pu 80 127 0x1a37fffffffffffffffff 90 ?_
             refine pu 81 128 0x3a37fffffffffffffffff 90 ?_
             refine pu 83 130 0xba37fffffffffffffffff 90 ?_
             refine pu 84 131 0x1ba37fffffffffffffffff 90 ?_
             refine pu 85 132 0x3ba37fffffffffffffffff 90 ?_
             refine tk 71 118 0x3ba3ffffffffffffffffff 90 ?_
             refine tk 78 125 0x3be3ffffffffffffffffff 90 ?_
             refine tk 82 129 0x3fe3ffffffffffffffffff 90 ?_
             refine tk 86 133 0x7fe3ffffffffffffffffff 90 ?_
             refine one_ (i := 74) (N := some 121) #[true, true, true, true, true, true, true, true, true, true, true, true, true, true, true, true, true, true, true, true, true, true, true, true, true, true, true, true, true, true, true, true, true, true, true, true, true, true, true, true, true, true, true, true, true, true, true, true, true, true, true, true, true, true, true, true, true, true, true, true, true, true, true, true, true, true, true, true, true, true, true, true, true, true, true, false, false, true, true, true, true, true, true, true, true, true, true, false, false, false] rfl rfl (one_of HT_.out (by kernel_rfl)) (by decide) (fun K hK => ?_)
             refine goes_ Try.func65 (by kernel_rfl) rfl #[.slice A0_0 l0_0.length c0_0, .int .i64 x39_3, .int .i64 x44_4] (by rfl) rfl rfl (by (try simp only [List.map_toArray, List.map_cons, List.map_nil]); first | done | rfl | (simp only [List.length_drop, List.length_take]; rfl)) ?_
             with_reducible refine (impl_join.calls k4 _ _ l0_0 x39_3 x44_4 t310 _ ?side1 ?side2 A48.out).mono ?_
             (case side1 => exact kC (Kd.C_below HR0_0.out (bB HB.out)))
             (case side2 => exact HC0_0.out)
             rintro e w' ⟨rfl, ⟨nd, rfl⟩⟩
             refine ⟨_, rfl, ?_⟩
             refine hK.out _ _ ⟨(blk_cell BK288.out 0).trans rfl, (blk_cell BK288.out 1).trans rfl, (blk_cell BK289.out 0).trans rfl, (blk_cell BK289.out 1).trans rfl, ((HB.out.cell (World.block_lt_of_cell? w _ hw293_0)).trans hw293_0), ((HB.out.cell (World.block_lt_of_cell? w _ hw294_0)).trans hw294_0), ((HB.out.cell (World.block_lt_of_cell? w _ hw295_0)).trans hw295_0), ((HB.out.cell (World.block_lt_of_cell? w _ hw296_0)).trans hw296_0), ((HB.out.cell (World.block_lt_of_cell? w _ hw297_0)).trans hw297_0), ((HB.out.cell (World.block_lt_of_cell? w _ hw298_0)).trans hw298_0), ((HB.out.cell (World.block_lt_of_cell? w _ hw299_0)).trans hw299_0), ((HB.out.cell (World.block_lt_of_cell? w _ hw302_0)).trans hw302_0), ((HB.out.cell (World.block_lt_of_cell? w _ hw303_0)).trans hw303_0), ((HB.out.cell (World.block_lt_of_cell? w _ hw301_0)).trans hw301_0), ((HB.out.cell (World.block_lt_of_cell? w _ hw306_0)).trans hw306_0), ((HB.out.cell (World.block_lt_of_cell? w _ hw307_0)).trans hw307_0), ((HB.out.cell (World.block_lt_of_cell? w _ hw308_0)).trans hw308_0), ((HB.out.cell (World.block_lt_of_cell? w _ hw311_0)).trans hw311_0), ((HB.out.cell (World.block_lt_of_cell? w _ hw312_0)).trans hw312_0), ((HB.out.cell (World.block_lt_of_cell? w _ hw313_0)).trans hw313_0)⟩ (fun hHeld => ?_)
             clear hK K
             refine norm_ (a' := ?_) ?_ ?_
             rotate_left
             ·show Act.put _ (some 121) _ = _
              simp only [Act.put, List.setIfInBounds_toArray, List.set_cons_zero, List.set_cons_succ, i64_w, i32_w]
              rfl
             refine pu 75 122 0x7fefffffffffffffffffff 90 ?_
             refine tk 76 123 0x7fffffffffffffffffffff 90 ?_
             refine one_ (i := 87) (N := some 134) #[true, true, true, true, true, true, true, true, true, true, true, true, true, true, true, true, true, true, true, true, true, true, true, true, true, true, true, true, true, true, true, true, true, true, true, true, true, true, true, true, true, true, true, true, true, true, true, true, true, true, true, true, true, true, true, true, true, true, true, true, true, true, true, true, true, true, true, true, true, true, true, true, true, true, true, true, true, true, true, true, true, true, true, true, true, true, true, true, false, false] rfl rfl (one_of HT_.out (by kernel_rfl)) (by decide) (fun K hK => ?_)
             refine goes_ Try.func65 (by kernel_rfl) rfl #[.slice A1_0 l1_0.length c1_0, .int .i64 (rd l2 x39_3), .int .i64 (rd l2 x44_4)] (by rfl) rfl rfl (by (try simp only [List.map_toArray, List.map_cons, List.map_nil]); first | done | rfl | (simp only [List.length_drop, List.length_take]; rfl)) ?_
             with_reducible refine (impl_join.calls k4 _ _ l1_0 (rd l2 x39_3) (rd l2 x44_4) t314 _ ?side1 ?side2 A51.out).mono ?_
             (case side1 => exact kC (Kd.C_below HR1_0.out (bB HB.out)))
             (case side2 => exact HC1_0.out)
             rintro e w' ⟨rfl, ⟨nd, rfl⟩⟩
             refine ⟨_, rfl, ?_⟩
             refine hK.out _ _ ⟨(blk_cell BK288.out 0).trans rfl, (blk_cell BK288.out 1).trans rfl, (blk_cell BK289.out 0).trans rfl, (blk_cell BK289.out 1).trans rfl, ((HB.out.cell (World.block_lt_of_cell? w _ hw293_0)).trans hw293_0), ((HB.out.cell (World.block_lt_of_cell? w _ hw294_0)).trans hw294_0), ((HB.out.cell (World.block_lt_of_cell? w _ hw295_0)).trans hw295_0), ((HB.out.cell (World.block_lt_of_cell? w _ hw296_0)).trans hw296_0), ((HB.out.cell (World.block_lt_of_cell? w _ hw297_0)).trans hw297_0), ((HB.out.cell (World.block_lt_of_cell? w _ hw298_0)).trans hw298_0), ((HB.out.cell (World.block_lt_of_cell? w _ hw299_0)).trans hw299_0), ((HB.out.cell (World.block_lt_of_cell? w _ hw302_0)).trans hw302_0), ((HB.out.cell (World.block_lt_of_cell? w _ hw303_0)).trans hw303_0), ((HB.out.cell (World.block_lt_of_cell? w _ hw301_0)).trans hw301_0), ((HB.out.cell (World.block_lt_of_cell? w _ hw306_0)).trans hw306_0), ((HB.out.cell (World.block_lt_of_cell? w _ hw307_0)).trans hw307_0), ((HB.out.cell (World.block_lt_of_cell? w _ hw308_0)).trans hw308_0), ((HB.out.cell (World.block_lt_of_cell? w _ hw311_0)).trans hw311_0), ((HB.out.cell (World.block_lt_of_cell? w _ hw312_0)).trans hw312_0), ((HB.out.cell (World.block_lt_of_cell? w _ hw313_0)).trans hw313_0)⟩ (fun hHeld => ?_)
             clear hK K
             refine norm_ (a' := ?_) ?_ ?_
             rotate_left
             ·show Act.put _ (some 134) _ = _
              simp only [Act.put, List.setIfInBounds_toArray, List.set_cons_zero, List.set_cons_succ, i64_w, i32_w]
              rfl
             refine pu 88 135 0x1ffffffffffffffffffffff 90 ?_
             refine pu 89 136 0x3ffffffffffffffffffffff 90 ?_
             refine done_ (done_of HT_.out (by kernel_rfl)) ?_
             try go_wp2
             go_ret
             exact ⟨by first | rfl | (simp [errW_none, errW_some] <;> rfl) | (simp [*, errW_none, errW_some] <;> rfl), by repeat (first | (with_reducible first | exact HB.out | apply below_alloc | apply pw_below_drewN | apply below_drew1 | refine below_set ?_ GE288.out | refine below_set ?_ GE289.out) | exact HB.out)⟩
           rw [if_pos c52] at H
           have c52b0 : ((rd l2 t310) == t314) = true := beq_iff_eq.mpr c52
           have c52b1 : ((rd l2 t310) != t314) = false := bne_eq_false_iff_eq.mpr c52
           clear c52
           have H' := ak H
           clear H
           as_aux_lemma =>
            try go_wp2
            replace BK288 := ak (blk_drew BK288.out)
            replace BK289 := ak (blk_drew BK289.out)
            replace HB := ak (below_drew1 HB.out)
            have p293 : 0 ≤ (x39_3 : Int) := of_decide_eq_true (by first | (with_reducible assumption) | assumption)
            have q293 : x39_3 < (l0_1.length : Int) := of_decide_eq_true (by first | (with_reducible assumption) | assumption)
            obtain ⟨ad293, A293_0, c293_0, e293, hx293_0, hl293_0, hi293_0⟩ := at_L1 HR0_1.out x39_3 p293 q293
            have hw293_0 := hx293_0
            cases e293
            replace hx293_0 := (HB.out.cell (World.block_lt_of_cell? w _ hx293_0)).trans hx293_0
            have HR293_0 := ak hi293_0
            have HC293_0 := ak hl293_0
            clear hi293_0 hl293_0
            replace p293 := eq_true p293
            replace q293 := eq_true q293
            have p294 : 0 ≤ (x44_4 : Int) := of_decide_eq_true (by first | (with_reducible assumption) | assumption)
            have q294 : x44_4 < ((rd_L1 l0_1 x39_3).length : Int) := of_decide_eq_true (by first | (with_reducible assumption) | assumption)
            obtain ⟨ad294, e294, hx294_0⟩ := Kd.at_int HR293_0.out x44_4 p294 q294
            have hw294_0 := hx294_0
            cases e294
            replace hx294_0 := (HB.out.cell (World.block_lt_of_cell? w _ hx294_0)).trans hx294_0
            replace p294 := eq_true p294
            replace q294 := eq_true q294
            have p295 : 0 ≤ ((rd (rd_L1 l0_1 x39_3) x44_4) : Int) := of_decide_eq_true (by first | (with_reducible assumption) | assumption)
            have q295 : (rd (rd_L1 l0_1 x39_3) x44_4) < (l2.length : Int) := of_decide_eq_true (by first | (with_reducible assumption) | assumption)
            obtain ⟨ad295, e295, hx295_0⟩ := Kd.at_int HR2.out (rd (rd_L1 l0_1 x39_3) x44_4) p295 q295
            have hw295_0 := hx295_0
            cases e295
            replace hx295_0 := (HB.out.cell (World.block_lt_of_cell? w _ hx295_0)).trans hx295_0
            replace p295 := eq_true p295
            replace q295 := eq_true q295
            have p296 : 0 ≤ (x39_3 : Int) := of_decide_eq_true (by first | (with_reducible assumption) | assumption)
            have q296 : x39_3 < (l2.length : Int) := of_decide_eq_true (by first | (with_reducible assumption) | assumption)
            obtain ⟨ad296, e296, hx296_0⟩ := Kd.at_int HR2.out x39_3 p296 q296
            have hw296_0 := hx296_0
            obtain rfl : ad295 = ad296 := (by injection e296)
            replace hx296_0 := (HB.out.cell (World.block_lt_of_cell? w _ hx296_0)).trans hx296_0
            replace p296 := eq_true p296
            replace q296 := eq_true q296
            have p297 : 0 ≤ ((rd l2 x39_3) : Int) := of_decide_eq_true (by first | (with_reducible assumption) | assumption)
            have q297 : (rd l2 x39_3) < (l1_1.length : Int) := of_decide_eq_true (by first | (with_reducible assumption) | assumption)
            obtain ⟨ad297, A297_0, c297_0, e297, hx297_0, hl297_0, hi297_0⟩ := at_L1 HR1_1.out (rd l2 x39_3) p297 q297
            have hw297_0 := hx297_0
            cases e297
            replace hx297_0 := (HB.out.cell (World.block_lt_of_cell? w _ hx297_0)).trans hx297_0
            have HR297_0 := ak hi297_0
            have HC297_0 := ak hl297_0
            clear hi297_0 hl297_0
            replace p297 := eq_true p297
            replace q297 := eq_true q297
            have p298 : 0 ≤ (x44_4 : Int) := of_decide_eq_true (by first | (with_reducible assumption) | assumption)
            have q298 : x44_4 < (l2.length : Int) := of_decide_eq_true (by first | (with_reducible assumption) | assumption)
            obtain ⟨ad298, e298, hx298_0⟩ := Kd.at_int HR2.out x44_4 p298 q298
            have hw298_0 := hx298_0
            obtain rfl : ad295 = ad298 := (by injection e298)
            replace hx298_0 := (HB.out.cell (World.block_lt_of_cell? w _ hx298_0)).trans hx298_0
            replace p298 := eq_true p298
            replace q298 := eq_true q298
            have p299 : 0 ≤ ((rd l2 x44_4) : Int) := of_decide_eq_true (by first | (with_reducible assumption) | assumption)
            have q299 : (rd l2 x44_4) < ((rd_L1 l1_1 (rd l2 x39_3)).length : Int) := of_decide_eq_true (by first | (with_reducible assumption) | assumption)
            obtain ⟨ad299, e299, hx299_0⟩ := Kd.at_int HR297_0.out (rd l2 x44_4) p299 q299
            have hw299_0 := hx299_0
            cases e299
            replace hx299_0 := (HB.out.cell (World.block_lt_of_cell? w _ hx299_0)).trans hx299_0
            replace p299 := eq_true p299
            replace q299 := eq_true q299
            have p302 : 0 ≤ (x39_3 : Int) := of_decide_eq_true (by first | (with_reducible assumption) | assumption)
            have q302 : x39_3 < (l2.length : Int) := of_decide_eq_true (by first | (with_reducible assumption) | assumption)
            obtain ⟨ad302, e302, hx302_0⟩ := Kd.at_int HR2.out x39_3 p302 q302
            have hw302_0 := hx302_0
            obtain rfl : ad295 = ad302 := (by injection e302)
            replace hx302_0 := (HB.out.cell (World.block_lt_of_cell? w _ hx302_0)).trans hx302_0
            replace p302 := eq_true p302
            replace q302 := eq_true q302
            have p303 : 0 ≤ (x44_4 : Int) := of_decide_eq_true (by first | (with_reducible assumption) | assumption)
            have q303 : x44_4 < (l2.length : Int) := of_decide_eq_true (by first | (with_reducible assumption) | assumption)
            obtain ⟨ad303, e303, hx303_0⟩ := Kd.at_int HR2.out x44_4 p303 q303
            have hw303_0 := hx303_0
            obtain rfl : ad295 = ad303 := (by injection e303)
            replace hx303_0 := (HB.out.cell (World.block_lt_of_cell? w _ hx303_0)).trans hx303_0
            replace p303 := eq_true p303
            replace q303 := eq_true q303
            have p301 : 0 ≤ (t300 : Int) := of_decide_eq_true (by first | (with_reducible assumption) | assumption)
            have q301 : t300 < (l2.length : Int) := of_decide_eq_true (by first | (with_reducible assumption) | assumption)
            obtain ⟨ad301, e301, hx301_0⟩ := Kd.at_int HR2.out t300 p301 q301
            have hw301_0 := hx301_0
            obtain rfl : ad295 = ad301 := (by injection e301)
            replace hx301_0 := (HB.out.cell (World.block_lt_of_cell? w _ hx301_0)).trans hx301_0
            replace p301 := eq_true p301
            replace q301 := eq_true q301
            have p306 : 0 ≤ (t305 : Int) := of_decide_eq_true (by first | (with_reducible assumption) | assumption)
            have q306 : t305 < (l2.length : Int) := of_decide_eq_true (by first | (with_reducible assumption) | assumption)
            obtain ⟨ad306, e306, hx306_0⟩ := Kd.at_int HR2.out t305 p306 q306
            have hw306_0 := hx306_0
            obtain rfl : ad295 = ad306 := (by injection e306)
            replace hx306_0 := (HB.out.cell (World.block_lt_of_cell? w _ hx306_0)).trans hx306_0
            replace p306 := eq_true p306
            replace q306 := eq_true q306
            have p307 : 0 ≤ (x39_3 : Int) := of_decide_eq_true (by first | (with_reducible assumption) | assumption)
            have q307 : x39_3 < (l2.length : Int) := of_decide_eq_true (by first | (with_reducible assumption) | assumption)
            obtain ⟨ad307, e307, hx307_0⟩ := Kd.at_int HR2.out x39_3 p307 q307
            have hw307_0 := hx307_0
            obtain rfl : ad295 = ad307 := (by injection e307)
            replace hx307_0 := (HB.out.cell (World.block_lt_of_cell? w _ hx307_0)).trans hx307_0
            replace p307 := eq_true p307
            replace q307 := eq_true q307
            have p308 : 0 ≤ (x44_4 : Int) := of_decide_eq_true (by first | (with_reducible assumption) | assumption)
            have q308 : x44_4 < (l2.length : Int) := of_decide_eq_true (by first | (with_reducible assumption) | assumption)
            obtain ⟨ad308, e308, hx308_0⟩ := Kd.at_int HR2.out x44_4 p308 q308
            have hw308_0 := hx308_0
            obtain rfl : ad295 = ad308 := (by injection e308)
            replace hx308_0 := (HB.out.cell (World.block_lt_of_cell? w _ hx308_0)).trans hx308_0
            replace p308 := eq_true p308
            replace q308 := eq_true q308
            have p311 : 0 ≤ (t310 : Int) := of_decide_eq_true (by first | (with_reducible assumption) | assumption)
            have q311 : t310 < (l2.length : Int) := of_decide_eq_true (by first | (with_reducible assumption) | assumption)
            obtain ⟨ad311, e311, hx311_0⟩ := Kd.at_int HR2.out t310 p311 q311
            have hw311_0 := hx311_0
            obtain rfl : ad295 = ad311 := (by injection e311)
            replace hx311_0 := (HB.out.cell (World.block_lt_of_cell? w _ hx311_0)).trans hx311_0
            replace p311 := eq_true p311
            replace q311 := eq_true q311
            have p312 : 0 ≤ (x39_3 : Int) := of_decide_eq_true (by first | (with_reducible assumption) | assumption)
            have q312 : x39_3 < (l2.length : Int) := of_decide_eq_true (by first | (with_reducible assumption) | assumption)
            obtain ⟨ad312, e312, hx312_0⟩ := Kd.at_int HR2.out x39_3 p312 q312
            have hw312_0 := hx312_0
            obtain rfl : ad295 = ad312 := (by injection e312)
            replace hx312_0 := (HB.out.cell (World.block_lt_of_cell? w _ hx312_0)).trans hx312_0
            replace p312 := eq_true p312
            replace q312 := eq_true q312
            have p313 : 0 ≤ (x44_4 : Int) := of_decide_eq_true (by first | (with_reducible assumption) | assumption)
            have q313 : x44_4 < (l2.length : Int) := of_decide_eq_true (by first | (with_reducible assumption) | assumption)
            obtain ⟨ad313, e313, hx313_0⟩ := Kd.at_int HR2.out x44_4 p313 q313
            have hw313_0 := hx313_0
            obtain rfl : ad295 = ad313 := (by injection e313)
            replace hx313_0 := (HB.out.cell (World.block_lt_of_cell? w _ hx313_0)).trans hx313_0
            replace p313 := eq_true p313
            replace q313 := eq_true q313
            refine start_ (n := 90) (S := fun w' => w'.cell? ⟨gb288, 0, none⟩ = some (.slice A0_0 l0_0.length c0_0) ∧ w'.cell? ⟨gb288, 1, none⟩ = some (.slice (some ad293) l0_1.length c0_1) ∧ w'.cell? ⟨gb289, 0, none⟩ = some (.slice A1_0 l1_0.length c1_0) ∧ w'.cell? ⟨gb289, 1, none⟩ = some (.slice (some ad297) l1_1.length c1_1) ∧ w'.cell? (ad293.add (x39_3).toNat) = some (.slice (some ad294) (rd_L1 l0_1 x39_3).length c293_0) ∧ w'.cell? (ad294.add (x44_4).toNat) = some (.int .i64 (rd (rd_L1 l0_1 x39_3) x44_4)) ∧ w'.cell? (ad295.add ((rd (rd_L1 l0_1 x39_3) x44_4)).toNat) = some (.int .i64 (rd l2 (rd (rd_L1 l0_1 x39_3) x44_4))) ∧ w'.cell? (ad295.add (x39_3).toNat) = some (.int .i64 (rd l2 x39_3)) ∧ w'.cell? (ad297.add ((rd l2 x39_3)).toNat) = some (.slice (some ad299) (rd_L1 l1_1 (rd l2 x39_3)).length c297_0) ∧ w'.cell? (ad295.add (x44_4).toNat) = some (.int .i64 (rd l2 x44_4)) ∧ w'.cell? (ad299.add ((rd l2 x44_4)).toNat) = some (.int .i64 (rd (rd_L1 l1_1 (rd l2 x39_3)) (rd l2 x44_4))) ∧ w'.cell? (ad295.add (x39_3).toNat) = some (.int .i64 (rd l2 x39_3)) ∧ w'.cell? (ad295.add (x44_4).toNat) = some (.int .i64 (rd l2 x44_4)) ∧ w'.cell? (ad295.add (t300).toNat) = some (.int .i64 (rd l2 t300)) ∧ w'.cell? (ad295.add (t305).toNat) = some (.int .i64 (rd l2 t305)) ∧ w'.cell? (ad295.add (x39_3).toNat) = some (.int .i64 (rd l2 x39_3)) ∧ w'.cell? (ad295.add (x44_4).toNat) = some (.int .i64 (rd l2 x44_4)) ∧ w'.cell? (ad295.add (t310).toNat) = some (.int .i64 (rd l2 t310)) ∧ w'.cell? (ad295.add (x39_3).toNat) = some (.int .i64 (rd l2 x39_3)) ∧ w'.cell? (ad295.add (x44_4).toNat) = some (.int .i64 (rd l2 x44_4))) (ds := []) #[false, false, false, false, false, false, false, false, false, false, false, false, false, false, false, false, false, false, false, false, false, false, false, false, false, false, false, false, false, false, false, false, false, false, false, false, false, false, false, false, false, false, false, false, false, false, false, false, false, false, false, false, false, false, false, false, false, false, false, false, false, false, false, false, false, false, false, false, false, false, false, false, false, false, false, false, false, false, false, false, false, false, false, false, false, false, false, false, false, false] (by kernel_rfl) rfl rfl ⟨(blk_cell BK288.out 0).trans rfl, (blk_cell BK288.out 1).trans rfl, (blk_cell BK289.out 0).trans rfl, (blk_cell BK289.out 1).trans rfl, ((HB.out.cell (World.block_lt_of_cell? w _ hw293_0)).trans hw293_0), ((HB.out.cell (World.block_lt_of_cell? w _ hw294_0)).trans hw294_0), ((HB.out.cell (World.block_lt_of_cell? w _ hw295_0)).trans hw295_0), ((HB.out.cell (World.block_lt_of_cell? w _ hw296_0)).trans hw296_0), ((HB.out.cell (World.block_lt_of_cell? w _ hw297_0)).trans hw297_0), ((HB.out.cell (World.block_lt_of_cell? w _ hw298_0)).trans hw298_0), ((HB.out.cell (World.block_lt_of_cell? w _ hw299_0)).trans hw299_0), ((HB.out.cell (World.block_lt_of_cell? w _ hw302_0)).trans hw302_0), ((HB.out.cell (World.block_lt_of_cell? w _ hw303_0)).trans hw303_0), ((HB.out.cell (World.block_lt_of_cell? w _ hw301_0)).trans hw301_0), ((HB.out.cell (World.block_lt_of_cell? w _ hw306_0)).trans hw306_0), ((HB.out.cell (World.block_lt_of_cell? w _ hw307_0)).trans hw307_0), ((HB.out.cell (World.block_lt_of_cell? w _ hw308_0)).trans hw308_0), ((HB.out.cell (World.block_lt_of_cell? w _ hw311_0)).trans hw311_0), ((HB.out.cell (World.block_lt_of_cell? w _ hw312_0)).trans hw312_0), ((HB.out.cell (World.block_lt_of_cell? w _ hw313_0)).trans hw313_0)⟩ (fun hHeld => ?_); refine with_tabW impl_isMap.tab11 impl_isMap.bits11 (fun HT_ HW_ => ?_)
            generalize wr.drew = w53 at BK288 BK289 HB HR293_0 HR297_0 hx293_0 hx294_0 hx295_0 hx296_0 hx297_0 hx298_0 hx299_0 hx301_0 hx302_0 hx303_0 hx306_0 hx307_0 hx308_0 hx311_0 hx312_0 hx313_0 hHeld ⊢
            refine pu 0 47 1 90 ?_
            refine pu 1 48 3 90 ?_
            refine pu 3 50 11 90 ?_
            refine pu 6 53 75 90 ?_
            refine pu 11 58 2123 90 ?_
            refine pu 13 60 10315 90 ?_
            refine pu 14 61 26699 90 ?_
            refine pu 15 62 59467 90 ?_
            refine pu 19 66 583755 90 ?_
            refine pu 20 67 0x18e84b 90 ?_
            refine pu 21 68 0x38e84b 90 ?_
            refine tk 2 49 0x38e84f 90 ?_
            refine pu 4 51 0x38e85f 90 ?_
            refine tk 5 52 0x38e87f 90 ?_
            refine pu 7 54 0x38e8ff 90 ?_
            refine tk 8 55 0x38e9ff 90 ?_
            refine pu 9 56 0x38ebff 90 ?_
            refine tk 10 57 0x38efff 90 ?_
            refine tk 12 59 0x38ffff 90 ?_
            refine tk 16 63 0x39ffff 90 ?_
            refine pu 17 64 0x3bffff 90 ?_
            refine tk 18 65 0x3fffff 90 ?_
            refine tk 22 69 0x7fffff 90 ?_
            refine pu 23 70 0xffffff 90 ?_
            refine tk 24 71 0x1ffffff 90 ?_
            refine pu 25 72 0x3ffffff 90 ?_
            refine pu 26 73 0x7ffffff 90 ?_
            refine pu 27 74 0xfffffff 90 ?_
            refine pu 29 76 0x2fffffff 90 ?_
            refine pu 30 77 0x6fffffff 90 ?_
            refine pu 35 82 0x86fffffff 90 ?_
            refine pu 36 83 0x186fffffff 90 ?_
            refine pu 37 84 0x386fffffff 90 ?_
            refine pu 39 86 0xb86fffffff 90 ?_
            refine pu 40 87 0x1b86fffffff 90 ?_
            refine pu 41 88 0x3b86fffffff 90 ?_
            refine tk 28 75 0x3b87fffffff 90 ?_
            refine tk 34 81 0x3bc7fffffff 90 ?_
            refine tk 38 85 0x3fc7fffffff 90 ?_
            refine tk 42 89 0x7fc7fffffff 90 ?_
            refine one_ (i := 31) (N := some 78) #[true, true, true, true, true, true, true, true, true, true, true, true, true, true, true, true, true, true, true, true, true, true, true, true, true, true, true, true, true, true, true, true, false, false, true, true, true, true, true, true, true, true, true, false, false, false, false, false, false, false, false, false, false, false, false, false, false, false, false, false, false, false, false, false, false, false, false, false, false, false, false, false, false, false, false, false, false, false, false, false, false, false, false, false, false, false, false, false, false, false] rfl rfl (one_of HT_.out (by kernel_rfl)) (by decide) (fun K hK => ?_)
            refine goes_ Try.func71 (by kernel_rfl) rfl #[.agg #[.slice A0_0 l0_0.length c0_0, .slice (some ad293) l0_1.length c0_1], .int .i64 x39_3, .int .i64 x44_4] (by rfl) rfl rfl (by (try simp only [List.map_toArray, List.map_cons, List.map_nil]); first | done | rfl | (simp only [List.length_drop, List.length_take]; rfl)) ?_
            with_reducible refine (impl_imply.calls k4 _ _ l0_0 _ _ l0_1 x39_3 x44_4 t300 _ ?side1 ?side2 ?side3 ?side4 A38.out).mono ?_
            (case side1 => exact kC (Kd.C_below HR0_0.out HB.out))
            (case side2 => exact HC0_0.out)
            (case side3 => exact kC (Kd.C_below HR0_1.out HB.out))
            (case side4 => exact HC0_1.out)
            rintro e w54 ⟨rfl, hb⟩
            refine ⟨_, rfl, ?_⟩
            replace BK288 := ak (blk_below (kK BK288.out) hb)
            replace BK289 := ak (blk_below (kK BK289.out) hb)
            replace HB := ak (below_step (bB HB.out) hb)
            (try clear hb)
            (try clear hb2)
            (try clear hk)
            (try clear hi)
            refine hK.out _ _ ⟨(blk_cell BK288.out 0).trans rfl, (blk_cell BK288.out 1).trans rfl, (blk_cell BK289.out 0).trans rfl, (blk_cell BK289.out 1).trans rfl, ((HB.out.cell (World.block_lt_of_cell? w _ hw293_0)).trans hw293_0), ((HB.out.cell (World.block_lt_of_cell? w _ hw294_0)).trans hw294_0), ((HB.out.cell (World.block_lt_of_cell? w _ hw295_0)).trans hw295_0), ((HB.out.cell (World.block_lt_of_cell? w _ hw296_0)).trans hw296_0), ((HB.out.cell (World.block_lt_of_cell? w _ hw297_0)).trans hw297_0), ((HB.out.cell (World.block_lt_of_cell? w _ hw298_0)).trans hw298_0), ((HB.out.cell (World.block_lt_of_cell? w _ hw299_0)).trans hw299_0), ((HB.out.cell (World.block_lt_of_cell? w _ hw302_0)).trans hw302_0), ((HB.out.cell (World.block_lt_of_cell? w _ hw303_0)).trans hw303_0), ((HB.out.cell (World.block_lt_of_cell? w _ hw301_0)).trans hw301_0), ((HB.out.cell (World.block_lt_of_cell? w _ hw306_0)).trans hw306_0), ((HB.out.cell (World.block_lt_of_cell? w _ hw307_0)).trans hw307_0), ((HB.out.cell (World.block_lt_of_cell? w _ hw308_0)).trans hw308_0), ((HB.out.cell (World.block_lt_of_cell? w _ hw311_0)).trans hw311_0), ((HB.out.cell (World.block_lt_of_cell? w _ hw312_0)).trans hw312_0), ((HB.out.cell (World.block_lt_of_cell? w _ hw313_0)).trans hw313_0)⟩ (fun hHeld => ?_)
            clear hK K
            refine norm_ (a' := ?_) ?_ ?_
            rotate_left
            ·show Act.put _ (some 78) _ = _
             simp only [Act.put, List.setIfInBounds_toArray, List.set_cons_zero, List.set_cons_succ, i64_w, i32_w]
             rfl
            refine pu 32 79 0x7fdffffffff 90 ?_
            refine tk 33 80 0x7ffffffffff 90 ?_
            refine one_ (i := 43) (N := some 90) #[true, true, true, true, true, true, true, true, true, true, true, true, true, true, true, true, true, true, true, true, true, true, true, true, true, true, true, true, true, true, true, true, true, true, true, true, true, true, true, true, true, true, true, true, false, false, false, false, false, false, false, false, false, false, false, false, false, false, false, false, false, false, false, false, false, false, false, false, false, false, false, false, false, false, false, false, false, false, false, false, false, false, false, false, false, false, false, false, false, false] rfl rfl (one_of HT_.out (by kernel_rfl)) (by decide) (fun K hK => ?_)
            refine goes_ Try.func71 (by kernel_rfl) rfl #[.agg #[.slice A1_0 l1_0.length c1_0, .slice (some ad297) l1_1.length c1_1], .int .i64 (rd l2 x39_3), .int .i64 (rd l2 x44_4)] (by rfl) rfl rfl (by (try simp only [List.map_toArray, List.map_cons, List.map_nil]); first | done | rfl | (simp only [List.length_drop, List.length_take]; rfl)) ?_
            with_reducible refine (impl_imply.calls k4 _ _ l1_0 _ _ l1_1 (rd l2 x39_3) (rd l2 x44_4) t304 _ ?side1 ?side2 ?side3 ?side4 A41.out).mono ?_
            (case side1 => exact kC (Kd.C_below HR1_0.out HB.out))
            (case side2 => exact HC1_0.out)
            (case side3 => exact kC (Kd.C_below HR1_1.out HB.out))
            (case side4 => exact HC1_1.out)
            rintro e w55 ⟨rfl, hb⟩
            refine ⟨_, rfl, ?_⟩
            replace BK288 := ak (blk_below (kK BK288.out) hb)
            replace BK289 := ak (blk_below (kK BK289.out) hb)
            replace HB := ak (below_step (bB HB.out) hb)
            (try clear hb)
            (try clear hb2)
            (try clear hk)
            (try clear hi)
            refine hK.out _ _ ⟨(blk_cell BK288.out 0).trans rfl, (blk_cell BK288.out 1).trans rfl, (blk_cell BK289.out 0).trans rfl, (blk_cell BK289.out 1).trans rfl, ((HB.out.cell (World.block_lt_of_cell? w _ hw293_0)).trans hw293_0), ((HB.out.cell (World.block_lt_of_cell? w _ hw294_0)).trans hw294_0), ((HB.out.cell (World.block_lt_of_cell? w _ hw295_0)).trans hw295_0), ((HB.out.cell (World.block_lt_of_cell? w _ hw296_0)).trans hw296_0), ((HB.out.cell (World.block_lt_of_cell? w _ hw297_0)).trans hw297_0), ((HB.out.cell (World.block_lt_of_cell? w _ hw298_0)).trans hw298_0), ((HB.out.cell (World.block_lt_of_cell? w _ hw299_0)).trans hw299_0), ((HB.out.cell (World.block_lt_of_cell? w _ hw302_0)).trans hw302_0), ((HB.out.cell (World.block_lt_of_cell? w _ hw303_0)).trans hw303_0), ((HB.out.cell (World.block_lt_of_cell? w _ hw301_0)).trans hw301_0), ((HB.out.cell (World.block_lt_of_cell? w _ hw306_0)).trans hw306_0), ((HB.out.cell (World.block_lt_of_cell? w _ hw307_0)).trans hw307_0), ((HB.out.cell (World.block_lt_of_cell? w _ hw308_0)).trans hw308_0), ((HB.out.cell (World.block_lt_of_cell? w _ hw311_0)).trans hw311_0), ((HB.out.cell (World.block_lt_of_cell? w _ hw312_0)).trans hw312_0), ((HB.out.cell (World.block_lt_of_cell? w _ hw313_0)).trans hw313_0)⟩ (fun hHeld => ?_)
            clear hK K
            refine norm_ (a' := ?_) ?_ ?_
            rotate_left
            ·show Act.put _ (some 90) _ = _
             simp only [Act.put, List.setIfInBounds_toArray, List.set_cons_zero, List.set_cons_succ, i64_w, i32_w]
             rfl
            refine pu 44 91 0x1fffffffffff 90 ?_
            refine pu 45 92 0x3fffffffffff 90 ?_
            refine pu 46 93 0x7fffffffffff 90 ?_
            refine pu 47 94 0xffffffffffff 90 ?_
            refine pu 48 95 0x1ffffffffffff 90 ?_
            refine pu 50 97 0x5ffffffffffff 90 ?_
            refine pu 51 98 0xdffffffffffff 90 ?_
            refine pu 55 102 0x8dffffffffffff 90 ?_
            refine pu 57 104 0x28dffffffffffff 90 ?_
            refine pu 58 105 0x68dffffffffffff 90 ?_
            refine pu 59 106 0xe8dffffffffffff 90 ?_
            refine pu 61 108 0x2e8dffffffffffff 90 ?_
            refine pu 62 109 0x6e8dffffffffffff 90 ?_
            refine pu 63 110 0xee8dffffffffffff 90 ?_
            refine tk 49 96 0xee8fffffffffffff 90 ?_
            refine tk 56 103 0xef8fffffffffffff 90 ?_
            refine tk 60 107 0xff8fffffffffffff 90 ?_
            refine tk 64 111 0x1ff8fffffffffffff 90 ?_
            refine one_ (i := 52) (N := some 99) #[true, true, true, true, true, true, true, true, true, true, true, true, true, true, true, true, true, true, true, true, true, true, true, true, true, true, true, true, true, true, true, true, true, true, true, true, true, true, true, true, true, true, true, true, true, true, true, true, true, true, true, true, true, false, false, true, true, true, true, true, true, true, true, true, true, false, false, false, false, false, false, false, false, false, false, false, false, false, false, false, false, false, false, false, false, false, false, false, false, false] rfl rfl (one_of HT_.out (by kernel_rfl)) (by decide) (fun K hK => ?_)
            refine goes_ Try.func72 (by kernel_rfl) rfl #[.slice A0_0 l0_0.length c0_0, .int .i64 x39_3, .int .i64 x44_4] (by rfl) rfl rfl (by (try simp only [List.map_toArray, List.map_cons, List.map_nil]); first | done | rfl | (simp only [List.length_drop, List.length_take]; rfl)) ?_
            with_reducible refine (impl_meet.calls k4 _ _ l0_0 x39_3 x44_4 t305 _ ?side1 ?side2 A43.out).mono ?_
            (case side1 => exact kC (Kd.C_below HR0_0.out HB.out))
            (case side2 => exact HC0_0.out)
            rintro e w' ⟨rfl, ⟨nd, rfl⟩⟩
            refine ⟨_, rfl, ?_⟩
            refine hK.out _ _ ⟨(blk_cell BK288.out 0).trans rfl, (blk_cell BK288.out 1).trans rfl, (blk_cell BK289.out 0).trans rfl, (blk_cell BK289.out 1).trans rfl, ((HB.out.cell (World.block_lt_of_cell? w _ hw293_0)).trans hw293_0), ((HB.out.cell (World.block_lt_of_cell? w _ hw294_0)).trans hw294_0), ((HB.out.cell (World.block_lt_of_cell? w _ hw295_0)).trans hw295_0), ((HB.out.cell (World.block_lt_of_cell? w _ hw296_0)).trans hw296_0), ((HB.out.cell (World.block_lt_of_cell? w _ hw297_0)).trans hw297_0), ((HB.out.cell (World.block_lt_of_cell? w _ hw298_0)).trans hw298_0), ((HB.out.cell (World.block_lt_of_cell? w _ hw299_0)).trans hw299_0), ((HB.out.cell (World.block_lt_of_cell? w _ hw302_0)).trans hw302_0), ((HB.out.cell (World.block_lt_of_cell? w _ hw303_0)).trans hw303_0), ((HB.out.cell (World.block_lt_of_cell? w _ hw301_0)).trans hw301_0), ((HB.out.cell (World.block_lt_of_cell? w _ hw306_0)).trans hw306_0), ((HB.out.cell (World.block_lt_of_cell? w _ hw307_0)).trans hw307_0), ((HB.out.cell (World.block_lt_of_cell? w _ hw308_0)).trans hw308_0), ((HB.out.cell (World.block_lt_of_cell? w _ hw311_0)).trans hw311_0), ((HB.out.cell (World.block_lt_of_cell? w _ hw312_0)).trans hw312_0), ((HB.out.cell (World.block_lt_of_cell? w _ hw313_0)).trans hw313_0)⟩ (fun hHeld => ?_)
            clear hK K
            refine norm_ (a' := ?_) ?_ ?_
            rotate_left
            ·show Act.put _ (some 99) _ = _
             simp only [Act.put, List.setIfInBounds_toArray, List.set_cons_zero, List.set_cons_succ, i64_w, i32_w]
             rfl
            refine pu 53 100 0x1ffbfffffffffffff 90 ?_
            refine tk 54 101 0x1ffffffffffffffff 90 ?_
            refine one_ (i := 65) (N := some 112) #[true, true, true, true, true, true, true, true, true, true, true, true, true, true, true, true, true, true, true, true, true, true, true, true, true, true, true, true, true, true, true, true, true, true, true, true, true, true, true, true, true, true, true, true, true, true, true, true, true, true, true, true, true, true, true, true, true, true, true, true, true, true, true, true, true, true, false, false, false, false, false, false, false, false, false, false, false, false, false, false, false, false, false, false, false, false, false, false, false, false] rfl rfl (one_of HT_.out (by kernel_rfl)) (by decide) (fun K hK => ?_)
            refine goes_ Try.func72 (by kernel_rfl) rfl #[.slice A1_0 l1_0.length c1_0, .int .i64 (rd l2 x39_3), .int .i64 (rd l2 x44_4)] (by rfl) rfl rfl (by (try simp only [List.map_toArray, List.map_cons, List.map_nil]); first | done | rfl | (simp only [List.length_drop, List.length_take]; rfl)) ?_
            with_reducible refine (impl_meet.calls k4 _ _ l1_0 (rd l2 x39_3) (rd l2 x44_4) t309 _ ?side1 ?side2 A46.out).mono ?_
            (case side1 => exact kC (Kd.C_below HR1_0.out (bB HB.out)))
            (case side2 => exact HC1_0.out)
            rintro e w' ⟨rfl, ⟨nd, rfl⟩⟩
            refine ⟨_, rfl, ?_⟩
            refine hK.out _ _ ⟨(blk_cell BK288.out 0).trans rfl, (blk_cell BK288.out 1).trans rfl, (blk_cell BK289.out 0).trans rfl, (blk_cell BK289.out 1).trans rfl, ((HB.out.cell (World.block_lt_of_cell? w _ hw293_0)).trans hw293_0), ((HB.out.cell (World.block_lt_of_cell? w _ hw294_0)).trans hw294_0), ((HB.out.cell (World.block_lt_of_cell? w _ hw295_0)).trans hw295_0), ((HB.out.cell (World.block_lt_of_cell? w _ hw296_0)).trans hw296_0), ((HB.out.cell (World.block_lt_of_cell? w _ hw297_0)).trans hw297_0), ((HB.out.cell (World.block_lt_of_cell? w _ hw298_0)).trans hw298_0), ((HB.out.cell (World.block_lt_of_cell? w _ hw299_0)).trans hw299_0), ((HB.out.cell (World.block_lt_of_cell? w _ hw302_0)).trans hw302_0), ((HB.out.cell (World.block_lt_of_cell? w _ hw303_0)).trans hw303_0), ((HB.out.cell (World.block_lt_of_cell? w _ hw301_0)).trans hw301_0), ((HB.out.cell (World.block_lt_of_cell? w _ hw306_0)).trans hw306_0), ((HB.out.cell (World.block_lt_of_cell? w _ hw307_0)).trans hw307_0), ((HB.out.cell (World.block_lt_of_cell? w _ hw308_0)).trans hw308_0), ((HB.out.cell (World.block_lt_of_cell? w _ hw311_0)).trans hw311_0), ((HB.out.cell (World.block_lt_of_cell? w _ hw312_0)).trans hw312_0), ((HB.out.cell (World.block_lt_of_cell? w _ hw313_0)).trans hw313_0)⟩ (fun hHeld => ?_)
            clear hK K
            refine norm_ (a' := ?_) ?_ ?_
            rotate_left
            ·show Act.put _ (some 112) _ = _
             simp only [Act.put, List.setIfInBounds_toArray, List.set_cons_zero, List.set_cons_succ, i64_w, i32_w]
             rfl
            refine pu 66 113 0x7ffffffffffffffff 90 ?_
            refine pu 67 114 0xfffffffffffffffff 90 ?_
            refine pu 68 115 0x1fffffffffffffffff 90 ?_
            refine pu 69 116 0x3fffffffffffffffff 90 ?_
            refine pu 70 117 0x7fffffffffffffffff 90 ?_
            refine pu 72 119 0x17fffffffffffffffff 90 ?_
            refine pu 73 120 0x37fffffffffffffffff 90 ?_
            refine pu 77 124 0x237fffffffffffffffff 90 ?_
            refine pu 79 126 0xa37fffffffffffffffff 90 ?_
            refine pu 80 127 0x1a37fffffffffffffffff 90 ?_
            refine pu 81 128 0x3a37fffffffffffffffff 90 ?_
            refine pu 83 130 0xba37fffffffffffffffff 90 ?_
            refine pu 84 131 0x1ba37fffffffffffffffff 90 ?_
            refine pu 85 132 0x3ba37fffffffffffffffff 90 ?_
            refine tk 71 118 0x3ba3ffffffffffffffffff 90 ?_
            refine tk 78 125 0x3be3ffffffffffffffffff 90 ?_
            refine tk 82 129 0x3fe3ffffffffffffffffff 90 ?_
            refine tk 86 133 0x7fe3ffffffffffffffffff 90 ?_
            refine one_ (i := 74) (N := some 121) #[true, true, true, true, true, true, true, true, true, true, true, true, true, true, true, true, true, true, true, true, true, true, true, true, true, true, true, true, true, true, true, true, true, true, true, true, true, true, true, true, true, true, true, true, true, true, true, true, true, true, true, true, true, true, true, true, true, true, true, true, true, true, true, true, true, true, true, true, true, true, true, true, true, true, true, false, false, true, true, true, true, true, true, true, true, true, true, false, false, false] rfl rfl (one_of HT_.out (by kernel_rfl)) (by decide) (fun K hK => ?_)
            refine goes_ Try.func65 (by kernel_rfl) rfl #[.slice A0_0 l0_0.length c0_0, .int .i64 x39_3, .int .i64 x44_4] (by rfl) rfl rfl (by (try simp only [List.map_toArray, List.map_cons, List.map_nil]); first | done | rfl | (simp only [List.length_drop, List.length_take]; rfl)) ?_
            with_reducible refine (impl_join.calls k4 _ _ l0_0 x39_3 x44_4 t310 _ ?side1 ?side2 A48.out).mono ?_
            (case side1 => exact kC (Kd.C_below HR0_0.out (bB HB.out)))
            (case side2 => exact HC0_0.out)
            rintro e w' ⟨rfl, ⟨nd, rfl⟩⟩
            refine ⟨_, rfl, ?_⟩
            refine hK.out _ _ ⟨(blk_cell BK288.out 0).trans rfl, (blk_cell BK288.out 1).trans rfl, (blk_cell BK289.out 0).trans rfl, (blk_cell BK289.out 1).trans rfl, ((HB.out.cell (World.block_lt_of_cell? w _ hw293_0)).trans hw293_0), ((HB.out.cell (World.block_lt_of_cell? w _ hw294_0)).trans hw294_0), ((HB.out.cell (World.block_lt_of_cell? w _ hw295_0)).trans hw295_0), ((HB.out.cell (World.block_lt_of_cell? w _ hw296_0)).trans hw296_0), ((HB.out.cell (World.block_lt_of_cell? w _ hw297_0)).trans hw297_0), ((HB.out.cell (World.block_lt_of_cell? w _ hw298_0)).trans hw298_0), ((HB.out.cell (World.block_lt_of_cell? w _ hw299_0)).trans hw299_0), ((HB.out.cell (World.block_lt_of_cell? w _ hw302_0)).trans hw302_0), ((HB.out.cell (World.block_lt_of_cell? w _ hw303_0)).trans hw303_0), ((HB.out.cell (World.block_lt_of_cell? w _ hw301_0)).trans hw301_0), ((HB.out.cell (World.block_lt_of_cell? w _ hw306_0)).trans hw306_0), ((HB.out.cell (World.block_lt_of_cell? w _ hw307_0)).trans hw307_0), ((HB.out.cell (World.block_lt_of_cell? w _ hw308_0)).trans hw308_0), ((HB.out.cell (World.block_lt_of_cell? w _ hw311_0)).trans hw311_0), ((HB.out.cell (World.block_lt_of_cell? w _ hw312_0)).trans hw312_0), ((HB.out.cell (World.block_lt_of_cell? w _ hw313_0)).trans hw313_0)⟩ (fun hHeld => ?_)
            clear hK K
            refine norm_ (a' := ?_) ?_ ?_
            rotate_left
            ·show Act.put _ (some 121) _ = _
             simp only [Act.put, List.setIfInBounds_toArray, List.set_cons_zero, List.set_cons_succ, i64_w, i32_w]
             rfl
            refine pu 75 122 0x7fefffffffffffffffffff 90 ?_
            refine tk 76 123 0x7fffffffffffffffffffff 90 ?_
            refine one_ (i := 87) (N := some 134) #[true, true, true, true, true, true, true, true, true, true, true, true, true, true, true, true, true, true, true, true, true, true, true, true, true, true, true, true, true, true, true, true, true, true, true, true, true, true, true, true, true, true, true, true, true, true, true, true, true, true, true, true, true, true, true, true, true, true, true, true, true, true, true, true, true, true, true, true, true, true, true, true, true, true, true, true, true, true, true, true, true, true, true, true, true, true, true, true, false, false] rfl rfl (one_of HT_.out (by kernel_rfl)) (by decide) (fun K hK => ?_)
            refine goes_ Try.func65 (by kernel_rfl) rfl #[.slice A1_0 l1_0.length c1_0, .int .i64 (rd l2 x39_3), .int .i64 (rd l2 x44_4)] (by rfl) rfl rfl (by (try simp only [List.map_toArray, List.map_cons, List.map_nil]); first | done | rfl | (simp only [List.length_drop, List.length_take]; rfl)) ?_
            with_reducible refine (impl_join.calls k4 _ _ l1_0 (rd l2 x39_3) (rd l2 x44_4) t314 _ ?side1 ?side2 A51.out).mono ?_
            (case side1 => exact kC (Kd.C_below HR1_0.out (bB HB.out)))
            (case side2 => exact HC1_0.out)
            rintro e w' ⟨rfl, ⟨nd, rfl⟩⟩
            refine ⟨_, rfl, ?_⟩
            refine hK.out _ _ ⟨(blk_cell BK288.out 0).trans rfl, (blk_cell BK288.out 1).trans rfl, (blk_cell BK289.out 0).trans rfl, (blk_cell BK289.out 1).trans rfl, ((HB.out.cell (World.block_lt_of_cell? w _ hw293_0)).trans hw293_0), ((HB.out.cell (World.block_lt_of_cell? w _ hw294_0)).trans hw294_0), ((HB.out.cell (World.block_lt_of_cell? w _ hw295_0)).trans hw295_0), ((HB.out.cell (World.block_lt_of_cell? w _ hw296_0)).trans hw296_0), ((HB.out.cell (World.block_lt_of_cell? w _ hw297_0)).trans hw297_0), ((HB.out.cell (World.block_lt_of_cell? w _ hw298_0)).trans hw298_0), ((HB.out.cell (World.block_lt_of_cell? w _ hw299_0)).trans hw299_0), ((HB.out.cell (World.block_lt_of_cell? w _ hw302_0)).trans hw302_0), ((HB.out.cell (World.block_lt_of_cell? w _ hw303_0)).trans hw303_0), ((HB.out.cell (World.block_lt_of_cell? w _ hw301_0)).trans hw301_0), ((HB.out.cell (World.block_lt_of_cell? w _ hw306_0)).trans hw306_0), ((HB.out.cell (World.block_lt_of_cell? w _ hw307_0)).trans hw307_0), ((HB.out.cell (World.block_lt_of_cell? w _ hw308_0)).trans hw308_0), ((HB.out.cell (World.block_lt_of_cell? w _ hw311_0)).trans hw311_0), ((HB.out.cell (World.block_lt_of_cell? w _ hw312_0)).trans hw312_0), ((HB.out.cell (World.block_lt_of_cell? w _ hw313_0)).trans hw313_0)⟩ (fun hHeld => ?_)
            clear hK K
            refine norm_ (a' := ?_) ?_ ?_
            rotate_left
            ·show Act.put _ (some 134) _ = _
             simp only [Act.put, List.setIfInBounds_toArray, List.set_cons_zero, List.set_cons_succ, i64_w, i32_w]
             rfl
            refine pu 88 135 0x1ffffffffffffffffffffff 90 ?_
            refine pu 89 136 0x3ffffffffffffffffffffff 90 ?_
            refine done_ (done_of HT_.out (by kernel_rfl)) ?_
            try go_wp2
            go_roundg k4
            case measure => have := HJ3.out; have := HJ13.out; have := HK3.out; have := HK4.out; omega
            case rel => exact ⟨(wrap64 (x44_4 + 1)), (by first | rfl | (simp; done) | (simp [*]; done)), H', ⟨by have := HJ3.out; have := HJ13.out; have := HK3.out; have := HK4.out; omega⟩, ⟨by (with_reducible repeat (first | refine blk_drewN ?_ _ | refine blk_drew ?_ | refine blk_alloc ?_ _)); exact BK288.out⟩, ⟨by (with_reducible repeat (first | refine blk_drewN ?_ _ | refine blk_drew ?_ | refine blk_alloc ?_ _)); exact BK289.out⟩, ⟨by repeat (first | (with_reducible first | exact HB.out | apply below_alloc | apply pw_below_drewN | apply below_drew1 | refine below_set ?_ GE288.out | refine below_set ?_ GE289.out) | exact HB.out)⟩⟩
end Go.Proofs.Ytomapoenndlbiaa.P

-- shrunk
