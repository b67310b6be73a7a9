-- Printed by this session's wip/print2.py (the kit's print.py, widened) out of the translation. Lean checks it.
import Derived.Test.YtjidbgmkhapklaaP0
import Derived.Test.YtjidbgmkhapklaaP18
namespace Go.Proofs.Ytjidbgmkhapklaa.P
open Go.RowKit Go.Proofs.YtjidbgmkhapklaaW.PrintWords Go.Proofs.YtjidbgmkhapklaaW.PrintLast Go.Proofs.YtjidbgmkhapklaaW.PrintMore
attribute [local go_sem] max2_int min2_int max_two min_two max_three min_three max_four min_four   -- for this text's walks alone
set_option linter.unusedVariables false
set_option linter.unusedSimpArgs false

/-! ### bu_stack_1: by hand -/
def bu_stack_1.t (a1 : Int) (T2 T3 : List (List Int)) (x y : Int) : Option Int := if a1 ≤ x then (if a1 ≤ y then (rdT T2 (wrap64 (x - a1)) (wrap64 (y - a1))).bind fun p => some (wrap64 (p + a1)) else some (mn x y)) else (if a1 ≤ y then some (mn x y) else rdT T3 x y)
set_option maxHeartbeats 4000000 in
set_option maxRecDepth 100000 in
theorem bu_stack_1.answers (g1 : Nat) (a1 : Int) (g2 : Nat) (A2_0 : Option Addr) (c2_0 : Nat) (l2_0 : List Int) (A2_1 : Option Addr) (c2_1 : Nat) (l2_1 : List (List Int)) (g3 : Nat) (A3_0 : Option Addr) (c3_0 : Nat) (l3_0 : List Int) (A3_1 : Option Addr) (c3_1 : Nat) (l3_1 : List (List Int)) (w : World)
  (hr2_1 : Kd.C (Kd.slice 3 (Kd.int .i64)) w A2_1 l2_1.length l2_1) (hr3_1 : Kd.C (Kd.slice 3 (Kd.int .i64)) w A3_1 l3_1.length l3_1)
  (hb1 : w.heap[g1]? = some (.cells #[.int .i64 a1] 3 (0, 0))) (hb2 : w.heap[g2]? = some (.cells #[.slice A2_0 l2_0.length c2_0, .slice A2_1 l2_1.length c2_1] 25 (0, 0))) (hb3 : w.heap[g3]? = some (.cells #[.slice A3_0 l3_0.length c3_0, .slice A3_1 l3_1.length c3_1] 25 (0, 0))) :
  Answers2 105 #[.pointer (some ⟨g1, 0, none⟩), .pointer (some ⟨g2, 0, none⟩), .pointer (some ⟨g3, 0, none⟩)] (bu_stack_1.t a1 l2_1 l3_1) w := fun W x y r hb' h => by
 have hu25 := Try.underlying25
 have H : (if a1 ≤ x then (if a1 ≤ y then (rdT l2_1 (wrap64 (x - a1)) (wrap64 (y - a1))).bind fun p => some (wrap64 (p + a1)) else some (mn x y)) else (if a1 ≤ y then some (mn x y) else rdT l3_1 x y)) = some r := h
 have HB := Aside0.mk hb'
 have BK1 := Aside0.mk (blk_below hb1 hb')
 have BK2 := Aside0.mk (blk_below hb2 hb')
 have BK3 := Aside0.mk (blk_below hb3 hb')
 have HR2_1 := Aside0.mk hr2_1
 have HR3_1 := Aside0.mk hr3_1
 clear hb1 hb2 hb3 hb' h hr2_1 hr3_1
 have hcz26_0 : W.cell? ⟨g1, 0, none⟩ = some (.int .i64 a1) := (blk_cell BK1.out 0).trans rfl
 have hcz24_0 : W.cell? ⟨g2, 0, none⟩ = some (.slice A2_0 l2_0.length c2_0) := (blk_cell BK2.out 0).trans rfl
 have hcz24_1 : W.cell? ⟨g2, 1, none⟩ = some (.slice A2_1 l2_1.length c2_1) := (blk_cell BK2.out 1).trans rfl
 have hcz27_0 : W.cell? ⟨g3, 0, none⟩ = some (.slice A3_0 l3_0.length c3_0) := (blk_cell BK3.out 0).trans rfl
 have hcz27_1 : W.cell? ⟨g3, 1, none⟩ = some (.slice A3_1 l3_1.length c3_1) := (blk_cell BK3.out 1).trans rfl
 show Calls Try.prog 105 #[.int .i64 x, .int .i64 y, .pointer (some ⟨g1, 0, none⟩), .pointer (some ⟨g2, 0, none⟩), .pointer (some ⟨g3, 0, none⟩)] W _
 by_cases cx : a1 ≤ x
 ·rw [if_pos cx] at H
  have cxb : decide (a1 ≤ x) = true := decide_eq_true cx
  have cxl : decide (x < a1) = false := decide_eq_false (by omega)
  clear cx
  by_cases cy : a1 ≤ y
  ·rw [if_pos cy] at H
   have cyb : decide (a1 ≤ y) = true := decide_eq_true cy
   have cyl : decide (y < a1) = false := decide_eq_false (by omega)
   clear cy
   obtain ⟨p, hp, H⟩ := Option.bind_eq_some_iff.mp H
   obtain ⟨ji18, hji18⟩ : ∃ j_ : Int, (wrap64 (x - a1)) = j_ := ⟨_, rfl⟩
   obtain ⟨ji21, hji21⟩ : ∃ j_ : Int, (wrap64 (y - a1)) = j_ := ⟨_, rfl⟩
   rw [hji18, hji21] at hp
   have hji18w : (IntKind.i64.wrap (x - a1)) = ji18 := (i64_w _).trans hji18
   have hji21w : (IntKind.i64.wrap (y - a1)) = ji21 := (i64_w _).trans hji21
   obtain ⟨p1, p2, p3, p4, rfl⟩ := rdT_some hp
   clear hp
   obtain rfl := Option.some.inj H
   clear H
   have c19b0 : decide (0 ≤ ji18) = true := decide_eq_true p1
   have c20b0 : decide (ji18 < (l2_1.length : Int)) = true := decide_eq_true p2
   have c22b0 : decide (0 ≤ ji21) = true := decide_eq_true p3
   have c23b0 : decide (ji21 < ((rd_L1 l2_1 ji18).length : Int)) = true := decide_eq_true p4
   obtain ⟨ad528, A528_0, c528_0, e528, hx528_0, hl528_0, hi528_0⟩ := at_L1 HR2_1.out ji18 p1 p2
   cases e528
   replace hx528_0 := (HB.out.cell (World.block_lt_of_cell? w _ hx528_0)).trans hx528_0
   have HR528_0 := Aside0.mk hi528_0
   have HC528_0 := Aside0.mk hl528_0
   clear hi528_0 hl528_0
   obtain ⟨ad529, e529, hx529_0⟩ := Kd.at_int HR528_0.out ji21 p3 p4
   cases e529
   replace hx529_0 := (HB.out.cell (World.block_lt_of_cell? w _ hx529_0)).trans hx529_0
   replace p1 := eq_true p1
   replace p2 := eq_true p2
   replace p3 := eq_true p3
   replace p4 := eq_true p4
   go_enter Try.func105, Try.ntmps105
   go_wp2
   repeat (go_quiet (fail); try go_wp2)
   go_ret
   exact ⟨by first | rfl | (simp only [← hji18, ← hji21]; first | rfl | (simp <;> rfl)) | (simp [*] <;> rfl), _, rfl⟩
  ·rw [if_neg cy] at H
   have cyb : decide (a1 ≤ y) = false := decide_eq_false cy
   have cyl : decide (y < a1) = true := decide_eq_true (by omega)
   clear cy
   obtain ⟨ji40, hji40⟩ : ∃ j_ : Int, (mn x y) = j_ := ⟨_, rfl⟩
   rw [hji40] at H
   have hji40_ : (if y < x then y else x) = ji40 := hji40
   obtain rfl := Option.some.inj H
   go_enter Try.func105, Try.ntmps105
   go_wp2
   repeat (go_quiet (fail); try go_wp2)
   go_ret
   exact ⟨by first | rfl | (simp only [← hji40]; first | rfl | (simp <;> rfl)) | (simp [*] <;> rfl), 0, rfl⟩
 ·rw [if_neg cx] at H
  have cxb : decide (a1 ≤ x) = false := decide_eq_false cx
  have cxl : decide (x < a1) = true := decide_eq_true (by omega)
  clear cx
  by_cases cy : a1 ≤ y
  ·rw [if_pos cy] at H
   have cyb : decide (a1 ≤ y) = true := decide_eq_true cy
   have cyl : decide (y < a1) = false := decide_eq_false (by omega)
   clear cy
   obtain ⟨ji40, hji40⟩ : ∃ j_ : Int, (mn x y) = j_ := ⟨_, rfl⟩
   rw [hji40] at H
   have hji40_ : (if y < x then y else x) = ji40 := hji40
   obtain rfl := Option.some.inj H
   go_enter Try.func105, Try.ntmps105
   go_wp2
   repeat (go_quiet (fail); try go_wp2)
   go_ret
   exact ⟨by first | rfl | (simp only [← hji40]; first | rfl | (simp <;> rfl)) | (simp [*] <;> rfl), 0, rfl⟩
  ·rw [if_neg cy] at H
   have cyb : decide (a1 ≤ y) = false := decide_eq_false cy
   have cyl : decide (y < a1) = true := decide_eq_true (by omega)
   clear cy
   obtain ⟨p1, p2, p3, p4, rfl⟩ := rdT_some H
   clear H
   have c19b0 : decide (0 ≤ x) = true := decide_eq_true p1
   have c20b0 : decide (x < (l3_1.length : Int)) = true := decide_eq_true p2
   have c22b0 : decide (0 ≤ y) = true := decide_eq_true p3
   have c23b0 : decide (y < ((rd_L1 l3_1 x).length : Int)) = true := decide_eq_true p4
   obtain ⟨ad528, A528_0, c528_0, e528, hx528_0, hl528_0, hi528_0⟩ := at_L1 HR3_1.out x p1 p2
   cases e528
   replace hx528_0 := (HB.out.cell (World.block_lt_of_cell? w _ hx528_0)).trans hx528_0
   have HR528_0 := Aside0.mk hi528_0
   have HC528_0 := Aside0.mk hl528_0
   clear hi528_0 hl528_0
   obtain ⟨ad529, e529, hx529_0⟩ := Kd.at_int HR528_0.out y p3 p4
   cases e529
   replace hx529_0 := (HB.out.cell (World.block_lt_of_cell? w _ hx529_0)).trans hx529_0
   replace p1 := eq_true p1
   replace p2 := eq_true p2
   replace p3 := eq_true p3
   replace p4 := eq_true p4
   go_enter Try.func105, Try.ntmps105
   go_wp2
   repeat (go_quiet (fail); try go_wp2)
   go_ret
   exact ⟨by first | rfl | (simp [*] <;> rfl), 0, rfl⟩
def bu_stack_1.f (k : Nat) (l0 : List Int) (a1 : Int) (l2_0 : List Int) (l2_1 : List (List Int)) (l3_0 : List Int) (l3_1 : List (List Int)) : Option (List Int × (List (List Int))) := impl_build.f (bu_stack_1.t a1 l2_1 l3_1) k l0
theorem bu_stack_1.mono : ∀ a0 a1 a2 a3 a4 a5 k, LeO (bu_stack_1.f k a0 a1 a2 a3 a4 a5) (bu_stack_1.f (k + 1) a0 a1 a2 a3 a4 a5) := fun a0 a1 a2 a3 a4 a5 k => impl_build.mono _ _ (fun x y => LeO.refl _) a0 k
theorem bu_stack_1.calls (k : Nat) (A0 : Option Addr) (c0 : Nat) (l0 : List Int) (g1 : Nat) (a1 : Int) (g2 : Nat) (A2_0 : Option Addr) (c2_0 : Nat) (l2_0 : List Int) (A2_1 : Option Addr) (c2_1 : Nat) (l2_1 : List (List Int)) (g3 : Nat) (A3_0 : Option Addr) (c3_0 : Nat) (l3_0 : List Int) (A3_1 : Option Addr) (c3_1 : Nat) (l3_1 : List (List Int)) (r1 : List Int) (r2 : List (List Int)) (w : World) (hr0 : Kd.C (Kd.int .i64) w A0 l0.length l0) (hc0 : l0.length ≤ c0)
  (hr2_0 : Kd.C (Kd.int .i64) w A2_0 l2_0.length l2_0) (hc2_0 : l2_0.length ≤ c2_0) (hr2_1 : Kd.C (Kd.slice 3 (Kd.int .i64)) w A2_1 l2_1.length l2_1) (hc2_1 : l2_1.length ≤ c2_1) (hr3_0 : Kd.C (Kd.int .i64) w A3_0 l3_0.length l3_0) (hc3_0 : l3_0.length ≤ c3_0) (hr3_1 : Kd.C (Kd.slice 3 (Kd.int .i64)) w A3_1 l3_1.length l3_1) (hc3_1 : l3_1.length ≤ c3_1)
  (hb1 : w.heap[g1]? = some (.cells #[.int .i64 a1] 3 (0, 0))) (hb2 : w.heap[g2]? = some (.cells #[.slice A2_0 l2_0.length c2_0, .slice A2_1 l2_1.length c2_1] 25 (0, 0))) (hb3 : w.heap[g3]? = some (.cells #[.slice A3_0 l3_0.length c3_0, .slice A3_1 l3_1.length c3_1] 25 (0, 0))) (h : bu_stack_1.f k l0 a1 l2_0 l2_1 l3_0 l3_1 = some (r1, r2)) :
  Calls Try.prog 60 #[.slice A0 l0.length c0, .func (.func 105) #[] #[.pointer (some ⟨g1, 0, none⟩), .pointer (some ⟨g2, 0, none⟩), .pointer (some ⟨g3, 0, none⟩)]] w fun e w' => ∃ v0_ v1_ : Value, e = .returned (.agg #[v0_, v1_]) ∧ Kd.R (Kd.int .i64) 3 w' w.heap.size (fun _ => True) v0_ r1 ∧ Kd.S (Kd.slice 3 (Kd.int .i64)) 22 w' w.heap.size (fun k_ => some k_ ≠ (v0_ : Value).ownBlock) v1_ r2 ∧ Below w.heap.size w w' :=
 impl_build.calls k _ 105 _ (enters_of Try.func105 (by kernel_rfl) rfl) A0 c0 l0 r1 r2 w hr0 hc0 (bu_stack_1.answers g1 a1 g2 A2_0 c2_0 l2_0 A2_1 c2_1 l2_1 g3 A3_0 c3_0 l3_0 A3_1 c3_1 l3_1 w hr2_1 hr3_1 hb1 hb2 hb3) h


end Go.Proofs.Ytjidbgmkhapklaa.P

-- shrunk
