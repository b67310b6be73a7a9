-- Printed by this session's wip/print2.py (the kit's print.py, widened) out of the translation. Lean checks it.
import Derived.Test.YtdcohlllbbcjoaaP0
namespace Go.Proofs.Ytdcohlllbbcjoaa.P
open Go.RowKit Go.Proofs.YtdcohlllbbcjoaaW.PrintWords Go.Proofs.YtdcohlllbbcjoaaW.PrintLast Go.Proofs.YtdcohlllbbcjoaaW.PrintMore
attribute [local go_sem] max2_int min2_int max_two min_two max_three min_three max_four min_four   -- for this text's walks alone
set_option linter.unusedVariables false
set_option linter.unusedSimpArgs false

/-! ### spec_read: function 38 -/
mutual
def spec_read.j0 : Nat → ByteArray → Int → Bool → Option (List Int × Int)
 | 0, _, _, _ => none
 | k + 1, x0, x1, x20 => if x20 = true then (some (([] : List Int), (-1))) else (if 0 ≤ x1 then (if x1 < (x0.size : Int) then (if (bt x0 x1) = 120 then (spec_read.j1 k x0 x1 (bt x0 x1) ((bt x0 x1) == 120)) else (if (bt x0 x1) = 121 then (spec_read.j1 k x0 x1 (bt x0 x1) ((bt x0 x1) == 121)) else (spec_read.j1 k x0 x1 (bt x0 x1) ((bt x0 x1) == 122)))) else (none)) else (none))
def spec_read.j1 : Nat → ByteArray → Int → Int → Bool → Option (List Int × Int)
 | 0, _, _, _, _ => none
 | k + 1, x0, x1, x23, x24 => if x24 = true then (if 0 ≤ x1 then (if x1 < (x0.size : Int) then (some ((([((bt x0 x1) - 120) % 256] : List Int)), wrap64 (x1 + 1))) else (none)) else (none)) else (if x23 = 48 then (some ((([10] : List Int)), wrap64 (x1 + 1))) else (if x23 = 49 then (some ((([11] : List Int)), wrap64 (x1 + 1))) else (if x23 = 45 then ((spec_read.f k x0 (wrap64 (x1 + 1))).bind fun bt263 => ((some (([12] : List Int) : List Int)).bind fun y267 => (if y267.length + bt263.1.length < 17592186044416 then (some ((y267 ++ bt263.1), bt263.2)) else (none)))) else (if x23 = 40 then ((spec_read.f k x0 (wrap64 (x1 + 1))).bind fun bt273 => (if bt273.2 < 0 then (spec_read.j2 k x0 bt273.1 bt273.2 true) else (spec_read.j2 k x0 bt273.1 bt273.2 (decide (bt273.2 ≥ (x0.size : Int)))))) else (some (([] : List Int), (-1)))))))
def spec_read.j2 : Nat → ByteArray → List Int → Int → Bool → Option (List Int × Int)
 | 0, _, _, _, _ => none
 | k + 1, x0, x8, x9, x75 => if x75 = true then (some (([] : List Int), (-1))) else (if 0 ≤ x9 then (if x9 < (x0.size : Int) then (if (bt x0 x9) = 38 then ((spec_read.f k x0 (wrap64 (x9 + 1))).bind fun bt277 => (if bt277.2 < 0 then (some (([] : List Int), (-1))) else (if bt277.2 ≥ (x0.size : Int) then (some (([] : List Int), (-1))) else (if 0 ≤ bt277.2 then (if bt277.2 < (x0.size : Int) then (if (bt x0 bt277.2) = 41 then ((some (([13] : List Int) : List Int)).bind fun y281 => (if y281.length + x8.length < 17592186044416 then ((some (y281 ++ x8 : List Int)).bind fun y284 => (if y284.length + bt277.1.length < 17592186044416 then (some ((y284 ++ bt277.1), wrap64 (bt277.2 + 1))) else (none))) else (none))) else (some (([] : List Int), (-1)))) else (none)) else (none))))) else (if (bt x0 x9) = 124 then ((spec_read.f k x0 (wrap64 (x9 + 1))).bind fun bt290 => (if bt290.2 < 0 then (some (([] : List Int), (-1))) else (if bt290.2 ≥ (x0.size : Int) then (some (([] : List Int), (-1))) else (if 0 ≤ bt290.2 then (if bt290.2 < (x0.size : Int) then (if (bt x0 bt290.2) = 41 then ((some (([14] : List Int) : List Int)).bind fun y294 => (if y294.length + x8.length < 17592186044416 then ((some (y294 ++ x8 : List Int)).bind fun y297 => (if y297.length + bt290.1.length < 17592186044416 then (some ((y297 ++ bt290.1), wrap64 (bt290.2 + 1))) else (none))) else (none))) else (some (([] : List Int), (-1)))) else (none)) else (none))))) else (if (bt x0 x9) = 42 then ((spec_read.f k x0 (wrap64 (x9 + 1))).bind fun bt303 => (if bt303.2 < 0 then (some (([] : List Int), (-1))) else (if bt303.2 ≥ (x0.size : Int) then (some (([] : List Int), (-1))) else (if 0 ≤ bt303.2 then (if bt303.2 < (x0.size : Int) then (if (bt x0 bt303.2) = 41 then ((some (([15] : List Int) : List Int)).bind fun y307 => (if y307.length + x8.length < 17592186044416 then ((some (y307 ++ x8 : List Int)).bind fun y310 => (if y310.length + bt303.1.length < 17592186044416 then (some ((y310 ++ bt303.1), wrap64 (bt303.2 + 1))) else (none))) else (none))) else (some (([] : List Int), (-1)))) else (none)) else (none))))) else (if (bt x0 x9) = 62 then ((spec_read.f k x0 (wrap64 (x9 + 1))).bind fun bt316 => (if bt316.2 < 0 then (some (([] : List Int), (-1))) else (if bt316.2 ≥ (x0.size : Int) then (some (([] : List Int), (-1))) else (if 0 ≤ bt316.2 then (if bt316.2 < (x0.size : Int) then (if (bt x0 bt316.2) = 41 then ((some (([16] : List Int) : List Int)).bind fun y320 => (if y320.length + x8.length < 17592186044416 then ((some (y320 ++ x8 : List Int)).bind fun y323 => (if y323.length + bt316.1.length < 17592186044416 then (some ((y323 ++ bt316.1), wrap64 (bt316.2 + 1))) else (none))) else (none))) else (some (([] : List Int), (-1)))) else (none)) else (none))))) else (some (([] : List Int), (-1))))))) else (none)) else (none))
def spec_read.f : Nat → ByteArray → Int → Option (List Int × Int)
 | 0, _, _ => none
 | k + 1, a0, a1 => if a1 < 0 then (spec_read.j0 k a0 a1 true) else (spec_read.j0 k a0 a1 (decide (a1 ≥ (a0.size : Int))))
end
set_option maxHeartbeats 8000000 in
set_option maxRecDepth 100000 in
theorem spec_read.calls (k : Nat) : ∀ (a0 : ByteArray) (a1 : Int) (r1 : List Int) (r2 : Int) (w : World) (h : spec_read.f k a0 a1 = some (r1, r2)),
  Calls Try.prog 38 #[.string a0, .int .i64 a1] w fun e w' => ∃ v0_ : Value, e = .returned (.tuple #[v0_, .int .i64 r2]) ∧ Kd.R (Kd.int .i64) 3 w' w.heap.size (fun _ => True) v0_ r1 ∧ Below w.heap.size w w' := by
 induction k using Nat.strongRecOn with
 | _ k ih =>
 intro a0 a1 r1 r2 w h
 cases k with
 | zero => exact absurd h (by simp [spec_read.f])
 | succ k =>
 simp only [spec_read.f] at h
 have HB := ak (Below.refl w.heap.size w)
 have H : (if a1 < 0 then (spec_read.j0 k a0 a1 true) else (spec_read.j0 k a0 a1 (decide (a1 ≥ (a0.size : Int))))) = some (r1, r2) := h
 clear h
 have HC3 := ak H
 clear H
 go_enter Try.func38, Try.ntmps38
 go_upto_region 1 with (fail)
 go_cut [20] (fun v20 wc => ∃ (kq : Nat) (x20_2 : Bool), v20 = .bool x20_2 ∧ Aside0 (spec_read.j0 kq a0 a1 x20_2 = some (r1, r2)) ∧ Aside0 (kq ≤ k) ∧ Aside0 (Below w.heap.size w wc))
 case first =>
  have H := HC3.out
  clear HC3
  by_cases c4 : a1 < 0
  ·rw [if_pos c4] at H
   have c4b0 : decide (a1 < 0) = true := decide_eq_true c4
   clear c4
   (first | rw [c4b0] | (simp only [i64_w, i32_w]; rw [c4b0]) | skip)
   have H' := ak H
   clear H
   go_wp2
   go_meet
   case rel => exact ⟨_, (true), (by first | rfl | (simp; done) | (simp [*]; done)), H', ⟨by first | omega | exact Nat.le_refl _⟩, ⟨by repeat (first | (with_reducible first | exact HB.out | apply below_alloc | apply pw_below_drewN | apply below_drew1) | exact HB.out)⟩⟩
  rw [if_neg c4] at H
  have c4b0 : decide (a1 < 0) = false := decide_eq_false c4
  clear c4
  (first | rw [c4b0] | (simp only [i64_w, i32_w]; rw [c4b0]) | skip)
  have H' := ak H
  clear H
  go_wp2
  go_meet
  case rel => exact ⟨_, (decide (a1 ≥ (a0.size : Int))), (by first | rfl | (simp; done) | (simp [*]; done)), H', ⟨by first | omega | exact Nat.le_refl _⟩, ⟨by repeat (first | (with_reducible first | exact HB.out | apply below_alloc | apply pw_below_drewN | apply below_drew1) | exact HB.out)⟩⟩
 case rest =>
  clear HC3
  try clear p2
  try clear c3
  try clear c4
  try clear c4b0
  obtain ⟨kq, x20_2, rfl, HA, HJ2, HB⟩ := hcut
  cases kq with
  | zero => exact absurd HA.out (by simp [spec_read.j0])
  | succ kj2 =>
   have H := HA.out
   clear HA
   simp only [spec_read.j0] at H
   by_cases c5 : x20_2 = true
   ·subst c5
    rw [if_pos rfl] at H
    simp only [Option.some.injEq, Prod.mk.injEq] at H
    obtain ⟨rfl, rfl⟩ := H
    go_wp2
    go_ret2
    exact ⟨_, by first | rfl | (simp [errW_none, errW_some] <;> rfl) | (simp [*, errW_none, errW_some] <;> rfl), by first | exact Kd.R_nil _ _ _ _ _ | exact Kd.N_nil _ _ _ _ _ | exact Kd.V_nil _ _ _ _ _ | exact Kd.Q_nil _ _ _ _ _ | exact Kd.S_nil _ _ _ _ _, by repeat (first | (with_reducible first | exact HB.out | apply below_alloc | apply pw_below_drewN | apply below_drew1) | exact HB.out)⟩
   replace c5 := Bool.eq_false_iff.mpr c5
   subst c5
   rw [if_neg (show ¬ (false = true) by decide)] at H
   replace H := oi H
   obtain ⟨c6, H⟩ := H
   have c6b0 : decide (0 ≤ a1) = true := decide_eq_true c6
   clear c6
   replace H := oi H
   obtain ⟨c7, H⟩ := H
   have c7b0 : decide (a1 < (a0.size : Int)) = true := decide_eq_true c7
   clear c7
   have HC9 := ak H
   clear H
   have p8 : 0 ≤ (a1 : Int) := of_decide_eq_true (by first | (with_reducible assumption) | assumption)
   have q8 : a1 < (a0.size : Int) := of_decide_eq_true (by first | (with_reducible assumption) | assumption)
   have hx8 := bt_at a0 a1
   replace p8 := eq_true p8
   replace q8 := eq_true q8
   go_upto_if 24 with (fail)
   go_cut [24] (fun v24 wc => ∃ (kq : Nat) (x24_8 : Bool), v24 = .bool x24_8 ∧ Aside0 (spec_read.j1 kq a0 a1 (bt a0 a1) x24_8 = some (r1, r2)) ∧ Aside0 (kq ≤ kj2) ∧ Aside0 (Below w.heap.size w wc))
   case first =>
    have H := HC9.out
    clear HC9
    by_cases c10 : (bt a0 a1) = 120
    ·rw [if_pos c10] at H
     have c10b0 : ((bt a0 a1) == 120) = true := beq_iff_eq.mpr c10
     have c10b1 : ((bt a0 a1) != 120) = false := bne_eq_false_iff_eq.mpr c10
     clear c10
     (first | rw [c10b0] | (simp only [i64_w, i32_w]; rw [c10b0]) | skip)
     have H' := ak H
     clear H
     go_wp2
     go_meet
     case rel => exact ⟨_, (((bt a0 a1) == 120)), (by first | rfl | (simp; done) | (simp [*]; done)), H', ⟨by have := HJ2.out; first | omega | exact Nat.le_refl _⟩, ⟨by repeat (first | (with_reducible first | exact HB.out | apply below_alloc | apply pw_below_drewN | apply below_drew1) | exact HB.out)⟩⟩
    rw [if_neg c10] at H
    have c10b0 : ((bt a0 a1) == 120) = false := beq_eq_false_iff_ne.mpr c10
    have c10b1 : ((bt a0 a1) != 120) = true := bne_iff_ne.mpr c10
    (first | rw [c10b0] | (simp only [i64_w, i32_w]; rw [c10b0]) | skip)
    by_cases c11 : (bt a0 a1) = 121
    rotate_left
    ·rw [if_neg c11] at H
     have c11b0 : ((bt a0 a1) == 121) = false := beq_eq_false_iff_ne.mpr c11
     have c11b1 : ((bt a0 a1) != 121) = true := bne_iff_ne.mpr c11
     have H' := ak H
     clear H
     go_wp2
     go_meet
     case rel => exact ⟨_, (((bt a0 a1) == 122)), (by first | rfl | (simp; done) | (simp [*]; done)), H', ⟨by have := HJ2.out; first | omega | exact Nat.le_refl _⟩, ⟨by repeat (first | (with_reducible first | exact HB.out | apply below_alloc | apply pw_below_drewN | apply below_drew1) | exact HB.out)⟩⟩
    rw [if_pos c11] at H
    have c11b0 : ((bt a0 a1) == 121) = true := beq_iff_eq.mpr c11
    have c11b1 : ((bt a0 a1) != 121) = false := bne_eq_false_iff_eq.mpr c11
    clear c11
    have H' := ak H
    clear H
    go_wp2
    go_meet
    case rel => exact ⟨_, (((bt a0 a1) == 121)), (by first | rfl | (simp; done) | (simp [*]; done)), H', ⟨by have := HJ2.out; first | omega | exact Nat.le_refl _⟩, ⟨by repeat (first | (with_reducible first | exact HB.out | apply below_alloc | apply pw_below_drewN | apply below_drew1) | exact HB.out)⟩⟩
   case rest =>
    clear HC9
    try clear c1
    try clear p2
    try clear c3
    try clear c4
    try clear c4b0
    try clear c5
    try clear c6
    try clear c6b0
    try clear c7
    try clear c7b0
    try clear p8
    try clear q8
    try clear hx8
    try clear c10
    try clear c10b0
    try clear c10b1
    try clear c11
    try clear c11b0
    try clear c11b1
    try clear p2
    try clear p8
    try clear q8
    obtain ⟨kq, x24_8, rfl, HA, HJ8, HB⟩ := hcut
    cases kq with
    | zero => exact absurd HA.out (by simp [spec_read.j1])
    | succ kj8 =>
     have H := HA.out
     clear HA
     simp only [spec_read.j1] at H
     by_cases c12 : x24_8 = true
     ·subst c12
      rw [if_pos rfl] at H
      replace H := oi H
      obtain ⟨c13, H⟩ := H
      have c13b0 : decide (0 ≤ a1) = true := decide_eq_true c13
      clear c13
      replace H := oi H
      obtain ⟨c14, H⟩ := H
      have c14b0 : decide (a1 < (a0.size : Int)) = true := decide_eq_true c14
      clear c14
      obtain ⟨y254, hy254⟩ : ∃ y_ : List Int, y_ = (([((bt a0 a1) - 120) % 256] : List Int)) := ⟨_, rfl⟩
      replace H : (some (y254, wrap64 (a1 + 1))) = some (r1, r2) := by first | (rw [hy254]; with_reducible exact H) | (have H2_ := (Option.bind_some _ _).symm.trans H; rw [hy254]; with_reducible exact H2_) | (have H2_ := (Option.bind_some _ _).symm.trans H; with_reducible exact H2_) | with_reducible exact H | (rw [hy254]; exact H) | exact H
      have Ny254 := ak hy254
      clear hy254
      simp only [Option.some.injEq, Prod.mk.injEq] at H
      obtain ⟨rfl, rfl⟩ := H
      have p15 : 0 ≤ (a1 : Int) := of_decide_eq_true (by first | (with_reducible assumption) | assumption)
      have q15 : a1 < (a0.size : Int) := of_decide_eq_true (by first | (with_reducible assumption) | assumption)
      have hx15 := bt_at a0 a1
      replace p15 := eq_true p15
      replace q15 := eq_true q15
      go_wp2_with (first | ((with_reducible refine gate_dst (N := 33) rfl ?_); (try (refine gate_guard (by rfl) ?_; dsimp only)); refine Kd.R_lit (Kd.int .i64) _ 3 ?hg (N := 33) ?hd (xs := ([((bt a0 a1) - 120) % 256] : List Int)) (inner := [.int .i64 (((bt a0 a1) - 120) % 256)]) (ok := fun _ => True) (okp := fun _ => True) ?hr ?hp (fun _ hk => hk) trivial (Below.refl _ _) (Nat.le_refl _) (by simp) ?_; (case hd => rfl); (case hg => rfl); (case hr => first | (go_simp; done) | (go_simp; rfl)); (case hp => exact (Reps.one (show Kd.M (Kd.int .i64) _ _ _ (((bt a0 a1) - 120) % 256) [.int .i64 (((bt a0 a1) - 120) % 256)] from rfl) (Reps.none _ _))); intro v255 w16 ho17 hb hg_ hnew_; clear hg_ hnew_; (first | rw [← Ny254.out] at ho17 | (simp only [Int.reduceToNat] at ho17; rw [← Ny254.out] at ho17)); have HO256 := ak (Kd.R_lower ho17 (below_size (bB HB.out))); replace HB := ak (below_step (bB HB.out) hb); clear hb ho17))
      go_ret2
      exact ⟨_, by first | rfl | (simp [errW_none, errW_some] <;> rfl) | (simp [*, errW_none, errW_some] <;> rfl), by (with_reducible repeat (first | apply Kd.R_alloc | apply Kd.R_drewN | apply Kd.R_drew)); exact HO256.out, by repeat (first | (with_reducible first | exact HB.out | apply below_alloc | apply pw_below_drewN | apply below_drew1) | exact HB.out)⟩
     replace c12 := Bool.eq_false_iff.mpr c12
     subst c12
     rw [if_neg (show ¬ (false = true) by decide)] at H
     by_cases c18 : (bt a0 a1) = 48
     ·rw [if_pos c18] at H
      have c18b0 : ((bt a0 a1) == 48) = true := beq_iff_eq.mpr c18
      have c18b1 : ((bt a0 a1) != 48) = false := bne_eq_false_iff_eq.mpr c18
      clear c18
      obtain ⟨y257, hy257⟩ : ∃ y_ : List Int, y_ = (([10] : List Int)) := ⟨_, rfl⟩
      replace H : (some (y257, wrap64 (a1 + 1))) = some (r1, r2) := by first | (rw [hy257]; with_reducible exact H) | (have H2_ := (Option.bind_some _ _).symm.trans H; rw [hy257]; with_reducible exact H2_) | (have H2_ := (Option.bind_some _ _).symm.trans H; with_reducible exact H2_) | with_reducible exact H | (rw [hy257]; exact H) | exact H
      have Ny257 := ak hy257
      clear hy257
      simp only [Option.some.injEq, Prod.mk.injEq] at H
      obtain ⟨rfl, rfl⟩ := H
      go_wp2_with (first | ((with_reducible refine gate_dst (N := 38) rfl ?_); (try (refine gate_guard (by rfl) ?_; dsimp only)); refine Kd.R_lit (Kd.int .i64) _ 3 ?hg (N := 38) ?hd (xs := ([10] : List Int)) (inner := [.int .i64 10]) (ok := fun _ => True) (okp := fun _ => True) ?hr ?hp (fun _ hk => hk) trivial (Below.refl _ _) (Nat.le_refl _) (by simp) ?_; (case hd => rfl); (case hg => rfl); (case hr => first | (go_simp; done) | (go_simp; rfl)); (case hp => exact (Reps.one (show Kd.M (Kd.int .i64) _ _ _ 10 [.int .i64 10] from rfl) (Reps.none _ _))); intro v258 w19 ho20 hb hg_ hnew_; clear hg_ hnew_; (first | rw [← Ny257.out] at ho20 | (simp only [Int.reduceToNat] at ho20; rw [← Ny257.out] at ho20)); have HO259 := ak (Kd.R_lower ho20 (below_size (bB HB.out))); replace HB := ak (below_step (bB HB.out) hb); clear hb ho20))
      go_ret2
      exact ⟨_, by first | rfl | (simp [errW_none, errW_some] <;> rfl) | (simp [*, errW_none, errW_some] <;> rfl), by (with_reducible repeat (first | apply Kd.R_alloc | apply Kd.R_drewN | apply Kd.R_drew)); exact HO259.out, by repeat (first | (with_reducible first | exact HB.out | apply below_alloc | apply pw_below_drewN | apply below_drew1) | exact HB.out)⟩
     rw [if_neg c18] at H
     have c18b0 : ((bt a0 a1) == 48) = false := beq_eq_false_iff_ne.mpr c18
     have c18b1 : ((bt a0 a1) != 48) = true := bne_iff_ne.mpr c18
     by_cases c21 : (bt a0 a1) = 49
     ·rw [if_pos c21] at H
      have c21b0 : ((bt a0 a1) == 49) = true := beq_iff_eq.mpr c21
      have c21b1 : ((bt a0 a1) != 49) = false := bne_eq_false_iff_eq.mpr c21
      clear c21
      obtain ⟨y260, hy260⟩ : ∃ y_ : List Int, y_ = (([11] : List Int)) := ⟨_, rfl⟩
      replace H : (some (y260, wrap64 (a1 + 1))) = some (r1, r2) := by first | (rw [hy260]; with_reducible exact H) | (have H2_ := (Option.bind_some _ _).symm.trans H; rw [hy260]; with_reducible exact H2_) | (have H2_ := (Option.bind_some _ _).symm.trans H; with_reducible exact H2_) | with_reducible exact H | (rw [hy260]; exact H) | exact H
      have Ny260 := ak hy260
      clear hy260
      simp only [Option.some.injEq, Prod.mk.injEq] at H
      obtain ⟨rfl, rfl⟩ := H
      go_wp2_with (first | ((with_reducible refine gate_dst (N := 43) rfl ?_); (try (refine gate_guard (by rfl) ?_; dsimp only)); refine Kd.R_lit (Kd.int .i64) _ 3 ?hg (N := 43) ?hd (xs := ([11] : List Int)) (inner := [.int .i64 11]) (ok := fun _ => True) (okp := fun _ => True) ?hr ?hp (fun _ hk => hk) trivial (Below.refl _ _) (Nat.le_refl _) (by simp) ?_; (case hd => rfl); (case hg => rfl); (case hr => first | (go_simp; done) | (go_simp; rfl)); (case hp => exact (Reps.one (show Kd.M (Kd.int .i64) _ _ _ 11 [.int .i64 11] from rfl) (Reps.none _ _))); intro v261 w22 ho23 hb hg_ hnew_; clear hg_ hnew_; (first | rw [← Ny260.out] at ho23 | (simp only [Int.reduceToNat] at ho23; rw [← Ny260.out] at ho23)); have HO262 := ak (Kd.R_lower ho23 (below_size (bB HB.out))); replace HB := ak (below_step (bB HB.out) hb); clear hb ho23))
      go_ret2
      exact ⟨_, by first | rfl | (simp [errW_none, errW_some] <;> rfl) | (simp [*, errW_none, errW_some] <;> rfl), by (with_reducible repeat (first | apply Kd.R_alloc | apply Kd.R_drewN | apply Kd.R_drew)); exact HO262.out, by repeat (first | (with_reducible first | exact HB.out | apply below_alloc | apply pw_below_drewN | apply below_drew1) | exact HB.out)⟩
     rw [if_neg c21] at H
     have c21b0 : ((bt a0 a1) == 49) = false := beq_eq_false_iff_ne.mpr c21
     have c21b1 : ((bt a0 a1) != 49) = true := bne_iff_ne.mpr c21
     by_cases c24 : (bt a0 a1) = 45
     ·rw [if_pos c24] at H
      have c24b0 : ((bt a0 a1) == 45) = true := beq_iff_eq.mpr c24
      have c24b1 : ((bt a0 a1) != 45) = false := bne_eq_false_iff_eq.mpr c24
      clear c24
      replace H := bi H
      obtain ⟨⟨t263, t264⟩, A250, H⟩ := H
      try dsimp only at H
      have A25 := ak A250
      clear A250
      obtain ⟨y267, hy267⟩ : ∃ y_ : List Int, y_ = (([12] : List Int)) := ⟨_, rfl⟩
      replace H : (if y267.length + t263.length < 17592186044416 then (some ((y267 ++ t263), t264)) else (none)) = some (r1, r2) := by first | (rw [hy267]; with_reducible exact H) | (have H2_ := (Option.bind_some _ _).symm.trans H; rw [hy267]; with_reducible exact H2_) | (have H2_ := (Option.bind_some _ _).symm.trans H; with_reducible exact H2_) | with_reducible exact H | (rw [hy267]; exact H) | exact H
      have Ny267 := ak hy267
      clear hy267
      replace H := oi H
      obtain ⟨c26, H⟩ := H
      have LMc26 := ak c26
      clear c26
      obtain ⟨y270, hy270⟩ : ∃ y_ : List Int, y_ = (y267 ++ t263) := ⟨_, rfl⟩
      replace H : (some (y270, t264)) = some (r1, r2) := by first | (rw [hy270]; with_reducible exact H) | (have H2_ := (Option.bind_some _ _).symm.trans H; rw [hy270]; with_reducible exact H2_) | (have H2_ := (Option.bind_some _ _).symm.trans H; with_reducible exact H2_) | with_reducible exact H | (rw [hy270]; exact H) | exact H
      have Ny270 := ak hy270
      clear hy270
      simp only [Option.some.injEq, Prod.mk.injEq] at H
      obtain ⟨rfl, rfl⟩ := H
      go_wp2_with (first | ((with_reducible refine gate_callee (f := 38) rfl ?_); refine goesL_ (some 52) rfl rfl Try.func38 (by kernel_rfl) rfl #[.string a0, .int .i64 (wrap64 (a1 + 1))] rfl (by (try simp only [List.map_toArray, List.map_cons, List.map_nil]); first | done | rfl | (simp only [List.length_drop, List.length_take]; rfl)) ?_; (with_reducible refine (ih kj8 (by have := HJ2.out; have := HJ8.out; omega) a0 (wrap64 (a1 + 1)) t263 t264 _ A25.out).mono ?_); rintro e w27 ⟨v265, rfl, ho0, hb⟩; refine ⟨_, rfl, ?_⟩; have HO266 := ak (Kd.R_lower ho0 (below_size (bB HB.out))); replace HB := ak (below_step (bB HB.out) hb); (try clear hb); (try clear hb2); (try clear hk); (try clear hi); (try clear ho0)) | ((with_reducible refine gate_dst (N := 55) rfl ?_); (try (refine gate_guard (by rfl) ?_; dsimp only)); refine Kd.R_lit (Kd.int .i64) _ 3 ?hg (N := 55) ?hd (xs := ([12] : List Int)) (inner := [.int .i64 12]) (ok := fun _ => True) (okp := fun _ => True) ?hr ?hp (fun _ hk => hk) trivial (Below.refl _ _) (Nat.le_refl _) (by simp) ?_; (case hd => rfl); (case hg => rfl); (case hr => first | (go_simp; done) | (go_simp; rfl)); (case hp => exact (Reps.one (show Kd.M (Kd.int .i64) _ _ _ 12 [.int .i64 12] from rfl) (Reps.none _ _))); intro v268 w28 ho29 hb hg_ hnew_; clear hg_ hnew_; (first | rw [← Ny267.out] at ho29 | (simp only [Int.reduceToNat] at ho29; rw [← Ny267.out] at ho29)); have HO269 := ak (Kd.R_lower (Kd.R_new' ho29 (Kd.R_lt (kR HO266.out))) (below_size (bB HB.out))); replace HO266 := ak (Kd.R_elder' (kR HO266.out) (Kd.R_base ho29) hb); replace HB := ak (below_step (bB HB.out) hb); clear hb ho29; obtain ⟨Ao31, co31, eo31⟩ := Kd.R_slice HO266.out; subst eo31) | ((with_reducible refine gate_builtin (b := .append) (xs := #[.tmp 55, .tmp 56]) rfl ?_); (try (refine gate_guard (by rfl) ?_; dsimp only)); at_builtin; refine Kd.R_append_rows (Kd.int .i64) (w0 := w) w.heap.size rfl (.tmp 55) (.tmp 56) 22 3 (.int .i64 0) 8 rfl Try.underlying22 info3 rfl (by decide) (by omega) v268 y267 t263 _ _ _ (fun k_ => some k_ ≠ (.slice Ao31 t263.length co31 : Value).ownBlock) (fun _ => False) rfl rfl ?aO ?aR (fun _ _ h => h) (fun _ h => h.elim) ?aF ?aB ?aS ?aL ?_; (case aR => repeat (first | exact (Kd.R_reads' HO266.out).2.2 | (with_reducible refine Kd.C_alloc ?_ _) | (with_reducible refine Kd.C_drewN ?_ _) | (with_reducible refine Kd.C_drew ?_))); (case aB => exact (bB HB.out)); (case aF => exact (fun k_ hk => Kd.fresh' (Kd.R_lt (kR HO266.out)) k_ hk)); (case aO => exact (kR (Kd.R_mono HO269.out (fun _ hk => hk.2)))); (case aS => exact (below_size (bB HB.out))); (case aL => have := LMc26.out; omega); intro v271 w30 ho hb hg hat; rw [← Ny270.out] at ho; replace HO266 := ak (Kd.R_after (ok := (fun _ => True)) (kR HO266.out) hg hat); replace HB := ak (hb); have HO272 := ak (ho); clear HO269; clear ho hb hg hat))
      go_ret2
      exact ⟨_, by first | rfl | (simp [errW_none, errW_some] <;> rfl) | (simp [*, errW_none, errW_some] <;> rfl), by (with_reducible repeat (first | apply Kd.R_alloc | apply Kd.R_drewN | apply Kd.R_drew)); exact Kd.R_mono HO272.out (fun _ hk => trivial), by repeat (first | (with_reducible first | exact HB.out | apply below_alloc | apply pw_below_drewN | apply below_drew1) | exact HB.out)⟩
     rw [if_neg c24] at H
     have c24b0 : ((bt a0 a1) == 45) = false := beq_eq_false_iff_ne.mpr c24
     have c24b1 : ((bt a0 a1) != 45) = true := bne_iff_ne.mpr c24
     by_cases c32 : (bt a0 a1) = 40
     rotate_left
     ·rw [if_neg c32] at H
      have c32b0 : ((bt a0 a1) == 40) = false := beq_eq_false_iff_ne.mpr c32
      have c32b1 : ((bt a0 a1) != 40) = true := bne_iff_ne.mpr c32
      simp only [Option.some.injEq, Prod.mk.injEq] at H
      obtain ⟨rfl, rfl⟩ := H
      go_wp2
      go_ret2
      exact ⟨_, by first | rfl | (simp [errW_none, errW_some] <;> rfl) | (simp [*, errW_none, errW_some] <;> rfl), by first | exact Kd.R_nil _ _ _ _ _ | exact Kd.N_nil _ _ _ _ _ | exact Kd.V_nil _ _ _ _ _ | exact Kd.Q_nil _ _ _ _ _ | exact Kd.S_nil _ _ _ _ _, by repeat (first | (with_reducible first | exact HB.out | apply below_alloc | apply pw_below_drewN | apply below_drew1) | exact HB.out)⟩
     rw [if_pos c32] at H
     have c32b0 : ((bt a0 a1) == 40) = true := beq_iff_eq.mpr c32
     have c32b1 : ((bt a0 a1) != 40) = false := bne_eq_false_iff_eq.mpr c32
     clear c32
     replace H := bi H
     obtain ⟨⟨t273, t274⟩, A330, H⟩ := H
     try dsimp only at H
     have A33 := ak A330
     clear A330
     have HC34 := ak H
     clear H
     go_upto_region 17 with (first | ((with_reducible refine gate_callee (f := 38) rfl ?_); refine goesL_ (some 65) rfl rfl Try.func38 (by kernel_rfl) rfl #[.string a0, .int .i64 (wrap64 (a1 + 1))] rfl (by (try simp only [List.map_toArray, List.map_cons, List.map_nil]); first | done | rfl | (simp only [List.length_drop, List.length_take]; rfl)) ?_; (with_reducible refine (ih kj8 (by have := HJ2.out; have := HJ8.out; omega) a0 (wrap64 (a1 + 1)) t273 t274 _ A33.out).mono ?_); rintro e w35 ⟨v275, rfl, ho0, hb⟩; refine ⟨_, rfl, ?_⟩; have HO276 := ak (Kd.R_lower ho0 (below_size (bB HB.out))); replace HB := ak (below_step (bB HB.out) hb); (try clear hb); (try clear hb2); (try clear hk); (try clear hi); (try clear ho0)))
     (try simp only [Act.put, List.setIfInBounds_toArray, List.set_cons_zero, List.set_cons_succ])
     go_cut [75] (fun v75 wc => ∃ (kq : Nat) (x75_33 : Bool), v75 = .bool x75_33 ∧ Aside0 (spec_read.j2 kq a0 t273 t274 x75_33 = some (r1, r2)) ∧ Aside0 (kq ≤ kj8) ∧ Aside0 (Kd.R (Kd.int .i64) 3 wc w.heap.size (fun _ => True) v275 t273) ∧ Aside0 (Below w.heap.size w wc))
     case first =>
      have H := HC34.out
      clear HC34
      by_cases c36 : t274 < 0
      ·rw [if_pos c36] at H
       have c36b0 : decide (t274 < 0) = true := decide_eq_true c36
       clear c36
       (first | rw [c36b0] | (simp only [i64_w, i32_w]; rw [c36b0]) | skip)
       have H' := ak H
       clear H
       go_wp2
       go_meet
       case rel => exact ⟨_, (true), (by first | rfl | (simp; done) | (simp [*]; done)), H', ⟨by have := HJ2.out; have := HJ8.out; first | omega | exact Nat.le_refl _⟩, ⟨by (with_reducible repeat (first | apply Kd.R_alloc | apply Kd.R_drewN | apply Kd.R_drew)); exact HO276.out⟩, ⟨by repeat (first | (with_reducible first | exact HB.out | apply below_alloc | apply pw_below_drewN | apply below_drew1) | exact HB.out)⟩⟩
      rw [if_neg c36] at H
      have c36b0 : decide (t274 < 0) = false := decide_eq_false c36
      clear c36
      (first | rw [c36b0] | (simp only [i64_w, i32_w]; rw [c36b0]) | skip)
      have H' := ak H
      clear H
      go_wp2
      go_meet
      case rel => exact ⟨_, (decide (t274 ≥ (a0.size : Int))), (by first | rfl | (simp; done) | (simp [*]; done)), H', ⟨by have := HJ2.out; have := HJ8.out; first | omega | exact Nat.le_refl _⟩, ⟨by (with_reducible repeat (first | apply Kd.R_alloc | apply Kd.R_drewN | apply Kd.R_drew)); exact HO276.out⟩, ⟨by repeat (first | (with_reducible first | exact HB.out | apply below_alloc | apply pw_below_drewN | apply below_drew1) | exact HB.out)⟩⟩
     case rest =>
      clear HC34
      try clear c1
      try clear p1
      try clear q1
      try clear hx1
      try clear c2
      try clear p2
      try clear c3
      try clear c4
      try clear c4b0
      try clear c5
      try clear c6
      try clear c6b0
      try clear p6
      try clear c7
      try clear c7b0
      try clear p8
      try clear q8
      try clear hx8
      try clear c10
      try clear c10b0
      try clear c10b1
      try clear c11
      try clear c11b0
      try clear c11b1
      try clear c12
      try clear c13
      try clear c13b0
      try clear c14
      try clear c14b0
      try clear p15
      try clear q15
      try clear hx15
      try clear c18
      try clear c18b0
      try clear c18b1
      try clear c21
      try clear c21b0
      try clear c21b1
      try clear c24
      try clear c24b0
      try clear c24b1
      try clear c26
      try clear c32
      try clear c32b0
      try clear c32b1
      try clear c36
      try clear c36b0
      try clear p15
      try clear p2
      try clear p8
      try clear q15
      try clear q8
      obtain ⟨kq, x75_33, rfl, HA, HJ33, HO_8, HB⟩ := hcut
      cases kq with
      | zero => exact absurd HA.out (by simp [spec_read.j2])
      | succ kj33 =>
       have H := HA.out
       clear HA
       simp only [spec_read.j2] at H
       by_cases c37 : x75_33 = true
       ·subst c37
        rw [if_pos rfl] at H
        simp only [Option.some.injEq, Prod.mk.injEq] at H
        obtain ⟨rfl, rfl⟩ := H
        go_wp2
        go_ret2
        exact ⟨_, by first | rfl | (simp [errW_none, errW_some] <;> rfl) | (simp [*, errW_none, errW_some] <;> rfl), by first | exact Kd.R_nil _ _ _ _ _ | exact Kd.N_nil _ _ _ _ _ | exact Kd.V_nil _ _ _ _ _ | exact Kd.Q_nil _ _ _ _ _ | exact Kd.S_nil _ _ _ _ _, by repeat (first | (with_reducible first | exact HB.out | apply below_alloc | apply pw_below_drewN | apply below_drew1) | exact HB.out)⟩
       replace c37 := Bool.eq_false_iff.mpr c37
       subst c37
       rw [if_neg (show ¬ (false = true) by decide)] at H
       replace H := oi H
       obtain ⟨c38, H⟩ := H
       have c38b0 : decide (0 ≤ t274) = true := decide_eq_true c38
       clear c38
       replace H := oi H
       obtain ⟨c39, H⟩ := H
       have c39b0 : decide (t274 < (a0.size : Int)) = true := decide_eq_true c39
       clear c39
       by_cases c41 : (bt a0 t274) = 38
       ·rw [if_pos c41] at H
        have c41b0 : ((bt a0 t274) == 38) = true := beq_iff_eq.mpr c41
        have c41b1 : ((bt a0 t274) != 38) = false := bne_eq_false_iff_eq.mpr c41
        clear c41
        replace H := bi H
        obtain ⟨⟨t277, t278⟩, A420, H⟩ := H
        try dsimp only at H
        have A42 := ak A420
        clear A420
        by_cases c43 : t278 < 0
        ·rw [if_pos c43] at H
         have c43b0 : decide (t278 < 0) = true := decide_eq_true c43
         clear c43
         simp only [Option.some.injEq, Prod.mk.injEq] at H
         obtain ⟨rfl, rfl⟩ := H
         have p40 : 0 ≤ (t274 : Int) := of_decide_eq_true (by first | (with_reducible assumption) | assumption)
         have q40 : t274 < (a0.size : Int) := of_decide_eq_true (by first | (with_reducible assumption) | assumption)
         have hx40 := bt_at a0 t274
         replace p40 := eq_true p40
         replace q40 := eq_true q40
         go_wp2_with (first | ((with_reducible refine gate_callee (f := 38) rfl ?_); refine goesL_ (some 91) rfl rfl Try.func38 (by kernel_rfl) rfl #[.string a0, .int .i64 (wrap64 (t274 + 1))] rfl (by (try simp only [List.map_toArray, List.map_cons, List.map_nil]); first | done | rfl | (simp only [List.length_drop, List.length_take]; rfl)) ?_; (with_reducible refine (ih kj33 (by have := HJ2.out; have := HJ8.out; have := HJ33.out; omega) a0 (wrap64 (t274 + 1)) t277 t278 _ A42.out).mono ?_); rintro e w44 ⟨v279, rfl, ho0, hb⟩; refine ⟨_, rfl, ?_⟩; have HO280 := ak (Kd.R_lower (Kd.R_new' ho0 (Kd.R_lt (kR HO_8.out))) (below_size (bB HB.out))); replace HO_8 := ak (Kd.R_elder' (kR HO_8.out) (Kd.R_base ho0) hb); replace HB := ak (below_step (bB HB.out) hb); (try clear hb); (try clear hb2); (try clear hk); (try clear hi); (try clear ho0)))
         go_ret2
         exact ⟨_, by first | rfl | (simp [errW_none, errW_some] <;> rfl) | (simp [*, errW_none, errW_some] <;> rfl), by first | exact Kd.R_nil _ _ _ _ _ | exact Kd.N_nil _ _ _ _ _ | exact Kd.V_nil _ _ _ _ _ | exact Kd.Q_nil _ _ _ _ _ | exact Kd.S_nil _ _ _ _ _, by repeat (first | (with_reducible first | exact HB.out | apply below_alloc | apply pw_below_drewN | apply below_drew1) | exact HB.out)⟩
        rw [if_neg c43] at H
        have c43b0 : decide (t278 < 0) = false := decide_eq_false c43
        clear c43
        by_cases c45 : t278 ≥ (a0.size : Int)
        ·rw [if_pos c45] at H
         have c45b0 : decide ((a0.size : Int) ≤ t278) = true := decide_eq_true c45
         clear c45
         simp only [Option.some.injEq, Prod.mk.injEq] at H
         obtain ⟨rfl, rfl⟩ := H
         have p40 : 0 ≤ (t274 : Int) := of_decide_eq_true (by first | (with_reducible assumption) | assumption)
         have q40 : t274 < (a0.size : Int) := of_decide_eq_true (by first | (with_reducible assumption) | assumption)
         have hx40 := bt_at a0 t274
         replace p40 := eq_true p40
         replace q40 := eq_true q40
         go_wp2_with (first | ((with_reducible refine gate_callee (f := 38) rfl ?_); refine goesL_ (some 91) rfl rfl Try.func38 (by kernel_rfl) rfl #[.string a0, .int .i64 (wrap64 (t274 + 1))] rfl (by (try simp only [List.map_toArray, List.map_cons, List.map_nil]); first | done | rfl | (simp only [List.length_drop, List.length_take]; rfl)) ?_; (with_reducible refine (ih kj33 (by have := HJ2.out; have := HJ8.out; have := HJ33.out; omega) a0 (wrap64 (t274 + 1)) t277 t278 _ A42.out).mono ?_); rintro e w46 ⟨v279, rfl, ho0, hb⟩; refine ⟨_, rfl, ?_⟩; have HO280 := ak (Kd.R_lower (Kd.R_new' ho0 (Kd.R_lt (kR HO_8.out))) (below_size (bB HB.out))); replace HO_8 := ak (Kd.R_elder' (kR HO_8.out) (Kd.R_base ho0) hb); replace HB := ak (below_step (bB HB.out) hb); (try clear hb); (try clear hb2); (try clear hk); (try clear hi); (try clear ho0)))
         go_ret2
         exact ⟨_, by first | rfl | (simp [errW_none, errW_some] <;> rfl) | (simp [*, errW_none, errW_some] <;> rfl), by first | exact Kd.R_nil _ _ _ _ _ | exact Kd.N_nil _ _ _ _ _ | exact Kd.V_nil _ _ _ _ _ | exact Kd.Q_nil _ _ _ _ _ | exact Kd.S_nil _ _ _ _ _, by repeat (first | (with_reducible first | exact HB.out | apply below_alloc | apply pw_below_drewN | apply below_drew1) | exact HB.out)⟩
        rw [if_neg c45] at H
        have c45b0 : decide ((a0.size : Int) ≤ t278) = false := decide_eq_false c45
        clear c45
        replace H := oi H
        obtain ⟨c47, H⟩ := H
        have c47b0 : decide (0 ≤ t278) = true := decide_eq_true c47
        clear c47
        replace H := oi H
        obtain ⟨c48, H⟩ := H
        have c48b0 : decide (t278 < (a0.size : Int)) = true := decide_eq_true c48
        clear c48
        by_cases c50 : (bt a0 t278) = 41
        rotate_left
        ·rw [if_neg c50] at H
         have c50b0 : ((bt a0 t278) == 41) = false := beq_eq_false_iff_ne.mpr c50
         have c50b1 : ((bt a0 t278) != 41) = true := bne_iff_ne.mpr c50
         simp only [Option.some.injEq, Prod.mk.injEq] at H
         obtain ⟨rfl, rfl⟩ := H
         have p40 : 0 ≤ (t274 : Int) := of_decide_eq_true (by first | (with_reducible assumption) | assumption)
         have q40 : t274 < (a0.size : Int) := of_decide_eq_true (by first | (with_reducible assumption) | assumption)
         have hx40 := bt_at a0 t274
         replace p40 := eq_true p40
         replace q40 := eq_true q40
         go_wp2_with (first | ((with_reducible refine gate_callee (f := 38) rfl ?_); refine goesL_ (some 91) rfl rfl Try.func38 (by kernel_rfl) rfl #[.string a0, .int .i64 (wrap64 (t274 + 1))] rfl (by (try simp only [List.map_toArray, List.map_cons, List.map_nil]); first | done | rfl | (simp only [List.length_drop, List.length_take]; rfl)) ?_; (with_reducible refine (ih kj33 (by have := HJ2.out; have := HJ8.out; have := HJ33.out; omega) a0 (wrap64 (t274 + 1)) t277 t278 _ A42.out).mono ?_); rintro e w60 ⟨v279, rfl, ho0, hb⟩; refine ⟨_, rfl, ?_⟩; have HO280 := ak (Kd.R_lower (Kd.R_new' ho0 (Kd.R_lt (kR HO_8.out))) (below_size (bB HB.out))); replace HO_8 := ak (Kd.R_elder' (kR HO_8.out) (Kd.R_base ho0) hb); replace HB := ak (below_step (bB HB.out) hb); (try clear hb); (try clear hb2); (try clear hk); (try clear hi); (try clear ho0); have p49 : 0 ≤ (t278 : Int) := of_decide_eq_true (by first | (with_reducible assumption) | assumption); have q49 : t278 < (a0.size : Int) := of_decide_eq_true (by first | (with_reducible assumption) | assumption); have hx49 := bt_at a0 t278; replace p49 := eq_true p49; replace q49 := eq_true q49))
         go_ret2
         exact ⟨_, by first | rfl | (simp [errW_none, errW_some] <;> rfl) | (simp [*, errW_none, errW_some] <;> rfl), by first | exact Kd.R_nil _ _ _ _ _ | exact Kd.N_nil _ _ _ _ _ | exact Kd.V_nil _ _ _ _ _ | exact Kd.Q_nil _ _ _ _ _ | exact Kd.S_nil _ _ _ _ _, by repeat (first | (with_reducible first | exact HB.out | apply below_alloc | apply pw_below_drewN | apply below_drew1) | exact HB.out)⟩
        rw [if_pos c50] at H
        have c50b0 : ((bt a0 t278) == 41) = true := beq_iff_eq.mpr c50
        have c50b1 : ((bt a0 t278) != 41) = false := bne_eq_false_iff_eq.mpr c50
        clear c50
        obtain ⟨y281, hy281⟩ : ∃ y_ : List Int, y_ = (([13] : List Int)) := ⟨_, rfl⟩
        replace H : (if y281.length + t273.length < 17592186044416 then ((some (y281 ++ t273 : List Int)).bind fun y284 => (if y284.length + t277.length < 17592186044416 then (some ((y284 ++ t277), wrap64 (t278 + 1))) else (none))) else (none)) = some (r1, r2) := by first | (rw [hy281]; with_reducible exact H) | (have H2_ := (Option.bind_some _ _).symm.trans H; rw [hy281]; with_reducible exact H2_) | (have H2_ := (Option.bind_some _ _).symm.trans H; with_reducible exact H2_) | with_reducible exact H | (rw [hy281]; exact H) | exact H
        have Ny281 := ak hy281
        clear hy281
        replace H := oi H
        obtain ⟨c51, H⟩ := H
        have LMc51 := ak c51
        clear c51
        obtain ⟨y284, hy284⟩ : ∃ y_ : List Int, y_ = (y281 ++ t273) := ⟨_, rfl⟩
        replace H : (if y284.length + t277.length < 17592186044416 then (some ((y284 ++ t277), wrap64 (t278 + 1))) else (none)) = some (r1, r2) := by first | (rw [hy284]; with_reducible exact H) | (have H2_ := (Option.bind_some _ _).symm.trans H; rw [hy284]; with_reducible exact H2_) | (have H2_ := (Option.bind_some _ _).symm.trans H; with_reducible exact H2_) | with_reducible exact H | (rw [hy284]; exact H) | exact H
        have Ny284 := ak hy284
        clear hy284
        replace H := oi H
        obtain ⟨c52, H⟩ := H
        have LMc52 := ak c52
        clear c52
        obtain ⟨y287, hy287⟩ : ∃ y_ : List Int, y_ = (y284 ++ t277) := ⟨_, rfl⟩
        replace H : (some (y287, wrap64 (t278 + 1))) = some (r1, r2) := by first | (rw [hy287]; with_reducible exact H) | (have H2_ := (Option.bind_some _ _).symm.trans H; rw [hy287]; with_reducible exact H2_) | (have H2_ := (Option.bind_some _ _).symm.trans H; with_reducible exact H2_) | with_reducible exact H | (rw [hy287]; exact H) | exact H
        have Ny287 := ak hy287
        clear hy287
        simp only [Option.some.injEq, Prod.mk.injEq] at H
        obtain ⟨rfl, rfl⟩ := H
        have p40 : 0 ≤ (t274 : Int) := of_decide_eq_true (by first | (with_reducible assumption) | assumption)
        have q40 : t274 < (a0.size : Int) := of_decide_eq_true (by first | (with_reducible assumption) | assumption)
        have hx40 := bt_at a0 t274
        replace p40 := eq_true p40
        replace q40 := eq_true q40
        go_wp2_with (first | ((with_reducible refine gate_callee (f := 38) rfl ?_); refine goesL_ (some 91) rfl rfl Try.func38 (by kernel_rfl) rfl #[.string a0, .int .i64 (wrap64 (t274 + 1))] rfl (by (try simp only [List.map_toArray, List.map_cons, List.map_nil]); first | done | rfl | (simp only [List.length_drop, List.length_take]; rfl)) ?_; (with_reducible refine (ih kj33 (by have := HJ2.out; have := HJ8.out; have := HJ33.out; omega) a0 (wrap64 (t274 + 1)) t277 t278 _ A42.out).mono ?_); rintro e w53 ⟨v279, rfl, ho0, hb⟩; refine ⟨_, rfl, ?_⟩; have HO280 := ak (Kd.R_lower (Kd.R_new' ho0 (Kd.R_lt (kR HO_8.out))) (below_size (bB HB.out))); replace HO_8 := ak (Kd.R_elder' (kR HO_8.out) (Kd.R_base ho0) hb); replace HB := ak (below_step (bB HB.out) hb); (try clear hb); (try clear hb2); (try clear hk); (try clear hi); (try clear ho0); have p49 : 0 ≤ (t278 : Int) := of_decide_eq_true (by first | (with_reducible assumption) | assumption); have q49 : t278 < (a0.size : Int) := of_decide_eq_true (by first | (with_reducible assumption) | assumption); have hx49 := bt_at a0 t278; replace p49 := eq_true p49; replace q49 := eq_true q49) | ((with_reducible refine gate_dst (N := 109) rfl ?_); (try (refine gate_guard (by rfl) ?_; dsimp only)); refine Kd.R_lit (Kd.int .i64) _ 3 ?hg (N := 109) ?hd (xs := ([13] : List Int)) (inner := [.int .i64 13]) (ok := fun _ => True) (okp := fun _ => True) ?hr ?hp (fun _ hk => hk) trivial (Below.refl _ _) (Nat.le_refl _) (by simp) ?_; (case hd => rfl); (case hg => rfl); (case hr => first | (go_simp; done) | (go_simp; rfl)); (case hp => exact (Reps.one (show Kd.M (Kd.int .i64) _ _ _ 13 [.int .i64 13] from rfl) (Reps.none _ _))); intro v282 w54 ho55 hb hg_ hnew_; clear hg_ hnew_; (first | rw [← Ny281.out] at ho55 | (simp only [Int.reduceToNat] at ho55; rw [← Ny281.out] at ho55)); have HO283 := ak (Kd.R_lower (Kd.R_new' (Kd.R_new' ho55 (Kd.R_lt (kR HO_8.out))) (Kd.R_lt (kR HO280.out))) (below_size (bB HB.out))); replace HO_8 := ak (Kd.R_elder' (kR HO_8.out) (Kd.R_base ho55) hb); replace HO280 := ak (Kd.R_elder' (kR HO280.out) (Kd.R_base ho55) hb); replace HB := ak (below_step (bB HB.out) hb); clear hb ho55; obtain ⟨Ao57, co57, eo57⟩ := Kd.R_slice HO_8.out; subst eo57) | ((with_reducible refine gate_builtin (b := .append) (xs := #[.tmp 109, .tmp 110]) rfl ?_); (try (refine gate_guard (by rfl) ?_; dsimp only)); at_builtin; refine Kd.R_append_rows (Kd.int .i64) (w0 := w) w.heap.size rfl (.tmp 109) (.tmp 110) 22 3 (.int .i64 0) 8 rfl Try.underlying22 info3 rfl (by decide) (by omega) v282 y281 t273 _ _ _ (fun k_ => some k_ ≠ (.slice Ao57 t273.length co57 : Value).ownBlock ∧ some k_ ≠ (v279 : Value).ownBlock) (fun _ => False) rfl rfl ?aO ?aR (fun _ _ h => h) (fun _ h => h.elim) ?aF ?aB ?aS ?aL ?_; (case aR => repeat (first | exact (Kd.R_reads' HO_8.out).2.2 | (with_reducible refine Kd.C_alloc ?_ _) | (with_reducible refine Kd.C_drewN ?_ _) | (with_reducible refine Kd.C_drew ?_))); (case aB => exact (bB HB.out)); (case aF => exact (fun k_ hk => ⟨Kd.fresh' (Kd.R_lt (kR HO_8.out)) k_ hk, Kd.fresh' (Kd.R_lt (kR HO280.out)) k_ hk⟩)); (case aO => exact (kR (Kd.R_mono HO283.out (fun _ hk => ⟨hk.1.2, hk.2⟩)))); (case aS => exact (below_size (bB HB.out))); (case aL => have := LMc51.out; omega); intro v285 w56 ho hb hg hat; rw [← Ny284.out] at ho; replace HO_8 := ak (Kd.R_after (ok := (fun k_ => some k_ ≠ (v279 : Value).ownBlock)) (kR (Kd.R_mono HO_8.out (fun _ hk => ⟨hk.1.2, hk.2⟩))) hg hat); replace HO280 := ak (Kd.R_after (ok := (fun k_ => some k_ ≠ (.slice Ao57 t273.length co57 : Value).ownBlock)) (kR (Kd.R_mono HO280.out (fun _ hk => ⟨hk.1.2, hk.2⟩))) hg hat); replace HB := ak (hb); have HO286 := ak (ho); clear HO283; clear ho hb hg hat; obtain ⟨Ao59, co59, eo59⟩ := Kd.R_slice HO280.out; subst eo59) | ((with_reducible refine gate_builtin (b := .append) (xs := #[.tmp 111, .tmp 112]) rfl ?_); (try (refine gate_guard (by rfl) ?_; dsimp only)); at_builtin; refine Kd.R_append_rows (Kd.int .i64) (w0 := w) w.heap.size rfl (.tmp 111) (.tmp 112) 22 3 (.int .i64 0) 8 rfl Try.underlying22 info3 rfl (by decide) (by omega) v285 y284 t277 _ _ _ (fun k_ => some k_ ≠ (.slice Ao57 t273.length co57 : Value).ownBlock ∧ some k_ ≠ (.slice Ao59 t277.length co59 : Value).ownBlock) (fun _ => False) rfl rfl ?aO ?aR (fun _ _ h => h) (fun _ h => h.elim) ?aF ?aB ?aS ?aL ?_; (case aR => repeat (first | exact (Kd.R_reads' HO280.out).2.2 | (with_reducible refine Kd.C_alloc ?_ _) | (with_reducible refine Kd.C_drewN ?_ _) | (with_reducible refine Kd.C_drew ?_))); (case aB => exact (bB HB.out)); (case aF => exact (fun k_ hk => ⟨Kd.fresh' (Kd.R_lt (kR HO_8.out)) k_ hk, Kd.fresh' (Kd.R_lt (kR HO280.out)) k_ hk⟩)); (case aO => exact (kR HO286.out)); (case aS => exact (below_size (bB HB.out))); (case aL => have := LMc52.out; omega); intro v288 w58 ho hb hg hat; rw [← Ny287.out] at ho; replace HO_8 := ak (Kd.R_after (ok := (fun k_ => some k_ ≠ (.slice Ao59 t277.length co59 : Value).ownBlock)) (kR HO_8.out) hg hat); replace HO280 := ak (Kd.R_after (ok := (fun k_ => some k_ ≠ (.slice Ao57 t273.length co57 : Value).ownBlock)) (kR HO280.out) hg hat); replace HB := ak (hb); have HO289 := ak (ho); clear HO286; clear ho hb hg hat))
        go_ret2
        exact ⟨_, by first | rfl | (simp [errW_none, errW_some] <;> rfl) | (simp [*, errW_none, errW_some] <;> rfl), by (with_reducible repeat (first | apply Kd.R_alloc | apply Kd.R_drewN | apply Kd.R_drew)); exact Kd.R_mono HO289.out (fun _ hk => trivial), by repeat (first | (with_reducible first | exact HB.out | apply below_alloc | apply pw_below_drewN | apply below_drew1) | exact HB.out)⟩
       rw [if_neg c41] at H
       have c41b0 : ((bt a0 t274) == 38) = false := beq_eq_false_iff_ne.mpr c41
       have c41b1 : ((bt a0 t274) != 38) = true := bne_iff_ne.mpr c41
       by_cases c61 : (bt a0 t274) = 124
       ·rw [if_pos c61] at H
        have c61b0 : ((bt a0 t274) == 124) = true := beq_iff_eq.mpr c61
        have c61b1 : ((bt a0 t274) != 124) = false := bne_eq_false_iff_eq.mpr c61
        clear c61
        replace H := bi H
        obtain ⟨⟨t290, t291⟩, A620, H⟩ := H
        try dsimp only at H
        have A62 := ak A620
        clear A620
        by_cases c63 : t291 < 0
        ·rw [if_pos c63] at H
         have c63b0 : decide (t291 < 0) = true := decide_eq_true c63
         clear c63
         simp only [Option.some.injEq, Prod.mk.injEq] at H
         obtain ⟨rfl, rfl⟩ := H
         have p40 : 0 ≤ (t274 : Int) := of_decide_eq_true (by first | (with_reducible assumption) | assumption)
         have q40 : t274 < (a0.size : Int) := of_decide_eq_true (by first | (with_reducible assumption) | assumption)
         have hx40 := bt_at a0 t274
         replace p40 := eq_true p40
         replace q40 := eq_true q40
         go_wp2_with (first | ((with_reducible refine gate_callee (f := 38) rfl ?_); refine goesL_ (some 91) rfl rfl Try.func38 (by kernel_rfl) rfl #[.string a0, .int .i64 (wrap64 (t274 + 1))] rfl (by (try simp only [List.map_toArray, List.map_cons, List.map_nil]); first | done | rfl | (simp only [List.length_drop, List.length_take]; rfl)) ?_; (with_reducible refine (ih kj33 (by have := HJ2.out; have := HJ8.out; have := HJ33.out; omega) a0 (wrap64 (t274 + 1)) t290 t291 _ A62.out).mono ?_); rintro e w64 ⟨v292, rfl, ho0, hb⟩; refine ⟨_, rfl, ?_⟩; have HO293 := ak (Kd.R_lower (Kd.R_new' ho0 (Kd.R_lt (kR HO_8.out))) (below_size (bB HB.out))); replace HO_8 := ak (Kd.R_elder' (kR HO_8.out) (Kd.R_base ho0) hb); replace HB := ak (below_step (bB HB.out) hb); (try clear hb); (try clear hb2); (try clear hk); (try clear hi); (try clear ho0)))
         go_ret2
         exact ⟨_, by first | rfl | (simp [errW_none, errW_some] <;> rfl) | (simp [*, errW_none, errW_some] <;> rfl), by first | exact Kd.R_nil _ _ _ _ _ | exact Kd.N_nil _ _ _ _ _ | exact Kd.V_nil _ _ _ _ _ | exact Kd.Q_nil _ _ _ _ _ | exact Kd.S_nil _ _ _ _ _, by repeat (first | (with_reducible first | exact HB.out | apply below_alloc | apply pw_below_drewN | apply below_drew1) | exact HB.out)⟩
        rw [if_neg c63] at H
        have c63b0 : decide (t291 < 0) = false := decide_eq_false c63
        clear c63
        by_cases c65 : t291 ≥ (a0.size : Int)
        ·rw [if_pos c65] at H
         have c65b0 : decide ((a0.size : Int) ≤ t291) = true := decide_eq_true c65
         clear c65
         simp only [Option.some.injEq, Prod.mk.injEq] at H
         obtain ⟨rfl, rfl⟩ := H
         have p40 : 0 ≤ (t274 : Int) := of_decide_eq_true (by first | (with_reducible assumption) | assumption)
         have q40 : t274 < (a0.size : Int) := of_decide_eq_true (by first | (with_reducible assumption) | assumption)
         have hx40 := bt_at a0 t274
         replace p40 := eq_true p40
         replace q40 := eq_true q40
         go_wp2_with (first | ((with_reducible refine gate_callee (f := 38) rfl ?_); refine goesL_ (some 91) rfl rfl Try.func38 (by kernel_rfl) rfl #[.string a0, .int .i64 (wrap64 (t274 + 1))] rfl (by (try simp only [List.map_toArray, List.map_cons, List.map_nil]); first | done | rfl | (simp only [List.length_drop, List.length_take]; rfl)) ?_; (with_reducible refine (ih kj33 (by have := HJ2.out; have := HJ8.out; have := HJ33.out; omega) a0 (wrap64 (t274 + 1)) t290 t291 _ A62.out).mono ?_); rintro e w66 ⟨v292, rfl, ho0, hb⟩; refine ⟨_, rfl, ?_⟩; have HO293 := ak (Kd.R_lower (Kd.R_new' ho0 (Kd.R_lt (kR HO_8.out))) (below_size (bB HB.out))); replace HO_8 := ak (Kd.R_elder' (kR HO_8.out) (Kd.R_base ho0) hb); replace HB := ak (below_step (bB HB.out) hb); (try clear hb); (try clear hb2); (try clear hk); (try clear hi); (try clear ho0)))
         go_ret2
         exact ⟨_, by first | rfl | (simp [errW_none, errW_some] <;> rfl) | (simp [*, errW_none, errW_some] <;> rfl), by first | exact Kd.R_nil _ _ _ _ _ | exact Kd.N_nil _ _ _ _ _ | exact Kd.V_nil _ _ _ _ _ | exact Kd.Q_nil _ _ _ _ _ | exact Kd.S_nil _ _ _ _ _, by repeat (first | (with_reducible first | exact HB.out | apply below_alloc | apply pw_below_drewN | apply below_drew1) | exact HB.out)⟩
        rw [if_neg c65] at H
        have c65b0 : decide ((a0.size : Int) ≤ t291) = false := decide_eq_false c65
        clear c65
        replace H := oi H
        obtain ⟨c67, H⟩ := H
        have c67b0 : decide (0 ≤ t291) = true := decide_eq_true c67
        clear c67
        replace H := oi H
        obtain ⟨c68, H⟩ := H
        have c68b0 : decide (t291 < (a0.size : Int)) = true := decide_eq_true c68
        clear c68
        by_cases c70 : (bt a0 t291) = 41
        rotate_left
        ·rw [if_neg c70] at H
         have c70b0 : ((bt a0 t291) == 41) = false := beq_eq_false_iff_ne.mpr c70
         have c70b1 : ((bt a0 t291) != 41) = true := bne_iff_ne.mpr c70
         simp only [Option.some.injEq, Prod.mk.injEq] at H
         obtain ⟨rfl, rfl⟩ := H
         have p40 : 0 ≤ (t274 : Int) := of_decide_eq_true (by first | (with_reducible assumption) | assumption)
         have q40 : t274 < (a0.size : Int) := of_decide_eq_true (by first | (with_reducible assumption) | assumption)
         have hx40 := bt_at a0 t274
         replace p40 := eq_true p40
         replace q40 := eq_true q40
         go_wp2_with (first | ((with_reducible refine gate_callee (f := 38) rfl ?_); refine goesL_ (some 91) rfl rfl Try.func38 (by kernel_rfl) rfl #[.string a0, .int .i64 (wrap64 (t274 + 1))] rfl (by (try simp only [List.map_toArray, List.map_cons, List.map_nil]); first | done | rfl | (simp only [List.length_drop, List.length_take]; rfl)) ?_; (with_reducible refine (ih kj33 (by have := HJ2.out; have := HJ8.out; have := HJ33.out; omega) a0 (wrap64 (t274 + 1)) t290 t291 _ A62.out).mono ?_); rintro e w80 ⟨v292, rfl, ho0, hb⟩; refine ⟨_, rfl, ?_⟩; have HO293 := ak (Kd.R_lower (Kd.R_new' ho0 (Kd.R_lt (kR HO_8.out))) (below_size (bB HB.out))); replace HO_8 := ak (Kd.R_elder' (kR HO_8.out) (Kd.R_base ho0) hb); replace HB := ak (below_step (bB HB.out) hb); (try clear hb); (try clear hb2); (try clear hk); (try clear hi); (try clear ho0); have p69 : 0 ≤ (t291 : Int) := of_decide_eq_true (by first | (with_reducible assumption) | assumption); have q69 : t291 < (a0.size : Int) := of_decide_eq_true (by first | (with_reducible assumption) | assumption); have hx69 := bt_at a0 t291; replace p69 := eq_true p69; replace q69 := eq_true q69))
         go_ret2
         exact ⟨_, by first | rfl | (simp [errW_none, errW_some] <;> rfl) | (simp [*, errW_none, errW_some] <;> rfl), by first | exact Kd.R_nil _ _ _ _ _ | exact Kd.N_nil _ _ _ _ _ | exact Kd.V_nil _ _ _ _ _ | exact Kd.Q_nil _ _ _ _ _ | exact Kd.S_nil _ _ _ _ _, by repeat (first | (with_reducible first | exact HB.out | apply below_alloc | apply pw_below_drewN | apply below_drew1) | exact HB.out)⟩
        rw [if_pos c70] at H
        have c70b0 : ((bt a0 t291) == 41) = true := beq_iff_eq.mpr c70
        have c70b1 : ((bt a0 t291) != 41) = false := bne_eq_false_iff_eq.mpr c70
        clear c70
        obtain ⟨y294, hy294⟩ : ∃ y_ : List Int, y_ = (([14] : List Int)) := ⟨_, rfl⟩
        replace H : (if y294.length + t273.length < 17592186044416 then ((some (y294 ++ t273 : List Int)).bind fun y297 => (if y297.length + t290.length < 17592186044416 then (some ((y297 ++ t290), wrap64 (t291 + 1))) else (none))) else (none)) = some (r1, r2) := by first | (rw [hy294]; with_reducible exact H) | (have H2_ := (Option.bind_some _ _).symm.trans H; rw [hy294]; with_reducible exact H2_) | (have H2_ := (Option.bind_some _ _).symm.trans H; with_reducible exact H2_) | with_reducible exact H | (rw [hy294]; exact H) | exact H
        have Ny294 := ak hy294
        clear hy294
        replace H := oi H
        obtain ⟨c71, H⟩ := H
        have LMc71 := ak c71
        clear c71
        obtain ⟨y297, hy297⟩ : ∃ y_ : List Int, y_ = (y294 ++ t273) := ⟨_, rfl⟩
        replace H : (if y297.length + t290.length < 17592186044416 then (some ((y297 ++ t290), wrap64 (t291 + 1))) else (none)) = some (r1, r2) := by first | (rw [hy297]; with_reducible exact H) | (have H2_ := (Option.bind_some _ _).symm.trans H; rw [hy297]; with_reducible exact H2_) | (have H2_ := (Option.bind_some _ _).symm.trans H; with_reducible exact H2_) | with_reducible exact H | (rw [hy297]; exact H) | exact H
        have Ny297 := ak hy297
        clear hy297
        replace H := oi H
        obtain ⟨c72, H⟩ := H
        have LMc72 := ak c72
        clear c72
        obtain ⟨y300, hy300⟩ : ∃ y_ : List Int, y_ = (y297 ++ t290) := ⟨_, rfl⟩
        replace H : (some (y300, wrap64 (t291 + 1))) = some (r1, r2) := by first | (rw [hy300]; with_reducible exact H) | (have H2_ := (Option.bind_some _ _).symm.trans H; rw [hy300]; with_reducible exact H2_) | (have H2_ := (Option.bind_some _ _).symm.trans H; with_reducible exact H2_) | with_reducible exact H | (rw [hy300]; exact H) | exact H
        have Ny300 := ak hy300
        clear hy300
        simp only [Option.some.injEq, Prod.mk.injEq] at H
        obtain ⟨rfl, rfl⟩ := H
        have p40 : 0 ≤ (t274 : Int) := of_decide_eq_true (by first | (with_reducible assumption) | assumption)
        have q40 : t274 < (a0.size : Int) := of_decide_eq_true (by first | (with_reducible assumption) | assumption)
        have hx40 := bt_at a0 t274
        replace p40 := eq_true p40
        replace q40 := eq_true q40
        go_wp2_with (first | ((with_reducible refine gate_callee (f := 38) rfl ?_); refine goesL_ (some 91) rfl rfl Try.func38 (by kernel_rfl) rfl #[.string a0, .int .i64 (wrap64 (t274 + 1))] rfl (by (try simp only [List.map_toArray, List.map_cons, List.map_nil]); first | done | rfl | (simp only [List.length_drop, List.length_take]; rfl)) ?_; (with_reducible refine (ih kj33 (by have := HJ2.out; have := HJ8.out; have := HJ33.out; omega) a0 (wrap64 (t274 + 1)) t290 t291 _ A62.out).mono ?_); rintro e w73 ⟨v292, rfl, ho0, hb⟩; refine ⟨_, rfl, ?_⟩; have HO293 := ak (Kd.R_lower (Kd.R_new' ho0 (Kd.R_lt (kR HO_8.out))) (below_size (bB HB.out))); replace HO_8 := ak (Kd.R_elder' (kR HO_8.out) (Kd.R_base ho0) hb); replace HB := ak (below_step (bB HB.out) hb); (try clear hb); (try clear hb2); (try clear hk); (try clear hi); (try clear ho0); have p69 : 0 ≤ (t291 : Int) := of_decide_eq_true (by first | (with_reducible assumption) | assumption); have q69 : t291 < (a0.size : Int) := of_decide_eq_true (by first | (with_reducible assumption) | assumption); have hx69 := bt_at a0 t291; replace p69 := eq_true p69; replace q69 := eq_true q69) | ((with_reducible refine gate_dst (N := 109) rfl ?_); (try (refine gate_guard (by rfl) ?_; dsimp only)); refine Kd.R_lit (Kd.int .i64) _ 3 ?hg (N := 109) ?hd (xs := ([14] : List Int)) (inner := [.int .i64 14]) (ok := fun _ => True) (okp := fun _ => True) ?hr ?hp (fun _ hk => hk) trivial (Below.refl _ _) (Nat.le_refl _) (by simp) ?_; (case hd => rfl); (case hg => rfl); (case hr => first | (go_simp; done) | (go_simp; rfl)); (case hp => exact (Reps.one (show Kd.M (Kd.int .i64) _ _ _ 14 [.int .i64 14] from rfl) (Reps.none _ _))); intro v295 w74 ho75 hb hg_ hnew_; clear hg_ hnew_; (first | rw [← Ny294.out] at ho75 | (simp only [Int.reduceToNat] at ho75; rw [← Ny294.out] at ho75)); have HO296 := ak (Kd.R_lower (Kd.R_new' (Kd.R_new' ho75 (Kd.R_lt (kR HO_8.out))) (Kd.R_lt (kR HO293.out))) (below_size (bB HB.out))); replace HO_8 := ak (Kd.R_elder' (kR HO_8.out) (Kd.R_base ho75) hb); replace HO293 := ak (Kd.R_elder' (kR HO293.out) (Kd.R_base ho75) hb); replace HB := ak (below_step (bB HB.out) hb); clear hb ho75; obtain ⟨Ao77, co77, eo77⟩ := Kd.R_slice HO_8.out; subst eo77) | ((with_reducible refine gate_builtin (b := .append) (xs := #[.tmp 109, .tmp 110]) rfl ?_); (try (refine gate_guard (by rfl) ?_; dsimp only)); at_builtin; refine Kd.R_append_rows (Kd.int .i64) (w0 := w) w.heap.size rfl (.tmp 109) (.tmp 110) 22 3 (.int .i64 0) 8 rfl Try.underlying22 info3 rfl (by decide) (by omega) v295 y294 t273 _ _ _ (fun k_ => some k_ ≠ (.slice Ao77 t273.length co77 : Value).ownBlock ∧ some k_ ≠ (v292 : Value).ownBlock) (fun _ => False) rfl rfl ?aO ?aR (fun _ _ h => h) (fun _ h => h.elim) ?aF ?aB ?aS ?aL ?_; (case aR => repeat (first | exact (Kd.R_reads' HO_8.out).2.2 | (with_reducible refine Kd.C_alloc ?_ _) | (with_reducible refine Kd.C_drewN ?_ _) | (with_reducible refine Kd.C_drew ?_))); (case aB => exact (bB HB.out)); (case aF => exact (fun k_ hk => ⟨Kd.fresh' (Kd.R_lt (kR HO_8.out)) k_ hk, Kd.fresh' (Kd.R_lt (kR HO293.out)) k_ hk⟩)); (case aO => exact (kR (Kd.R_mono HO296.out (fun _ hk => ⟨hk.1.2, hk.2⟩)))); (case aS => exact (below_size (bB HB.out))); (case aL => have := LMc71.out; omega); intro v298 w76 ho hb hg hat; rw [← Ny297.out] at ho; replace HO_8 := ak (Kd.R_after (ok := (fun k_ => some k_ ≠ (v292 : Value).ownBlock)) (kR (Kd.R_mono HO_8.out (fun _ hk => ⟨hk.1.2, hk.2⟩))) hg hat); replace HO293 := ak (Kd.R_after (ok := (fun k_ => some k_ ≠ (.slice Ao77 t273.length co77 : Value).ownBlock)) (kR (Kd.R_mono HO293.out (fun _ hk => ⟨hk.1.2, hk.2⟩))) hg hat); replace HB := ak (hb); have HO299 := ak (ho); clear HO296; clear ho hb hg hat; obtain ⟨Ao79, co79, eo79⟩ := Kd.R_slice HO293.out; subst eo79) | ((with_reducible refine gate_builtin (b := .append) (xs := #[.tmp 111, .tmp 112]) rfl ?_); (try (refine gate_guard (by rfl) ?_; dsimp only)); at_builtin; refine Kd.R_append_rows (Kd.int .i64) (w0 := w) w.heap.size rfl (.tmp 111) (.tmp 112) 22 3 (.int .i64 0) 8 rfl Try.underlying22 info3 rfl (by decide) (by omega) v298 y297 t290 _ _ _ (fun k_ => some k_ ≠ (.slice Ao77 t273.length co77 : Value).ownBlock ∧ some k_ ≠ (.slice Ao79 t290.length co79 : Value).ownBlock) (fun _ => False) rfl rfl ?aO ?aR (fun _ _ h => h) (fun _ h => h.elim) ?aF ?aB ?aS ?aL ?_; (case aR => repeat (first | exact (Kd.R_reads' HO293.out).2.2 | (with_reducible refine Kd.C_alloc ?_ _) | (with_reducible refine Kd.C_drewN ?_ _) | (with_reducible refine Kd.C_drew ?_))); (case aB => exact (bB HB.out)); (case aF => exact (fun k_ hk => ⟨Kd.fresh' (Kd.R_lt (kR HO_8.out)) k_ hk, Kd.fresh' (Kd.R_lt (kR HO293.out)) k_ hk⟩)); (case aO => exact (kR HO299.out)); (case aS => exact (below_size (bB HB.out))); (case aL => have := LMc72.out; omega); intro v301 w78 ho hb hg hat; rw [← Ny300.out] at ho; replace HO_8 := ak (Kd.R_after (ok := (fun k_ => some k_ ≠ (.slice Ao79 t290.length co79 : Value).ownBlock)) (kR HO_8.out) hg hat); replace HO293 := ak (Kd.R_after (ok := (fun k_ => some k_ ≠ (.slice Ao77 t273.length co77 : Value).ownBlock)) (kR HO293.out) hg hat); replace HB := ak (hb); have HO302 := ak (ho); clear HO299; clear ho hb hg hat))
        go_ret2
        exact ⟨_, by first | rfl | (simp [errW_none, errW_some] <;> rfl) | (simp [*, errW_none, errW_some] <;> rfl), by (with_reducible repeat (first | apply Kd.R_alloc | apply Kd.R_drewN | apply Kd.R_drew)); exact Kd.R_mono HO302.out (fun _ hk => trivial), by repeat (first | (with_reducible first | exact HB.out | apply below_alloc | apply pw_below_drewN | apply below_drew1) | exact HB.out)⟩
       rw [if_neg c61] at H
       have c61b0 : ((bt a0 t274) == 124) = false := beq_eq_false_iff_ne.mpr c61
       have c61b1 : ((bt a0 t274) != 124) = true := bne_iff_ne.mpr c61
       by_cases c81 : (bt a0 t274) = 42
       ·rw [if_pos c81] at H
        have c81b0 : ((bt a0 t274) == 42) = true := beq_iff_eq.mpr c81
        have c81b1 : ((bt a0 t274) != 42) = false := bne_eq_false_iff_eq.mpr c81
        clear c81
        replace H := bi H
        obtain ⟨⟨t303, t304⟩, A820, H⟩ := H
        try dsimp only at H
        have A82 := ak A820
        clear A820
        by_cases c83 : t304 < 0
        ·rw [if_pos c83] at H
         have c83b0 : decide (t304 < 0) = true := decide_eq_true c83
         clear c83
         simp only [Option.some.injEq, Prod.mk.injEq] at H
         obtain ⟨rfl, rfl⟩ := H
         have p40 : 0 ≤ (t274 : Int) := of_decide_eq_true (by first | (with_reducible assumption) | assumption)
         have q40 : t274 < (a0.size : Int) := of_decide_eq_true (by first | (with_reducible assumption) | assumption)
         have hx40 := bt_at a0 t274
         replace p40 := eq_true p40
         replace q40 := eq_true q40
         go_wp2_with (first | ((with_reducible refine gate_callee (f := 38) rfl ?_); refine goesL_ (some 91) rfl rfl Try.func38 (by kernel_rfl) rfl #[.string a0, .int .i64 (wrap64 (t274 + 1))] rfl (by (try simp only [List.map_toArray, List.map_cons, List.map_nil]); first | done | rfl | (simp only [List.length_drop, List.length_take]; rfl)) ?_; (with_reducible refine (ih kj33 (by have := HJ2.out; have := HJ8.out; have := HJ33.out; omega) a0 (wrap64 (t274 + 1)) t303 t304 _ A82.out).mono ?_); rintro e w84 ⟨v305, rfl, ho0, hb⟩; refine ⟨_, rfl, ?_⟩; have HO306 := ak (Kd.R_lower (Kd.R_new' ho0 (Kd.R_lt (kR HO_8.out))) (below_size (bB HB.out))); replace HO_8 := ak (Kd.R_elder' (kR HO_8.out) (Kd.R_base ho0) hb); replace HB := ak (below_step (bB HB.out) hb); (try clear hb); (try clear hb2); (try clear hk); (try clear hi); (try clear ho0)))
         go_ret2
         exact ⟨_, by first | rfl | (simp [errW_none, errW_some] <;> rfl) | (simp [*, errW_none, errW_some] <;> rfl), by first | exact Kd.R_nil _ _ _ _ _ | exact Kd.N_nil _ _ _ _ _ | exact Kd.V_nil _ _ _ _ _ | exact Kd.Q_nil _ _ _ _ _ | exact Kd.S_nil _ _ _ _ _, by repeat (first | (with_reducible first | exact HB.out | apply below_alloc | apply pw_below_drewN | apply below_drew1) | exact HB.out)⟩
        rw [if_neg c83] at H
        have c83b0 : decide (t304 < 0) = false := decide_eq_false c83
        clear c83
        by_cases c85 : t304 ≥ (a0.size : Int)
        ·rw [if_pos c85] at H
         have c85b0 : decide ((a0.size : Int) ≤ t304) = true := decide_eq_true c85
         clear c85
         simp only [Option.some.injEq, Prod.mk.injEq] at H
         obtain ⟨rfl, rfl⟩ := H
         have p40 : 0 ≤ (t274 : Int) := of_decide_eq_true (by first | (with_reducible assumption) | assumption)
         have q40 : t274 < (a0.size : Int) := of_decide_eq_true (by first | (with_reducible assumption) | assumption)
         have hx40 := bt_at a0 t274
         replace p40 := eq_true p40
         replace q40 := eq_true q40
         go_wp2_with (first | ((with_reducible refine gate_callee (f := 38) rfl ?_); refine goesL_ (some 91) rfl rfl Try.func38 (by kernel_rfl) rfl #[.string a0, .int .i64 (wrap64 (t274 + 1))] rfl (by (try simp only [List.map_toArray, List.map_cons, List.map_nil]); first | done | rfl | (simp only [List.length_drop, List.length_take]; rfl)) ?_; (with_reducible refine (ih kj33 (by have := HJ2.out; have := HJ8.out; have := HJ33.out; omega) a0 (wrap64 (t274 + 1)) t303 t304 _ A82.out).mono ?_); rintro e w86 ⟨v305, rfl, ho0, hb⟩; refine ⟨_, rfl, ?_⟩; have HO306 := ak (Kd.R_lower (Kd.R_new' ho0 (Kd.R_lt (kR HO_8.out))) (below_size (bB HB.out))); replace HO_8 := ak (Kd.R_elder' (kR HO_8.out) (Kd.R_base ho0) hb); replace HB := ak (below_step (bB HB.out) hb); (try clear hb); (try clear hb2); (try clear hk); (try clear hi); (try clear ho0)))
         go_ret2
         exact ⟨_, by first | rfl | (simp [errW_none, errW_some] <;> rfl) | (simp [*, errW_none, errW_some] <;> rfl), by first | exact Kd.R_nil _ _ _ _ _ | exact Kd.N_nil _ _ _ _ _ | exact Kd.V_nil _ _ _ _ _ | exact Kd.Q_nil _ _ _ _ _ | exact Kd.S_nil _ _ _ _ _, by repeat (first | (with_reducible first | exact HB.out | apply below_alloc | apply pw_below_drewN | apply below_drew1) | exact HB.out)⟩
        rw [if_neg c85] at H
        have c85b0 : decide ((a0.size : Int) ≤ t304) = false := decide_eq_false c85
        clear c85
        replace H := oi H
        obtain ⟨c87, H⟩ := H
        have c87b0 : decide (0 ≤ t304) = true := decide_eq_true c87
        clear c87
        replace H := oi H
        obtain ⟨c88, H⟩ := H
        have c88b0 : decide (t304 < (a0.size : Int)) = true := decide_eq_true c88
        clear c88
        by_cases c90 : (bt a0 t304) = 41
        rotate_left
        ·rw [if_neg c90] at H
         have c90b0 : ((bt a0 t304) == 41) = false := beq_eq_false_iff_ne.mpr c90
         have c90b1 : ((bt a0 t304) != 41) = true := bne_iff_ne.mpr c90
         simp only [Option.some.injEq, Prod.mk.injEq] at H
         obtain ⟨rfl, rfl⟩ := H
         have p40 : 0 ≤ (t274 : Int) := of_decide_eq_true (by first | (with_reducible assumption) | assumption)
         have q40 : t274 < (a0.size : Int) := of_decide_eq_true (by first | (with_reducible assumption) | assumption)
         have hx40 := bt_at a0 t274
         replace p40 := eq_true p40
         replace q40 := eq_true q40
         go_wp2_with (first | ((with_reducible refine gate_callee (f := 38) rfl ?_); refine goesL_ (some 91) rfl rfl Try.func38 (by kernel_rfl) rfl #[.string a0, .int .i64 (wrap64 (t274 + 1))] rfl (by (try simp only [List.map_toArray, List.map_cons, List.map_nil]); first | done | rfl | (simp only [List.length_drop, List.length_take]; rfl)) ?_; (with_reducible refine (ih kj33 (by have := HJ2.out; have := HJ8.out; have := HJ33.out; omega) a0 (wrap64 (t274 + 1)) t303 t304 _ A82.out).mono ?_); rintro e w100 ⟨v305, rfl, ho0, hb⟩; refine ⟨_, rfl, ?_⟩; have HO306 := ak (Kd.R_lower (Kd.R_new' ho0 (Kd.R_lt (kR HO_8.out))) (below_size (bB HB.out))); replace HO_8 := ak (Kd.R_elder' (kR HO_8.out) (Kd.R_base ho0) hb); replace HB := ak (below_step (bB HB.out) hb); (try clear hb); (try clear hb2); (try clear hk); (try clear hi); (try clear ho0); have p89 : 0 ≤ (t304 : Int) := of_decide_eq_true (by first | (with_reducible assumption) | assumption); have q89 : t304 < (a0.size : Int) := of_decide_eq_true (by first | (with_reducible assumption) | assumption); have hx89 := bt_at a0 t304; replace p89 := eq_true p89; replace q89 := eq_true q89))
         go_ret2
         exact ⟨_, by first | rfl | (simp [errW_none, errW_some] <;> rfl) | (simp [*, errW_none, errW_some] <;> rfl), by first | exact Kd.R_nil _ _ _ _ _ | exact Kd.N_nil _ _ _ _ _ | exact Kd.V_nil _ _ _ _ _ | exact Kd.Q_nil _ _ _ _ _ | exact Kd.S_nil _ _ _ _ _, by repeat (first | (with_reducible first | exact HB.out | apply below_alloc | apply pw_below_drewN | apply below_drew1) | exact HB.out)⟩
        rw [if_pos c90] at H
        have c90b0 : ((bt a0 t304) == 41) = true := beq_iff_eq.mpr c90
        have c90b1 : ((bt a0 t304) != 41) = false := bne_eq_false_iff_eq.mpr c90
        clear c90
        obtain ⟨y307, hy307⟩ : ∃ y_ : List Int, y_ = (([15] : List Int)) := ⟨_, rfl⟩
        replace H : (if y307.length + t273.length < 17592186044416 then ((some (y307 ++ t273 : List Int)).bind fun y310 => (if y310.length + t303.length < 17592186044416 then (some ((y310 ++ t303), wrap64 (t304 + 1))) else (none))) else (none)) = some (r1, r2) := by first | (rw [hy307]; with_reducible exact H) | (have H2_ := (Option.bind_some _ _).symm.trans H; rw [hy307]; with_reducible exact H2_) | (have H2_ := (Option.bind_some _ _).symm.trans H; with_reducible exact H2_) | with_reducible exact H | (rw [hy307]; exact H) | exact H
        have Ny307 := ak hy307
        clear hy307
        replace H := oi H
        obtain ⟨c91, H⟩ := H
        have LMc91 := ak c91
        clear c91
        obtain ⟨y310, hy310⟩ : ∃ y_ : List Int, y_ = (y307 ++ t273) := ⟨_, rfl⟩
        replace H : (if y310.length + t303.length < 17592186044416 then (some ((y310 ++ t303), wrap64 (t304 + 1))) else (none)) = some (r1, r2) := by first | (rw [hy310]; with_reducible exact H) | (have H2_ := (Option.bind_some _ _).symm.trans H; rw [hy310]; with_reducible exact H2_) | (have H2_ := (Option.bind_some _ _).symm.trans H; with_reducible exact H2_) | with_reducible exact H | (rw [hy310]; exact H) | exact H
        have Ny310 := ak hy310
        clear hy310
        replace H := oi H
        obtain ⟨c92, H⟩ := H
        have LMc92 := ak c92
        clear c92
        obtain ⟨y313, hy313⟩ : ∃ y_ : List Int, y_ = (y310 ++ t303) := ⟨_, rfl⟩
        replace H : (some (y313, wrap64 (t304 + 1))) = some (r1, r2) := by first | (rw [hy313]; with_reducible exact H) | (have H2_ := (Option.bind_some _ _).symm.trans H; rw [hy313]; with_reducible exact H2_) | (have H2_ := (Option.bind_some _ _).symm.trans H; with_reducible exact H2_) | with_reducible exact H | (rw [hy313]; exact H) | exact H
        have Ny313 := ak hy313
        clear hy313
        simp only [Option.some.injEq, Prod.mk.injEq] at H
        obtain ⟨rfl, rfl⟩ := H
        have p40 : 0 ≤ (t274 : Int) := of_decide_eq_true (by first | (with_reducible assumption) | assumption)
        have q40 : t274 < (a0.size : Int) := of_decide_eq_true (by first | (with_reducible assumption) | assumption)
        have hx40 := bt_at a0 t274
        replace p40 := eq_true p40
        replace q40 := eq_true q40
        go_wp2_with (first | ((with_reducible refine gate_callee (f := 38) rfl ?_); refine goesL_ (some 91) rfl rfl Try.func38 (by kernel_rfl) rfl #[.string a0, .int .i64 (wrap64 (t274 + 1))] rfl (by (try simp only [List.map_toArray, List.map_cons, List.map_nil]); first | done | rfl | (simp only [List.length_drop, List.length_take]; rfl)) ?_; (with_reducible refine (ih kj33 (by have := HJ2.out; have := HJ8.out; have := HJ33.out; omega) a0 (wrap64 (t274 + 1)) t303 t304 _ A82.out).mono ?_); rintro e w93 ⟨v305, rfl, ho0, hb⟩; refine ⟨_, rfl, ?_⟩; have HO306 := ak (Kd.R_lower (Kd.R_new' ho0 (Kd.R_lt (kR HO_8.out))) (below_size (bB HB.out))); replace HO_8 := ak (Kd.R_elder' (kR HO_8.out) (Kd.R_base ho0) hb); replace HB := ak (below_step (bB HB.out) hb); (try clear hb); (try clear hb2); (try clear hk); (try clear hi); (try clear ho0); have p89 : 0 ≤ (t304 : Int) := of_decide_eq_true (by first | (with_reducible assumption) | assumption); have q89 : t304 < (a0.size : Int) := of_decide_eq_true (by first | (with_reducible assumption) | assumption); have hx89 := bt_at a0 t304; replace p89 := eq_true p89; replace q89 := eq_true q89) | ((with_reducible refine gate_dst (N := 109) rfl ?_); (try (refine gate_guard (by rfl) ?_; dsimp only)); refine Kd.R_lit (Kd.int .i64) _ 3 ?hg (N := 109) ?hd (xs := ([15] : List Int)) (inner := [.int .i64 15]) (ok := fun _ => True) (okp := fun _ => True) ?hr ?hp (fun _ hk => hk) trivial (Below.refl _ _) (Nat.le_refl _) (by simp) ?_; (case hd => rfl); (case hg => rfl); (case hr => first | (go_simp; done) | (go_simp; rfl)); (case hp => exact (Reps.one (show Kd.M (Kd.int .i64) _ _ _ 15 [.int .i64 15] from rfl) (Reps.none _ _))); intro v308 w94 ho95 hb hg_ hnew_; clear hg_ hnew_; (first | rw [← Ny307.out] at ho95 | (simp only [Int.reduceToNat] at ho95; rw [← Ny307.out] at ho95)); have HO309 := ak (Kd.R_lower (Kd.R_new' (Kd.R_new' ho95 (Kd.R_lt (kR HO_8.out))) (Kd.R_lt (kR HO306.out))) (below_size (bB HB.out))); replace HO_8 := ak (Kd.R_elder' (kR HO_8.out) (Kd.R_base ho95) hb); replace HO306 := ak (Kd.R_elder' (kR HO306.out) (Kd.R_base ho95) hb); replace HB := ak (below_step (bB HB.out) hb); clear hb ho95; obtain ⟨Ao97, co97, eo97⟩ := Kd.R_slice HO_8.out; subst eo97) | ((with_reducible refine gate_builtin (b := .append) (xs := #[.tmp 109, .tmp 110]) rfl ?_); (try (refine gate_guard (by rfl) ?_; dsimp only)); at_builtin; refine Kd.R_append_rows (Kd.int .i64) (w0 := w) w.heap.size rfl (.tmp 109) (.tmp 110) 22 3 (.int .i64 0) 8 rfl Try.underlying22 info3 rfl (by decide) (by omega) v308 y307 t273 _ _ _ (fun k_ => some k_ ≠ (.slice Ao97 t273.length co97 : Value).ownBlock ∧ some k_ ≠ (v305 : Value).ownBlock) (fun _ => False) rfl rfl ?aO ?aR (fun _ _ h => h) (fun _ h => h.elim) ?aF ?aB ?aS ?aL ?_; (case aR => repeat (first | exact (Kd.R_reads' HO_8.out).2.2 | (with_reducible refine Kd.C_alloc ?_ _) | (with_reducible refine Kd.C_drewN ?_ _) | (with_reducible refine Kd.C_drew ?_))); (case aB => exact (bB HB.out)); (case aF => exact (fun k_ hk => ⟨Kd.fresh' (Kd.R_lt (kR HO_8.out)) k_ hk, Kd.fresh' (Kd.R_lt (kR HO306.out)) k_ hk⟩)); (case aO => exact (kR (Kd.R_mono HO309.out (fun _ hk => ⟨hk.1.2, hk.2⟩)))); (case aS => exact (below_size (bB HB.out))); (case aL => have := LMc91.out; omega); intro v311 w96 ho hb hg hat; rw [← Ny310.out] at ho; replace HO_8 := ak (Kd.R_after (ok := (fun k_ => some k_ ≠ (v305 : Value).ownBlock)) (kR (Kd.R_mono HO_8.out (fun _ hk => ⟨hk.1.2, hk.2⟩))) hg hat); replace HO306 := ak (Kd.R_after (ok := (fun k_ => some k_ ≠ (.slice Ao97 t273.length co97 : Value).ownBlock)) (kR (Kd.R_mono HO306.out (fun _ hk => ⟨hk.1.2, hk.2⟩))) hg hat); replace HB := ak (hb); have HO312 := ak (ho); clear HO309; clear ho hb hg hat; obtain ⟨Ao99, co99, eo99⟩ := Kd.R_slice HO306.out; subst eo99) | ((with_reducible refine gate_builtin (b := .append) (xs := #[.tmp 111, .tmp 112]) rfl ?_); (try (refine gate_guard (by rfl) ?_; dsimp only)); at_builtin; refine Kd.R_append_rows (Kd.int .i64) (w0 := w) w.heap.size rfl (.tmp 111) (.tmp 112) 22 3 (.int .i64 0) 8 rfl Try.underlying22 info3 rfl (by decide) (by omega) v311 y310 t303 _ _ _ (fun k_ => some k_ ≠ (.slice Ao97 t273.length co97 : Value).ownBlock ∧ some k_ ≠ (.slice Ao99 t303.length co99 : Value).ownBlock) (fun _ => False) rfl rfl ?aO ?aR (fun _ _ h => h) (fun _ h => h.elim) ?aF ?aB ?aS ?aL ?_; (case aR => repeat (first | exact (Kd.R_reads' HO306.out).2.2 | (with_reducible refine Kd.C_alloc ?_ _) | (with_reducible refine Kd.C_drewN ?_ _) | (with_reducible refine Kd.C_drew ?_))); (case aB => exact (bB HB.out)); (case aF => exact (fun k_ hk => ⟨Kd.fresh' (Kd.R_lt (kR HO_8.out)) k_ hk, Kd.fresh' (Kd.R_lt (kR HO306.out)) k_ hk⟩)); (case aO => exact (kR HO312.out)); (case aS => exact (below_size (bB HB.out))); (case aL => have := LMc92.out; omega); intro v314 w98 ho hb hg hat; rw [← Ny313.out] at ho; replace HO_8 := ak (Kd.R_after (ok := (fun k_ => some k_ ≠ (.slice Ao99 t303.length co99 : Value).ownBlock)) (kR HO_8.out) hg hat); replace HO306 := ak (Kd.R_after (ok := (fun k_ => some k_ ≠ (.slice Ao97 t273.length co97 : Value).ownBlock)) (kR HO306.out) hg hat); replace HB := ak (hb); have HO315 := ak (ho); clear HO312; clear ho hb hg hat))
        go_ret2
        exact ⟨_, by first | rfl | (simp [errW_none, errW_some] <;> rfl) | (simp [*, errW_none, errW_some] <;> rfl), by (with_reducible repeat (first | apply Kd.R_alloc | apply Kd.R_drewN | apply Kd.R_drew)); exact Kd.R_mono HO315.out (fun _ hk => trivial), by repeat (first | (with_reducible first | exact HB.out | apply below_alloc | apply pw_below_drewN | apply below_drew1) | exact HB.out)⟩
       rw [if_neg c81] at H
       have c81b0 : ((bt a0 t274) == 42) = false := beq_eq_false_iff_ne.mpr c81
       have c81b1 : ((bt a0 t274) != 42) = true := bne_iff_ne.mpr c81
       by_cases c101 : (bt a0 t274) = 62
       rotate_left
       ·rw [if_neg c101] at H
        have c101b0 : ((bt a0 t274) == 62) = false := beq_eq_false_iff_ne.mpr c101
        have c101b1 : ((bt a0 t274) != 62) = true := bne_iff_ne.mpr c101
        simp only [Option.some.injEq, Prod.mk.injEq] at H
        obtain ⟨rfl, rfl⟩ := H
        have p40 : 0 ≤ (t274 : Int) := of_decide_eq_true (by first | (with_reducible assumption) | assumption)
        have q40 : t274 < (a0.size : Int) := of_decide_eq_true (by first | (with_reducible assumption) | assumption)
        have hx40 := bt_at a0 t274
        replace p40 := eq_true p40
        replace q40 := eq_true q40
        go_wp2
        go_ret2
        exact ⟨_, by first | rfl | (simp [errW_none, errW_some] <;> rfl) | (simp [*, errW_none, errW_some] <;> rfl), by first | exact Kd.R_nil _ _ _ _ _ | exact Kd.N_nil _ _ _ _ _ | exact Kd.V_nil _ _ _ _ _ | exact Kd.Q_nil _ _ _ _ _ | exact Kd.S_nil _ _ _ _ _, by repeat (first | (with_reducible first | exact HB.out | apply below_alloc | apply pw_below_drewN | apply below_drew1) | exact HB.out)⟩
       rw [if_pos c101] at H
       have c101b0 : ((bt a0 t274) == 62) = true := beq_iff_eq.mpr c101
       have c101b1 : ((bt a0 t274) != 62) = false := bne_eq_false_iff_eq.mpr c101
       clear c101
       replace H := bi H
       obtain ⟨⟨t316, t317⟩, A1020, H⟩ := H
       try dsimp only at H
       have A102 := ak A1020
       clear A1020
       by_cases c103 : t317 < 0
       ·rw [if_pos c103] at H
        have c103b0 : decide (t317 < 0) = true := decide_eq_true c103
        clear c103
        simp only [Option.some.injEq, Prod.mk.injEq] at H
        obtain ⟨rfl, rfl⟩ := H
        have p40 : 0 ≤ (t274 : Int) := of_decide_eq_true (by first | (with_reducible assumption) | assumption)
        have q40 : t274 < (a0.size : Int) := of_decide_eq_true (by first | (with_reducible assumption) | assumption)
        have hx40 := bt_at a0 t274
        replace p40 := eq_true p40
        replace q40 := eq_true q40
        go_wp2_with (first | ((with_reducible refine gate_callee (f := 38) rfl ?_); refine goesL_ (some 91) rfl rfl Try.func38 (by kernel_rfl) rfl #[.string a0, .int .i64 (wrap64 (t274 + 1))] rfl (by (try simp only [List.map_toArray, List.map_cons, List.map_nil]); first | done | rfl | (simp only [List.length_drop, List.length_take]; rfl)) ?_; (with_reducible refine (ih kj33 (by have := HJ2.out; have := HJ8.out; have := HJ33.out; omega) a0 (wrap64 (t274 + 1)) t316 t317 _ A102.out).mono ?_); rintro e w104 ⟨v318, rfl, ho0, hb⟩; refine ⟨_, rfl, ?_⟩; have HO319 := ak (Kd.R_lower (Kd.R_new' ho0 (Kd.R_lt (kR HO_8.out))) (below_size (bB HB.out))); replace HO_8 := ak (Kd.R_elder' (kR HO_8.out) (Kd.R_base ho0) hb); replace HB := ak (below_step (bB HB.out) hb); (try clear hb); (try clear hb2); (try clear hk); (try clear hi); (try clear ho0)))
        go_ret2
        exact ⟨_, by first | rfl | (simp [errW_none, errW_some] <;> rfl) | (simp [*, errW_none, errW_some] <;> rfl), by first | exact Kd.R_nil _ _ _ _ _ | exact Kd.N_nil _ _ _ _ _ | exact Kd.V_nil _ _ _ _ _ | exact Kd.Q_nil _ _ _ _ _ | exact Kd.S_nil _ _ _ _ _, by repeat (first | (with_reducible first | exact HB.out | apply below_alloc | apply pw_below_drewN | apply below_drew1) | exact HB.out)⟩
       rw [if_neg c103] at H
       have c103b0 : decide (t317 < 0) = false := decide_eq_false c103
       clear c103
       by_cases c105 : t317 ≥ (a0.size : Int)
       ·rw [if_pos c105] at H
        have c105b0 : decide ((a0.size : Int) ≤ t317) = true := decide_eq_true c105
        clear c105
        simp only [Option.some.injEq, Prod.mk.injEq] at H
        obtain ⟨rfl, rfl⟩ := H
        have p40 : 0 ≤ (t274 : Int) := of_decide_eq_true (by first | (with_reducible assumption) | assumption)
        have q40 : t274 < (a0.size : Int) := of_decide_eq_true (by first | (with_reducible assumption) | assumption)
        have hx40 := bt_at a0 t274
        replace p40 := eq_true p40
        replace q40 := eq_true q40
        go_wp2_with (first | ((with_reducible refine gate_callee (f := 38) rfl ?_); refine goesL_ (some 91) rfl rfl Try.func38 (by kernel_rfl) rfl #[.string a0, .int .i64 (wrap64 (t274 + 1))] rfl (by (try simp only [List.map_toArray, List.map_cons, List.map_nil]); first | done | rfl | (simp only [List.length_drop, List.length_take]; rfl)) ?_; (with_reducible refine (ih kj33 (by have := HJ2.out; have := HJ8.out; have := HJ33.out; omega) a0 (wrap64 (t274 + 1)) t316 t317 _ A102.out).mono ?_); rintro e w106 ⟨v318, rfl, ho0, hb⟩; refine ⟨_, rfl, ?_⟩; have HO319 := ak (Kd.R_lower (Kd.R_new' ho0 (Kd.R_lt (kR HO_8.out))) (below_size (bB HB.out))); replace HO_8 := ak (Kd.R_elder' (kR HO_8.out) (Kd.R_base ho0) hb); replace HB := ak (below_step (bB HB.out) hb); (try clear hb); (try clear hb2); (try clear hk); (try clear hi); (try clear ho0)))
        go_ret2
        exact ⟨_, by first | rfl | (simp [errW_none, errW_some] <;> rfl) | (simp [*, errW_none, errW_some] <;> rfl), by first | exact Kd.R_nil _ _ _ _ _ | exact Kd.N_nil _ _ _ _ _ | exact Kd.V_nil _ _ _ _ _ | exact Kd.Q_nil _ _ _ _ _ | exact Kd.S_nil _ _ _ _ _, by repeat (first | (with_reducible first | exact HB.out | apply below_alloc | apply pw_below_drewN | apply below_drew1) | exact HB.out)⟩
       rw [if_neg c105] at H
       have c105b0 : decide ((a0.size : Int) ≤ t317) = false := decide_eq_false c105
       clear c105
       replace H := oi H
       obtain ⟨c107, H⟩ := H
       have c107b0 : decide (0 ≤ t317) = true := decide_eq_true c107
       clear c107
       replace H := oi H
       obtain ⟨c108, H⟩ := H
       have c108b0 : decide (t317 < (a0.size : Int)) = true := decide_eq_true c108
       clear c108
       by_cases c110 : (bt a0 t317) = 41
       rotate_left
       ·rw [if_neg c110] at H
        have c110b0 : ((bt a0 t317) == 41) = false := beq_eq_false_iff_ne.mpr c110
        have c110b1 : ((bt a0 t317) != 41) = true := bne_iff_ne.mpr c110
        simp only [Option.some.injEq, Prod.mk.injEq] at H
        obtain ⟨rfl, rfl⟩ := H
        have p40 : 0 ≤ (t274 : Int) := of_decide_eq_true (by first | (with_reducible assumption) | assumption)
        have q40 : t274 < (a0.size : Int) := of_decide_eq_true (by first | (with_reducible assumption) | assumption)
        have hx40 := bt_at a0 t274
        replace p40 := eq_true p40
        replace q40 := eq_true q40
        go_wp2_with (first | ((with_reducible refine gate_callee (f := 38) rfl ?_); refine goesL_ (some 91) rfl rfl Try.func38 (by kernel_rfl) rfl #[.string a0, .int .i64 (wrap64 (t274 + 1))] rfl (by (try simp only [List.map_toArray, List.map_cons, List.map_nil]); first | done | rfl | (simp only [List.length_drop, List.length_take]; rfl)) ?_; (with_reducible refine (ih kj33 (by have := HJ2.out; have := HJ8.out; have := HJ33.out; omega) a0 (wrap64 (t274 + 1)) t316 t317 _ A102.out).mono ?_); rintro e w120 ⟨v318, rfl, ho0, hb⟩; refine ⟨_, rfl, ?_⟩; have HO319 := ak (Kd.R_lower (Kd.R_new' ho0 (Kd.R_lt (kR HO_8.out))) (below_size (bB HB.out))); replace HO_8 := ak (Kd.R_elder' (kR HO_8.out) (Kd.R_base ho0) hb); replace HB := ak (below_step (bB HB.out) hb); (try clear hb); (try clear hb2); (try clear hk); (try clear hi); (try clear ho0); have p109 : 0 ≤ (t317 : Int) := of_decide_eq_true (by first | (with_reducible assumption) | assumption); have q109 : t317 < (a0.size : Int) := of_decide_eq_true (by first | (with_reducible assumption) | assumption); have hx109 := bt_at a0 t317; replace p109 := eq_true p109; replace q109 := eq_true q109))
        go_ret2
        exact ⟨_, by first | rfl | (simp [errW_none, errW_some] <;> rfl) | (simp [*, errW_none, errW_some] <;> rfl), by first | exact Kd.R_nil _ _ _ _ _ | exact Kd.N_nil _ _ _ _ _ | exact Kd.V_nil _ _ _ _ _ | exact Kd.Q_nil _ _ _ _ _ | exact Kd.S_nil _ _ _ _ _, by repeat (first | (with_reducible first | exact HB.out | apply below_alloc | apply pw_below_drewN | apply below_drew1) | exact HB.out)⟩
       rw [if_pos c110] at H
       have c110b0 : ((bt a0 t317) == 41) = true := beq_iff_eq.mpr c110
       have c110b1 : ((bt a0 t317) != 41) = false := bne_eq_false_iff_eq.mpr c110
       clear c110
       obtain ⟨y320, hy320⟩ : ∃ y_ : List Int, y_ = (([16] : List Int)) := ⟨_, rfl⟩
       replace H : (if y320.length + t273.length < 17592186044416 then ((some (y320 ++ t273 : List Int)).bind fun y323 => (if y323.length + t316.length < 17592186044416 then (some ((y323 ++ t316), wrap64 (t317 + 1))) else (none))) else (none)) = some (r1, r2) := by first | (rw [hy320]; with_reducible exact H) | (have H2_ := (Option.bind_some _ _).symm.trans H; rw [hy320]; with_reducible exact H2_) | (have H2_ := (Option.bind_some _ _).symm.trans H; with_reducible exact H2_) | with_reducible exact H | (rw [hy320]; exact H) | exact H
       have Ny320 := ak hy320
       clear hy320
       replace H := oi H
       obtain ⟨c111, H⟩ := H
       have LMc111 := ak c111
       clear c111
       obtain ⟨y323, hy323⟩ : ∃ y_ : List Int, y_ = (y320 ++ t273) := ⟨_, rfl⟩
       replace H : (if y323.length + t316.length < 17592186044416 then (some ((y323 ++ t316), wrap64 (t317 + 1))) else (none)) = some (r1, r2) := by first | (rw [hy323]; with_reducible exact H) | (have H2_ := (Option.bind_some _ _).symm.trans H; rw [hy323]; with_reducible exact H2_) | (have H2_ := (Option.bind_some _ _).symm.trans H; with_reducible exact H2_) | with_reducible exact H | (rw [hy323]; exact H) | exact H
       have Ny323 := ak hy323
       clear hy323
       replace H := oi H
       obtain ⟨c112, H⟩ := H
       have LMc112 := ak c112
       clear c112
       obtain ⟨y326, hy326⟩ : ∃ y_ : List Int, y_ = (y323 ++ t316) := ⟨_, rfl⟩
       replace H : (some (y326, wrap64 (t317 + 1))) = some (r1, r2) := by first | (rw [hy326]; with_reducible exact H) | (have H2_ := (Option.bind_some _ _).symm.trans H; rw [hy326]; with_reducible exact H2_) | (have H2_ := (Option.bind_some _ _).symm.trans H; with_reducible exact H2_) | with_reducible exact H | (rw [hy326]; exact H) | exact H
       have Ny326 := ak hy326
       clear hy326
       simp only [Option.some.injEq, Prod.mk.injEq] at H
       obtain ⟨rfl, rfl⟩ := H
       have p40 : 0 ≤ (t274 : Int) := of_decide_eq_true (by first | (with_reducible assumption) | assumption)
       have q40 : t274 < (a0.size : Int) := of_decide_eq_true (by first | (with_reducible assumption) | assumption)
       have hx40 := bt_at a0 t274
       replace p40 := eq_true p40
       replace q40 := eq_true q40
       go_wp2_with (first | ((with_reducible refine gate_callee (f := 38) rfl ?_); refine goesL_ (some 91) rfl rfl Try.func38 (by kernel_rfl) rfl #[.string a0, .int .i64 (wrap64 (t274 + 1))] rfl (by (try simp only [List.map_toArray, List.map_cons, List.map_nil]); first | done | rfl | (simp only [List.length_drop, List.length_take]; rfl)) ?_; (with_reducible refine (ih kj33 (by have := HJ2.out; have := HJ8.out; have := HJ33.out; omega) a0 (wrap64 (t274 + 1)) t316 t317 _ A102.out).mono ?_); rintro e w113 ⟨v318, rfl, ho0, hb⟩; refine ⟨_, rfl, ?_⟩; have HO319 := ak (Kd.R_lower (Kd.R_new' ho0 (Kd.R_lt (kR HO_8.out))) (below_size (bB HB.out))); replace HO_8 := ak (Kd.R_elder' (kR HO_8.out) (Kd.R_base ho0) hb); replace HB := ak (below_step (bB HB.out) hb); (try clear hb); (try clear hb2); (try clear hk); (try clear hi); (try clear ho0); have p109 : 0 ≤ (t317 : Int) := of_decide_eq_true (by first | (with_reducible assumption) | assumption); have q109 : t317 < (a0.size : Int) := of_decide_eq_true (by first | (with_reducible assumption) | assumption); have hx109 := bt_at a0 t317; replace p109 := eq_true p109; replace q109 := eq_true q109) | ((with_reducible refine gate_dst (N := 109) rfl ?_); (try (refine gate_guard (by rfl) ?_; dsimp only)); refine Kd.R_lit (Kd.int .i64) _ 3 ?hg (N := 109) ?hd (xs := ([16] : List Int)) (inner := [.int .i64 16]) (ok := fun _ => True) (okp := fun _ => True) ?hr ?hp (fun _ hk => hk) trivial (Below.refl _ _) (Nat.le_refl _) (by simp) ?_; (case hd => rfl); (case hg => rfl); (case hr => first | (go_simp; done) | (go_simp; rfl)); (case hp => exact (Reps.one (show Kd.M (Kd.int .i64) _ _ _ 16 [.int .i64 16] from rfl) (Reps.none _ _))); intro v321 w114 ho115 hb hg_ hnew_; clear hg_ hnew_; (first | rw [← Ny320.out] at ho115 | (simp only [Int.reduceToNat] at ho115; rw [← Ny320.out] at ho115)); have HO322 := ak (Kd.R_lower (Kd.R_new' (Kd.R_new' ho115 (Kd.R_lt (kR HO_8.out))) (Kd.R_lt (kR HO319.out))) (below_size (bB HB.out))); replace HO_8 := ak (Kd.R_elder' (kR HO_8.out) (Kd.R_base ho115) hb); replace HO319 := ak (Kd.R_elder' (kR HO319.out) (Kd.R_base ho115) hb); replace HB := ak (below_step (bB HB.out) hb); clear hb ho115; obtain ⟨Ao117, co117, eo117⟩ := Kd.R_slice HO_8.out; subst eo117) | ((with_reducible refine gate_builtin (b := .append) (xs := #[.tmp 109, .tmp 110]) rfl ?_); (try (refine gate_guard (by rfl) ?_; dsimp only)); at_builtin; refine Kd.R_append_rows (Kd.int .i64) (w0 := w) w.heap.size rfl (.tmp 109) (.tmp 110) 22 3 (.int .i64 0) 8 rfl Try.underlying22 info3 rfl (by decide) (by omega) v321 y320 t273 _ _ _ (fun k_ => some k_ ≠ (.slice Ao117 t273.length co117 : Value).ownBlock ∧ some k_ ≠ (v318 : Value).ownBlock) (fun _ => False) rfl rfl ?aO ?aR (fun _ _ h => h) (fun _ h => h.elim) ?aF ?aB ?aS ?aL ?_; (case aR => repeat (first | exact (Kd.R_reads' HO_8.out).2.2 | (with_reducible refine Kd.C_alloc ?_ _) | (with_reducible refine Kd.C_drewN ?_ _) | (with_reducible refine Kd.C_drew ?_))); (case aB => exact (bB HB.out)); (case aF => exact (fun k_ hk => ⟨Kd.fresh' (Kd.R_lt (kR HO_8.out)) k_ hk, Kd.fresh' (Kd.R_lt (kR HO319.out)) k_ hk⟩)); (case aO => exact (kR (Kd.R_mono HO322.out (fun _ hk => ⟨hk.1.2, hk.2⟩)))); (case aS => exact (below_size (bB HB.out))); (case aL => have := LMc111.out; omega); intro v324 w116 ho hb hg hat; rw [← Ny323.out] at ho; replace HO_8 := ak (Kd.R_after (ok := (fun k_ => some k_ ≠ (v318 : Value).ownBlock)) (kR (Kd.R_mono HO_8.out (fun _ hk => ⟨hk.1.2, hk.2⟩))) hg hat); replace HO319 := ak (Kd.R_after (ok := (fun k_ => some k_ ≠ (.slice Ao117 t273.length co117 : Value).ownBlock)) (kR (Kd.R_mono HO319.out (fun _ hk => ⟨hk.1.2, hk.2⟩))) hg hat); replace HB := ak (hb); have HO325 := ak (ho); clear HO322; clear ho hb hg hat; obtain ⟨Ao119, co119, eo119⟩ := Kd.R_slice HO319.out; subst eo119) | ((with_reducible refine gate_builtin (b := .append) (xs := #[.tmp 111, .tmp 112]) rfl ?_); (try (refine gate_guard (by rfl) ?_; dsimp only)); at_builtin; refine Kd.R_append_rows (Kd.int .i64) (w0 := w) w.heap.size rfl (.tmp 111) (.tmp 112) 22 3 (.int .i64 0) 8 rfl Try.underlying22 info3 rfl (by decide) (by omega) v324 y323 t316 _ _ _ (fun k_ => some k_ ≠ (.slice Ao117 t273.length co117 : Value).ownBlock ∧ some k_ ≠ (.slice Ao119 t316.length co119 : Value).ownBlock) (fun _ => False) rfl rfl ?aO ?aR (fun _ _ h => h) (fun _ h => h.elim) ?aF ?aB ?aS ?aL ?_; (case aR => repeat (first | exact (Kd.R_reads' HO319.out).2.2 | (with_reducible refine Kd.C_alloc ?_ _) | (with_reducible refine Kd.C_drewN ?_ _) | (with_reducible refine Kd.C_drew ?_))); (case aB => exact (bB HB.out)); (case aF => exact (fun k_ hk => ⟨Kd.fresh' (Kd.R_lt (kR HO_8.out)) k_ hk, Kd.fresh' (Kd.R_lt (kR HO319.out)) k_ hk⟩)); (case aO => exact (kR HO325.out)); (case aS => exact (below_size (bB HB.out))); (case aL => have := LMc112.out; omega); intro v327 w118 ho hb hg hat; rw [← Ny326.out] at ho; replace HO_8 := ak (Kd.R_after (ok := (fun k_ => some k_ ≠ (.slice Ao119 t316.length co119 : Value).ownBlock)) (kR HO_8.out) hg hat); replace HO319 := ak (Kd.R_after (ok := (fun k_ => some k_ ≠ (.slice Ao117 t273.length co117 : Value).ownBlock)) (kR HO319.out) hg hat); replace HB := ak (hb); have HO328 := ak (ho); clear HO325; clear ho hb hg hat))
       go_ret2
       exact ⟨_, by first | rfl | (simp [errW_none, errW_some] <;> rfl) | (simp [*, errW_none, errW_some] <;> rfl), by (with_reducible repeat (first | apply Kd.R_alloc | apply Kd.R_drewN | apply Kd.R_drew)); exact Kd.R_mono HO328.out (fun _ hk => trivial), by repeat (first | (with_reducible first | exact HB.out | apply below_alloc | apply pw_below_drewN | apply below_drew1) | exact HB.out)⟩
end Go.Proofs.Ytdcohlllbbcjoaa.P

-- shrunk
