-- Printed by this session's wip/print2.py (the kit's print.py, widened) out of the translation. Lean checks it.
import Derived.Test.YtomapoenndlbiaaP0
namespace Go.Proofs.Ytomapoenndlbiaa.P
open Go.RowKit Go.Proofs.YtomapoenndlbiaaW.PrintWords Go.Proofs.YtomapoenndlbiaaW.PrintLast Go.Proofs.YtomapoenndlbiaaW.PrintMore
attribute [local go_sem] max2_int min2_int max_two min_two max_three min_three max_four min_four   -- for this text's walks alone
set_option linter.unusedVariables false
set_option linter.unusedSimpArgs false

/-! ### impl_within: function 64 -/
def impl_within.f (a0 : Int) (a1 : Int) (a2 : Int) : Option (Bool) := if a0 ≥ a1 then (some (decide (a0 ≤ a2))) else (some false)
set_option maxHeartbeats 8000000 in
set_option maxRecDepth 100000 in
theorem impl_within.calls (a0 : Int) (a1 : Int) (a2 : Int) (r : Bool) (w : World) (h : impl_within.f a0 a1 a2 = some r) :
  Calls Try.prog 64 #[.int .i64 a0, .int .i64 a1, .int .i64 a2] w fun e w' => e = .returned (.bool r) ∧ Drawn0 w w' := by
 have H : (if a0 ≥ a1 then (some (decide (a0 ≤ a2))) else (some false)) = some r := h
 clear h
 by_cases c4 : a0 ≥ a1
 ·rw [if_pos c4] at H
  have c4b0 : decide (a1 ≤ a0) = true := decide_eq_true c4
  clear c4
  obtain rfl := Option.some.inj H
  go_enter Try.func64, Try.ntmps64
  go_wp2
  go_ret
  exact ⟨by first | rfl | (simp; done) | (simp [*]; done), by repeat (first | exact Drawn0.refl _ | apply Drawn0.step)⟩
 rw [if_neg c4] at H
 have c4b0 : decide (a1 ≤ a0) = false := decide_eq_false c4
 clear c4
 obtain rfl := Option.some.inj H
 go_enter Try.func64, Try.ntmps64
 go_wp2
 go_ret
 exact ⟨by first | rfl | (simp; done) | (simp [*]; done), by repeat (first | exact Drawn0.refl _ | apply Drawn0.step)⟩
/-! ### impl_join: function 65 -/
def impl_join.l0 : Nat → List Int → Int → Int → Int → Option (Int)
 | 0, _, _, _, _ => none
 | k + 1, x0, x7, x19, x20 => if x20 < x19 then (if 0 ≤ x20 then (if (Int.tmod (shr .i64 x7 x20) 2) = 1 then (if x20 < (x0.length : Int) then (if (Go.bits .andNot .i64 x7 (rd x0 x20)) = 0 then (some x20) else (impl_join.l0 k x0 x7 x19 (wrap64 (x20 + 1)))) else (none)) else (impl_join.l0 k x0 x7 x19 (wrap64 (x20 + 1)))) else (none)) else (some (-1))
def impl_join.f (k : Nat) (l0 : List Int) (a1 : Int) (a2 : Int) : Option (Int) := if 0 ≤ a1 then (if a1 < (l0.length : Int) then (if 0 ≤ a2 then (if a2 < (l0.length : Int) then (impl_join.l0 k l0 (Go.bits .and .i64 (rd l0 a1) (rd l0 a2)) (l0.length : Int) 0) else (none)) else (none)) else (none)) else (none)
set_option maxHeartbeats 8000000 in
set_option maxRecDepth 100000 in
theorem impl_join.calls (k : Nat) (A0 : Option Addr) (c0 : Nat) (l0 : List Int) (a1 : Int) (a2 : Int) (r : Int) (w : World) (hr0 : Kd.C (Kd.int .i64) w A0 l0.length l0) (hc0 : l0.length ≤ c0) (h : impl_join.f k l0 a1 a2 = some r) :
  Calls Try.prog 65 #[.slice A0 l0.length c0, .int .i64 a1, .int .i64 a2] w fun e w' => e = .returned (.int .i64 r) ∧ Drawn0 w w' := by
 have HR0 := ak hr0
 have HC0 := ak hc0
 clear hr0 hc0
 have H : (if 0 ≤ a1 then (if a1 < (l0.length : Int) then (if 0 ≤ a2 then (if a2 < (l0.length : Int) then (impl_join.l0 k l0 (Go.bits .and .i64 (rd l0 a1) (rd l0 a2)) (l0.length : Int) 0) else (none)) else (none)) else (none)) else (none)) = some r := h
 clear h
 replace H := oi H
 obtain ⟨c4, H⟩ := H
 have c4b0 : decide (0 ≤ a1) = true := decide_eq_true c4
 clear c4
 replace H := oi H
 obtain ⟨c5, H⟩ := H
 have c5b0 : decide (a1 < (l0.length : Int)) = true := decide_eq_true c5
 clear c5
 replace H := oi H
 obtain ⟨c6, H⟩ := H
 have c6b0 : decide (0 ≤ a2) = true := decide_eq_true c6
 clear c6
 replace H := oi H
 obtain ⟨c7, H⟩ := H
 have c7b0 : decide (a2 < (l0.length : Int)) = true := decide_eq_true c7
 clear c7
 have H' := ak H
 clear H
 have p233 : 0 ≤ (a1 : Int) := of_decide_eq_true (by first | (with_reducible assumption) | assumption)
 have q233 : a1 < (l0.length : Int) := of_decide_eq_true (by first | (with_reducible assumption) | assumption)
 obtain ⟨ad233, e233, hx233_0⟩ := Kd.at_int HR0.out a1 p233 q233
 cases e233
 replace p233 := eq_true p233
 replace q233 := eq_true q233
 have p234 : 0 ≤ (a2 : Int) := of_decide_eq_true (by first | (with_reducible assumption) | assumption)
 have q234 : a2 < (l0.length : Int) := of_decide_eq_true (by first | (with_reducible assumption) | assumption)
 obtain ⟨ad234, e234, hx234_0⟩ := Kd.at_int HR0.out a2 p234 q234
 obtain rfl : ad233 = ad234 := (by injection e234)
 replace p234 := eq_true p234
 replace q234 := eq_true q234
 go_enter Try.func65, Try.ntmps65
 go_wp2
 repeat (go_quiet (fail); try go_wp2)
 go_loopg [20] k (fun kq v20 w' => ∃ (x20_1 : Int), v20 = .int .i64 x20_1 ∧ Aside0 (impl_join.l0 kq l0 (Go.bits .and .i64 (rd l0 a1) (rd l0 a2)) (l0.length : Int) x20_1 = some r) ∧ Aside0 (kq ≤ k) ∧ Drawn0 w w')
 case atStart => exact ⟨(0), (by first | rfl | (simp; done) | (simp [*]; done)), H', ⟨Nat.le_refl _⟩, by repeat (first | exact Drawn0.refl _ | apply Drawn0.step)⟩
 case round =>
  clear H'
  try clear p2
  try clear q2
  try clear hx2
  try clear c4
  try clear c4b0
  try clear c5
  try clear c5b0
  try clear c6
  try clear c6b0
  try clear c7
  try clear c7b0
  try clear hx233_0
  try clear hx234_0
  try clear p233
  try clear p234
  try clear q233
  try clear q234
  obtain ⟨x20_1, rfl, HA, HK1, ⟨m1, rfl⟩⟩ := hrel
  cases gk with
  | zero => exact absurd HA.out (by simp [impl_join.l0])
  | succ k1 =>
   have H := HA.out
   clear HA
   simp only [impl_join.l0] at H
   by_cases c8 : x20_1 < (l0.length : Int)
   rotate_left
   ·rw [if_neg c8] at H
    have c8b0 : decide (x20_1 < (l0.length : Int)) = false := decide_eq_false c8
    clear c8
    obtain rfl := Option.some.inj H
    go_wp2
    repeat (go_quiet (fail); try go_wp2)
    go_ret
    exact ⟨by first | rfl | (simp; done) | (simp [*]; done), by repeat (first | exact Drawn0.refl _ | apply Drawn0.step)⟩
   rw [if_pos c8] at H
   have c8b0 : decide (x20_1 < (l0.length : Int)) = true := decide_eq_true c8
   clear c8
   replace H := oi H
   obtain ⟨c9, H⟩ := H
   have c9b0 := eq_true c9
   have c9b1 : decide (0 ≤ x20_1) = true := decide_eq_true c9
   clear c9
   obtain ⟨ji10, hji10⟩ : ∃ j_ : Int, (shr .i64 (Go.bits .and .i64 (rd l0 a1) (rd l0 a2)) x20_1) = j_ := ⟨_, rfl⟩
   replace H : (if (Int.tmod (ji10) 2) = 1 then (if x20_1 < (l0.length : Int) then (if (Go.bits .andNot .i64 (Go.bits .and .i64 (rd l0 a1) (rd l0 a2)) (rd l0 x20_1)) = 0 then (some x20_1) else (impl_join.l0 k1 l0 (Go.bits .and .i64 (rd l0 a1) (rd l0 a2)) (l0.length : Int) (wrap64 (x20_1 + 1)))) else (none)) else (impl_join.l0 k1 l0 (Go.bits .and .i64 (rd l0 a1) (rd l0 a2)) (l0.length : Int) (wrap64 (x20_1 + 1)))) = some r := by first | (rw [hji10] at H; exact H) | (simp only [hji10] at H ⊢; exact H)
   have hji10_ : ((Go.bits .and .i64 (rd l0 a1) (rd l0 a2)) / 2 ^ min x20_1.toNat 64) = ji10 := hji10
   have hji10z : x20_1 ≤ 64 → ((Go.bits .and .i64 (rd l0 a1) (rd l0 a2)) / 2 ^ x20_1.toNat) = ji10 := shr_small hji10
   by_cases c11 : (Int.tmod (ji10) 2) = 1
   rotate_left
   ·rw [if_neg c11] at H
    have c11b0 : ((Int.tmod (ji10) 2) == 1) = false := beq_eq_false_iff_ne.mpr c11
    have c11b1 : ((Int.tmod (ji10) 2) != 1) = true := bne_iff_ne.mpr c11
    have H' := ak H
    clear H
    go_wp2
    repeat (go_quiet (fail); try go_wp2)
    go_roundg k1
    case measure => have := HK1.out; omega
    case rel => exact ⟨(wrap64 (x20_1 + 1)), (by first | rfl | (simp; done) | (simp [*]; done)), H', ⟨by have := HK1.out; omega⟩, by repeat (first | exact Drawn0.refl _ | apply Drawn0.step)⟩
   rw [if_pos c11] at H
   have c11b0 : ((Int.tmod (ji10) 2) == 1) = true := beq_iff_eq.mpr c11
   have c11b1 : ((Int.tmod (ji10) 2) != 1) = false := bne_eq_false_iff_eq.mpr c11
   clear c11
   replace H := oi H
   obtain ⟨c12, H⟩ := H
   have c12b0 : decide (x20_1 < (l0.length : Int)) = true := decide_eq_true c12
   clear c12
   by_cases c13 : (Go.bits .andNot .i64 (Go.bits .and .i64 (rd l0 a1) (rd l0 a2)) (rd l0 x20_1)) = 0
   ·rw [if_pos c13] at H
    have c13b0 : ((Go.bits .andNot .i64 (Go.bits .and .i64 (rd l0 a1) (rd l0 a2)) (rd l0 x20_1)) == 0) = true := beq_iff_eq.mpr c13
    have c13b1 : ((Go.bits .andNot .i64 (Go.bits .and .i64 (rd l0 a1) (rd l0 a2)) (rd l0 x20_1)) != 0) = false := bne_eq_false_iff_eq.mpr c13
    clear c13
    obtain rfl := Option.some.inj H
    have p235 : 0 ≤ (x20_1 : Int) := of_decide_eq_true (by first | (with_reducible assumption) | assumption)
    have q235 : x20_1 < (l0.length : Int) := of_decide_eq_true (by first | (with_reducible assumption) | assumption)
    obtain ⟨ad235, e235, hx235_0⟩ := Kd.at_int HR0.out x20_1 p235 q235
    obtain rfl : ad233 = ad235 := (by injection e235)
    replace p235 := eq_true p235
    replace q235 := eq_true q235
    go_wp2
    repeat (go_quiet (fail); try go_wp2)
    go_ret
    exact ⟨by first | rfl | (simp; done) | (simp only [← hji10] <;> (first | rfl | simp)) | (simp [*]; done), by repeat (first | exact Drawn0.refl _ | apply Drawn0.step)⟩
   rw [if_neg c13] at H
   have c13b0 : ((Go.bits .andNot .i64 (Go.bits .and .i64 (rd l0 a1) (rd l0 a2)) (rd l0 x20_1)) == 0) = false := beq_eq_false_iff_ne.mpr c13
   have c13b1 : ((Go.bits .andNot .i64 (Go.bits .and .i64 (rd l0 a1) (rd l0 a2)) (rd l0 x20_1)) != 0) = true := bne_iff_ne.mpr c13
   have H' := ak H
   clear H
   have p235 : 0 ≤ (x20_1 : Int) := of_decide_eq_true (by first | (with_reducible assumption) | assumption)
   have q235 : x20_1 < (l0.length : Int) := of_decide_eq_true (by first | (with_reducible assumption) | assumption)
   obtain ⟨ad235, e235, hx235_0⟩ := Kd.at_int HR0.out x20_1 p235 q235
   obtain rfl : ad233 = ad235 := (by injection e235)
   replace p235 := eq_true p235
   replace q235 := eq_true q235
   go_wp2
   repeat (go_quiet (fail); try go_wp2)
   go_roundg k1
   case measure => have := HK1.out; omega
   case rel => exact ⟨(wrap64 (x20_1 + 1)), (by first | rfl | (simp; done) | (simp [*]; done)), H', ⟨by have := HK1.out; omega⟩, by repeat (first | exact Drawn0.refl _ | apply Drawn0.step)⟩
end Go.Proofs.Ytomapoenndlbiaa.P

-- shrunk
