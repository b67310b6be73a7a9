/- The reference's powers of 2 and bits. -/
import Derived.Test.YtmfpaagjllaljaaP1
import Derived.Test.YtmfpaagjllaljaaMBits
namespace Go.Proofs.Ytmfpaagjllaljaa.M
set_option linter.unusedVariables false
open Go.RowKit Go.Proofs.YtmfpaagjllaljaaW.PrintWords Go.Proofs.YtmfpaagjllaljaaW.PrintLast Go.Proofs.YtmfpaagjllaljaaW.PrintMore Go.Proofs.Ytmfpaagjllaljaa.P

theorem power_l (n : Nat) : ∀ acc : Nat, n ≤ 62 → acc * 2 ^ n ≤ 2 ^ 62 → Ev (fun k => spec_power.l0 k (n : Int) (acc : Int)) ((acc * 2 ^ n : Nat) : Int) := by
  induction n with
  | zero =>
    intro acc _ h
    refine Ev.step (fun k => by simp only [spec_power.l0]; exact rfl) ?_
    refine Ev.neg (by omega) (Ev.const (by simp))
  | succ n ih =>
    intro acc hn h
    refine Ev.step (fun k => by simp only [spec_power.l0]; exact rfl) ?_
    refine Ev.pos (by omega) ?_
    have hp : 1 ≤ 2 ^ n := Nat.one_le_two_pow
    have h2 : acc * 2 ^ (n + 1) = (2 * acc) * 2 ^ n := by rw [Nat.pow_succ]; ac_rfl
    have h3 : 2 * acc ≤ (2 * acc) * 2 ^ n := Nat.le_mul_of_pos_right _ hp
    have h4 : 2 * acc ≤ 4611686018427387904 := by rw [h2] at h; exact Nat.le_trans h3 (Nat.le_trans h (by decide))
    rw [w64 (x := ((n + 1 : Nat) : Int) - 1) (by omega) (by omega), w64 (x := 2 * (acc : Int)) (by omega) (by omega)]
    have := ih (2 * acc) (by omega) (by rw [← h2]; exact h)
    rw [h2]
    have e1 : (((n + 1 : Nat) : Int) - 1) = (n : Int) := by omega
    have e2 : (2 * (acc : Int)) = ((2 * acc : Nat) : Int) := by omega
    rw [e1, e2]
    exact this
theorem power_ev (n : Nat) (hn : n ≤ 62) : Ev (fun k => spec_power.f k (n : Int)) ((2 ^ n : Nat) : Int) := by
  have := power_l n 1 hn (by rw [Nat.one_mul]; exact Nat.pow_le_pow_right (by decide) hn)
  rw [Nat.one_mul] at this
  exact this
/-- 'bit(x, j)' of a number that is not negative. -/
theorem bit_ev (x j : Nat) (hx : x < 2 ^ 62) (hj : j ≤ 62) : Ev (fun k => spec_bit.f k (x : Int) (j : Int)) (if x.testBit j then 1 else 0) := by
  unfold spec_bit.f
  refine Ev.bind (power_ev j hj) ?_
  have hp : 0 < 2 ^ j := Nat.two_pow_pos j
  refine Ev.neg (by omega) (Ev.const ?_)
  have e : Int.tdiv (x : Int) ((2 ^ j : Nat) : Int) = ((x / 2 ^ j : Nat) : Int) := by
    rw [Int.tdiv_eq_ediv_of_nonneg (by omega), Int.natCast_ediv]
  have hle : x / 2 ^ j ≤ x := Nat.div_le_self _ _
  have hx' : x < 4611686018427387904 := hx
  rw [e, Nat.testBit_eq_decide_div_mod_eq]
  generalize x / 2 ^ j = q at hle ⊢
  rw [w64 (by omega) (by omega), tmod2]
  by_cases h : q % 2 = 1
  · simp [h]
  · have h0 : q % 2 = 0 := by omega
    simp [h0]
end Go.Proofs.Ytmfpaagjllaljaa.M
