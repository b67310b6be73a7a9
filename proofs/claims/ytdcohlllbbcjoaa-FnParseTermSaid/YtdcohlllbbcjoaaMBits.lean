/- Bits of small numbers, as the program and the reference ask for them. -/
import Derived.Test.YtdcohlllbbcjoaaMBase
namespace Go.Proofs.Ytdcohlllbbcjoaa.M
set_option linter.unusedVariables false
open Go.RowKit Go.Proofs.YtdcohlllbbcjoaaW.PrintWords Go.Proofs.YtdcohlllbbcjoaaW.PrintLast Go.Proofs.YtdcohlllbbcjoaaW.PrintMore

theorem wraps62 (n : Int) (h0 : 0 ≤ n) (h1 : n < 2 ^ 62) : IntKind.i64.wrap n = n := by rw [IntKind.wrap_i64]; omega
theorem bitsAnd (a b : Nat) (ha : a < 2 ^ 62) (hb : b < 2 ^ 62) : bits .and .i64 (a : Int) (b : Int) = ((a &&& b : Nat) : Int) :=
  (bits_nat .i64 62 (by decide) wraps62 a b ha hb).1
theorem bitsOr (a b : Nat) (ha : a < 2 ^ 62) (hb : b < 2 ^ 62) : bits .or .i64 (a : Int) (b : Int) = ((a ||| b : Nat) : Int) :=
  (bits_nat .i64 62 (by decide) wraps62 a b ha hb).2
theorem bitsAndNot (a b : Nat) (ha : a < 2 ^ 62) (hb : b < 2 ^ 62) : ∃ c : Nat, bits .andNot .i64 (a : Int) (b : Int) = (c : Int) ∧ ∀ z, c.testBit z = (a.testBit z && !b.testBit z) := by
  refine ⟨(BitVec.ofNat 64 a &&& ~~~(BitVec.ofNat 64 b)).toNat, ?_, ?_⟩
  · have hlt : (BitVec.ofNat 64 a &&& ~~~(BitVec.ofNat 64 b)).toNat < 2 ^ 62 := by
      rw [BitVec.toNat_and]
      refine Nat.lt_of_le_of_lt Nat.and_le_left ?_
      rw [BitVec.toNat_ofNat, Nat.mod_eq_of_lt (by omega)]
      exact ha
    have e : bits .andNot .i64 (a : Int) (b : Int) = IntKind.i64.wrap ((BitVec.ofNat 64 a &&& ~~~(BitVec.ofNat 64 b)).toNat : Int) := by
      show IntKind.i64.wrap _ = _
      rw [BitVec.ofInt_natCast, BitVec.ofInt_natCast]
      rfl
    rw [e]
    exact wraps62 _ (Int.natCast_nonneg _) (Int.ofNat_lt.mpr hlt)
  · intro z
    rw [BitVec.testBit_toNat, BitVec.getLsbD_and, BitVec.getLsbD_not, BitVec.getLsbD_ofNat, BitVec.getLsbD_ofNat]
    by_cases hz : z < 64
    · simp [hz]
    · have h1 : a.testBit z = false := Nat.testBit_lt_two_pow (Nat.lt_of_lt_of_le ha (Nat.pow_le_pow_right (by decide) (by omega)))
      simp [h1]
theorem eq0_of_bits (c : Nat) : c = 0 ↔ ∀ z, c.testBit z = false := by
  constructor
  · rintro rfl z; simp
  · intro h; exact Nat.eq_of_testBit_eq (fun i => by simp [h i])
theorem andNot0 (a b : Nat) (ha : a < 2 ^ 62) (hb : b < 2 ^ 62) : bits .andNot .i64 (a : Int) (b : Int) = 0 ↔ ∀ z, a.testBit z = true → b.testBit z = true := by
  obtain ⟨c, hc, h⟩ := bitsAndNot a b ha hb
  rw [hc]
  constructor
  · intro e z hz
    have e0 : c = 0 := by omega
    have := (eq0_of_bits c).1 e0 z
    rw [h z, hz] at this
    simpa using this
  · intro k
    have : c = 0 := (eq0_of_bits c).2 (fun z => by
      rw [h z]
      cases hz : a.testBit z with
      | false => rfl
      | true => simp [k z hz])
    omega
theorem shl1 (n : Nat) (hn : n ≤ 62) : shl .i64 1 (n : Int) = ((2 ^ n : Nat) : Int) := by
  unfold shl
  have h : 2 ^ n ≤ 2 ^ 62 := Nat.pow_le_pow_right (by decide) hn
  have e : min ((n : Int).toNat) IntKind.i64.bits = n := by
    rw [Int.toNat_natCast]; exact Nat.min_eq_left (by show n ≤ 64; omega)
  rw [e, Int.one_mul, IntKind.wrap_i64]
  have e2 : ((2 : Int) ^ n) = ((2 ^ n : Nat) : Int) := by rw [Int.natCast_pow]; rfl
  rw [e2]
  have h2 : ((2 ^ n : Nat) : Int) ≤ 4611686018427387904 := Int.ofNat_le.mpr (Nat.le_trans h (by decide))
  have h3 : (0 : Int) ≤ ((2 ^ n : Nat) : Int) := Int.natCast_nonneg _
  omega
theorem shrN (a n : Nat) (ha : a < 2 ^ 62) : shr .i64 (a : Int) (n : Int) = ((a / 2 ^ n : Nat) : Int) := by
  unfold shr
  rw [Int.toNat_natCast]
  by_cases h : n ≤ 64
  · rw [Nat.min_eq_left (show n ≤ IntKind.i64.bits from h)]
    norm_cast
  · rw [Nat.min_eq_right (show IntKind.i64.bits ≤ n by show 64 ≤ n; omega)]
    have e1 : a / 2 ^ n = 0 := Nat.div_eq_of_lt (Nat.lt_of_lt_of_le ha (Nat.pow_le_pow_right (by decide) (by omega)))
    have e2 : a / 2 ^ IntKind.i64.bits = 0 := Nat.div_eq_of_lt (Nat.lt_of_lt_of_le ha (Nat.pow_le_pow_right (by decide) (by decide)))
    rw [e1]
    have : ((a : Int) / 2 ^ IntKind.i64.bits) = ((a / 2 ^ IntKind.i64.bits : Nat) : Int) := by rw [Int.natCast_ediv, Int.natCast_pow]; rfl
    rw [this, e2]
theorem tmod2 (a : Nat) : Int.tmod (a : Int) 2 = ((a % 2 : Nat) : Int) := by
  rw [Int.tmod_eq_emod_of_nonneg (by omega)]; norm_cast
/-- 'set >> y % 2 == 1' -/
theorem bit_ask (a y : Nat) (ha : a < 2 ^ 62) : (Int.tmod (shr .i64 (a : Int) (y : Int)) 2 == 1) = a.testBit y := by
  rw [shrN a y ha, tmod2, Nat.testBit_eq_decide_div_mod_eq]
  by_cases h : a / 2 ^ y % 2 = 1
  · simp [h]
  · have h0 : a / 2 ^ y % 2 = 0 := by omega
    simp [h0]
theorem bit_ask' (a y : Nat) (ha : a < 2 ^ 62) : (Int.tmod (shr .i64 (a : Int) (y : Int)) 2 = 1) ↔ a.testBit y = true := by
  rw [← bit_ask a y ha]; simp
end Go.Proofs.Ytdcohlllbbcjoaa.M
