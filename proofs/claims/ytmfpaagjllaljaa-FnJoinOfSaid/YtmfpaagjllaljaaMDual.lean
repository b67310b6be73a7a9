/- A lattice upside down is a lattice, and turned twice it is as before. -/
import Derived.Test.YtmfpaagjllaljaaMB
import Derived.Test.YtmfpaagjllaljaaMTurned
namespace Go.Proofs.Ytmfpaagjllaljaa.M
set_option linter.unusedVariables false
open Go.RowKit Go.Proofs.YtmfpaagjllaljaaW.PrintWords Go.Proofs.YtmfpaagjllaljaaW.PrintLast Go.Proofs.YtmfpaagjllaljaaW.PrintMore Go.Proofs.Ytmfpaagjllaljaa.P

theorem turned_len (up : List Int) : (turnedN up).length = up.length := by simp [turnedN]
theorem turned_rd (up : List Int) {j : Nat} (hj : j < up.length) : rd (turnedN up) (j : Int) = ((maskN (fun b => le up (up.length - 1 - b) (up.length - 1 - j)) up.length : Nat) : Int) := by
  rw [rd_lt (by rw [turned_len]; exact hj)]
  simp [turnedN]
theorem turned_le (up : List Int) {j b : Nat} (hj : j < up.length) (hb : b < up.length) : le (turnedN up) j b = le up (up.length - 1 - b) (up.length - 1 - j) := by
  unfold le
  rw [turned_rd up hj, Int.toNat_natCast, maskN_testBit, decide_eq_true hb, Bool.true_and]
  rfl
theorem turned_ok {up : List Int} (h : OkR up) : OkR (turnedN up) := by
  refine ⟨by rw [turned_len]; exact h.1, fun x hx => ?_⟩
  rw [turned_len] at hx ⊢
  rw [turned_rd up hx]
  have := maskN_lt (fun b => le up (up.length - 1 - b) (up.length - 1 - x)) up.length
  exact ⟨Int.natCast_nonneg _, Int.ofNat_lt.mpr this⟩
theorem turned_lat {up : List Int} (hb : latB up = true) : latB (turnedN up) = true := by
  have L := Lat.of hb
  have h1 := L.pos
  have hl := turned_len up
  have T : ∀ {j b : Nat}, j < up.length → b < up.length → le (turnedN up) j b = le up (up.length - 1 - b) (up.length - 1 - j) := fun hj hb => turned_le up hj hb
  refine latB_of ⟨turned_ok L.ok, by rw [hl]; exact h1, ?_, ?_, ?_, ?_, ?_⟩ ?_ ?_
  · intro x hx
    rw [hl] at hx
    rw [T hx hx]
    exact L.refl _ (by omega)
  · intro x hx
    rw [hl] at hx
    rw [T (by omega) hx]
    exact L.top _ (by omega)
  · intro x hx
    rw [hl] at hx ⊢
    rw [T hx (by omega), show up.length - 1 - (up.length - 1) = 0 by omega]
    exact L.bot _ (by omega)
  · intro x y hx hy a b
    rw [hl] at hx hy
    rw [T hx hy] at a
    rw [T hy hx] at b
    have := L.anti _ _ (by omega) (by omega) a b
    omega
  · intro x y z hx hy hz a b
    rw [hl] at hx hy hz
    rw [T hx hy] at a
    rw [T hy hz] at b
    rw [T hx hz]
    exact L.trans _ _ _ (by omega) (by omega) (by omega) b a
  · intro x y hx hy
    rw [hl] at hx hy
    have jx : up.length - 1 - x < up.length := by omega
    have jy : up.length - 1 - y < up.length := by omega
    have hj := jlt hb jx jy
    refine ⟨up.length - 1 - joinN up (up.length - 1 - x) (up.length - 1 - y), by rw [hl]; omega, isMeet_iff.2 ?_⟩
    have e : up.length - 1 - (up.length - 1 - joinN up (up.length - 1 - x) (up.length - 1 - y)) = joinN up (up.length - 1 - x) (up.length - 1 - y) := by omega
    rw [T (by omega) hx, T (by omega) hy, e]
    refine ⟨j_l hb jx jy, j_r hb jx jy, fun w hw a b => ?_⟩
    rw [hl] at hw
    rw [T hw hx] at a
    rw [T hw hy] at b
    rw [T hw (by omega), e]
    exact j_g hb jx jy (by omega) a b
  · intro x y hx hy
    rw [hl] at hx hy
    have jx : up.length - 1 - x < up.length := by omega
    have jy : up.length - 1 - y < up.length := by omega
    have hj := mlt hb jx jy
    refine ⟨up.length - 1 - meetN up (up.length - 1 - x) (up.length - 1 - y), by rw [hl]; omega, isJoin_iff.2 ?_⟩
    have e : up.length - 1 - (up.length - 1 - meetN up (up.length - 1 - x) (up.length - 1 - y)) = meetN up (up.length - 1 - x) (up.length - 1 - y) := by omega
    rw [T hx (by omega), T hy (by omega), e]
    refine ⟨m_l hb jx jy, m_r hb jx jy, fun w hw a b => ?_⟩
    rw [hl] at hw
    rw [T hx hw] at a
    rw [T hy hw] at b
    rw [T (by omega) hw, e]
    exact m_g hb jx jy (by omega) a b
/-- The meet of the turned is the join. -/
theorem turned_meet {up : List Int} (hb : latB up = true) {x y : Nat} (hx : x < up.length) (hy : y < up.length) : meetN (turnedN up) (up.length - 1 - x) (up.length - 1 - y) = up.length - 1 - joinN up x y := by
  have hl := turned_len up
  have T : ∀ {j b : Nat}, j < up.length → b < up.length → le (turnedN up) j b = le up (up.length - 1 - b) (up.length - 1 - j) := fun hj hb => turned_le up hj hb
  have hj := jlt hb hx hy
  have r : ∀ z, z < up.length → up.length - 1 - (up.length - 1 - z) = z := fun z hz => by omega
  refine m_eq (turned_lat hb) (by rw [hl]; omega) (by rw [hl]; omega) (by rw [hl]; omega) (isMeet_iff.2 ?_)
  rw [T (by omega) (by omega), T (by omega) (by omega), r _ hj, r _ hx, r _ hy]
  refine ⟨j_l hb hx hy, j_r hb hx hy, fun w hw a b => ?_⟩
  rw [hl] at hw
  rw [T hw (by omega), r _ hx] at a
  rw [T hw (by omega), r _ hy] at b
  rw [T hw (by omega), r _ hj]
  exact j_g hb hx hy (by omega) a b
theorem turned_join {up : List Int} (hb : latB up = true) {x y : Nat} (hx : x < up.length) (hy : y < up.length) : joinN (turnedN up) (up.length - 1 - x) (up.length - 1 - y) = up.length - 1 - meetN up x y := by
  have hl := turned_len up
  have T : ∀ {j b : Nat}, j < up.length → b < up.length → le (turnedN up) j b = le up (up.length - 1 - b) (up.length - 1 - j) := fun hj hb => turned_le up hj hb
  have hj := mlt hb hx hy
  have r : ∀ z, z < up.length → up.length - 1 - (up.length - 1 - z) = z := fun z hz => by omega
  refine j_eq (turned_lat hb) (by rw [hl]; omega) (by rw [hl]; omega) (by rw [hl]; omega) (isJoin_iff.2 ?_)
  rw [T (by omega) (by omega), T (by omega) (by omega), r _ hj, r _ hx, r _ hy]
  refine ⟨m_l hb hx hy, m_r hb hx hy, fun w hw a b => ?_⟩
  rw [hl] at hw
  rw [T (by omega) hw, r _ hx] at a
  rw [T (by omega) hw, r _ hy] at b
  rw [T (by omega) hw, r _ hj]
  exact m_g hb hx hy (by omega) a b
/-- Rows are told by their bits. -/
theorem rows_ext {a b : List Int} (ha : OkR a) (hb : OkR b) (hl : a.length = b.length) (h : ∀ x y, x < a.length → y < a.length → le a x y = le b x y) : a = b := by
  apply List.ext_getElem hl
  intro x h1 h2
  have a1 := ha.2 x h1
  have b1 := hb.2 x h2
  have e : (rd a (x : Int)).toNat = (rd b (x : Int)).toNat := by
    apply Nat.eq_of_testBit_eq
    intro i
    by_cases hi : i < a.length
    · exact h x i h1 hi
    · have q1 : (rd a (x : Int)).toNat < 2 ^ a.length := by omega
      have q2 : 2 ^ a.length ≤ 2 ^ i := Nat.pow_le_pow_right (by decide) (by omega)
      have q3 : (rd b (x : Int)).toNat < 2 ^ b.length := by omega
      have q4 : 2 ^ b.length ≤ 2 ^ i := Nat.pow_le_pow_right (by decide) (by omega)
      have z1 : (rd a (x : Int)).toNat.testBit i = false := Nat.testBit_lt_two_pow (Nat.lt_of_lt_of_le q1 q2)
      have z2 : (rd b (x : Int)).toNat.testBit i = false := Nat.testBit_lt_two_pow (Nat.lt_of_lt_of_le q3 q4)
      rw [z1, z2]
  rw [← rd_lt h1, ← rd_lt h2]
  omega
theorem turned_twice {up : List Int} (hb : latB up = true) : turnedN (turnedN up) = up := by
  have L := Lat.of hb
  have hl := turned_len up
  refine rows_ext (turned_ok (turned_ok L.ok)) L.ok (by rw [turned_len, hl]) (fun x y hx hy => ?_)
  rw [turned_len, hl] at hx hy
  rw [turned_le _ (by rw [hl]; exact hx) (by rw [hl]; exact hy), hl, turned_le up (by omega) (by omega)]
  congr 1 <;> omega
theorem turnedM {up : List Int} (hb : latB up = true) : TurnedLatticeM up = turnedN up := by rw [TurnedLatticeM, if_pos hb]
end Go.Proofs.Ytmfpaagjllaljaa.M
