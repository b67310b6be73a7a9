/- The least filter with more than the greatest element, if there is one: where all such filters meet. -/
import Derived.Test.YtomapoenndlbiaaMFilts
namespace Go.Proofs.Ytomapoenndlbiaa.M
set_option linter.unusedVariables false
open Go.RowKit Go.Proofs.YtomapoenndlbiaaW.PrintWords Go.Proofs.YtomapoenndlbiaaW.PrintLast Go.Proofs.YtomapoenndlbiaaW.PrintMore Go.Proofs.Ytomapoenndlbiaa.P

/-- How many of the first bits are set. -/
def weightN : Nat → Nat → Nat
  | 0, _ => 0
  | f + 1, x => x % 2 + weightN f (x / 2)
theorem weight_top {n F : Nat} (h1 : 1 ≤ n) (h6 : n ≤ 6) (hF : F < 2 ^ n) (ht : F.testBit (n - 1) = true) : decide (1 < weightN 6 F) = decide (F ≠ 2 ^ (n - 1)) := by
  have key : ((List.range 7).all fun n => (List.range 64).all fun F => decide (n = 0) || decide (2 ^ n ≤ F) || !(F.testBit (n - 1)) || (decide (1 < weightN 6 F) == decide (F ≠ 2 ^ (n - 1)))) = true := by decide +kernel
  have h64 : 2 ^ n ≤ 64 := Nat.pow_le_pow_right (show 0 < 2 by decide) h6
  have a := List.all_eq_true.1 (List.all_eq_true.1 key n (List.mem_range.2 (by omega))) F (List.mem_range.2 (by omega))
  rw [decide_eq_false (show ¬ n = 0 by omega), decide_eq_false (show ¬ 2 ^ n ≤ F by omega), ht] at a
  simpa using a
theorem foldL_bits (c : Nat → Bool) (v : Nat → Nat) (z : Nat) : ∀ d i s, (foldL (fun j s => if c j = true then s &&& v j else s) d i s).testBit z = true ↔ s.testBit z = true ∧ ∀ j, i ≤ j → j < i + d → c j = true → (v j).testBit z = true := by
  intro d
  induction d with
  | zero => intro i s; exact ⟨fun h => ⟨h, fun j h1 h2 => by omega⟩, fun h => h.1⟩
  | succ d ih =>
    intro i s
    show (foldL _ d (i + 1) (if c i = true then s &&& v i else s)).testBit z = true ↔ _
    rw [ih]
    cases hc : c i with
    | true =>
      rw [if_pos rfl, Nat.testBit_and, Bool.and_eq_true]
      constructor
      · rintro ⟨⟨h1, h2⟩, h3⟩
        refine ⟨h1, fun j h4 h5 h6 => ?_⟩
        by_cases e : j = i
        · rw [e]; exact h2
        · exact h3 j (by omega) (by omega) h6
      · rintro ⟨h1, h2⟩
        exact ⟨⟨h1, h2 i (by omega) (by omega) hc⟩, fun j h4 h5 h6 => h2 j (by omega) (by omega) h6⟩
    | false =>
      rw [if_neg (by decide)]
      constructor
      · rintro ⟨h1, h3⟩
        refine ⟨h1, fun j h4 h5 h6 => ?_⟩
        by_cases e : j = i
        · rw [e, hc] at h6; cases h6
        · exact h3 j (by omega) (by omega) h6
      · rintro ⟨h1, h2⟩
        exact ⟨h1, fun j h4 h5 h6 => h2 j (by omega) (by omega) h6⟩
def heartS (l : List Int) (i s : Nat) : Nat := if decide (1 < weightN 6 (rd l (i : Int)).toNat) = true then s &&& (rd l (i : Int)).toNat else s
def heartN (up : List Int) (T : List (List Int)) : Nat := foldL (heartS (filtersN up T)) (filtersN up T).length 0 (2 ^ up.length - 1)
/-- A filter with more than the greatest element. -/
def moreB (up : List Int) (T : List (List Int)) (F : Nat) : Bool := filtB up T F && decide (F ≠ 2 ^ (up.length - 1))
theorem filt_top {up : List Int} {T : List (List Int)} {F : Nat} (h : filtB up T F = true) : F.testBit (up.length - 1) = true := by
  unfold filtB at h
  rw [Bool.and_eq_true] at h
  exact h.1
theorem heart_bits {up : List Int} {T : List (List Int)} (A : Alg up T) (z : Nat) : (heartN up T).testBit z = true ↔ z < up.length ∧ ∀ F, F < 2 ^ up.length → moreB up T F = true → F.testBit z = true := by
  unfold heartN heartS
  rw [foldL_bits (fun i => decide (1 < weightN 6 (rd (filtersN up T) (i : Int)).toNat)) (fun i => (rd (filtersN up T) (i : Int)).toNat) z, Nat.testBit_two_pow_sub_one, decide_eq_true_eq]
  constructor
  · rintro ⟨h1, h2⟩
    refine ⟨h1, fun F hF hm => ?_⟩
    unfold moreB at hm
    rw [Bool.and_eq_true] at hm
    have mem : ((F : Nat) : Int) ∈ filtersN up T := listN_mem.2 ⟨F, hF, hm.1, rfl⟩
    obtain ⟨i, hi, e⟩ := List.mem_iff_getElem.1 mem
    have er : (rd (filtersN up T) (i : Int)).toNat = F := by rw [rd_lt hi, e, Int.toNat_natCast]
    have := h2 i (Nat.zero_le _) (by omega) (by simp only [er]; rw [weight_top A.pos A.ok.1 hF (filt_top hm.1)]; exact hm.2)
    simp only [er] at this
    exact this
  · rintro ⟨h1, h2⟩
    refine ⟨h1, fun j _ hj hc => ?_⟩
    have hj' : j < (filtersN up T).length := by omega
    have mem : rd (filtersN up T) (j : Int) ∈ filtersN up T := rd_mem hj'
    obtain ⟨F, hF, hf, e⟩ := listN_mem.1 mem
    have er : (rd (filtersN up T) (j : Int)).toNat = F := by rw [e, Int.toNat_natCast]
    simp only [er] at hc ⊢
    rw [weight_top A.pos A.ok.1 hF (filt_top hf)] at hc
    exact h2 F hF (by unfold moreB; rw [hf, hc]; rfl)
theorem lt_of_bits {F n : Nat} (h : ∀ z, F.testBit z = true → z < n) : F < 2 ^ n := by
  apply Nat.lt_pow_two_of_testBit
  intro i hi
  cases hb : F.testBit i with
  | false => rfl
  | true => have := h i hb; omega
theorem heart_lt {up : List Int} {T : List (List Int)} (A : Alg up T) : heartN up T < 2 ^ up.length := lt_of_bits fun z hz => ((heart_bits A z).1 hz).1
theorem heart_sub {up : List Int} {T : List (List Int)} (A : Alg up T) {F : Nat} (hF : F < 2 ^ up.length) (hm : moreB up T F = true) (z : Nat) (hz : (heartN up T).testBit z = true) : F.testBit z = true := ((heart_bits A z).1 hz).2 F hF hm
theorem closed_iff {up : List Int} {T : List (List Int)} {F : Nat} : filtB up T F = true ↔ F.testBit (up.length - 1) = true ∧ ∀ x, x < up.length → ∀ y, y < up.length → F.testBit x = true → (le up x y = true → F.testBit y = true) ∧ (F.testBit y = true → F.testBit (tN T x y) = true) := by
  unfold filtB closedX
  rw [Bool.and_eq_true, allN_iff]
  constructor
  · rintro ⟨h1, h2⟩
    refine ⟨h1, fun x hx y hy hxF => ?_⟩
    have h := allN_iff.1 (h2 x hx) y hy
    unfold closedAt at h
    rw [hxF] at h
    refine ⟨fun hle => ?_, fun hyF => ?_⟩
    · rw [hle] at h
      cases hb : F.testBit y with
      | true => rfl
      | false => rw [hb] at h; cases h
    · rw [hyF] at h
      cases hb : F.testBit (tN T x y) with
      | true => rfl
      | false => rw [hb] at h; simp at h
  · rintro ⟨h1, h2⟩
    refine ⟨h1, fun x hx => allN_iff.2 fun y hy => ?_⟩
    unfold closedAt
    cases hxF : F.testBit x with
    | false => rfl
    | true =>
      have h := h2 x hx y hy hxF
      cases hle : le up x y with
      | false =>
        cases hyF : F.testBit y with
        | false => rfl
        | true => rw [h.2 hyF]; rfl
      | true => rw [h.1 hle, h.2 (h.1 hle)]; rfl
theorem heart_filt {up : List Int} {T : List (List Int)} (A : Alg up T) : filtB up T (heartN up T) = true := by
  have pos := A.pos
  rw [closed_iff]
  refine ⟨(heart_bits A _).2 ⟨by omega, fun F hF hm => ?_⟩, fun x hx y hy hxF => ⟨fun hle => (heart_bits A _).2 ⟨hy, fun F hF hm => ?_⟩, fun hyF => (heart_bits A _).2 ⟨A.lt x y hx hy, fun F hF hm => ?_⟩⟩⟩
  · unfold moreB at hm
    rw [Bool.and_eq_true] at hm
    exact filt_top hm.1
  · have hx2 := heart_sub A hF hm x hxF
    unfold moreB at hm
    rw [Bool.and_eq_true] at hm
    exact ((closed_iff.1 hm.1).2 x hx y hy hx2).1 hle
  · have hx2 := heart_sub A hF hm x hxF
    have hy2 := heart_sub A hF hm y hyF
    unfold moreB at hm
    rw [Bool.and_eq_true] at hm
    exact ((closed_iff.1 hm.1).2 x hx y hy hx2).2 hy2
theorem heart_weight {up : List Int} {T : List (List Int)} (A : Alg up T) : decide (1 < weightN 6 (heartN up T)) = moreB up T (heartN up T) := by
  rw [weight_top A.pos A.ok.1 (heart_lt A) (filt_top (heart_filt A))]
  unfold moreB
  rw [heart_filt A, Bool.true_and]
/-- F lies in all filters with more than the greatest element. -/
def inAll (up : List Int) (T : List (List Int)) (F : Nat) : Prop := ∀ G, G < 2 ^ up.length → moreB up T G = true → ∀ z, F.testBit z = true → G.testBit z = true
theorem heart_only {up : List Int} {T : List (List Int)} (A : Alg up T) {F : Nat} (hF : F < 2 ^ up.length) (hm : moreB up T F = true) (hi : inAll up T F) : F = heartN up T ∧ moreB up T (heartN up T) = true := by
  have pos := A.pos
  have e : F = heartN up T := by
    apply Nat.eq_of_testBit_eq
    intro z
    rw [Bool.eq_iff_iff]
    constructor
    · intro hz
      refine (heart_bits A z).2 ⟨?_, fun G hG hmG => hi G hG hmG z hz⟩
      refine Classical.byContradiction fun hc => ?_
      have : F.testBit z = false := Nat.testBit_lt_two_pow (Nat.lt_of_lt_of_le hF (Nat.pow_le_pow_right (by decide) (by omega)))
      rw [this] at hz
      cases hz
    · exact heart_sub A hF hm z
  rw [← e]
  exact ⟨rfl, hm⟩
end Go.Proofs.Ytomapoenndlbiaa.M
