/- The least filter with some elements: the program and the reference answer the same. -/
import Derived.Test.YtkndndgladdmcaaP70
import Derived.Test.YtkndndgladdmcaaP71
import Derived.Test.YtkndndgladdmcaaP72
import Derived.Test.YtkndndgladdmcaaMFilts
namespace Go.Proofs.Ytkndndgladdmcaa.M
set_option linter.unusedVariables false
open Go.RowKit Go.Proofs.YtkndndgladdmcaaW.PrintWords Go.Proofs.YtkndndgladdmcaaW.PrintLast Go.Proofs.YtkndndgladdmcaaW.PrintMore Go.Proofs.Ytkndndgladdmcaa.P

/-- What is left of out behind the i-th of some sets. -/
def genS (set : Nat) (l : List Int) (i s : Nat) : Nat := if set &&& (rd l (i : Int)).toNat = set then s &&& (rd l (i : Int)).toNat else s
def genN (up : List Int) (T : List (List Int)) (set : Nat) : Nat := foldL (genS set (filtersN up T)) (filtersN up T).length 0 (2 ^ up.length - 1)
theorem sub_iff (a b : Nat) : (∀ z, a.testBit z = true → b.testBit z = true) ↔ a &&& b = a := by
  constructor
  · intro h
    apply Nat.eq_of_testBit_eq
    intro z
    rw [Nat.testBit_and]
    cases ha : a.testBit z with
    | false => rfl
    | true => rw [h z ha]; rfl
  · intro h z hz
    have : (a &&& b).testBit z = true := by rw [h]; exact hz
    rw [Nat.testBit_and, hz, Bool.true_and] at this
    exact this
theorem filt_rd {up : List Int} {T : List (List Int)} (h6 : up.length ≤ 6) {i : Nat} (hi : i < (filtersN up T).length) : ∃ c : Nat, rd (filtersN up T) (i : Int) = (c : Int) ∧ c < 64 ∧ c < 2 ^ up.length ∧ filtB up T c = true := by
  have h := rd_mem hi
  obtain ⟨c, h1, h2, h3⟩ := listN_mem.1 h
  have := pow_le64 h6
  exact ⟨c, h3, by omega, h1, h2⟩
theorem genS_lt {set : Nat} {l : List Int} {i s : Nat} (hs : s < 64) : genS set l i s < 64 := by
  unfold genS
  split
  · exact Nat.lt_of_le_of_lt Nat.and_le_left hs
  · exact hs
theorem top_lt {n : Nat} (h6 : n ≤ 6) : 2 ^ n - 1 < 64 := by
  have := pow_le64 h6
  omega
theorem spec_generate_ev {up : List Int} {T : List (List Int)} (A : Alg up T) {F : Nat} (hF : F < 64) : Ev (fun k => spec_generate.f k up T (F : Int)) (genN up T F : Int) := by
  have h6 := A.ok.1
  have h64 := pow_le64 h6
  have hfl := filtersN_len T h6
  have h2 := Nat.two_pow_pos up.length
  unfold spec_generate.f genN
  refine Ev.bind (power_ev up.length (by omega)) (Ev.bind (spec_filters_ev A) ?_)
  rw [w64 (x := ((2 ^ up.length : Nat) : Int) - 1) (by omega) (by omega), show ((2 ^ up.length : Nat) : Int) - 1 = ((2 ^ up.length - 1 : Nat) : Int) by omega]
  refine ev_fold (fun k (s : Nat) i => spec_generate.l0 k (F : Int) (s : Int) (filtersN up T) i) (filtersN up T).length (genS F (filtersN up T)) (fun _ s => s < 64) (fun s => (s : Int)) ?_ ?_ (filtersN up T).length 0 _ (by omega) (top_lt h6)
  · intro i hi s hs
    refine ⟨genS_lt hs, fun r h => ?_⟩
    obtain ⟨c, hc, hc64, _, _⟩ := filt_rd h6 hi
    unfold genS at h
    rw [hc, Int.toNat_natCast] at h
    refine Ev.step (fun k => by simp only [spec_generate.l0]; exact rfl) (Ev.pos (by omega) (Ev.pos (by omega) ?_))
    rw [hc, bitsAnd c F (by omega) (by omega), bitsAnd s c (by omega) (by omega), w64s hi (by omega), Nat.and_comm c F]
    by_cases e : F &&& c = F
    · rw [if_pos e] at h
      exact Ev.pos (by rw [e]) h
    · rw [if_neg e] at h
      exact Ev.neg (fun x => e (Int.ofNat.inj x)) h
  · intro s hs
    exact Ev.step (fun k => by simp only [spec_generate.l0]; exact rfl) (Ev.neg (by omega) (Ev.some _))
def FilterByM (up : List Int) (T : List (List Int)) (f : Int) : Int := if (algB up T && setB up f) = true then (genN up T f.toNat : Int) else -1
theorem spec_FilterBy_ev (up : List Int) (T : List (List Int)) (f : Int) (hl : up.length ≤ 17592186044416) : Ev (fun k => spec_FilterBy.f k up T f) (FilterByM up T f) := by
  unfold spec_FilterBy.f FilterByM
  refine Ev.bind (spec_validAlgebra_ev up T hl) ?_
  cases hb : algB up T with
  | false => exact Ev.neg (by decide) (Ev.some _)
  | true =>
    have A := Alg.of hb
    have h6 := A.ok.1
    have h64 := pow_le64 h6
    have h2 := Nat.two_pow_pos up.length
    refine Ev.pos rfl (Ev.bind (power_ev up.length (by omega)) ?_)
    rw [w64 (x := ((2 ^ up.length : Nat) : Int) - 1) (by omega) (by omega)]
    refine Ev.bindc (inRange_eq f 0 _) ?_
    rw [show decide (0 ≤ f ∧ f ≤ ((2 ^ up.length : Nat) : Int) - 1) = setB up f from rfl]
    cases hs : setB up f with
    | false => exact Ev.neg (by decide) (Ev.some _)
    | true =>
      obtain ⟨F, rfl, hF⟩ := setB_nat hs
      exact Ev.pos rfl (Ev.bind (spec_generate_ev A (by omega)) (Ev.const (by simp)))
theorem impl_FilterBy_ev (up : List Int) (T : List (List Int)) (f : Int) (hl : up.length ≤ 17592186044416) : Ev (fun k => impl_FilterBy.f k up T f) (FilterByM up T f) := by
  unfold impl_FilterBy.f FilterByM
  refine Ev.bind (setIn_ev up T f hl) ?_
  cases hg : (algB up T && setB up f) with
  | false => exact Ev.neg (by decide) (Ev.some _)
  | true =>
    rw [Bool.and_eq_true] at hg
    have A := Alg.of hg.1
    have h6 := A.ok.1
    have h64 := pow_le64 h6
    have hfl := filtersN_len T h6
    have h2 := Nat.two_pow_pos up.length
    obtain ⟨F, rfl, hF⟩ := setB_nat hg.2
    refine Ev.pos rfl (Ev.bind (impl_filters_ev A) ?_)
    rw [shl1 up.length (by omega), w64 (x := ((2 ^ up.length : Nat) : Int) - 1) (by omega) (by omega), show ((2 ^ up.length : Nat) : Int) - 1 = ((2 ^ up.length - 1 : Nat) : Int) by omega, if_pos rfl, Int.toNat_natCast]
    unfold genN
    refine ev_fold (fun k (s : Nat) i => impl_FilterBy.l0 k (F : Int) (s : Int) (filtersN up T) ((filtersN up T).length : Int) i) (filtersN up T).length (genS F (filtersN up T)) (fun _ s => s < 64) (fun s => (s : Int)) ?_ ?_ (filtersN up T).length 0 _ (by omega) (top_lt h6)
    · intro i hi s hs
      refine ⟨genS_lt hs, fun r h => ?_⟩
      obtain ⟨c, hc, hc64, _, _⟩ := filt_rd h6 hi
      unfold genS at h
      rw [hc, Int.toNat_natCast] at h
      refine Ev.step (fun k => by simp only [impl_FilterBy.l0]; exact rfl) (Ev.pos (by omega) (Ev.pos (by omega) (Ev.pos (by omega) ?_)))
      rw [hc, bitsAnd s c (by omega) (by omega), w64s hi (by omega)]
      by_cases e : F &&& c = F
      · rw [if_pos e] at h
        exact Ev.pos ((andNot0 F c (by omega) (by omega)).2 ((sub_iff F c).2 e)) h
      · rw [if_neg e] at h
        exact Ev.neg (fun x => e ((sub_iff F c).1 ((andNot0 F c (by omega) (by omega)).1 x))) h
    · intro s hs
      exact Ev.step (fun k => by simp only [impl_FilterBy.l0]; exact rfl) (Ev.neg (by omega) (Ev.some _))
end Go.Proofs.Ytkndndgladdmcaa.M
