/- HeartOf: the program and the reference answer the same. -/
import Derived.Test.YtomapoenndlbiaaP50
import Derived.Test.YtomapoenndlbiaaP51
import Derived.Test.YtomapoenndlbiaaP52
import Derived.Test.YtomapoenndlbiaaP53
import Derived.Test.YtomapoenndlbiaaMHeart
namespace Go.Proofs.Ytomapoenndlbiaa.M
set_option linter.unusedVariables false
open Go.RowKit Go.Proofs.YtomapoenndlbiaaW.PrintWords Go.Proofs.YtomapoenndlbiaaW.PrintLast Go.Proofs.YtomapoenndlbiaaW.PrintMore Go.Proofs.Ytomapoenndlbiaa.P

theorem weightN_zero : ∀ d, weightN d 0 = 0
  | 0 => rfl
  | d + 1 => by unfold weightN; rw [Nat.zero_div, weightN_zero d]
theorem weightN_le : ∀ d F, weightN d F ≤ d
  | 0, _ => Nat.le_refl 0
  | d + 1, F => by unfold weightN; have := weightN_le d (F / 2); omega
theorem weight_l0 : ∀ d F : Nat, F < 2 ^ d → ∀ a : Nat, a + d ≤ 62 → Ev (fun k => spec_weight.l0 k (F : Int) (a : Int)) ((a + weightN d F : Nat) : Int)
  | 0, F, hF, a, _ => by
    obtain rfl : F = 0 := by simpa using hF
    exact Ev.step (fun k => by simp only [spec_weight.l0]; exact rfl) (Ev.neg (by omega) (Ev.some _))
  | d + 1, F, hF, a, ha => by
    have h62 : (2 : Nat) ^ (d + 1) ≤ 2 ^ 62 := Nat.pow_le_pow_right (by decide) (by omega)
    refine Ev.step (fun k => by simp only [spec_weight.l0]; exact rfl) ?_
    by_cases h0 : F = 0
    · subst h0
      rw [weightN_zero]
      exact Ev.neg (by omega) (Ev.some _)
    · refine Ev.pos (by omega) ?_
      rw [Int.tdiv_eq_ediv_of_nonneg (by omega), Int.tmod_eq_emod_of_nonneg (by omega), w64 (x := (F : Int) / 2) (by omega) (by omega), w64 (x := (a : Int) + (F : Int) % 2) (by omega) (by omega)]
      rw [show (F : Int) / 2 = ((F / 2 : Nat) : Int) by omega, show (a : Int) + (F : Int) % 2 = ((a + F % 2 : Nat) : Int) by omega]
      refine Ev.eq (weight_l0 d (F / 2) (by rw [Nat.pow_succ] at hF; omega) _ (by omega)) ?_
      rw [show weightN (d + 1) F = F % 2 + weightN d (F / 2) from rfl]
      omega
theorem weight_ev {F : Nat} (hF : F < 64) : Ev (fun k => spec_weight.f k (F : Int)) ((weightN 6 F : Nat) : Int) := by
  unfold spec_weight.f
  exact Ev.eq (weight_l0 6 F hF 0 (by decide)) (by rw [Nat.zero_add])
def HeartOfM (up : List Int) (T : List (List Int)) : Int × Bool := if (algB up T && moreB up T (heartN up T)) = true then ((heartN up T : Int), true) else (0, false)
theorem spec_heart {L : List Int} (h : ∀ i, i < L.length → ∃ F : Nat, F < 64 ∧ rd L (i : Int) = (F : Int)) (hL : L.length ≤ 64) {s0 : Nat} (h0 : s0 < 64) : Ev (fun k => spec_HeartOf.l0 k (s0 : Int) L 0) (if decide (1 < weightN 6 (foldL (heartS L) L.length 0 s0)) = true then (((foldL (heartS L) L.length 0 s0 : Nat) : Int), true) else (0, false)) := by
  refine ev_fold (fun k (s : Nat) i => spec_HeartOf.l0 k (s : Int) L i) L.length (heartS L) (fun _ s => s < 64) (fun s => if decide (1 < weightN 6 s) = true then ((s : Int), true) else (0, false)) ?_ ?_ L.length 0 s0 (by omega) h0
  · intro i hi s hs
    obtain ⟨F, hF, ev⟩ := h i hi
    unfold heartS
    rw [ev, Int.toNat_natCast]
    have hle := Nat.and_le_left (n := s) (m := F)
    refine ⟨by split <;> omega, fun r k => ?_⟩
    refine Ev.step (fun k => by simp only [spec_HeartOf.l0]; exact rfl) (Ev.pos (by omega) (Ev.pos (by omega) ?_))
    rw [ev, w64s hi (by omega)]
    refine Ev.bind (weight_ev hF) ?_
    by_cases c : 1 < weightN 6 F
    · rw [if_pos (decide_eq_true c)] at k
      refine Ev.pos (by omega) ?_
      rw [bitsAnd s F (by omega) (by omega)]
      exact k
    · rw [if_neg (by rw [decide_eq_true_eq]; exact c)] at k
      exact Ev.neg (by omega) k
  · intro s hs
    refine Ev.step (fun k => by simp only [spec_HeartOf.l0]; exact rfl) (Ev.neg (by omega) (Ev.bind (weight_ev hs) ?_))
    by_cases c : 1 < weightN 6 s
    · exact Ev.neg (by omega) (Ev.eq (Ev.some _) (if_pos (decide_eq_true c)).symm)
    · exact Ev.pos (by omega) (Ev.eq (Ev.some _) (if_neg (by rw [decide_eq_true_eq]; exact c)).symm)
theorem filters_at {up : List Int} (T : List (List Int)) (h6 : up.length ≤ 6) (i : Nat) (hi : i < (filtersN up T).length) : ∃ F : Nat, F < 64 ∧ rd (filtersN up T) (i : Int) = (F : Int) := by
  obtain ⟨c, hc, _, e⟩ := listN_mem.1 (rd_mem hi)
  exact ⟨c, pow64 h6 hc, e⟩
theorem spec_HeartOf_ev (up : List Int) (T : List (List Int)) (hl : up.length ≤ 17592186044416) : Ev (fun k => spec_HeartOf.f k up T) (HeartOfM up T) := by
  unfold spec_HeartOf.f HeartOfM
  refine Ev.bind (spec_validAlgebra_ev up T hl) ?_
  cases hb : algB up T with
  | false => exact Ev.neg (by decide) (Ev.some _)
  | true =>
    have A := Alg.of hb
    have h6 := A.ok.1
    have hp := pow_le64 h6
    have hp2 := Nat.two_pow_pos up.length
    refine Ev.pos rfl (Ev.bind (power_ev up.length (by omega)) (Ev.bind (spec_filters_ev A) ?_))
    rw [w64 (x := ((2 ^ up.length : Nat) : Int) - 1) (by omega) (by omega), show ((2 ^ up.length : Nat) : Int) - 1 = ((2 ^ up.length - 1 : Nat) : Int) by omega, Bool.true_and, ← heart_weight A]
    exact spec_heart (s0 := 2 ^ up.length - 1) (filters_at T h6) (filtersN_len T h6) (by omega)
def moreL (up : List Int) (T : List (List Int)) : List Int := (filtersN up T).filter fun y => !(y == ((2 ^ (up.length - 1) : Nat) : Int))
theorem moreL_mem {up : List Int} {T : List (List Int)} {v : Int} : v ∈ moreL up T ↔ ∃ F : Nat, F < 2 ^ up.length ∧ moreB up T F = true ∧ v = (F : Int) := by
  unfold moreL moreB
  rw [List.mem_filter]
  constructor
  · rintro ⟨h1, h2⟩
    obtain ⟨F, hF, hf, rfl⟩ := listN_mem.1 h1
    refine ⟨F, hF, ?_, rfl⟩
    rw [hf, Bool.true_and, decide_eq_true_eq]
    rw [Bool.not_eq_true', beq_eq_false_iff_ne] at h2
    omega
  · rintro ⟨F, hF, hm, rfl⟩
    rw [Bool.and_eq_true, decide_eq_true_eq] at hm
    refine ⟨listN_mem.2 ⟨F, hF, hm.1, rfl⟩, ?_⟩
    rw [Bool.not_eq_true', beq_eq_false_iff_ne]
    omega
theorem impl_heart {up : List Int} {T : List (List Int)} (A : Alg up T) : Ev (fun k => impl_HeartOf.l0 k (moreL up T) (moreL up T) ((moreL up T).length : Int) 0) (if moreB up T (heartN up T) = true then ((heartN up T : Int), true) else (0, false)) := by
  have h6 := A.ok.1
  have hlen : (moreL up T).length ≤ 64 := Nat.le_trans (List.length_filter_le _ _) (filtersN_len T h6)
  refine ev_inv2 (fun k (_ : Unit) i => impl_HeartOf.l0 k (moreL up T) (moreL up T) ((moreL up T).length : Int) i) (moreL up T).length (fun i _ => ∀ j, j < i → j < (moreL up T).length → ((moreL up T).any fun x => bits .andNot .i64 (rd (moreL up T) (j : Int)) x != 0) = true) _ ?_ ?_ (moreL up T).length 0 () (by omega) (fun j hj => by omega)
  · intro i hi _ hI kk
    refine Ev.step (fun k => by simp only [impl_HeartOf.l0]; exact rfl) (Ev.pos (by omega) (Ev.pos (by omega) (Ev.pos (by omega) ?_)))
    have e : cf_HeartOf_2.f (moreL up T) (rd (moreL up T) (i : Int)) = some ((moreL up T).any fun x => bits .andNot .i64 (rd (moreL up T) (i : Int)) x != 0) := by
      unfold cf_HeartOf_2.f
      rw [if_pos (by omega)]
    rw [w64s hi (by omega)]
    refine Ev.bindc e ?_
    cases hb : ((moreL up T).any fun x => bits .andNot .i64 (rd (moreL up T) (i : Int)) x != 0) with
    | true =>
      refine Ev.pos rfl (kk () fun j hj hj2 => ?_)
      by_cases c : j = i
      · rw [c]; exact hb
      · exact hI j (by omega) hj2
    | false =>
      refine Ev.neg (by decide) ?_
      obtain ⟨F, hF, hm, ev⟩ := moreL_mem.1 (rd_mem hi)
      rw [ev] at hb ⊢
      have hall : inAll up T F := by
        intro G hG hmG
        rw [← Bool.not_eq_true, List.any_eq_true] at hb
        refine (andNot0 F G (by have := pow64 h6 hF; omega) (by have := pow64 h6 hG; omega)).1 ?_
        refine Classical.byContradiction fun hc => hb ⟨(G : Int), moreL_mem.2 ⟨G, hG, hmG, rfl⟩, ?_⟩
        rw [bne_iff_ne]
        exact hc
      obtain ⟨e1, e2⟩ := heart_only A hF hm hall
      rw [if_pos e2, ← e1]
      exact Ev.some _
  · intro _ hI
    refine Ev.step (fun k => by simp only [impl_HeartOf.l0]; exact rfl) (Ev.neg (by omega) ?_)
    rw [if_neg]
    · exact Ev.some _
    · intro hm
      have hlt := heart_lt A
      obtain ⟨j, hj, ej⟩ := List.mem_iff_getElem.1 (moreL_mem.2 ⟨heartN up T, hlt, hm, rfl⟩)
      have h1 := hI j hj hj
      rw [rd_lt hj, ej, List.any_eq_true] at h1
      obtain ⟨x, hx, hn⟩ := h1
      obtain ⟨G, hG, hmG, rfl⟩ := moreL_mem.1 hx
      rw [bne_iff_ne] at hn
      exact hn ((andNot0 _ G (by have := pow64 h6 hlt; omega) (by have := pow64 h6 hG; omega)).2 fun z hz => heart_sub A hG hmG z hz)
theorem impl_HeartOf_ev (up : List Int) (T : List (List Int)) (hl : up.length ≤ 17592186044416) : Ev (fun k => impl_HeartOf.f k up T) (HeartOfM up T) := by
  unfold impl_HeartOf.f HeartOfM
  refine Ev.bind (impl_ValidAlgebra_ev up T hl) ?_
  cases hb : algB up T with
  | false => exact Ev.neg (by decide) (Ev.some _)
  | true =>
    have A := Alg.of hb
    have h6 := A.ok.1
    have hlen := filtersN_len T h6
    rw [Bool.true_and]
    refine Ev.pos rfl (Ev.bind (impl_filters_ev A) ?_)
    have e : df_HeartOf_1.f (filtersN up T) up T = some (moreL up T) := by
      unfold df_HeartOf_1.f
      rw [last_eq A.pos h6, if_pos ⟨by omega, by omega⟩, shl1 (up.length - 1) (by omega)]
      rfl
    exact Ev.bindc e (impl_heart A)
end Go.Proofs.Ytomapoenndlbiaa.M
