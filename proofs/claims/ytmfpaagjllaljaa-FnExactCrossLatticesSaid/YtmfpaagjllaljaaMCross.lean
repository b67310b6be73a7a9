/- The lattice of pairs: the program and the reference make the same list. -/
import Derived.Test.YtmfpaagjllaljaaP40
import Derived.Test.YtmfpaagjllaljaaP41
import Derived.Test.YtmfpaagjllaljaaP42
import Derived.Test.YtmfpaagjllaljaaP43
import Derived.Test.YtmfpaagjllaljaaMTurned
namespace Go.Proofs.Ytmfpaagjllaljaa.M
set_option linter.unusedVariables false
open Go.RowKit Go.Proofs.YtmfpaagjllaljaaW.PrintWords Go.Proofs.YtmfpaagjllaljaaW.PrintLast Go.Proofs.YtmfpaagjllaljaaW.PrintMore Go.Proofs.Ytmfpaagjllaljaa.P

/-- One pair is at most another one. -/
def leP (a b : List Int) (p q : Nat) : Bool := le a (p / b.length) (q / b.length) && le b (p % b.length) (q % b.length)
def crossN (a b : List Int) : List Int := (List.range (a.length * b.length)).map fun p => ((maskN (leP a b p) (a.length * b.length) : Nat) : Int)
def CrossLatticesM (a b : List Int) : List Int := if (latB a && latB b && decide (a.length * b.length ≤ 6)) = true then crossN a b else []
theorem CrossLatticesM_len (a b : List Int) : (CrossLatticesM a b).length ≤ 6 := by
  unfold CrossLatticesM
  split
  · rename_i h
    rw [Bool.and_eq_true, decide_eq_true_eq] at h
    simpa [crossN] using h.2
  · simp
theorem tdivN (p m : Nat) (hm : 0 < m) (hp : p ≤ 62) : wrap64 (Int.tdiv (p : Int) (m : Int)) = ((p / m : Nat) : Int) := by
  rw [Int.tdiv_eq_ediv_of_nonneg (by omega), ← Int.natCast_ediv]
  have : p / m ≤ p := Nat.div_le_self _ _
  generalize p / m = q at this
  rw [w64 (by omega) (by omega)]
theorem tmodN (p m : Nat) : Int.tmod (p : Int) (m : Int) = ((p % m : Nat) : Int) := by
  rw [Int.tmod_eq_emod_of_nonneg (by omega), ← Int.natCast_emod]
theorem pair_lt {n m p : Nat} (h : p < n * m) : p / m < n ∧ p % m < m ∧ 0 < m := by
  have hm : 0 < m := by
    rcases Nat.eq_zero_or_pos m with e | e
    · subst e; simp at h
    · exact e
  exact ⟨Nat.div_lt_of_lt_mul (by rw [Nat.mul_comm]; exact h), Nat.mod_lt _ hm, hm⟩
theorem mulN (a b : List Int) (h : a.length ≤ 6) (h' : b.length ≤ 6) : wrap64 ((a.length : Int) * (b.length : Int)) = ((a.length * b.length : Nat) : Int) := by
  have : a.length * b.length ≤ 6 * 6 := Nat.mul_le_mul h h'
  rw [← Int.natCast_mul, w64 (by omega) (by omega)]
theorem spec_cross_ev {a b : List Int} (ha : OkR a) (hb : OkR b) (h6 : a.length * b.length ≤ 6) : Ev (fun k => spec_cross.f k a b) (crossN a b) := by
  unfold spec_cross.f
  generalize hn : a.length * b.length = n at h6
  have hmul := mulN a b ha.1 hb.1
  have ha6 := ha.1
  have hb6 := hb.1
  rw [hn] at hmul
  refine ev_inv2 (fun k (s : List Int) i => spec_cross.l0 k a b s (b.length : Int) i) n (fun p s => s = (List.range p).map fun p => ((maskN (leP a b p) n : Nat) : Int)) _ ?_ ?_ n 0 _ (by omega) (by simp)
  · intro p hp s hs k1
    obtain ⟨p1, p2, p3⟩ := pair_lt (n := a.length) (m := b.length) (by rw [hn]; exact hp)
    refine Ev.step (fun k => by simp only [spec_cross.l0]; exact rfl) ?_
    rw [hmul]
    refine Ev.pos (by omega) ?_
    refine ev_inv2 (fun k (v : Int) i => spec_cross.l1 k a b s (b.length : Int) (p : Int) v i) n (fun q v => v = ((maskN (leP a b p) q : Nat) : Int)) _ ?_ ?_ n 0 _ (by omega) rfl
    · intro q hq v hv k2
      obtain ⟨q1, q2, _⟩ := pair_lt (n := a.length) (m := b.length) (by rw [hn]; exact hq)
      refine Ev.step (fun k => by simp only [spec_cross.l1]; exact rfl) ?_
      rw [hmul]
      refine Ev.pos (by omega) (Ev.neg (by omega) ?_)
      rw [tdivN p _ p3 (by omega), tdivN q _ p3 (by omega), tmodN, tmodN, w64s hq (by omega)]
      have hlt := maskN_lt (leP a b p) q
      have hq6 : 2 ^ q ≤ 2 ^ 6 := Nat.pow_le_pow_right (by decide) (by omega)
      have hno : leP a b p q = false → Ev (fun k => spec_cross.l1 k a b s (b.length : Int) (p : Int) v ((q + 1 : Nat) : Int)) (crossN a b) := fun e => k2 v (by
        rw [hv]
        show _ = ((maskN (leP a b p) q + (if leP a b p q then 2 ^ q else 0) : Nat) : Int)
        rw [if_neg (by rw [e]; decide), Nat.add_zero])
      refine Ev.bind (spec_below_ev ha p1 (by omega)) ?_
      cases hA : le a (p / b.length) (q / b.length) with
      | false => exact Ev.neg (by decide) (hno (by rw [leP, hA]; rfl))
      | true =>
        refine Ev.pos rfl (Ev.bind (spec_below_ev hb p2 (by omega)) ?_)
        cases hB : le b (p % b.length) (q % b.length) with
        | false => exact Ev.neg (by decide) (hno (by rw [leP, hA, hB]; rfl))
        | true =>
          refine Ev.pos rfl (Ev.bind (power_ev q (by omega)) ?_)
          have hq0 : 0 < 2 ^ q := Nat.two_pow_pos q
          rw [hv, w64 (by omega) (by omega)]
          refine k2 _ ?_
          show _ = ((maskN (leP a b p) q + (if leP a b p q then 2 ^ q else 0) : Nat) : Int)
          rw [if_pos (by rw [leP, hA, hB]; rfl)]
          omega
    · intro v hv
      refine Ev.step (fun k => by simp only [spec_cross.l1]; exact rfl) ?_
      rw [hmul]
      refine Ev.neg (by omega) (Ev.pos (by rw [hs]; simp; omega) ?_)
      rw [w64s hp (by omega)]
      refine k1 _ ?_
      rw [hs, hv, List.range_succ, List.map_append]
      rfl
  · intro s hs
    refine Ev.step (fun k => by simp only [spec_cross.l0]; exact rfl) ?_
    rw [hmul]
    refine Ev.neg (by omega) (Ev.const ?_)
    rw [hs, crossN, hn]
/-- Rows of pairs of which q < m of row p have been asked. -/
def rowsC (a b : List Int) (n p m : Nat) (s : List Int) : Prop := s.length = n ∧ ∀ j, j < n → s[j]? = some ((maskN (fun q => (decide (j < p) || (decide (j = p) && decide (q < m))) && leP a b j q) n : Nat) : Int)
theorem impl_cross_ev {a b : List Int} (ha : OkR a) (hb : OkR b) (h6 : a.length * b.length ≤ 6) : Ev (fun k => impl_cross.f k a b) (crossN a b) := by
  unfold impl_cross.f
  generalize hn : a.length * b.length = n at h6
  have hmul := mulN a b ha.1 hb.1
  have ha6 := ha.1
  have hb6 := hb.1
  rw [hn] at hmul
  rw [hmul, Int.toNat_natCast]
  refine Ev.pos (by omega) (Ev.pos (by omega) ?_)
  refine Ev.bindc rfl ?_
  rw [List.length_replicate]
  have hrow : ∀ (p m : Nat) (s : List Int), rowsC a b n p m s → s.length = n := fun p m s h => h.1
  refine ev_inv2 (fun k (s : List Int) i => impl_cross.l0 k a b (b.length : Int) s (n : Int) i) n (fun p s => rowsC a b n p 0 s) _ ?_ ?_ n 0 _ (by omega) ?_
  · intro p hp s hs k1
    obtain ⟨p1, p2, p3⟩ := pair_lt (n := a.length) (m := b.length) (by rw [hn]; exact hp)
    refine Ev.step (fun k => by simp only [impl_cross.l0]; exact rfl) ?_
    refine Ev.pos (by omega) ?_
    rw [hs.1]
    refine ev_inv2 (fun k (s : List Int) i => impl_cross.l1 k a b (b.length : Int) s (p : Int) (n : Int) (p : Int) (n : Int) i) n (fun q s => rowsC a b n p q s) _ ?_ ?_ n 0 _ (by omega) hs
    · intro q hq s hs k2
      obtain ⟨q1, q2, _⟩ := pair_lt (n := a.length) (m := b.length) (by rw [hn]; exact hq)
      refine Ev.step (fun k => by simp only [impl_cross.l1]; exact rfl) ?_
      refine Ev.pos (by omega) (Ev.neg (by omega) ?_)
      rw [tdivN p _ p3 (by omega), tdivN q _ p3 (by omega), tmodN, tmodN, w64s hq (by omega)]
      have hno : leP a b p q = false → Ev (fun k => impl_cross.l1 k a b (b.length : Int) s (p : Int) (n : Int) (p : Int) (n : Int) ((q + 1 : Nat) : Int)) (crossN a b) := by
        intro e
        refine k2 s ⟨hs.1, fun j hj => ?_⟩
        rw [hs.2 j hj]
        congr 2
        apply maskN_congr
        intro i hi
        by_cases c : j = p ∧ i = q
        · rw [c.1, c.2, e, Bool.and_false, Bool.and_false]
        · congr 2
          by_cases c1 : j = p
          · rw [decide_eq_true c1, Bool.true_and, Bool.true_and, decide_eq_decide]; omega
          · rw [decide_eq_false c1, Bool.false_and, Bool.false_and]
      refine Ev.bindc (impl_below_eq ha p1) ?_
      cases hA : le a (p / b.length) (q / b.length) with
      | false => exact Ev.neg (by decide) (hno (by rw [leP, hA]; rfl))
      | true =>
        refine Ev.pos rfl (Ev.bindc (impl_below_eq hb p2) ?_)
        cases hB : le b (p % b.length) (q % b.length) with
        | false => exact Ev.neg (by decide) (hno (by rw [leP, hA, hB]; rfl))
        | true =>
          refine Ev.pos rfl (Ev.pos (by omega) (Ev.pos (by rw [hs.1]; omega) (Ev.pos (by omega) ?_)))
          have hrd : rd s (p : Int) = ((maskN (fun i => (decide (p < p) || (decide (p = p) && decide (i < q))) && leP a b p i) n : Nat) : Int) := by
            have := hs.2 p hp
            rw [List.getElem?_eq_getElem (by rw [hs.1]; exact hp)] at this
            rw [rd_lt (by rw [hs.1]; exact hp)]
            exact Option.some.inj this
          have hlt := maskN_lt (fun i => (decide (p < p) || (decide (p = p) && decide (i < q))) && leP a b p i) n
          have hn6 : 2 ^ n ≤ 2 ^ 6 := Nat.pow_le_pow_right (by decide) h6
          have hq6 : 2 ^ q ≤ 2 ^ 6 := Nat.pow_le_pow_right (by decide) (by omega)
          rw [hrd, shl1 q (by omega), Int.toNat_natCast, bitsOr _ _ (by omega) (by omega)]
          refine k2 _ ⟨by rw [List.length_set]; exact hs.1, fun j hj => ?_⟩
          by_cases c : j = p
          · subst c
            rw [List.getElem?_set_self (by rw [hs.1]; exact hj)]
            congr 2
            symm
            refine maskN_or hq (fun i hi => ?_)
            rw [decide_eq_false (p := j < j) (by omega), decide_eq_true (p := j = j) rfl, Bool.false_or, Bool.false_or, Bool.true_and, Bool.true_and]
            by_cases c2 : i = q
            · subst c2
              rw [decide_eq_true (p := i < i + 1) (by omega), decide_eq_true (p := i = i) rfl, Bool.or_true, leP, hA, hB]
              rfl
            · rw [decide_eq_false c2, Bool.or_false]
              congr 1
              rw [decide_eq_decide]
              omega
          · rw [List.getElem?_set_ne (fun e => c e.symm), hs.2 j hj]
            congr 2
            apply maskN_congr
            intro i hi
            rw [decide_eq_false c, Bool.false_and, Bool.false_and]
    · intro s hs
      refine Ev.step (fun k => by simp only [impl_cross.l1]; exact rfl) ?_
      refine Ev.neg (by omega) ?_
      rw [w64s hp (by omega)]
      refine k1 s ⟨hs.1, fun j hj => ?_⟩
      rw [hs.2 j hj]
      congr 2
      apply maskN_congr
      intro i hi
      congr 1
      rw [decide_eq_true (p := i < n) hi, Bool.and_true, decide_eq_false (p := i < 0) (by omega), Bool.and_false, Bool.or_false, Bool.eq_iff_iff, Bool.or_eq_true, decide_eq_true_eq, decide_eq_true_eq, decide_eq_true_eq]
      omega
  · intro s hs
    refine Ev.step (fun k => by simp only [impl_cross.l0]; exact rfl) ?_
    refine Ev.neg (by omega) (Ev.const ?_)
    congr 1
    apply List.ext_getElem?
    intro j
    by_cases hj : j < n
    · rw [hs.2 j hj]
      simp only [crossN, hn, List.getElem?_map, List.getElem?_range hj, Option.map_some]
      congr 2
      apply maskN_congr
      intro i hi
      rw [decide_eq_true (p := j < n) hj, Bool.true_or, Bool.true_and]
    · rw [List.getElem?_eq_none (by rw [hs.1]; omega), List.getElem?_eq_none (by simp [crossN, hn]; omega)]
  · refine ⟨by simp, fun j hj => ?_⟩
    rw [List.getElem?_replicate, if_pos hj]
    congr 1
    rw [maskN_none]
    · rfl
    · intro i hi
      rw [decide_eq_false (p := j < 0) (by omega), decide_eq_false (p := i < 0) (by omega), Bool.and_false, Bool.or_false, Bool.false_and]
theorem spec_CrossLattices_ev (a b : List Int) (hl : a.length ≤ 17592186044416) (hm : b.length ≤ 17592186044416) : Ev (fun k => spec_CrossLattices.f k a b) (CrossLatticesM a b) := by
  unfold spec_CrossLattices.f CrossLatticesM
  refine Ev.bind (spec_validLattice_ev a hl) ?_
  cases ha : latB a with
  | false => exact Ev.neg (by decide) (Ev.some _)
  | true =>
    refine Ev.pos rfl (Ev.bind (spec_validLattice_ev b hm) ?_)
    cases hb : latB b with
    | false => exact Ev.neg (by decide) (Ev.some _)
    | true =>
      obtain ⟨ha', _⟩ := latB_ok ha
      obtain ⟨hb', _⟩ := latB_ok hb
      refine Ev.pos rfl ?_
      rw [mulN a b ha'.1 hb'.1]
      by_cases h6 : a.length * b.length ≤ 6
      · rw [decide_eq_true h6]
        exact Ev.neg (by omega) (Ev.bind (spec_cross_ev ha' hb' h6) (Ev.some _))
      · rw [decide_eq_false h6]
        exact Ev.pos (by omega) (Ev.some _)
theorem impl_CrossLattices_ev (a b : List Int) (hl : a.length ≤ 17592186044416) (hm : b.length ≤ 17592186044416) : Ev (fun k => impl_CrossLattices.f k a b) (CrossLatticesM a b) := by
  unfold impl_CrossLattices.f CrossLatticesM
  refine Ev.bind (impl_ValidLattice_ev a hl) ?_
  cases ha : latB a with
  | false => exact Ev.neg (by decide) (Ev.some _)
  | true =>
    refine Ev.pos rfl (Ev.bind (impl_ValidLattice_ev b hm) ?_)
    cases hb : latB b with
    | false => exact Ev.neg (by decide) (Ev.some _)
    | true =>
      obtain ⟨ha', _⟩ := latB_ok ha
      obtain ⟨hb', _⟩ := latB_ok hb
      refine Ev.pos rfl ?_
      rw [mulN a b ha'.1 hb'.1]
      by_cases h6 : a.length * b.length ≤ 6
      · rw [decide_eq_true h6]
        exact Ev.neg (by omega) (Ev.bind (impl_cross_ev ha' hb' h6) (Ev.some _))
      · rw [decide_eq_false h6]
        exact Ev.pos (by omega) (Ev.some _)
end Go.Proofs.Ytmfpaagjllaljaa.M
