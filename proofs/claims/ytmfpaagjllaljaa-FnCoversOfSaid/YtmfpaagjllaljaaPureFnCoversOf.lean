/- Covers are right above. -/
import Derived.Test.YtmfpaagjllaljaaG13
import Derived.Test.YtmfpaagjllaljaaG3
import Derived.Test.YtmfpaagjllaljaaG6
import Derived.Test.YtmfpaagjllaljaaG8
import Derived.Test.YtmfpaagjllaljaaG11
namespace Go.Proofs.Ytmfpaagjllaljaa.Pure
set_option linter.unusedVariables false
open Go.RowKit Go.Proofs.Ytmfpaagjllaljaa.P Go.Proofs.YtmfpaagjllaljaaW.PrintWords Go.Proofs.YtmfpaagjllaljaaW.PrintLast Go.Proofs.Ytmfpaagjllaljaa.M
theorem drawCoversOf (l : List Int) (hw : ∀ x ∈ l, (Lit.int .u8 x).wf = true) : ∃ (up : List Int) (x : Int), up.length ≤ 7 ∧ Ev (fun k => spec_DrawCoversOf.f k l) (up, x) := by
  obtain ⟨src, hr, hs⟩ := reader_eq l hw
  obtain ⟨up, m, h7, hm, hu⟩ := some_draw hs 0 (by decide)
  obtain ⟨x, m2, hm2, hx⟩ := element_draw hs m (by unfold BIG; omega) (up.length : Int) (by omega)
  refine ⟨up, x, h7, ?_⟩
  unfold spec_DrawCoversOf.f
  rw [hr]
  exact Ev.bindc rfl (Ev.bind hu (Ev.bind hx (Ev.some _)))
/-- How many of the numbers are at most y. -/
def metN (up : List Int) (y : Nat) (l : List Int) : Nat := l.countP fun c => le up c.toNat y
theorem met_pos {up : List Int} (hb : latB up = true) {x y : Nat} (hx : x < up.length) (hy : y < up.length) : 0 < metN up y (listN (coverB up x) up.length) ↔ (y ≠ x ∧ le up x y = true) := by
  have L := Lat.of hb
  unfold metN
  rw [List.countP_pos_iff]
  constructor
  · rintro ⟨v, hv, hle⟩
    obtain ⟨c, hc, hcov, rfl⟩ := listN_mem.1 hv
    rw [Int.toNat_natCast] at hle
    obtain ⟨⟨c1, c2⟩, _⟩ := coverB_iff.1 hcov
    refine ⟨?_, L.trans _ _ _ hx hc hy c2 hle⟩
    rintro rfl
    exact c1 (L.anti _ _ hc hx hle c2)
  · rintro ⟨h1, h2⟩
    obtain ⟨c, hc, hcov, hle⟩ := cover_exists hb hx hy h1 h2
    exact ⟨(c : Int), listN_mem.2 ⟨c, hc, hcov, rfl⟩, by rw [Int.toNat_natCast]; exact hle⟩
theorem count_one {v : Int} : ∀ {l : List Int}, l.Nodup → v ∈ l → l.countP (fun c => c == v) = 1
  | [], _, h => by cases h
  | a :: l, nd, h => by
    rw [List.nodup_cons] at nd
    rw [List.countP_cons]
    by_cases e : a = v
    · subst e
      have : l.countP (fun c => c == a) = 0 := List.countP_eq_zero.2 fun x hx hc => nd.1 (by rw [← beq_iff_eq.1 hc]; exact hx)
      rw [this]
      simp
    · have h' : v ∈ l := by
        rcases List.mem_cons.1 h with h | h
        · exact absurd h.symm e
        · exact h
      rw [count_one nd.2 h', if_neg (by simpa using e)]
theorem met_one {up : List Int} (hb : latB up = true) {x y : Nat} (hx : x < up.length) (hy : y < up.length) (h : coverB up x y = true) : metN up y (listN (coverB up x) up.length) = 1 := by
  have L := Lat.of hb
  unfold metN
  have e : (listN (coverB up x) up.length).countP (fun c => le up c.toNat y) = (listN (coverB up x) up.length).countP (fun c => c == (y : Int)) := by
    refine List.countP_congr fun v hv => ?_
    obtain ⟨c, hc, hcov, rfl⟩ := listN_mem.1 hv
    rw [Int.toNat_natCast, beq_iff_eq]
    constructor
    · intro hle
      have h1 := (coverB_iff.1 h).2 c hc (coverB_iff.1 hcov).1.1 (coverB_iff.1 hcov).1.2 hle
      rw [h1]
    · intro h1
      have h1 : c = y := by exact_mod_cast h1
      rw [h1]
      exact L.refl y hy
  rw [e]
  have nd : (listN (coverB up x) up.length).Nodup := List.Pairwise.imp (fun h => Int.ne_of_lt h) (listN_asc _ _)
  exact count_one nd (listN_mem.2 ⟨y, hy, h, rfl⟩)
theorem FnCoversOf : laws_FnCoversOf.Pure := by
  intro l _ _ hw
  refine Ev.rounds (r := true) ?_
  unfold laws_FnCoversOf.f
  refine Ev.ite' (fun _ => Ev.some _) (fun hll => ?_)
  obtain ⟨up, x, h7, hd⟩ := drawCoversOf l hw
  have hl : up.length ≤ 17592186044416 := by omega
  have ho := CoversOfM_len up x
  have hol : (CoversOfM up x).length ≤ 17592186044416 := by omega
  refine Ev.bind hd (Ev.bind (impl_CoversOf_ev up x hl) (Ev.bind (spec_CoversOf_ev up x hl) (Ev.bind (eqInts_same _ hol) (Ev.pos rfl (Ev.bind (impl_ValidLattice_ev up hl) ?_)))))
  have out : ∀ b : Bool, b = true → Ev (fun k => laws_FnCoversOf.j0 k up x (CoversOfM up x) b) true := by
    rintro b rfl
    refine Ev.step (fun k => by simp only [laws_FnCoversOf.j0]; exact rfl) ?_
    exact Ev.pos trivial (Ev.bind (spec_CoversOf_ev up x hl) (Ev.bind (eqInts_same _ hol) (Ev.some _)))
  refine Ev.ite' (fun _ => Ev.bind (impl_MeetOf_ev up x x hl) ?_) (fun _ => out true rfl)
  by_cases c : meetOfM up x x < 0
  · exact out _ (decide_eq_true c)
  refine Ev.step (fun k => by simp only [laws_FnCoversOf.j0]; exact rfl) (Ev.neg (by rw [decide_eq_true_eq]; exact c) ?_)
  obtain ⟨hb, a, _, rfl, _, ha, _⟩ := meet_cases c
  have hM : CoversOfM up (a : Int) = listN (coverB up a) up.length := by
    rw [CoversOfM, hb, inB_of ha]
    rfl
  rw [hM] at ho hol ⊢
  generalize hout : listN (coverB up a) up.length = o at ho hol
  refine ev_inv (fun k (_ : Unit) i => laws_FnCoversOf.l0 k up (a : Int) o i) up.length (fun _ _ => True) true ?_ ?_ up.length 0 () (by omega) trivial
  · intro y hy _ _
    refine ⟨(), trivial, fun hnext => ?_⟩
    refine Ev.step (fun k => by simp only [laws_FnCoversOf.l0]; exact rfl) (Ev.pos (by omega) ?_)
    refine ev_inv (fun k (s : Int) i => laws_FnCoversOf.l1 k up (a : Int) o (y : Int) s i) o.length (fun i s => s = (metN up y (o.take i) : Int)) true ?_ ?_ o.length 0 _ (by omega) (by simp [metN])
    · intro i hi s hs
      subst hs
      refine ⟨(metN up y (o.take (i + 1)) : Int), rfl, fun h => ?_⟩
      refine Ev.step (fun k => by simp only [laws_FnCoversOf.l1]; exact rfl) (Ev.pos (by omega) (Ev.pos (by omega) ?_))
      have hmem : rd o (i : Int) ∈ listN (coverB up a) up.length := by rw [hout]; exact rd_mem hi
      obtain ⟨c, hc, hcov, hv⟩ := listN_mem.1 hmem
      have hstep : metN up y (o.take (i + 1)) = metN up y (o.take i) + (if le up c y = true then 1 else 0) := by
        unfold metN
        rw [List.take_add_one, List.getElem?_eq_getElem hi, List.countP_append, ← rd_lt hi, hv]
        simp [List.countP_cons]
      have hsm : metN up y (o.take i) ≤ 6 := by
        unfold metN
        exact Nat.le_trans List.countP_le_length (Nat.le_trans (by rw [List.length_take]; omega) ho)
      rw [hv, w64s hi (by omega), w64s (i := metN up y (o.take i)) (n := 7) (by omega) (by omega)]
      refine Ev.bind (impl_IsBelow_ev up (c : Int) (y : Int) hl) ?_
      rw [below_in hb hc hy]
      refine Ev.ite' (fun e => ?_) (fun e => ?_)
      · rw [hstep, if_pos e] at h
        exact h
      · rw [hstep, if_neg e] at h
        exact h
    · intro s hs
      rw [List.take_of_length_le (Nat.le_refl _)] at hs
      refine Ev.step (fun k => by simp only [laws_FnCoversOf.l1]; exact rfl) (Ev.neg (by omega) ?_)
      rw [w64s hy (by omega)]
      have hp := met_pos hb ha hy
      rw [hout] at hp
      have hin := isIn_ev o (y : Int) hol
      refine Ev.ite' (fun e => ?_) (fun e => ?_)
      · have e : y = a := by exact_mod_cast e
        have z : metN up y o = 0 := by
          have : ¬ 0 < metN up y o := fun h => (hp.1 h).1 e
          omega
        refine Ev.neg (by rw [hs, z]; decide) (Ev.bind hin ?_)
        have : ¬ (y : Int) ∈ o := by
          intro h
          rw [← hout] at h
          obtain ⟨c, _, hcov, hv⟩ := listN_mem.1 h
          have hv : y = c := by exact_mod_cast hv
          exact (coverB_iff.1 hcov).1.1 (by omega)
        rw [decide_eq_false this]
        exact Ev.neg (by decide) hnext
      · have e : y ≠ a := fun h => e (by rw [h])
        refine Ev.bind (impl_IsBelow_ev up (a : Int) (y : Int) hl) ?_
        rw [below_in hb ha hy]
        refine Ev.neg ?_ (Ev.bind hin ?_)
        · have : decide (s > 0) = le up a y := by
            rw [Bool.eq_iff_iff, decide_eq_true_eq, hs]
            constructor
            · intro h
              exact (hp.1 (by omega)).2
            · intro h
              have := hp.2 ⟨e, h⟩
              omega
          rw [this]
          simp
        · refine Ev.ite' (fun h => ?_) (fun _ => hnext)
          rw [decide_eq_true_eq, ← hout] at h
          obtain ⟨c, hc, hcov, hv⟩ := listN_mem.1 h
          have hv : y = c := by exact_mod_cast hv
          subst hv
          have := met_one hb ha hy hcov
          rw [hout] at this
          exact Ev.pos (by rw [hs, this]; rfl) hnext
  · intro _ _
    refine Ev.step (fun k => by simp only [laws_FnCoversOf.l0]; exact rfl) (Ev.neg (by omega) ?_)
    rw [← hout]
    exact Ev.bind (ascends_ev _ (by rw [hout]; exact hol) (listN_asc _ _)) (Ev.some _)
end Go.Proofs.Ytmfpaagjllaljaa.Pure
