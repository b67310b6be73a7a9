/- The lists of all lattices: none stands in them twice, their rows lead to greater elements alone, the chain is among them. -/
import Derived.Test.YtjijfflifonjoaaP22
import Derived.Test.YtjijfflifonjoaaP25
import Derived.Test.YtjijfflifonjoaaP27
import Derived.Test.YtjijfflifonjoaaMAll
import Derived.Test.YtjijfflifonjoaaMEqInts
import Derived.Test.YtjijfflifonjoaaMElem
namespace Go.Proofs.Ytjijfflifonjoaa.M
set_option linter.unusedVariables false
open Go.RowKit Go.Proofs.YtjijfflifonjoaaW.PrintWords Go.Proofs.YtjijfflifonjoaaW.PrintLast Go.Proofs.YtjijfflifonjoaaW.PrintMore Go.Proofs.Ytjijfflifonjoaa.P

theorem latF_begin (n : Nat) : ∀ d head l, l ∈ latF n d head → ∃ rest, l = head ++ rest := by
  intro d
  induction d with
  | zero =>
    intro head l h
    unfold latF at h
    split at h
    · obtain rfl := List.mem_singleton.1 h
      exact ⟨[], by simp⟩
    · cases h
  | succ d ih =>
    intro head l h
    unfold latF at h
    obtain ⟨j, _, _, _, h4⟩ := (flatR_mem _ _).1 h
    obtain ⟨rest, rfl⟩ := ih _ _ h4
    exact ⟨[(j : Int)] ++ rest, by simp⟩
theorem latF_row (n : Nat) : ∀ d head l, l ∈ latF n d head → ∀ y, head.length ≤ y → y < head.length + d → ∃ r : Nat, rd l (y : Int) = (r : Int) ∧ okRow y r = true := by
  intro d
  induction d with
  | zero => intro head l h y h1 h2; omega
  | succ d ih =>
    intro head l h y h1 h2
    unfold latF at h
    obtain ⟨j, _, _, h3, h4⟩ := (flatR_mem _ _).1 h
    by_cases e : y = head.length
    · subst e
      obtain ⟨rest, rfl⟩ := latF_begin n _ _ _ h4
      refine ⟨j, ?_, h3⟩
      rw [List.append_assoc]
      simp [rd]
    · exact ih _ _ h4 y (by rw [List.length_append, List.length_singleton]; omega) (by rw [List.length_append, List.length_singleton]; omega)
theorem flatR_nodup {g : Nat → List (List Int)} {x : Nat} (hg : ∀ i, (g i).Nodup) (hd : ∀ i j l, i ≠ j → l ∈ g i → l ∈ g j → False) : ∀ c i, (flatR g x c i).Nodup := by
  intro c
  induction c with
  | zero => intro i; simp [flatR]
  | succ c ih =>
    intro i
    unfold flatR
    by_cases e : okRow x i = true
    · rw [if_pos e, List.nodup_append]
      refine ⟨hg i, ih (i + 1), fun a ha b hb hab => ?_⟩
      subst hab
      obtain ⟨j, h1, h2, h3, h4⟩ := (flatR_mem _ _).1 hb
      exact hd i j a (by omega) ha h4
    · rw [if_neg e, List.nil_append]
      exact ih (i + 1)
theorem latF_nodup (n : Nat) : ∀ d head, (latF n d head).Nodup := by
  intro d
  induction d with
  | zero =>
    intro head
    unfold latF
    split <;> simp
  | succ d ih =>
    intro head
    unfold latF
    refine flatR_nodup (fun i => ih _) (fun i j l hij h1 h2 => ?_) _ _
    obtain ⟨r1, e1⟩ := latF_begin n _ _ _ h1
    obtain ⟨r2, e2⟩ := latF_begin n _ _ _ h2
    have e := e1.symm.trans e2
    rw [List.append_assoc, List.append_assoc] at e
    have e3 := List.append_cancel_left e
    injection e3 with e4 _
    omega
theorem okRow_low {x r y : Nat} (h : okRow x r = true) (hy : y < x) : r.testBit y = false := by
  unfold okRow at h
  rw [Bool.and_eq_true, decide_eq_true_eq] at h
  obtain ⟨m, rfl⟩ := Nat.dvd_of_mod_eq_zero h.1
  rw [Nat.testBit_two_pow_mul]
  simp
  omega
theorem eqInts_ev (a b : List Int) (ha : a.length ≤ 17592186044416) : Ev (fun k => laws_equalInts.f k a b) (decide (a = b)) := by
  unfold laws_equalInts.f
  by_cases hl : a.length = b.length
  · refine Ev.pos (by omega) ?_
    have h := ev_run (fun k i => laws_equalInts.l0 k a b i) a.length (fun i => if (decide (rd a i = rd b i)) then none else some false) true ?_ ?_ a.length 0 (by omega)
    · rw [runL_no (fun i => decide (rd a i = rd b i))] at h
      refine Ev.eq h ?_
      rw [Bool.and_true, Bool.eq_iff_iff]
      simp only [List.all_eq_true, List.mem_range, decide_eq_true_eq, Nat.zero_add]
      constructor
      · intro h
        apply List.ext_getElem hl
        intro i h1 h2
        have := h i h1
        rwa [rd_lt h1, rd_lt h2] at this
      · rintro rfl i hi
        rfl
    · intro i hi
      refine ⟨fun x hx => ?_, fun hx r hr => ?_⟩
      · by_cases e : rd a i = rd b i
        · simp [e] at hx
        · simp [e] at hx
          subst hx
          refine Ev.step (fun k => by simp only [laws_equalInts.l0]; exact rfl) ?_
          exact Ev.pos (by omega) (Ev.pos (by omega) (Ev.pos (by omega) (Ev.neg e (Ev.some _))))
      · by_cases e : rd a i = rd b i
        · refine Ev.step (fun k => by simp only [laws_equalInts.l0]; exact rfl) ?_
          refine Ev.pos (by omega) (Ev.pos (by omega) (Ev.pos (by omega) (Ev.pos e ?_)))
          rw [w64s hi (by omega)]
          exact hr
        · simp [e] at hx
    · refine Ev.step (fun k => by simp only [laws_equalInts.l0]; exact rfl) ?_
      exact Ev.neg (by omega) (Ev.some _)
  · refine Ev.neg (by omega) ?_
    refine Ev.eq (Ev.some false) ?_
    symm
    rw [decide_eq_false_iff_not]
    rintro rfl
    exact hl rfl
theorem rdL_get {T : List (List Int)} {i : Nat} (h : i < T.length) : rd_L1 T (i : Int) = T[i] := by simp [rd_L1, h]
theorem rdL_in {T : List (List Int)} {i : Nat} (h : i < T.length) : rd_L1 T (i : Int) ∈ T := by
  rw [rdL_get h]
  exact List.getElem_mem h
theorem holds_ev (T : List (List Int)) (l : List Int) (hT : T.length ≤ 1048576) (hr : ∀ r ∈ T, r.length ≤ 1048576) : ∀ d i, i + d = T.length → l ∈ T.drop i → Ev (fun k => laws_holdsList.l0 k T l (i : Int)) true := by
  intro d
  induction d with
  | zero =>
    intro i hi h
    rw [List.drop_eq_nil_of_le (by omega)] at h
    cases h
  | succ d ih =>
    intro i hi h
    have hlt : i < T.length := by omega
    rw [List.drop_eq_getElem_cons hlt] at h
    have hri := hr _ (List.getElem_mem hlt)
    refine Ev.step (fun k => by simp only [laws_holdsList.l0]; exact rfl) (Ev.pos (by omega) (Ev.pos (by omega) ?_))
    rw [rdL_get hlt]
    refine Ev.bind (eqInts_ev T[i] l (by omega)) ?_
    by_cases e : T[i] = l
    · exact Ev.pos (decide_eq_true e) (Ev.some _)
    · refine Ev.neg (by rw [decide_eq_true_eq]; exact e) ?_
      rw [w64s hlt (by omega)]
      refine ih (i + 1) (by omega) ?_
      rcases List.mem_cons.1 h with h | h
      · exact absurd h.symm e
      · exact h
theorem latF_among (n : Nat) (fs : List Nat) (hl : fs.length = n) (hf : latB (fs.map fun (i : Nat) => (i : Int)) = true) (hr : (List.range n).all (fun y => okRow y (fs.getD y 0) && (decide (2 ^ y ≤ fs.getD y 0) && decide (fs.getD y 0 < 2 ^ n))) = true) : (fs.map fun (i : Nat) => (i : Int)) ∈ latF n n [] := by
  have h := latF_has n (fs.map fun (i : Nat) => (i : Int)) (by rw [List.length_map]; exact hl) hf ?_ n 0 (by omega)
  · exact h
  · intro y hy
    have h := (List.all_eq_true.1 hr) y (List.mem_range.2 hy)
    rw [Bool.and_eq_true, Bool.and_eq_true, decide_eq_true_eq, decide_eq_true_eq] at h
    refine ⟨fs.getD y 0, ?_, h.1, h.2.1, h.2.2⟩
    rw [List.getElem?_map, List.getElem?_eq_getElem (by omega), List.getD_eq_getElem?_getD, List.getElem?_eq_getElem (by omega)]
    rfl
theorem chain_among (n : Nat) (h1 : 1 ≤ n) (h5 : n ≤ 5) : ∃ l, Ev (fun k => impl_ChainOf.f k (n : Int)) l ∧ l ∈ latF n n [] := by
  obtain rfl | rfl | rfl | rfl | rfl : n = 1 ∨ n = 2 ∨ n = 3 ∨ n = 4 ∨ n = 5 := by omega
  · exact ⟨[1], Ev.of (impl_ChainOf.mono _) (k := 40) (by decide +kernel), latF_among 1 [1] rfl (by decide +kernel) (by decide +kernel)⟩
  · exact ⟨[3, 2], Ev.of (impl_ChainOf.mono _) (k := 40) (by decide +kernel), latF_among 2 [3, 2] rfl (by decide +kernel) (by decide +kernel)⟩
  · exact ⟨[7, 6, 4], Ev.of (impl_ChainOf.mono _) (k := 40) (by decide +kernel), latF_among 3 [7, 6, 4] rfl (by decide +kernel) (by decide +kernel)⟩
  · exact ⟨[15, 14, 12, 8], Ev.of (impl_ChainOf.mono _) (k := 40) (by decide +kernel), latF_among 4 [15, 14, 12, 8] rfl (by decide +kernel) (by decide +kernel)⟩
  · exact ⟨[31, 30, 28, 24, 16], Ev.of (impl_ChainOf.mono _) (k := 40) (by decide +kernel), latF_among 5 [31, 30, 28, 24, 16] rfl (by decide +kernel) (by decide +kernel)⟩
end Go.Proofs.Ytjijfflifonjoaa.M
