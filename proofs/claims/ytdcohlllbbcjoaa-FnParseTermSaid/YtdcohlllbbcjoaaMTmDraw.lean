/- The terms that are drawn: a term, or some short list of numbers. -/
import Derived.Test.YtdcohlllbbcjoaaP13
import Derived.Test.YtdcohlllbbcjoaaP14
import Derived.Test.YtdcohlllbbcjoaaP16
import Derived.Test.YtdcohlllbbcjoaaP15
import Derived.Test.YtdcohlllbbcjoaaMDraw
import Derived.Test.YtdcohlllbbcjoaaMTm
namespace Go.Proofs.Ytdcohlllbbcjoaa.M
set_option linter.unusedVariables false
open Go.RowKit Go.Proofs.YtdcohlllbbcjoaaW.PrintWords Go.Proofs.YtdcohlllbbcjoaaW.PrintLast Go.Proofs.YtdcohlllbbcjoaaW.PrintMore Go.Proofs.Ytdcohlllbbcjoaa.P

theorem leaf_draw {src : List Int} (hs : OkS src) (n : Nat) (hn : n ≤ 1099511627776) (x1 : Int) : ∃ t : Tm, t.ok ∧ t.enc.length = 1 ∧ Ev (fun k => spec_termOf.j0 k x1 true src (n : Int)) (t.enc, ((n + 1 : Nat) : Int)) := by
  obtain ⟨v, hv, he⟩ := one_ev hs n hn [0, 1, 0, 2, 1, 10, 11] (by simp) (by simp)
  refine ⟨.leaf v, ?_, rfl, Ev.step (fun k => by simp only [spec_termOf.j0]; exact rfl) (Ev.pos trivial (Ev.bind he (Ev.some _)))⟩
  simp only [List.mem_cons, List.not_mem_nil, or_false] at hv
  show (0 ≤ v ∧ v ≤ 2) ∨ v = 10 ∨ v = 11
  omega
theorem termOf_draw {src : List Int} (hs : OkS src) : ∀ (d : Nat), d ≤ 10 → ∀ n : Nat, n + 4 ^ (d + 1) ≤ 1099511627776 → ∃ (t : Tm) (m : Nat), t.ok ∧ t.enc.length + 1 ≤ 2 ^ (d + 1) ∧ m ≤ n + 4 ^ (d + 1) ∧ Ev (fun k => spec_termOf.f k src (n : Int) (d : Int)) (t.enc, (m : Int)) := by
  intro d
  induction d with
  | zero =>
    intro _ n hn
    obtain ⟨t, a, b, c⟩ := leaf_draw hs n (by omega) 0
    exact ⟨t, n + 1, a, by omega, by omega, Ev.step (fun k => by simp only [spec_termOf.f]; exact rfl) (Ev.pos (by decide) c)⟩
  | succ d ih =>
    intro hd n hn
    have hp : 4 ^ (d + 1 + 1) = 4 * 4 ^ (d + 1) := by rw [Nat.pow_succ]; omega
    have hp1 : 1 ≤ 4 ^ (d + 1) := Nat.one_le_pow _ _ (by decide)
    have hq : 2 ^ (d + 1 + 1) = 2 * 2 ^ (d + 1) := by rw [Nat.pow_succ]; omega
    have hq1 : 1 ≤ 2 ^ (d + 1) := Nat.one_le_pow _ _ (by decide)
    have hP : 2 ^ (d + 1) ≤ 2 ^ 11 := Nat.pow_le_pow_right (by decide) (by omega)
    have e11 : 2 ^ 11 = 2048 := by decide
    rw [hp] at hn
    rw [hp, hq]
    obtain ⟨v, _, hv, he⟩ := pick_ev hs n (by omega) 4 (by decide)
    have hv := hv (by decide)
    suffices h : ∃ (t : Tm) (m : Nat), t.ok ∧ t.enc.length + 1 ≤ 2 * 2 ^ (d + 1) ∧ m ≤ n + 4 * 4 ^ (d + 1) ∧ Ev (fun k => spec_termOf.j0 k ((d + 1 : Nat) : Int) (v == 0) src ((n + 1 : Nat) : Int)) (t.enc, (m : Int)) by
      obtain ⟨t, m, a, b, c, h⟩ := h
      exact ⟨t, m, a, b, c, Ev.step (fun k => by simp only [spec_termOf.f]; exact rfl) (Ev.neg (by omega) (Ev.bind he h))⟩
    by_cases h0 : v = 0
    · subst h0
      obtain ⟨t, a, b, c⟩ := leaf_draw hs (n + 1) (by omega) ((d + 1 : Nat) : Int)
      exact ⟨t, n + 1 + 1, a, by omega, by omega, c⟩
    rw [beq_eq_false_iff_ne.mpr h0]
    have ew : wrap64 (((d + 1 : Nat) : Int) - 1) = (d : Int) := by rw [w64 (by omega) (by omega)]; omega
    obtain ⟨v2, _, hv2, he2⟩ := pick_ev hs (n + 1) (by omega) 5 (by decide)
    have hv2 := hv2 (by decide)
    by_cases h2 : v2 = 0
    · subst h2
      obtain ⟨t, m, a, b, c, h⟩ := ih (by omega) (n + 1 + 1) (by omega)
      refine ⟨.neg t, m, a, by simp only [Tm.enc, List.length_cons]; omega, by omega, Ev.step (fun k => by simp only [spec_termOf.j0]; exact rfl) (Ev.neg (by decide) (Ev.bind he2 (Ev.pos rfl ?_)))⟩
      rw [ew]
      refine Ev.bind (Ev.some _) (Ev.bind h (Ev.pos ?_ (Ev.some _)))
      simp only [List.length_cons, List.length_nil]
      omega
    · obtain ⟨x, hx, he3⟩ := one_ev hs (n + 1 + 1) (by omega) [16, 15, 14, 13, 16] (by simp) (by simp)
      obtain ⟨t, m, a, b, c, h⟩ := ih (by omega) (n + 1 + 1 + 1) (by omega)
      obtain ⟨t', m', a', b', c', h'⟩ := ih (by omega) m (by omega)
      simp only [List.mem_cons, List.not_mem_nil, or_false] at hx
      refine ⟨.bin x t t', m', ⟨by omega, a, a'⟩, by simp only [Tm.enc, List.length_cons, List.length_append]; omega, by omega, Ev.step (fun k => by simp only [spec_termOf.j0]; exact rfl) (Ev.neg (by decide) (Ev.bind he2 (Ev.neg h2 (Ev.bind he3 ?_))))⟩
      rw [ew]
      refine Ev.bind h (Ev.bind (Ev.some _) (Ev.pos ?_ (Ev.bind (Ev.some _) (Ev.bind h' (Ev.pos ?_ (Ev.some _))))))
      · simp only [List.length_cons, List.length_nil]
        omega
      · simp only [List.length_cons, List.length_nil, List.length_append]
        omega
/-- A term of at most 15 numbers. -/
theorem term_draw {src : List Int} (hs : OkS src) (n : Nat) (hn : n ≤ 1000) : ∃ (t : Tm) (m : Nat), t.ok ∧ t.enc.length ≤ 15 ∧ m ≤ 2000 ∧ ∃ v m0, Ev (fun k => spec_reader_one.f k src (n : Int) [2, 3, 1, 0]) (v, m0) ∧ Ev (fun k => spec_termOf.f k src m0 v) (t.enc, (m : Int)) := by
  obtain ⟨v, hv, he⟩ := one_ev hs n (by omega) [2, 3, 1, 0] (by simp) (by simp)
  simp only [List.mem_cons, List.not_mem_nil, or_false] at hv
  obtain ⟨d, rfl, hd⟩ : ∃ d : Nat, v = (d : Int) ∧ d ≤ 3 := ⟨v.toNat, by omega, by omega⟩
  have h4 : 4 ^ (d + 1) ≤ 4 ^ 4 := Nat.pow_le_pow_right (by decide) (by omega)
  have h2 : 2 ^ (d + 1) ≤ 2 ^ 4 := Nat.pow_le_pow_right (by decide) (by omega)
  have e4 : 4 ^ 4 = 256 := by decide
  have e2 : 2 ^ 4 = 16 := by decide
  obtain ⟨t, m, a, b, c, h⟩ := termOf_draw hs d (by omega) (n + 1) (by omega)
  exact ⟨t, m, a, by omega, by omega, _, _, he, h⟩
theorem someTerm_draw {src : List Int} (hs : OkS src) (n : Nat) (hn : n ≤ 1000) : ∃ (l : List Int) (m : Int), l.length ≤ 16 ∧ Ev (fun k => spec_someTerm.f k src (n : Int)) (l, m) := by
  unfold spec_someTerm.f
  obtain ⟨t, m, ht, h15, hm, v, m0, e1, e2⟩ := term_draw hs n hn
  obtain ⟨v3, _, hv3, e3⟩ := pick_ev hs m (by omega) 30 (by decide)
  suffices h : ∃ (l : List Int) (q : Int), l.length ≤ 16 ∧ Ev (fun k => if v3 = 0 then (if t.enc.length < 17592186044416 then some (t.enc ++ [0], ((m + 1 : Nat) : Int)) else none) else if v3 = 1 then ((spec_reader_pick.f k src ((m + 1 : Nat) : Int) (t.enc.length : Int)).bind fun b1 => (spec_reader_one.f k src b1.2 [3, 17, (-1), 12]).bind fun b2 => if 0 ≤ b1.1 then (if b1.1 < (t.enc.length : Int) then some (t.enc.set (b1.1 : Int).toNat b2.1, b2.2) else none) else none) else if v3 = 2 then (if 1 ≤ (t.enc.length : Int) then some (t.enc.drop (1 : Int).toNat, ((m + 1 : Nat) : Int)) else none) else some (t.enc, ((m + 1 : Nat) : Int))) (l, q) by
    obtain ⟨l, q, a, h⟩ := h
    exact ⟨l, q, a, Ev.bind e1 (Ev.bind e2 (Ev.bind e3 h))⟩
  have hp := t.enc_pos
  by_cases c0 : v3 = 0
  · exact ⟨_, _, by rw [List.length_append]; simp only [List.length_cons, List.length_nil]; omega, Ev.pos c0 (Ev.pos (by omega) (Ev.some _))⟩
  by_cases c1 : v3 = 1
  · obtain ⟨v4, _, hv4, e4⟩ := pick_ev hs (m + 1) (by omega) (t.enc.length : Int) (by omega)
    have hv4 := hv4 (by omega)
    obtain ⟨v5, _, e5⟩ := one_ev hs (m + 1 + 1) (by omega) [3, 17, (-1), 12] (by simp) (by simp)
    exact ⟨t.enc.set v4.toNat v5, _, by rw [List.length_set]; omega, Ev.neg c0 (Ev.pos c1 (Ev.bind e4 (Ev.bind e5 (Ev.pos hv4.1 (Ev.pos hv4.2 (Ev.some _))))))⟩
  by_cases c2 : v3 = 2
  · exact ⟨_, _, by rw [List.length_drop]; omega, Ev.neg c0 (Ev.neg c1 (Ev.pos c2 (Ev.pos (by omega) (Ev.some _))))⟩
  · exact ⟨_, _, by omega, Ev.neg c0 (Ev.neg c1 (Ev.neg c2 (Ev.some _)))⟩
theorem impl_TermText_some (l : List Int) (h : termB l = true) : ∃ t : Tm, t.ok ∧ t.enc = l ∧ l.length ≤ 15 ∧ Ev (fun k => impl_TermText.f k l) (bs t.txt) ∧ Ev (fun k => spec_TermText.f k l) (bs t.txt) ∧ (bs t.txt).toList ≠ [] := by
  obtain ⟨t, ht, rfl, h15⟩ := (termB_tm l).1 h
  exact ⟨t, ht, rfl, h15, impl_TermText_tm t ht h15, spec_TermText_tm t ht h15, by rw [bs_toList]; exact t.txt_pos⟩
end Go.Proofs.Ytdcohlllbbcjoaa.M
