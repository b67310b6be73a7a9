/- The texts that are drawn: that of a term, or some change of it. -/
import Derived.Test.YtdcohlllbbcjoaaP28
import Derived.Test.YtdcohlllbbcjoaaP29
import Derived.Test.YtdcohlllbbcjoaaP30
import Derived.Test.YtdcohlllbbcjoaaMTmDraw
namespace Go.Proofs.Ytdcohlllbbcjoaa.M
set_option linter.unusedVariables false
open Go.RowKit Go.Proofs.YtdcohlllbbcjoaaW.PrintWords Go.Proofs.YtdcohlllbbcjoaaW.PrintLast Go.Proofs.YtdcohlllbbcjoaaW.PrintMore Go.Proofs.Ytdcohlllbbcjoaa.P

theorem of_ev {src : List Int} (hs : OkS src) (n : Nat) (hn : n ≤ 1000000) (l : List ByteArray) (h0 : l ≠ []) (hl : l.length ≤ 1000) : ∃ v, v ∈ l ∧ Ev (fun k => spec_reader_of.f k src (n : Int) l) (v, ((n + 1 : Nat) : Int)) := by
  have hp : 0 < l.length := List.length_pos_iff.mpr h0
  obtain ⟨v, _, hv, he⟩ := pick_ev hs n (by omega) (l.length : Int) (by omega)
  have h := hv (by omega)
  obtain ⟨i, rfl⟩ : ∃ i : Nat, v = (i : Int) := ⟨v.toNat, by omega⟩
  have hi : i < l.length := by omega
  refine ⟨rdOf ByteArray.empty l (i : Int), ?_, ?_⟩
  · have e : rdOf ByteArray.empty l (i : Int) = l[i] := by simp [rdOf, hi]
    rw [e]
    exact List.getElem_mem hi
  unfold spec_reader_of.f
  exact Ev.bind he (Ev.pos (by omega) (Ev.pos (by omega) (Ev.some _)))
theorem mutate_draw {src : List Int} (hs : OkS src) (n : Nat) (hn : n ≤ 100000) (s : ByteArray) (hz : s.size ≤ 1000) : ∃ (s' : ByteArray) (m : Int), Ev (fun k => spec_mutate.f k src (n : Int) s) (s', m) := by
  unfold spec_mutate.f
  have hw : wrap64 ((s.size : Int) + 1) = (s.size : Int) + 1 := w64 (by omega) (by omega)
  rw [hw]
  obtain ⟨v, _, hv, e1⟩ := pick_ev hs n (by omega) ((s.size : Int) + 1) (by omega)
  have hv := hv (by omega)
  obtain ⟨v2, _, hv2, e2⟩ := pick_ev hs (n + 1) (by omega) 5 (by decide)
  have hv2 := hv2 (by decide)
  have key : ∀ b : Bool, ∃ (s' : ByteArray) (m : Int), Ev (fun k => spec_mutate.j0 k s v v2 b src ((n + 1 + 1 : Nat) : Int)) (s', m) := by
    intro b
    cases b with
    | true =>
      by_cases hlt : v < (s.size : Int)
      · obtain ⟨c, hc, e3⟩ := of_ev hs (n + 1 + 1) (by omega) [(⟨#[48]⟩ : ByteArray), (⟨#[49]⟩ : ByteArray), (⟨#[120]⟩ : ByteArray), (⟨#[44]⟩ : ByteArray), (⟨#[58]⟩ : ByteArray), (⟨#[47]⟩ : ByteArray), (⟨#[40]⟩ : ByteArray), (⟨#[38]⟩ : ByteArray), (⟨#[32]⟩ : ByteArray)] (by simp) (by simp)
        have hc1 : c.size = 1 := by
          simp only [List.mem_cons, List.not_mem_nil, or_false] at hc
          rcases hc with rfl | rfl | rfl | rfl | rfl | rfl | rfl | rfl | rfl <;> rfl
        have hw2 : wrap64 (v + 1) = v + 1 := w64 (by omega) (by omega)
        have z1 : (s.extract 0 v.toNat).size ≤ 1000 := by rw [ByteArray.size_extract]; omega
        have z2 : (s.extract (v + 1).toNat s.size).size ≤ 1000 := by rw [ByteArray.size_extract]; omega
        refine ⟨s.extract 0 v.toNat ++ c ++ s.extract (v + 1).toNat s.size, ((n + 1 + 1 + 1 : Nat) : Int), Ev.step (fun k => by simp only [spec_mutate.j0]; exact rfl) ?_⟩
        · rw [hw2]
          refine Ev.pos trivial (Ev.pos hlt (Ev.pos hv.1 (Ev.pos (by omega) (Ev.bind e3 (Ev.pos ?_ (Ev.pos (by omega) (Ev.pos (by omega) (Ev.pos ?_ (Ev.some _)))))))))
          · show (s.extract 0 v.toNat).size + c.size ≤ _
            omega
          · show ((s.extract 0 v.toNat) ++ c).size + (s.extract (v + 1).toNat s.size).size ≤ _
            rw [ByteArray.size_append]
            omega
      · refine ⟨s, ((n + 1 + 1 : Nat) : Int), Ev.step (fun k => by simp only [spec_mutate.j0]; exact rfl) ?_⟩
        exact Ev.pos trivial (Ev.neg hlt (Ev.some _))
    | false =>
      by_cases c2 : v2 = 2
      · refine ⟨s.extract 0 v.toNat, ((n + 1 + 1 : Nat) : Int), Ev.step (fun k => by simp only [spec_mutate.j0]; exact rfl) ?_⟩
        · exact Ev.neg (by decide) (Ev.pos c2 (Ev.pos hv.1 (Ev.pos (by omega) (Ev.some _))))
      by_cases c3 : v2 = 3
      · obtain ⟨c, hc, e3⟩ := of_ev hs (n + 1 + 1) (by omega) [(⟨#[48]⟩ : ByteArray), (⟨#[44]⟩ : ByteArray), (⟨#[32]⟩ : ByteArray), (⟨#[47, 48]⟩ : ByteArray), (⟨#[41]⟩ : ByteArray)] (by simp) (by simp)
        have hc1 : c.size ≤ 2 := by
          simp only [List.mem_cons, List.not_mem_nil, or_false] at hc
          rcases hc with rfl | rfl | rfl | rfl | rfl <;> decide
        refine ⟨s ++ c, ((n + 1 + 1 + 1 : Nat) : Int), Ev.step (fun k => by simp only [spec_mutate.j0]; exact rfl) ?_⟩
        · refine Ev.neg (by decide) (Ev.neg c2 (Ev.pos c3 (Ev.bind e3 (Ev.pos ?_ (Ev.some _)))))
          show s.size + c.size ≤ _
          omega
      · refine ⟨s, ((n + 1 + 1 : Nat) : Int), Ev.step (fun k => by simp only [spec_mutate.j0]; exact rfl) ?_⟩
        exact Ev.neg (by decide) (Ev.neg c2 (Ev.neg c3 (Ev.some _)))
  by_cases h0 : v2 = 0
  · obtain ⟨s', m, E⟩ := key (v2 == 0)
    exact ⟨s', m, Ev.bind e1 (Ev.bind e2 (Ev.pos h0 E))⟩
  · obtain ⟨s', m, E⟩ := key (v2 == 1)
    exact ⟨s', m, Ev.bind e1 (Ev.bind e2 (Ev.neg h0 E))⟩
theorem parse_draw (l0 : List Int) (hw : ∀ x ∈ l0, (Lit.int .u8 x).wf = true) : ∃ s, Ev (fun k => spec_DrawParseTerm.f k l0) s := by
  obtain ⟨src, hr, hs⟩ := reader_eq l0 hw
  obtain ⟨t, m, ht, h15, hm, v, m0, e1, e2⟩ := term_draw hs 0 (by decide)
  have e3 := spec_text_ev t.enc (by omega) t ht 0 [] (by simp)
  obtain ⟨v3, _, hv3, e4⟩ := pick_ev hs m (by omega) 3 (by decide)
  obtain ⟨s', q, e5⟩ := mutate_draw hs (m + 1) (by omega) (bs t.txt) (by rw [bs_size]; have := t.txt_le; omega)
  unfold spec_DrawParseTerm.f
  by_cases h0 : v3 = 0
  · exact ⟨s', Ev.bindc hr (Ev.bind e1 (Ev.bind e2 (Ev.bind e3 (Ev.bind e4 (Ev.pos h0 (Ev.bind e5 (Ev.some _)))))))⟩
  · exact ⟨bs t.txt, Ev.bindc hr (Ev.bind e1 (Ev.bind e2 (Ev.bind e3 (Ev.bind e4 (Ev.neg h0 (Ev.some _))))))⟩
end Go.Proofs.Ytdcohlllbbcjoaa.M
