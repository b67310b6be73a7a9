/- The reader of draws: every pick is a number from 0 on below the number of things to pick from; nothing is said of which one. -/
import Derived.Test.YtjijfflifonjoaaP19
import Derived.Test.YtjijfflifonjoaaP20
import Derived.Test.YtjijfflifonjoaaP21
import Derived.Test.YtjijfflifonjoaaMA
namespace Go.Proofs.Ytjijfflifonjoaa.M
set_option linter.unusedVariables false
open Go.RowKit Go.Proofs.YtjijfflifonjoaaW.PrintWords Go.Proofs.YtjijfflifonjoaaW.PrintLast Go.Proofs.YtjijfflifonjoaaW.PrintMore Go.Proofs.Ytjijfflifonjoaa.P

theorem bitsXor (a b : Int) (ha : 0 ≤ a ∧ a < 2 ^ 62) (hb : 0 ≤ b ∧ b < 2 ^ 62) : 0 ≤ bits .xor .i64 a b := by
  obtain ⟨a, rfl⟩ : ∃ n : Nat, a = (n : Int) := ⟨a.toNat, by omega⟩
  obtain ⟨b, rfl⟩ : ∃ n : Nat, b = (n : Int) := ⟨b.toNat, by omega⟩
  have ha' : a < 2 ^ 62 := by omega
  have hb' : b < 2 ^ 62 := by omega
  have hlt : (BitVec.ofNat 64 a ^^^ BitVec.ofNat 64 b).toNat < 2 ^ 62 := by
    rw [BitVec.toNat_xor, BitVec.toNat_ofNat, BitVec.toNat_ofNat, Nat.mod_eq_of_lt (by omega), Nat.mod_eq_of_lt (by omega)]
    exact Nat.xor_lt_two_pow ha' hb'
  have e : bits .xor .i64 (a : Int) (b : Int) = IntKind.i64.wrap ((BitVec.ofNat 64 a ^^^ BitVec.ofNat 64 b).toNat : Int) := by
    show IntKind.i64.wrap _ = _
    rw [BitVec.ofInt_natCast, BitVec.ofInt_natCast]
    rfl
  rw [e, wraps62 _ (Int.natCast_nonneg _) (Int.ofNat_lt.mpr hlt)]
  exact Int.natCast_nonneg _
theorem tmod_in (x m : Int) (hx : 0 ≤ x) (hm : 1 ≤ m) : 0 ≤ Int.tmod x m ∧ Int.tmod x m < m := by
  rw [Int.tmod_eq_emod_of_nonneg hx]
  exact ⟨Int.emod_nonneg _ (by omega), Int.emod_lt_of_pos _ (by omega)⟩
/-- A reader's bytes. -/
def OkS (src : List Int) : Prop := src.length ≤ 2000 ∧ ∀ x ∈ src, 0 ≤ x ∧ x ≤ 255
theorem OkS.byte {src : List Int} (h : OkS src) {i : Nat} (hi : i < src.length) : 0 ≤ rd src (i : Int) ∧ rd src (i : Int) ≤ 255 := h.2 _ (rd_mem hi)
theorem pick_ev {src : List Int} (hs : OkS src) (n : Nat) (hn : n ≤ 1099511627776) (m : Int) (hm : m ≤ 4611686018427387904) : ∃ v : Int, (m < 1 → v = 0) ∧ (1 ≤ m → 0 ≤ v ∧ v < m) ∧ Ev (fun k => spec_reader_pick.f k src (n : Int) m) (v, ((n + 1 : Nat) : Int)) := by
  unfold spec_reader_pick.f
  have h1 : wrap64 ((n : Int) + 1) = ((n + 1 : Nat) : Int) := by rw [w64 (by omega) (by omega)]; omega
  have h2 : wrap64 (((n + 1 : Nat) : Int) - 1) = (n : Int) := by rw [w64 (by omega) (by omega)]; omega
  rw [h1]
  by_cases c : m < 1
  · refine ⟨0, fun _ => rfl, fun h => by omega, Ev.pos c ?_⟩
    refine Ev.step (fun k => by simp only [spec_reader_pick.j0]; exact rfl) ?_
    exact Ev.pos trivial (Ev.some _)
  by_cases c0 : src.length = 0
  · refine ⟨0, fun _ => rfl, fun h => by omega, Ev.neg c ?_⟩
    refine Ev.step (fun k => by simp only [spec_reader_pick.j0]; exact rfl) ?_
    exact Ev.pos (by rw [beq_iff_eq]; omega) (Ev.some _)
  by_cases c1 : n < src.length
  · apply Exists.intro
    refine And.intro (fun h => absurd h c) (And.intro ?b (Ev.neg c ?e))
    case e =>
      refine Ev.step (fun k => by simp only [spec_reader_pick.j0]; exact rfl) ?_
      rw [h2]
      exact Ev.neg (by rw [beq_iff_eq]; omega) (Ev.pos (by omega) (Ev.pos (by omega) (Ev.neg (by omega) (Ev.some _))))
    case b =>
      intro h
      have := hs.byte c1
      rw [w64 (by omega) (by omega)]
      exact tmod_in _ _ this.1 h
  · have hpos : 0 < src.length := by omega
    have e1 : Int.tmod (n : Int) (src.length : Int) = ((n % src.length : Nat) : Int) := by rw [Int.tmod_eq_emod_of_nonneg (by omega)]; rfl
    have e2 : wrap64 (wrap64 ((n : Int) * 7) + 3) = ((n * 7 + 3 : Nat) : Int) := by rw [w64 (x := (n : Int) * 7) (by omega) (by omega), w64 (by omega) (by omega)]; omega
    have e3 : Int.tmod ((n * 7 + 3 : Nat) : Int) (src.length : Int) = (((n * 7 + 3) % src.length : Nat) : Int) := by rw [Int.tmod_eq_emod_of_nonneg (by omega)]; rfl
    have e4 : Int.tdiv (n : Int) (src.length : Int) = ((n / src.length : Nat) : Int) := by rw [Int.tdiv_eq_ediv_of_nonneg (by omega)]; rfl
    have b1 := hs.byte (Nat.mod_lt n hpos)
    have b2 := hs.byte (Nat.mod_lt (n * 7 + 3) hpos)
    have b3 : n / src.length ≤ n := Nat.div_le_self _ _
    have l1 := Nat.mod_lt n hpos
    have l2 := Nat.mod_lt (n * 7 + 3) hpos
    apply Exists.intro
    refine And.intro (fun h => absurd h c) (And.intro ?b (Ev.neg c ?e))
    case e =>
      refine Ev.step (fun k => by simp only [spec_reader_pick.j0]; exact rfl) ?_
      rw [h2, e2, e1, e3, e4]
      exact Ev.neg (by rw [beq_iff_eq]; omega) (Ev.neg (by omega) (Ev.neg (by omega) (Ev.pos (by omega) (Ev.pos (by omega) (Ev.pos (by omega) (Ev.pos (by omega) (Ev.neg (by omega) (Ev.some _))))))))
    case b =>
      intro h
      generalize rd src ((n % src.length : Nat) : Int) = u at *
      generalize rd src (((n * 7 + 3) % src.length : Nat) : Int) = v at *
      generalize n / src.length = q at *
      rw [w64 (x := u) (by omega) (by omega), w64 (x := v) (by omega) (by omega), w64 (x := u * 131) (by omega) (by omega), w64 (x := v * 1117) (by omega) (by omega), w64 (x := (n : Int) * 29) (by omega) (by omega), w64 (x := (q : Int)) (by omega) (by omega), w64 (x := (q : Int) * 53) (by omega) (by omega), w64 (x := u * 131 + v * 1117) (by omega) (by omega), w64 (x := u * 131 + v * 1117 + (n : Int) * 29) (by omega) (by omega), w64 (x := u * 131 + v * 1117 + (n : Int) * 29 + (q : Int) * 53) (by omega) (by omega)]
      refine tmod_in _ _ (bitsXor _ _ ⟨by omega, by omega⟩ ?_) h
      rw [Int.tdiv_eq_ediv_of_nonneg (by omega), w64 (by omega) (by omega)]
      omega
theorem one_ev {src : List Int} (hs : OkS src) (n : Nat) (hn : n ≤ 1099511627776) (l : List Int) (h0 : l ≠ []) (hl : l.length ≤ 17592186044416) : ∃ v, v ∈ l ∧ Ev (fun k => spec_reader_one.f k src (n : Int) l) (v, ((n + 1 : Nat) : Int)) := by
  have hp : 0 < l.length := List.length_pos_iff.mpr h0
  obtain ⟨v, _, hv, he⟩ := pick_ev hs n hn (l.length : Int) (by omega)
  have h := hv (by omega)
  obtain ⟨i, rfl⟩ : ∃ i : Nat, v = (i : Int) := ⟨v.toNat, by omega⟩
  refine ⟨rd l (i : Int), rd_mem (by omega), ?_⟩
  unfold spec_reader_one.f
  exact Ev.bind he (Ev.pos (by omega) (Ev.pos (by omega) (Ev.some _)))
theorem reader_eq (l : List Int) (hw : ∀ x ∈ l, (Lit.int .u8 x).wf = true) : ∃ src, spec_newReader.f l = some (src, 0) ∧ OkS src := by
  have hb : ∀ x ∈ l, 0 ≤ x ∧ x ≤ 255 := by
    intro x hx
    have := hw x hx
    have e1 : IntKind.u8.min = 0 := by decide
    have e2 : IntKind.u8.max = 255 := by decide
    simp [Lit.wf] at this
    omega
  unfold spec_newReader.f
  by_cases c : (l.length : Int) > 2000
  · rw [if_pos c, if_pos (by omega)]
    exact ⟨_, rfl, by rw [List.length_take]; omega, fun x hx => hb x (List.mem_of_mem_take hx)⟩
  · rw [if_neg c]
    exact ⟨_, rfl, by omega, hb⟩
end Go.Proofs.Ytjijfflifonjoaa.M
