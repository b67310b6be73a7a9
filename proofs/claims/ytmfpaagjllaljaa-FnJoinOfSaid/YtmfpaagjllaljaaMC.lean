/- The reader of draws: every pick is a number from 0 on below the number of things to pick from; nothing is said of which one. -/
import Derived.Test.YtmfpaagjllaljaaP14
import Derived.Test.YtmfpaagjllaljaaP15
import Derived.Test.YtmfpaagjllaljaaP16
import Derived.Test.YtmfpaagjllaljaaMA
import Derived.Test.YtmfpaagjllaljaaP52
import Derived.Test.YtmfpaagjllaljaaP6
import Derived.Test.YtmfpaagjllaljaaP1
import Derived.Test.YtmfpaagjllaljaaP56
import Derived.Test.YtmfpaagjllaljaaP57
import Derived.Test.YtmfpaagjllaljaaP58
import Derived.Test.YtmfpaagjllaljaaP62
import Derived.Test.YtmfpaagjllaljaaP19
import Derived.Test.YtmfpaagjllaljaaP40
import Derived.Test.YtmfpaagjllaljaaP36
import Derived.Test.YtmfpaagjllaljaaMTurned
namespace Go.Proofs.Ytmfpaagjllaljaa.M
set_option linter.unusedVariables false
open Go.RowKit Go.Proofs.YtmfpaagjllaljaaW.PrintWords Go.Proofs.YtmfpaagjllaljaaW.PrintLast Go.Proofs.YtmfpaagjllaljaaW.PrintMore Go.Proofs.Ytmfpaagjllaljaa.P

theorem bitsXor (a b : Int) (ha : 0 ≤ a ∧ a < 2 ^ 62) (hb : 0 ≤ b ∧ b < 2 ^ 62) : 0 ≤ bits .xor .i64 a b := by
  obtain ⟨a, rfl⟩ : ∃ n : Nat, a = (n : Int) := ⟨a.toNat, by omega⟩
  obtain ⟨b, rfl⟩ : ∃ n : Nat, b = (n : Int) := ⟨b.toNat, by omega⟩
  have ha' : a < 2 ^ 62 := by omega
  have hb' : b < 2 ^ 62 := by omega
  have hlt : (BitVec.ofNat 64 a ^^^ BitVec.ofNat 64 b).toNat < 2 ^ 62 := by
    rw [BitVec.toNat_xor, BitVec.toNat_ofNat, BitVec.toNat_ofNat, Nat.mod_eq_of_lt (by omega), Nat.mod_eq_of_lt (by omega)]
    exact Nat.xor_lt_two_pow ha' hb'
  have e : bits .xor .i64 (a : Int) (b : Int) = IntKind.i64.wrap ((BitVec.ofNat 64 a ^^^ BitVec.ofNat 64 b).toNat : Int) := by
    show IntKind.i64.wrap _ = _
    rw [BitVec.ofInt_natCast, BitVec.ofInt_natCast]
    rfl
  rw [e, wraps62 _ (Int.natCast_nonneg _) (Int.ofNat_lt.mpr hlt)]
  exact Int.natCast_nonneg _
theorem tmod_in (x m : Int) (hx : 0 ≤ x) (hm : 1 ≤ m) : 0 ≤ Int.tmod x m ∧ Int.tmod x m < m := by
  rw [Int.tmod_eq_emod_of_nonneg hx]
  exact ⟨Int.emod_nonneg _ (by omega), Int.emod_lt_of_pos _ (by omega)⟩
/-- A reader's bytes. -/
def OkS (src : List Int) : Prop := src.length ≤ 2000 ∧ ∀ x ∈ src, 0 ≤ x ∧ x ≤ 255
theorem OkS.byte {src : List Int} (h : OkS src) {i : Nat} (hi : i < src.length) : 0 ≤ rd src (i : Int) ∧ rd src (i : Int) ≤ 255 := h.2 _ (rd_mem hi)
theorem pick_ev {src : List Int} (hs : OkS src) (n : Nat) (hn : n ≤ 1099511627776) (m : Int) (hm : m ≤ 4611686018427387904) : ∃ v : Int, (m < 1 → v = 0) ∧ (1 ≤ m → 0 ≤ v ∧ v < m) ∧ Ev (fun k => spec_reader_pick.f k src (n : Int) m) (v, ((n + 1 : Nat) : Int)) := by
  unfold spec_reader_pick.f
  have h1 : wrap64 ((n : Int) + 1) = ((n + 1 : Nat) : Int) := by rw [w64 (by omega) (by omega)]; omega
  have h2 : wrap64 (((n + 1 : Nat) : Int) - 1) = (n : Int) := by rw [w64 (by omega) (by omega)]; omega
  rw [h1]
  by_cases c : m < 1
  · refine ⟨0, fun _ => rfl, fun h => by omega, Ev.pos c ?_⟩
    refine Ev.step (fun k => by simp only [spec_reader_pick.j0]; exact rfl) ?_
    exact Ev.pos trivial (Ev.some _)
  by_cases c0 : src.length = 0
  · refine ⟨0, fun _ => rfl, fun h => by omega, Ev.neg c ?_⟩
    refine Ev.step (fun k => by simp only [spec_reader_pick.j0]; exact rfl) ?_
    exact Ev.pos (by rw [beq_iff_eq]; omega) (Ev.some _)
  by_cases c1 : n < src.length
  · apply Exists.intro
    refine And.intro (fun h => absurd h c) (And.intro ?b (Ev.neg c ?e))
    case e =>
      refine Ev.step (fun k => by simp only [spec_reader_pick.j0]; exact rfl) ?_
      rw [h2]
      exact Ev.neg (by rw [beq_iff_eq]; omega) (Ev.pos (by omega) (Ev.pos (by omega) (Ev.neg (by omega) (Ev.some _))))
    case b =>
      intro h
      have := hs.byte c1
      rw [w64 (by omega) (by omega)]
      exact tmod_in _ _ this.1 h
  · have hpos : 0 < src.length := by omega
    have e1 : Int.tmod (n : Int) (src.length : Int) = ((n % src.length : Nat) : Int) := by rw [Int.tmod_eq_emod_of_nonneg (by omega)]; rfl
    have e2 : wrap64 (wrap64 ((n : Int) * 7) + 3) = ((n * 7 + 3 : Nat) : Int) := by rw [w64 (x := (n : Int) * 7) (by omega) (by omega), w64 (by omega) (by omega)]; omega
    have e3 : Int.tmod ((n * 7 + 3 : Nat) : Int) (src.length : Int) = (((n * 7 + 3) % src.length : Nat) : Int) := by rw [Int.tmod_eq_emod_of_nonneg (by omega)]; rfl
    have e4 : Int.tdiv (n : Int) (src.length : Int) = ((n / src.length : Nat) : Int) := by rw [Int.tdiv_eq_ediv_of_nonneg (by omega)]; rfl
    have b1 := hs.byte (Nat.mod_lt n hpos)
    have b2 := hs.byte (Nat.mod_lt (n * 7 + 3) hpos)
    have b3 : n / src.length ≤ n := Nat.div_le_self _ _
    have l1 := Nat.mod_lt n hpos
    have l2 := Nat.mod_lt (n * 7 + 3) hpos
    apply Exists.intro
    refine And.intro (fun h => absurd h c) (And.intro ?b (Ev.neg c ?e))
    case e =>
      refine Ev.step (fun k => by simp only [spec_reader_pick.j0]; exact rfl) ?_
      rw [h2, e2, e1, e3, e4]
      exact Ev.neg (by rw [beq_iff_eq]; omega) (Ev.neg (by omega) (Ev.neg (by omega) (Ev.pos (by omega) (Ev.pos (by omega) (Ev.pos (by omega) (Ev.pos (by omega) (Ev.neg (by omega) (Ev.some _))))))))
    case b =>
      intro h
      generalize rd src ((n % src.length : Nat) : Int) = u at *
      generalize rd src (((n * 7 + 3) % src.length : Nat) : Int) = v at *
      generalize n / src.length = q at *
      rw [w64 (x := u) (by omega) (by omega), w64 (x := v) (by omega) (by omega), w64 (x := u * 131) (by omega) (by omega), w64 (x := v * 1117) (by omega) (by omega), w64 (x := (n : Int) * 29) (by omega) (by omega), w64 (x := (q : Int)) (by omega) (by omega), w64 (x := (q : Int) * 53) (by omega) (by omega), w64 (x := u * 131 + v * 1117) (by omega) (by omega), w64 (x := u * 131 + v * 1117 + (n : Int) * 29) (by omega) (by omega), w64 (x := u * 131 + v * 1117 + (n : Int) * 29 + (q : Int) * 53) (by omega) (by omega)]
      refine tmod_in _ _ (bitsXor _ _ ⟨by omega, by omega⟩ ?_) h
      rw [Int.tdiv_eq_ediv_of_nonneg (by omega), w64 (by omega) (by omega)]
      omega
theorem one_ev {src : List Int} (hs : OkS src) (n : Nat) (hn : n ≤ 1099511627776) (l : List Int) (h0 : l ≠ []) (hl : l.length ≤ 17592186044416) : ∃ v, v ∈ l ∧ Ev (fun k => spec_reader_one.f k src (n : Int) l) (v, ((n + 1 : Nat) : Int)) := by
  have hp : 0 < l.length := List.length_pos_iff.mpr h0
  obtain ⟨v, _, hv, he⟩ := pick_ev hs n hn (l.length : Int) (by omega)
  have h := hv (by omega)
  obtain ⟨i, rfl⟩ : ∃ i : Nat, v = (i : Int) := ⟨v.toNat, by omega⟩
  refine ⟨rd l (i : Int), rd_mem (by omega), ?_⟩
  unfold spec_reader_one.f
  exact Ev.bind he (Ev.pos (by omega) (Ev.pos (by omega) (Ev.some _)))
theorem reader_eq (l : List Int) (hw : ∀ x ∈ l, (Lit.int .u8 x).wf = true) : ∃ src, spec_newReader.f l = some (src, 0) ∧ OkS src := by
  have hb : ∀ x ∈ l, 0 ≤ x ∧ x ≤ 255 := by
    intro x hx
    have := hw x hx
    have e1 : IntKind.u8.min = 0 := by decide
    have e2 : IntKind.u8.max = 255 := by decide
    simp [Lit.wf] at this
    omega
  unfold spec_newReader.f
  by_cases c : (l.length : Int) > 2000
  · rw [if_pos c, if_pos (by omega)]
    exact ⟨_, rfl, by rw [List.length_take]; omega, fun x hx => hb x (List.mem_of_mem_take hx)⟩
  · rw [if_neg c]
    exact ⟨_, rfl, by omega, hb⟩
end Go.Proofs.Ytmfpaagjllaljaa.M

/- All lattices, as the reference lists them: what the list holds, and that it isn't empty. -/
namespace Go.Proofs.Ytmfpaagjllaljaa.M
set_option linter.unusedVariables false
open Go.RowKit Go.Proofs.YtmfpaagjllaljaaW.PrintWords Go.Proofs.YtmfpaagjllaljaaW.PrintLast Go.Proofs.YtmfpaagjllaljaaW.PrintMore Go.Proofs.Ytmfpaagjllaljaa.P

def okRow (x row : Nat) : Bool := decide (row % 2 ^ x = 0) && row.testBit x
def flatR (g : Nat → List (List Int)) (x : Nat) : Nat → Nat → List (List Int)
  | 0, _ => []
  | c + 1, i => (if okRow x i then g i else []) ++ flatR g x c (i + 1)
def latF (n : Nat) : Nat → List Int → List (List Int)
  | 0, head => if latB head then [head] else []
  | d + 1, head => flatR (fun row => latF n d (head ++ [(row : Int)])) head.length (2 ^ n - 2 ^ head.length) (2 ^ head.length)
theorem flatR_len (g : Nat → List (List Int)) (x B : Nat) (h : ∀ i, (g i).length ≤ B) : ∀ c i, (flatR g x c i).length ≤ c * B := by
  intro c
  induction c with
  | zero => intro i; simp [flatR]
  | succ c ih =>
    intro i
    have h1 := ih (i + 1)
    have h2 := h i
    unfold flatR
    rw [List.length_append, Nat.succ_mul]
    split
    · omega
    · rw [List.length_nil]; omega
theorem flatR_mem {g : Nat → List (List Int)} {x : Nat} {l : List Int} : ∀ c i, l ∈ flatR g x c i ↔ ∃ j, i ≤ j ∧ j < i + c ∧ okRow x j = true ∧ l ∈ g j := by
  intro c
  induction c with
  | zero => intro i; simp [flatR]; intro j h1 h2; omega
  | succ c ih =>
    intro i
    unfold flatR
    rw [List.mem_append, ih]
    constructor
    · rintro (h | ⟨j, h1, h2, h3, h4⟩)
      · by_cases e : okRow x i = true
        · rw [if_pos e] at h
          exact ⟨i, Nat.le_refl _, by omega, e, h⟩
        · rw [if_neg e] at h
          cases h
      · exact ⟨j, by omega, by omega, h3, h4⟩
    · rintro ⟨j, h1, h2, h3, h4⟩
      by_cases e : j = i
      · subst e
        left
        rw [if_pos h3]
        exact h4
      · exact .inr ⟨j, by omega, by omega, h3, h4⟩
theorem latF_len (n : Nat) (hn : n ≤ 6) : ∀ d head, (latF n d head).length ≤ 64 ^ d := by
  intro d
  induction d with
  | zero =>
    intro head
    unfold latF
    split <;> simp
  | succ d ih =>
    intro head
    unfold latF
    refine Nat.le_trans (flatR_len _ _ (64 ^ d) (fun i => ih _) _ _) ?_
    have : 2 ^ n ≤ 2 ^ 6 := Nat.pow_le_pow_right (by decide) hn
    rw [Nat.pow_succ, Nat.mul_comm]
    exact Nat.mul_le_mul_left _ (by have := Nat.sub_le (2 ^ n) (2 ^ head.length); omega)
theorem latF_mem (n : Nat) : ∀ d head l, l ∈ latF n d head → latB l = true ∧ l.length = head.length + d := by
  intro d
  induction d with
  | zero =>
    intro head l h
    unfold latF at h
    split at h
    · rename_i e
      obtain rfl := List.mem_singleton.1 h
      exact ⟨e, rfl⟩
    · cases h
  | succ d ih =>
    intro head l h
    unfold latF at h
    obtain ⟨j, _, _, _, h4⟩ := (flatR_mem _ _).1 h
    have := ih _ _ h4
    rw [List.length_append] at this
    exact ⟨this.1, by simp at this; omega⟩
theorem latF_has (n : Nat) (full : List Int) (hl : full.length = n) (hf : latB full = true) (hr : ∀ y, y < n → ∃ r : Nat, full[y]? = some (r : Int) ∧ okRow y r = true ∧ 2 ^ y ≤ r ∧ r < 2 ^ n) : ∀ d x, x + d = n → full ∈ latF n d (full.take x) := by
  intro d
  induction d with
  | zero =>
    intro x hx
    unfold latF
    rw [List.take_of_length_le (by omega), if_pos hf]
    exact List.mem_singleton.2 rfl
  | succ d ih =>
    intro x hx
    unfold latF
    obtain ⟨r, h1, h2, h3, h4⟩ := hr x (by omega)
    have hlen : (full.take x).length = x := by rw [List.length_take]; omega
    rw [hlen]
    refine (flatR_mem _ _).2 ⟨r, h3, by omega, h2, ?_⟩
    have e : full.take x ++ [(r : Int)] = full.take (x + 1) := by
      rw [List.take_add_one, h1]
      rfl
    show full ∈ latF n d (full.take x ++ [(r : Int)])
    rw [e]
    exact ih (x + 1) (by omega)
theorem latF_has' (n : Nat) (fs : List Nat) (hl : fs.length = n) (hf : latB (fs.map fun (i : Nat) => (i : Int)) = true) (hr : (List.range n).all (fun y => okRow y (fs.getD y 0) && (decide (2 ^ y ≤ fs.getD y 0) && decide (fs.getD y 0 < 2 ^ n))) = true) : latF n n [] ≠ [] := by
  have h := latF_has n (fs.map fun (i : Nat) => (i : Int)) (by rw [List.length_map]; exact hl) hf ?_ n 0 (by omega)
  · exact List.ne_nil_of_mem h
  · intro y hy
    have h := (List.all_eq_true.1 hr) y (List.mem_range.2 hy)
    rw [Bool.and_eq_true, Bool.and_eq_true, decide_eq_true_eq, decide_eq_true_eq] at h
    refine ⟨fs.getD y 0, ?_, h.1, h.2.1, h.2.2⟩
    rw [List.getElem?_map, List.getElem?_eq_getElem (by omega), List.getD_eq_getElem?_getD, List.getElem?_eq_getElem (by omega)]
    rfl
theorem latF_some (n : Nat) (h1 : 1 ≤ n) (h6 : n ≤ 6) : latF n n [] ≠ [] := by
  obtain rfl | rfl | rfl | rfl | rfl | rfl : n = 1 ∨ n = 2 ∨ n = 3 ∨ n = 4 ∨ n = 5 ∨ n = 6 := by omega
  · exact latF_has' 1 [1] rfl (by decide +kernel) (by decide +kernel)
  · exact latF_has' 2 [3, 2] rfl (by decide +kernel) (by decide +kernel)
  · exact latF_has' 3 [7, 6, 4] rfl (by decide +kernel) (by decide +kernel)
  · exact latF_has' 4 [15, 14, 12, 8] rfl (by decide +kernel) (by decide +kernel)
  · exact latF_has' 5 [31, 30, 28, 24, 16] rfl (by decide +kernel) (by decide +kernel)
  · exact latF_has' 6 [63, 62, 60, 56, 48, 32] rfl (by decide +kernel) (by decide +kernel)
theorem latF_ev (n : Nat) (hn : n ≤ 6) : ∀ d head, head.length + d = n → Ev (fun k => spec_latticesFrom.f k (n : Int) head) (latF n d head) := by
  intro d
  induction d with
  | zero =>
    intro head hd
    refine Ev.step (fun k => by simp only [spec_latticesFrom.f]; exact rfl) (Ev.pos (by omega) ?_)
    refine Ev.bind (spec_validLattice_ev head (by omega)) ?_
    unfold latF
    refine Ev.ite' (fun e => ?_) (fun e => ?_)
    · rw [if_pos e]
      exact Ev.bindc rfl (Ev.pos (by rw [List.length_nil]; omega) (Ev.some _))
    · rw [if_neg e]
      exact Ev.some _
  | succ d ih =>
    intro head hd
    refine Ev.step (fun k => by simp only [spec_latticesFrom.f]; exact rfl) (Ev.neg (by omega) ?_)
    refine Ev.bind (power_ev head.length (by omega)) ?_
    unfold latF
    have hp : 2 ^ head.length ≤ 2 ^ n := Nat.pow_le_pow_right (by decide) (by omega)
    have h6 : 2 ^ n ≤ 2 ^ 6 := Nat.pow_le_pow_right (by decide) hn
    have hx0 : 0 < 2 ^ head.length := Nat.two_pow_pos _
    have hB0 : 0 ≤ 64 ^ d := Nat.zero_le _
    have hB : 64 ^ d ≤ 64 ^ 5 := Nat.pow_le_pow_right (by decide) (by omega)
    have key : ∀ (c i : Nat) (out : List (List Int)), i + c = 2 ^ n → out.length + c * 64 ^ d ≤ 64 * 64 ^ 5 → Ev (fun k => spec_latticesFrom.l0 k (n : Int) head (head.length : Int) out (i : Int)) (out ++ flatR (fun row => latF n d (head ++ [(row : Int)])) head.length c i) := by
      intro c
      induction c with
      | zero =>
        intro i out hi ho
        refine Ev.step (fun k => by simp only [spec_latticesFrom.l0]; exact rfl) (Ev.bind (power_ev n (by omega)) ?_)
        refine Ev.neg (by omega) ?_
        exact Ev.eq (Ev.some _) (by simp [flatR])
      | succ c ihc =>
        intro i out hi ho
        rw [Nat.succ_mul] at ho
        refine Ev.step (fun k => by simp only [spec_latticesFrom.l0]; exact rfl) (Ev.bind (power_ev n (by omega)) ?_)
        refine Ev.pos (by omega) (Ev.bind (power_ev head.length (by omega)) ?_)
        refine Ev.neg (by omega) ?_
        rw [w64s (n := 2 ^ n) (by omega) (by omega)]
        have skip : okRow head.length i = false → Ev (fun k => spec_latticesFrom.l0 k (n : Int) head (head.length : Int) out ((i + 1 : Nat) : Int)) (out ++ flatR (fun row => latF n d (head ++ [(row : Int)])) head.length (c + 1) i) := by
          intro e
          unfold flatR
          rw [if_neg (by rw [e]; decide), List.nil_append]
          exact ihc (i + 1) out (by omega) (by omega)
        have em : Int.tmod (i : Int) ((2 ^ head.length : Nat) : Int) = ((i % 2 ^ head.length : Nat) : Int) := by rw [Int.tmod_eq_emod_of_nonneg (by omega)]; rfl
        rw [em]
        refine Ev.ite' (fun e => ?_) (fun e => skip (by rw [okRow, decide_eq_false (by omega)]; rfl))
        refine Ev.bind (bit_ev i head.length (by omega) (by omega)) ?_
        cases hb : i.testBit head.length with
        | false =>
          rw [if_neg (by decide)]
          exact Ev.neg (by decide) (skip (by rw [okRow, hb, Bool.and_false]))
        | true =>
          rw [if_pos rfl]
          refine Ev.pos rfl (Ev.bindc rfl (Ev.pos (by rw [List.length_nil]; omega) (Ev.bindc rfl (Ev.pos (by rw [List.nil_append]; omega) ?_))))
          rw [List.nil_append]
          refine Ev.bind (ih (head ++ [(i : Int)]) (by simp; omega)) ?_
          have hlen := latF_len n hn d (head ++ [(i : Int)])
          refine Ev.pos (by omega) ?_
          have := ihc (i + 1) (out ++ latF n d (head ++ [(i : Int)])) (by omega) (by rw [List.length_append]; omega)
          unfold flatR
          rw [if_pos (by rw [okRow, hb, decide_eq_true (by omega)]; rfl), ← List.append_assoc]
          exact this
    have h := key (2 ^ n - 2 ^ head.length) (2 ^ head.length) [] (by omega) (by
      rw [List.length_nil, Nat.zero_add]
      exact Nat.mul_le_mul (by omega) hB)
    rwa [List.nil_append] at h
end Go.Proofs.Ytmfpaagjllaljaa.M

/- The lattices that are drawn: some list of at most seven numbers, whichever. -/
namespace Go.Proofs.Ytmfpaagjllaljaa.M
set_option linter.unusedVariables false
open Go.RowKit Go.Proofs.YtmfpaagjllaljaaW.PrintWords Go.Proofs.YtmfpaagjllaljaaW.PrintLast Go.Proofs.YtmfpaagjllaljaaW.PrintMore Go.Proofs.Ytmfpaagjllaljaa.P

def BIG : Nat := 1099511627776
theorem chain_run : ∀ n : Nat, 1 ≤ n → n ≤ 6 → ∃ l : List Int, l ≠ [] ∧ l.length ≤ 6 ∧ spec_chain.f 40 (n : Int) = some l := by
  intro n h1 h6
  obtain rfl | rfl | rfl | rfl | rfl | rfl : n = 1 ∨ n = 2 ∨ n = 3 ∨ n = 4 ∨ n = 5 ∨ n = 6 := by omega
  · exact ⟨[1], by decide, by decide, by decide +kernel⟩
  · exact ⟨[3, 2], by decide, by decide, by decide +kernel⟩
  · exact ⟨[7, 6, 4], by decide, by decide, by decide +kernel⟩
  · exact ⟨[15, 14, 12, 8], by decide, by decide, by decide +kernel⟩
  · exact ⟨[31, 30, 28, 24, 16], by decide, by decide, by decide +kernel⟩
  · exact ⟨[63, 62, 60, 56, 48, 32], by decide, by decide, by decide +kernel⟩
theorem chain_pick_ev (v m : Int) (hv : 0 ≤ v ∧ v < m) (hm : m ≤ 6) : ∃ l : List Int, l ≠ [] ∧ l.length ≤ 6 ∧ Ev (fun k => spec_chain.f k (wrap64 (1 + v))) l := by
  rw [w64 (by omega) (by omega)]
  obtain ⟨n, hn⟩ : ∃ n : Nat, 1 + v = (n : Int) := ⟨(1 + v).toNat, by omega⟩
  rw [hn]
  obtain ⟨l, h1, h2, h3⟩ := chain_run n (by omega) (by omega)
  exact ⟨l, h1, h2, Ev.of (spec_chain.mono _) h3⟩
theorem cross_run (v : Int) (hv : 0 ≤ v ∧ v < 3) : ∃ a b l : List Int, l ≠ [] ∧ l.length ≤ 6 ∧ Ev (fun k => spec_chain.f k 2) a ∧ Ev (fun k => spec_chain.f k (wrap64 (1 + v))) b ∧ Ev (fun k => spec_cross.f k a b) l := by
  obtain rfl | rfl | rfl : v = 0 ∨ v = 1 ∨ v = 2 := by omega
  · exact ⟨[3, 2], [1], [3, 2], by decide, by decide, Ev.of (spec_chain.mono _) (k := 40) (by decide +kernel), Ev.of (spec_chain.mono _) (k := 40) (by decide +kernel), Ev.of (spec_cross.mono _ _) (k := 100) (by decide +kernel)⟩
  · exact ⟨[3, 2], [3, 2], [15, 10, 12, 8], by decide, by decide, Ev.of (spec_chain.mono _) (k := 40) (by decide +kernel), Ev.of (spec_chain.mono _) (k := 40) (by decide +kernel), Ev.of (spec_cross.mono _ _) (k := 100) (by decide +kernel)⟩
  · exact ⟨[3, 2], [7, 6, 4], [63, 54, 36, 56, 48, 32], by decide, by decide, Ev.of (spec_chain.mono _) (k := 40) (by decide +kernel), Ev.of (spec_chain.mono _) (k := 40) (by decide +kernel), Ev.of (spec_cross.mono _ _) (k := 100) (by decide +kernel)⟩
theorem turnedN_length (up : List Int) : (turnedN up).length = up.length := by simp [turnedN]
/-- A list out of all lattices of n elements. -/
theorem pick_lat {src : List Int} (hs : OkS src) (n : Nat) (hn : n ≤ BIG) (d : Nat) (h1 : 1 ≤ d) (h6 : d ≤ 6) : ∃ v : Int, (0 ≤ v ∧ v < ((latF d d []).length : Int)) ∧ latB (rd_L2 (latF d d []) v) = true ∧ (rd_L2 (latF d d []) v).length = d ∧ Ev (fun k => spec_reader_pick.f k src (n : Int) ((latF d d []).length : Int)) (v, ((n + 1 : Nat) : Int)) := by
  have hlen := latF_len d h6 d []
  have hp : 64 ^ d ≤ 64 ^ 6 := Nat.pow_le_pow_right (by decide) h6
  have h0 : 0 < (latF d d []).length := List.length_pos_iff.mpr (latF_some d h1 h6)
  obtain ⟨v, _, hv, he⟩ := pick_ev hs n hn ((latF d d []).length : Int) (by omega)
  have hv := hv (by omega)
  obtain ⟨i, rfl⟩ : ∃ i : Nat, v = (i : Int) := ⟨v.toNat, by omega⟩
  have hi : i < (latF d d []).length := by omega
  have hm : rd_L2 (latF d d []) (i : Int) ∈ latF d d [] := by
    have e : rd_L2 (latF d d []) (i : Int) = (latF d d [])[i] := by simp [rd_L2, hi]
    rw [e]
    exact List.getElem_mem hi
  have := latF_mem d d [] _ hm
  exact ⟨(i : Int), hv, this.1, by simpa using this.2, he⟩
theorem good_draw {src : List Int} (hs : OkS src) (n : Nat) (hn : n + 10 ≤ BIG) : ∃ (up : List Int) (m : Nat), up ≠ [] ∧ up.length ≤ 6 ∧ m ≤ n + 10 ∧ Ev (fun k => spec_goodLattice.f k src (n : Int)) (up, (m : Int)) := by
  unfold BIG at hn
  unfold spec_goodLattice.f
  obtain ⟨v, _, hv, he⟩ := pick_ev hs n (by omega) 6 (by decide)
  have hv := hv (by decide)
  by_cases c0 : v = 0
  · subst c0
    obtain ⟨v2, _, hv2, he2⟩ := pick_ev hs (n + 1) (by omega) 6 (by decide)
    obtain ⟨l, l1, l2, l3⟩ := chain_pick_ev v2 6 (hv2 (by decide)) (by decide)
    exact ⟨l, n + 1 + 1, l1, l2, by omega, Ev.bind he (Ev.pos rfl (Ev.bind he2 (Ev.bind l3 (Ev.some _))))⟩
  by_cases c1 : v = 1
  · subst c1
    obtain ⟨v2, _, hv2, he2⟩ := pick_ev hs (n + 1) (by omega) 3 (by decide)
    obtain ⟨a, b, l, l1, l2, l3, l4, l5⟩ := cross_run v2 (hv2 (by decide))
    exact ⟨l, n + 1 + 1, l1, l2, by omega, Ev.bind he (Ev.neg c0 (Ev.pos rfl (Ev.bind l3 (Ev.bind he2 (Ev.bind l4 (Ev.bind l5 (Ev.some _)))))))⟩
  by_cases c2 : v = 2
  · subst c2
    obtain ⟨v2, hv2, g1, g2, he2⟩ := pick_lat hs (n + 1) (by unfold BIG; omega) 4 (by decide) (by decide)
    refine ⟨turnedN (rd_L2 (latF 4 4 []) v2), n + 1 + 1, ?_, ?_, by omega, ?_⟩
    · intro e
      have := turnedN_length (rd_L2 (latF 4 4 []) v2)
      rw [e, g2] at this
      cases this
    · rw [turnedN_length, g2]; decide
    · exact Ev.bind he (Ev.neg c0 (Ev.neg c1 (Ev.pos rfl (Ev.bind (latF_ev 4 (by decide) 4 [] rfl) (Ev.bind he2 (Ev.pos hv2.1 (Ev.pos hv2.2 (Ev.bind (spec_turned_ev g1) (Ev.some _)))))))))
  · obtain ⟨d, hd, he2⟩ := one_ev hs (n + 1) (by omega) [5, 4, 5, 3, 2, 1] (by simp) (by decide)
    obtain ⟨d, rfl, d1, d6⟩ : ∃ d' : Nat, d = (d' : Int) ∧ 1 ≤ d' ∧ d' ≤ 6 := by
      simp only [List.mem_cons, List.not_mem_nil, or_false] at hd
      exact ⟨d.toNat, by omega, by omega, by omega⟩
    obtain ⟨v2, hv2, g1, g2, he3⟩ := pick_lat hs (n + 1 + 1) (by unfold BIG; omega) d d1 d6
    refine ⟨rd_L2 (latF d d []) v2, n + 1 + 1 + 1, ?_, by omega, by omega, ?_⟩
    · intro e
      rw [e] at g2
      simp at g2
      omega
    · exact Ev.bind he (Ev.neg c0 (Ev.neg c1 (Ev.neg c2 (Ev.bind he2 (Ev.bind (latF_ev d d6 d [] (by simp)) (Ev.bind he3 (Ev.pos hv2.1 (Ev.pos hv2.2 (Ev.some _)))))))))
theorem one2_ev {src : List Int} (hs : OkS src) (n : Nat) (hn : n ≤ BIG) (ls : List (List Int)) (h0 : ls ≠ []) (hl : ls.length ≤ 100) (h7 : ∀ l ∈ ls, l.length ≤ 7) : ∃ l : List Int, l.length ≤ 7 ∧ Ev (fun k => spec_reader_one2.f k src (n : Int) ls) (l, ((n + 1 : Nat) : Int)) := by
  have hp : 0 < ls.length := List.length_pos_iff.mpr h0
  obtain ⟨v, _, hv, he⟩ := pick_ev hs n hn (ls.length : Int) (by omega)
  have hv := hv (by omega)
  obtain ⟨i, rfl⟩ : ∃ i : Nat, v = (i : Int) := ⟨v.toNat, by omega⟩
  have hi : i < ls.length := by omega
  have e : rd_L2 ls (i : Int) = ls[i] := by simp [rd_L2, hi]
  have hm : (rd_L2 ls (i : Int)).length ≤ 7 := by rw [e]; exact h7 _ (List.getElem_mem hi)
  refine ⟨rd_L2 ls (i : Int), hm, ?_⟩
  unfold spec_reader_one2.f
  exact Ev.bindc rfl (Ev.bind he (Ev.pos (by omega) (Ev.pos (by omega) (Ev.pos (by show 0 + (rd_L2 ls (i : Int)).length < _; omega) (Ev.some _)))))
theorem some_draw {src : List Int} (hs : OkS src) (n : Nat) (hn : n + 20 ≤ BIG) : ∃ (up : List Int) (m : Nat), up.length ≤ 7 ∧ m ≤ n + 20 ∧ Ev (fun k => spec_someLattice.f k src (n : Int)) (up, (m : Int)) := by
  obtain ⟨up, m, u1, u2, u3, u4⟩ := good_draw hs n (by omega)
  obtain ⟨v, _, hv, he⟩ := pick_ev hs m (by unfold BIG at hn; omega) 20 (by decide)
  have hv := hv (by decide)
  have h0 : 0 < up.length := List.length_pos_iff.mpr u1
  unfold spec_someLattice.f
  by_cases c0 : v = 0
  · obtain ⟨v2, _, hv2, he2⟩ := pick_ev hs (m + 1) (by unfold BIG at hn; omega) (up.length : Int) (by omega)
    have hv2 := hv2 (by omega)
    obtain ⟨z, _, he3⟩ := one_ev hs (m + 1 + 1) (by unfold BIG at hn; omega) [0, 1, 63, (-1), 64] (by simp) (by decide)
    refine ⟨up.set v2.toNat z, m + 1 + 1 + 1, by rw [List.length_set]; omega, by omega, ?_⟩
    refine Ev.bindc rfl (Ev.bind u4 (Ev.pos (by simp; omega) (Ev.bindc rfl (Ev.bind he ?_))))
    exact Ev.pos c0 (Ev.bind he2 (Ev.bind he3 (Ev.pos hv2.1 (Ev.pos hv2.2 (Ev.some _)))))
  by_cases c1 : v = 1
  · refine ⟨up ++ [1], m + 1, by simp; omega, by omega, ?_⟩
    refine Ev.bindc rfl (Ev.bind u4 (Ev.pos (by simp; omega) (Ev.bindc rfl (Ev.bind he ?_))))
    exact Ev.neg c0 (Ev.pos c1 (Ev.pos (by simp; omega) (Ev.some _)))
  by_cases c2 : v = 2
  · obtain ⟨l, hl, he2⟩ := one2_ev hs (m + 1) (by omega) [[15, 10, 12, 8], [63, 58, 60, 40, 48, 32], [1, 2], []] (by simp) (by decide) (by decide)
    refine ⟨l, m + 1 + 1, hl, by omega, ?_⟩
    refine Ev.bindc rfl (Ev.bind u4 (Ev.pos (by simp; omega) (Ev.bindc rfl (Ev.bind he ?_))))
    exact Ev.neg c0 (Ev.neg c1 (Ev.pos c2 (Ev.bind he2 (Ev.some _))))
  · refine ⟨up, m + 1, by omega, by omega, ?_⟩
    refine Ev.bindc rfl (Ev.bind u4 (Ev.pos (by simp; omega) (Ev.bindc rfl (Ev.bind he ?_))))
    exact Ev.neg c0 (Ev.neg c1 (Ev.neg c2 (Ev.some _)))
theorem element_draw {src : List Int} (hs : OkS src) (n : Nat) (hn : n + 20 ≤ BIG) (a : Int) (ha : a ≤ 4611686018427387904) : ∃ (x : Int) (m : Nat), m ≤ n + 20 ∧ Ev (fun k => spec_element.f k src (n : Int) a) (x, (m : Int)) := by
  unfold BIG at hn
  unfold spec_element.f
  obtain ⟨v, _, hv, he⟩ := pick_ev hs n (by omega) 24 (by decide)
  by_cases c0 : v = 0
  · obtain ⟨z, _, he2⟩ := one_ev hs (n + 1) (by omega) [(-1), a, 6] (by simp) (by simp)
    exact ⟨z, n + 1 + 1, by omega, Ev.bind he (Ev.pos c0 (Ev.bind he2 (Ev.some _)))⟩
  · obtain ⟨z, _, _, he2⟩ := pick_ev hs (n + 1) (by omega) a ha
    exact ⟨z, n + 1 + 1, by omega, Ev.bind he (Ev.neg c0 (Ev.bind he2 (Ev.some _)))⟩
end Go.Proofs.Ytmfpaagjllaljaa.M
