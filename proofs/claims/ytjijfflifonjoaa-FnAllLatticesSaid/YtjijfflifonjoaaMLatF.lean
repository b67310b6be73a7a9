/- All lattices, as the reference lists them: what the list holds, and that it isn't empty. -/
import Derived.Test.YtjijfflifonjoaaP6
import Derived.Test.YtjijfflifonjoaaP5
import Derived.Test.YtjijfflifonjoaaP1
import Derived.Test.YtjijfflifonjoaaMA
namespace Go.Proofs.Ytjijfflifonjoaa.M
set_option linter.unusedVariables false
open Go.RowKit Go.Proofs.YtjijfflifonjoaaW.PrintWords Go.Proofs.YtjijfflifonjoaaW.PrintLast Go.Proofs.YtjijfflifonjoaaW.PrintMore Go.Proofs.Ytjijfflifonjoaa.P

def okRow (x row : Nat) : Bool := decide (row % 2 ^ x = 0) && row.testBit x
def flatR (g : Nat → List (List Int)) (x : Nat) : Nat → Nat → List (List Int)
  | 0, _ => []
  | c + 1, i => (if okRow x i then g i else []) ++ flatR g x c (i + 1)
def latF (n : Nat) : Nat → List Int → List (List Int)
  | 0, head => if latB head then [head] else []
  | d + 1, head => flatR (fun row => latF n d (head ++ [(row : Int)])) head.length (2 ^ n - 2 ^ head.length) (2 ^ head.length)
theorem flatR_len (g : Nat → List (List Int)) (x B : Nat) (h : ∀ i, (g i).length ≤ B) : ∀ c i, (flatR g x c i).length ≤ c * B := by
  intro c
  induction c with
  | zero => intro i; simp [flatR]
  | succ c ih =>
    intro i
    have h1 := ih (i + 1)
    have h2 := h i
    unfold flatR
    rw [List.length_append, Nat.succ_mul]
    split
    · omega
    · rw [List.length_nil]; omega
theorem flatR_mem {g : Nat → List (List Int)} {x : Nat} {l : List Int} : ∀ c i, l ∈ flatR g x c i ↔ ∃ j, i ≤ j ∧ j < i + c ∧ okRow x j = true ∧ l ∈ g j := by
  intro c
  induction c with
  | zero => intro i; simp [flatR]; intro j h1 h2; omega
  | succ c ih =>
    intro i
    unfold flatR
    rw [List.mem_append, ih]
    constructor
    · rintro (h | ⟨j, h1, h2, h3, h4⟩)
      · by_cases e : okRow x i = true
        · rw [if_pos e] at h
          exact ⟨i, Nat.le_refl _, by omega, e, h⟩
        · rw [if_neg e] at h
          cases h
      · exact ⟨j, by omega, by omega, h3, h4⟩
    · rintro ⟨j, h1, h2, h3, h4⟩
      by_cases e : j = i
      · subst e
        left
        rw [if_pos h3]
        exact h4
      · exact .inr ⟨j, by omega, by omega, h3, h4⟩
theorem latF_len (n : Nat) (hn : n ≤ 6) : ∀ d head, (latF n d head).length ≤ 64 ^ d := by
  intro d
  induction d with
  | zero =>
    intro head
    unfold latF
    split <;> simp
  | succ d ih =>
    intro head
    unfold latF
    refine Nat.le_trans (flatR_len _ _ (64 ^ d) (fun i => ih _) _ _) ?_
    have : 2 ^ n ≤ 2 ^ 6 := Nat.pow_le_pow_right (by decide) hn
    rw [Nat.pow_succ, Nat.mul_comm]
    exact Nat.mul_le_mul_left _ (by have := Nat.sub_le (2 ^ n) (2 ^ head.length); omega)
theorem latF_mem (n : Nat) : ∀ d head l, l ∈ latF n d head → latB l = true ∧ l.length = head.length + d := by
  intro d
  induction d with
  | zero =>
    intro head l h
    unfold latF at h
    split at h
    · rename_i e
      obtain rfl := List.mem_singleton.1 h
      exact ⟨e, rfl⟩
    · cases h
  | succ d ih =>
    intro head l h
    unfold latF at h
    obtain ⟨j, _, _, _, h4⟩ := (flatR_mem _ _).1 h
    have := ih _ _ h4
    rw [List.length_append] at this
    exact ⟨this.1, by simp at this; omega⟩
theorem latF_has (n : Nat) (full : List Int) (hl : full.length = n) (hf : latB full = true) (hr : ∀ y, y < n → ∃ r : Nat, full[y]? = some (r : Int) ∧ okRow y r = true ∧ 2 ^ y ≤ r ∧ r < 2 ^ n) : ∀ d x, x + d = n → full ∈ latF n d (full.take x) := by
  intro d
  induction d with
  | zero =>
    intro x hx
    unfold latF
    rw [List.take_of_length_le (by omega), if_pos hf]
    exact List.mem_singleton.2 rfl
  | succ d ih =>
    intro x hx
    unfold latF
    obtain ⟨r, h1, h2, h3, h4⟩ := hr x (by omega)
    have hlen : (full.take x).length = x := by rw [List.length_take]; omega
    rw [hlen]
    refine (flatR_mem _ _).2 ⟨r, h3, by omega, h2, ?_⟩
    have e : full.take x ++ [(r : Int)] = full.take (x + 1) := by
      rw [List.take_add_one, h1]
      rfl
    show full ∈ latF n d (full.take x ++ [(r : Int)])
    rw [e]
    exact ih (x + 1) (by omega)
theorem latF_has' (n : Nat) (fs : List Nat) (hl : fs.length = n) (hf : latB (fs.map fun (i : Nat) => (i : Int)) = true) (hr : (List.range n).all (fun y => okRow y (fs.getD y 0) && (decide (2 ^ y ≤ fs.getD y 0) && decide (fs.getD y 0 < 2 ^ n))) = true) : latF n n [] ≠ [] := by
  have h := latF_has n (fs.map fun (i : Nat) => (i : Int)) (by rw [List.length_map]; exact hl) hf ?_ n 0 (by omega)
  · exact List.ne_nil_of_mem h
  · intro y hy
    have h := (List.all_eq_true.1 hr) y (List.mem_range.2 hy)
    rw [Bool.and_eq_true, Bool.and_eq_true, decide_eq_true_eq, decide_eq_true_eq] at h
    refine ⟨fs.getD y 0, ?_, h.1, h.2.1, h.2.2⟩
    rw [List.getElem?_map, List.getElem?_eq_getElem (by omega), List.getD_eq_getElem?_getD, List.getElem?_eq_getElem (by omega)]
    rfl
theorem latF_some (n : Nat) (h1 : 1 ≤ n) (h6 : n ≤ 6) : latF n n [] ≠ [] := by
  obtain rfl | rfl | rfl | rfl | rfl | rfl : n = 1 ∨ n = 2 ∨ n = 3 ∨ n = 4 ∨ n = 5 ∨ n = 6 := by omega
  · exact latF_has' 1 [1] rfl (by decide +kernel) (by decide +kernel)
  · exact latF_has' 2 [3, 2] rfl (by decide +kernel) (by decide +kernel)
  · exact latF_has' 3 [7, 6, 4] rfl (by decide +kernel) (by decide +kernel)
  · exact latF_has' 4 [15, 14, 12, 8] rfl (by decide +kernel) (by decide +kernel)
  · exact latF_has' 5 [31, 30, 28, 24, 16] rfl (by decide +kernel) (by decide +kernel)
  · exact latF_has' 6 [63, 62, 60, 56, 48, 32] rfl (by decide +kernel) (by decide +kernel)
theorem latF_ev (n : Nat) (hn : n ≤ 6) : ∀ d head, head.length + d = n → Ev (fun k => spec_latticesFrom.f k (n : Int) head) (latF n d head) := by
  intro d
  induction d with
  | zero =>
    intro head hd
    refine Ev.step (fun k => by simp only [spec_latticesFrom.f]; exact rfl) (Ev.pos (by omega) ?_)
    refine Ev.bind (spec_validLattice_ev head (by omega)) ?_
    unfold latF
    refine Ev.ite' (fun e => ?_) (fun e => ?_)
    · rw [if_pos e]
      exact Ev.bindc rfl (Ev.pos (by rw [List.length_nil]; omega) (Ev.some _))
    · rw [if_neg e]
      exact Ev.some _
  | succ d ih =>
    intro head hd
    refine Ev.step (fun k => by simp only [spec_latticesFrom.f]; exact rfl) (Ev.neg (by omega) ?_)
    refine Ev.bind (power_ev head.length (by omega)) ?_
    unfold latF
    have hp : 2 ^ head.length ≤ 2 ^ n := Nat.pow_le_pow_right (by decide) (by omega)
    have h6 : 2 ^ n ≤ 2 ^ 6 := Nat.pow_le_pow_right (by decide) hn
    have hx0 : 0 < 2 ^ head.length := Nat.two_pow_pos _
    have hB0 : 0 ≤ 64 ^ d := Nat.zero_le _
    have hB : 64 ^ d ≤ 64 ^ 5 := Nat.pow_le_pow_right (by decide) (by omega)
    have key : ∀ (c i : Nat) (out : List (List Int)), i + c = 2 ^ n → out.length + c * 64 ^ d ≤ 64 * 64 ^ 5 → Ev (fun k => spec_latticesFrom.l0 k (n : Int) head (head.length : Int) out (i : Int)) (out ++ flatR (fun row => latF n d (head ++ [(row : Int)])) head.length c i) := by
      intro c
      induction c with
      | zero =>
        intro i out hi ho
        refine Ev.step (fun k => by simp only [spec_latticesFrom.l0]; exact rfl) (Ev.bind (power_ev n (by omega)) ?_)
        refine Ev.neg (by omega) ?_
        exact Ev.eq (Ev.some _) (by simp [flatR])
      | succ c ihc =>
        intro i out hi ho
        rw [Nat.succ_mul] at ho
        refine Ev.step (fun k => by simp only [spec_latticesFrom.l0]; exact rfl) (Ev.bind (power_ev n (by omega)) ?_)
        refine Ev.pos (by omega) (Ev.bind (power_ev head.length (by omega)) ?_)
        refine Ev.neg (by omega) ?_
        rw [w64s (n := 2 ^ n) (by omega) (by omega)]
        have skip : okRow head.length i = false → Ev (fun k => spec_latticesFrom.l0 k (n : Int) head (head.length : Int) out ((i + 1 : Nat) : Int)) (out ++ flatR (fun row => latF n d (head ++ [(row : Int)])) head.length (c + 1) i) := by
          intro e
          unfold flatR
          rw [if_neg (by rw [e]; decide), List.nil_append]
          exact ihc (i + 1) out (by omega) (by omega)
        have em : Int.tmod (i : Int) ((2 ^ head.length : Nat) : Int) = ((i % 2 ^ head.length : Nat) : Int) := by rw [Int.tmod_eq_emod_of_nonneg (by omega)]; rfl
        rw [em]
        refine Ev.ite' (fun e => ?_) (fun e => skip (by rw [okRow, decide_eq_false (by omega)]; rfl))
        refine Ev.bind (bit_ev i head.length (by omega) (by omega)) ?_
        cases hb : i.testBit head.length with
        | false =>
          rw [if_neg (by decide)]
          exact Ev.neg (by decide) (skip (by rw [okRow, hb, Bool.and_false]))
        | true =>
          rw [if_pos rfl]
          refine Ev.pos rfl (Ev.bindc rfl (Ev.pos (by rw [List.length_nil]; omega) (Ev.bindc rfl (Ev.pos (by rw [List.nil_append]; omega) ?_))))
          rw [List.nil_append]
          refine Ev.bind (ih (head ++ [(i : Int)]) (by simp; omega)) ?_
          have hlen := latF_len n hn d (head ++ [(i : Int)])
          refine Ev.pos (by omega) ?_
          have := ihc (i + 1) (out ++ latF n d (head ++ [(i : Int)])) (by omega) (by rw [List.length_append]; omega)
          unfold flatR
          rw [if_pos (by rw [okRow, hb, decide_eq_true (by omega)]; rfl), ← List.append_assoc]
          exact this
    have h := key (2 ^ n - 2 ^ head.length) (2 ^ head.length) [] (by omega) (by
      rw [List.length_nil, Nat.zero_add]
      exact Nat.mul_le_mul (by omega) hB)
    rwa [List.nil_append] at h
end Go.Proofs.Ytjijfflifonjoaa.M
