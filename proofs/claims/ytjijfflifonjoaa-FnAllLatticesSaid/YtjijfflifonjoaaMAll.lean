/- All lattices: the program lists what the reference lists; how many they are at most; each differs from the one ahead of it. -/
import Derived.Test.YtjijfflifonjoaaP13
import Derived.Test.YtjijfflifonjoaaP7
import Derived.Test.YtjijfflifonjoaaP8
import Derived.Test.YtjijfflifonjoaaP12
import Derived.Test.YtjijfflifonjoaaMLatF
namespace Go.Proofs.Ytjijfflifonjoaa.M
set_option linter.unusedVariables false
open Go.RowKit Go.Proofs.YtjijfflifonjoaaW.PrintWords Go.Proofs.YtjijfflifonjoaaW.PrintLast Go.Proofs.YtjijfflifonjoaaW.PrintMore Go.Proofs.Ytjijfflifonjoaa.P

theorem flatR_count (g : Nat → List (List Int)) (x B : Nat) (h : ∀ i, okRow x i = true → (g i).length ≤ B) : ∀ c i, (flatR g x c i).length ≤ ((List.range' i c).countP (okRow x)) * B := by
  intro c
  induction c with
  | zero => intro i; simp [flatR]
  | succ c ih =>
    intro i
    have h1 := ih (i + 1)
    unfold flatR
    rw [List.length_append, List.range'_succ, List.countP_cons, Nat.add_mul]
    by_cases e : okRow x i = true
    · have h2 := h i e
      rw [if_pos e, if_pos e, Nat.one_mul]
      omega
    · rw [if_neg e, if_neg e, List.length_nil, Nat.zero_mul]
      omega
theorem rows16 (n x : Nat) (hn : n ≤ 5) (hx : x < n) : (List.range' (2 ^ x) (2 ^ n - 2 ^ x)).countP (okRow x) ≤ 16 := by
  have h : ∀ n, n ≤ 5 → ∀ x, x < n → (List.range' (2 ^ x) (2 ^ n - 2 ^ x)).countP (okRow x) ≤ 16 := by decide
  exact h n hn x hx
theorem latF_len16 (n : Nat) (hn : n ≤ 5) : ∀ d head, head.length + d = n → (latF n d head).length ≤ 16 ^ d := by
  intro d
  induction d with
  | zero =>
    intro head _
    unfold latF
    split <;> simp
  | succ d ih =>
    intro head hd
    unfold latF
    refine Nat.le_trans (flatR_count _ _ (16 ^ d) (fun i _ => ih _ (by rw [List.length_append, List.length_singleton]; omega)) _ _) ?_
    rw [Nat.pow_succ, Nat.mul_comm (16 ^ d)]
    exact Nat.mul_le_mul_right _ (rows16 n head.length hn (by omega))
/-- Rows that are none are passed over. -/
theorem flatR_skip (g : Nat → List (List Int)) (x : Nat) : ∀ a c i, (∀ j, i ≤ j → j < i + a → okRow x j = false) → flatR g x (a + c) i = flatR g x c (i + a) := by
  intro a
  induction a with
  | zero => intro c i _; rw [Nat.zero_add]; rfl
  | succ a ih =>
    intro c i h
    rw [show a + 1 + c = (a + c) + 1 by omega]
    show (if okRow x i then g i else []) ++ flatR g x (a + c) (i + 1) = _
    rw [if_neg (by rw [h i (Nat.le_refl _) (by omega)]; decide), List.nil_append, ih c (i + 1) (fun j h1 h2 => h j (by omega) (by omega)), show i + 1 + a = i + (a + 1) by omega]
theorem okRow_mul (x q : Nat) : okRow x (q * 2 ^ x) = decide (q % 2 = 1) := by
  unfold okRow
  rw [Nat.mul_mod_left, decide_eq_true rfl, Bool.true_and, Nat.testBit_eq_decide_div_mod_eq, Nat.mul_div_cancel _ (Nat.two_pow_pos x)]
theorem okRow_between (x q j : Nat) (h1 : q * 2 ^ x < j) (h2 : j < (q + 1) * 2 ^ x) : okRow x j = false := by
  unfold okRow
  rw [decide_eq_false, Bool.false_and]
  intro h
  obtain ⟨m, rfl⟩ := Nat.dvd_of_mod_eq_zero h
  rw [Nat.mul_comm (2 ^ x) m] at h1 h2
  have a1 := Nat.lt_of_mul_lt_mul_right h1
  have a2 := Nat.lt_of_mul_lt_mul_right h2
  omega
/-- One step of the loop over the rows' multiples. -/
theorem flatR_step (g : Nat → List (List Int)) (x c q : Nat) : flatR g x ((c + 1) * 2 ^ x) (q * 2 ^ x) = (if q % 2 = 1 then g (q * 2 ^ x) else []) ++ flatR g x (c * 2 ^ x) ((q + 1) * 2 ^ x) := by
  have hp := Nat.two_pow_pos x
  obtain ⟨a, ha⟩ : ∃ a, 2 ^ x = a + 1 := ⟨2 ^ x - 1, by omega⟩
  have e1 : (c + 1) * 2 ^ x = (a + c * 2 ^ x) + 1 := by rw [Nat.add_mul, Nat.one_mul]; omega
  have e2 : (q + 1) * 2 ^ x = q * 2 ^ x + 1 + a := by rw [Nat.add_mul, Nat.one_mul]; omega
  rw [e1]
  rw [show flatR g x (a + c * 2 ^ x + 1) (q * 2 ^ x) = (if okRow x (q * 2 ^ x) then g (q * 2 ^ x) else []) ++ flatR g x (a + c * 2 ^ x) (q * 2 ^ x + 1) from rfl]
  rw [flatR_skip g x a (c * 2 ^ x) (q * 2 ^ x + 1) (fun j h1 h2 => okRow_between x q j (by omega) (by omega)), okRow_mul, e2]
  by_cases h : q % 2 = 1
  · rw [decide_eq_true h, if_pos rfl, if_pos h]
  · rw [decide_eq_false h, if_neg (by decide), if_neg h]
theorem clone_eq (l : List Int) (hl : l.length < 17592186044416) : slices_Clone_int_int.f l = some l := by
  unfold slices_Clone_int_int.f
  show (if ([] : List Int).length + l.length < 17592186044416 then some ([] ++ l) else none) = some l
  rw [if_pos (by rw [List.length_nil]; omega)]
  rfl
theorem impl_all_ev (n : Nat) (hn : n ≤ 5) : ∀ d up, up.length + d = n → ∀ out : List (List Int), out.length + 64 ^ d ≤ 64 ^ 5 → Ev (fun k => impl_AllLattices.g k (n : Int) up out) (out ++ latF n d up) := by
  have e64 : 64 ^ 5 = 1073741824 := by decide
  intro d
  induction d with
  | zero =>
    intro up hd out ho
    refine Ev.step (fun k => by simp only [impl_AllLattices.g]; exact rfl) (Ev.pos (by omega) (Ev.pos (by omega) (Ev.pos (by omega) (Ev.bind (impl_ValidLattice_ev up (by omega)) ?_))))
    unfold latF
    refine Ev.ite' (fun e => ?_) (fun e => ?_)
    · rw [if_pos e]
      exact Ev.bindc (clone_eq up (by omega)) (Ev.pos (by omega) (Ev.some _))
    · rw [if_neg e, List.append_nil]
      exact Ev.some _
  | succ d ih =>
    intro up hd out ho
    refine Ev.step (fun k => by simp only [impl_AllLattices.g]; exact rfl) (Ev.pos (by omega) (Ev.pos (by omega) (Ev.neg (by omega) (Ev.pos (by omega) ?_))))
    have hp := Nat.two_pow_pos up.length
    have hle : 2 ^ n ≤ 2 ^ 5 := Nat.pow_le_pow_right (by decide) hn
    have e32 : 2 ^ 5 = 32 := by decide
    have hs : 64 ^ (d + 1) = 64 * 64 ^ d := by rw [Nat.pow_succ, Nat.mul_comm]
    have h1d : 1 ≤ 64 ^ d := Nat.one_le_pow _ _ (by decide)
    obtain ⟨m, hm⟩ : ∃ m, n = up.length + m := ⟨n - up.length, by omega⟩
    have hpn : 2 ^ n = 2 ^ m * 2 ^ up.length := by rw [hm, Nat.pow_add, Nat.mul_comm]
    have hm1 : 1 ≤ 2 ^ m := Nat.one_le_pow _ _ (by decide)
    have key : ∀ (c q : Nat) (out : List (List Int)), q + c = 2 ^ m → out.length + (c * 2 ^ up.length + 1) * 64 ^ d ≤ 64 ^ 5 → Ev (fun k => impl_AllLattices.l k (n : Int) up out ((q * 2 ^ up.length : Nat) : Int)) (out ++ flatR (fun row => latF n d (up ++ [(row : Int)])) up.length (c * 2 ^ up.length) (q * 2 ^ up.length)) := by
      intro c
      induction c with
      | zero =>
        intro q out hq ho
        refine Ev.step (fun k => by simp only [impl_AllLattices.l]; exact rfl) (Ev.neg ?_ (Ev.eq (Ev.some _) ?_))
        · rw [Int.toNat_natCast, show q = 2 ^ m by omega, ← hpn]
          have : ((2 ^ n : Nat) : Int) = 2 ^ n := by simp
          omega
        · rw [Nat.zero_mul]
          simp [flatR]
      | succ c ihc =>
        intro q out hq ho
        rw [flatR_step]
        have hlt : q * 2 ^ up.length < 2 ^ n := by
          rw [hpn]
          exact Nat.mul_lt_mul_of_pos_right (by omega) hp
        have hlt' : ((q * 2 ^ up.length : Nat) : Int) < 2 ^ ((n : Int)).toNat := by
          rw [Int.toNat_natCast]
          have : ((2 ^ n : Nat) : Int) = 2 ^ n := by simp
          omega
        have hdiv : Int.tmod (((q * 2 ^ up.length : Nat) : Int) / 2 ^ up.length) 2 = ((q % 2 : Nat) : Int) := by
          have e1 : ((2 ^ up.length : Nat) : Int) = 2 ^ up.length := by simp
          rw [← e1, ← Int.natCast_ediv, Nat.mul_div_cancel _ hp]
          rfl
        have hnext : ((q * 2 ^ up.length : Nat) : Int) + 2 ^ up.length = (((q + 1) * 2 ^ up.length : Nat) : Int) := by
          have e1 : ((2 ^ up.length : Nat) : Int) = 2 ^ up.length := by simp
          rw [← e1, Nat.add_mul, Nat.one_mul]
          omega
        have hexp : ((c + 1) * 2 ^ up.length + 1) * 64 ^ d = (c * 2 ^ up.length + 1) * 64 ^ d + 2 ^ up.length * 64 ^ d := by
          rw [Nat.add_mul c 1, Nat.one_mul, show c * 2 ^ up.length + 2 ^ up.length + 1 = (c * 2 ^ up.length + 1) + 2 ^ up.length by omega, Nat.add_mul]
        rw [hexp] at ho
        have hge : 1 * 64 ^ d ≤ 2 ^ up.length * 64 ^ d := Nat.mul_le_mul_right _ hp
        have hge2 : 1 * 64 ^ d ≤ (c * 2 ^ up.length + 1) * 64 ^ d := Nat.mul_le_mul_right _ (by omega)
        rw [Nat.one_mul] at hge hge2
        refine Ev.step (fun k => by simp only [impl_AllLattices.l]; exact rfl) (Ev.pos hlt' (Ev.pos (by omega) ?_))
        rw [hdiv, hnext]
        by_cases hq2 : q % 2 = 1
        · rw [if_pos hq2]
          have hg := ih (up ++ [((q * 2 ^ up.length : Nat) : Int)]) (by rw [List.length_append, List.length_singleton]; omega) out (by omega)
          refine Ev.pos (by omega) (Ev.bind hg ?_)
          have hlen := latF_len n (by omega) d (up ++ [((q * 2 ^ up.length : Nat) : Int)])
          have h := ihc (q + 1) (out ++ latF n d (up ++ [((q * 2 ^ up.length : Nat) : Int)])) (by omega) (by rw [List.length_append]; omega)
          rw [List.append_assoc] at h
          exact h
        · rw [if_neg hq2, List.nil_append]
          exact Ev.neg (by omega) (ihc (q + 1) out (by omega) (by omega))
    have e1 : (2 : Int) ^ up.length = ((1 * 2 ^ up.length : Nat) : Int) := by
      rw [Nat.one_mul]
      simp
    unfold latF
    rw [e1, show 2 ^ n - 2 ^ up.length = (2 ^ m - 1) * 2 ^ up.length by rw [hpn, Nat.sub_mul, Nat.one_mul]]
    have hb : ((2 ^ m - 1) * 2 ^ up.length + 1) * 64 ^ d ≤ 64 * 64 ^ d := by
      refine Nat.mul_le_mul_right _ ?_
      have : (2 ^ m - 1) * 2 ^ up.length ≤ 2 ^ n := by
        rw [hpn]
        exact Nat.mul_le_mul_right _ (Nat.sub_le _ _)
      omega
    have h := key (2 ^ m - 1) 1 out (by omega) (by omega)
    rw [Nat.one_mul] at h ⊢
    exact h
/-- What both list. -/
def allF (a0 : Int) : List (List Int) := if 1 ≤ a0 ∧ a0 ≤ 5 then latF a0.toNat a0.toNat [] else []
theorem withinA_eq (a b c : Int) : impl_within.f a b c = some (decide (b ≤ a ∧ a ≤ c)) := by
  unfold impl_within.f
  by_cases h : b ≤ a
  · rw [if_pos h]
    congr 1
    rw [decide_eq_decide]
    exact ⟨fun x => ⟨h, x⟩, fun x => x.2⟩
  · rw [if_neg h, decide_eq_false (fun x => h x.1)]
theorem rangeA_eq (a b c : Int) : spec_inRange.f a b c = some (decide (b ≤ a ∧ a ≤ c)) := by
  unfold spec_inRange.f
  by_cases h : b ≤ a
  · rw [if_pos h]
    congr 1
    rw [decide_eq_decide]
    exact ⟨fun x => ⟨h, x⟩, fun x => x.2⟩
  · rw [if_neg h, decide_eq_false (fun x => h x.1)]
theorem impl_AllLattices_ev (a0 : Int) : Ev (fun k => impl_AllLattices.f k a0) (allF a0) := by
  unfold impl_AllLattices.f allF
  refine Ev.bindc (withinA_eq a0 1 5) ?_
  by_cases h : 1 ≤ a0 ∧ a0 ≤ 5
  · rw [decide_eq_true h, if_pos h]
    obtain ⟨n, rfl⟩ : ∃ n : Nat, a0 = (n : Int) := ⟨a0.toNat, by omega⟩
    rw [Int.toNat_natCast]
    have hp : 64 ^ n ≤ 64 ^ 5 := Nat.pow_le_pow_right (by decide) (by omega)
    exact Ev.pos rfl (impl_all_ev n (by omega) n [] (by simp) [] (by rw [List.length_nil]; omega))
  · rw [decide_eq_false h, if_neg h]
    exact Ev.neg (by decide) (Ev.some _)
theorem spec_AllLattices_ev (a0 : Int) : Ev (fun k => spec_AllLattices.f k a0) (allF a0) := by
  unfold spec_AllLattices.f allF
  refine Ev.bindc (rangeA_eq a0 1 5) ?_
  by_cases h : 1 ≤ a0 ∧ a0 ≤ 5
  · rw [decide_eq_true h, if_pos h]
    obtain ⟨n, rfl⟩ : ∃ n : Nat, a0 = (n : Int) := ⟨a0.toNat, by omega⟩
    rw [Int.toNat_natCast]
    exact Ev.pos rfl (Ev.bind (latF_ev n (by omega) n [] (by simp)) (Ev.some _))
  · rw [decide_eq_false h, if_neg h]
    exact Ev.neg (by decide) (Ev.some _)
theorem allF_len (a0 : Int) : (allF a0).length ≤ 1048576 := by
  unfold allF
  by_cases h : 1 ≤ a0 ∧ a0 ≤ 5
  · rw [if_pos h]
    have h5 : a0.toNat ≤ 5 := by omega
    refine Nat.le_trans (latF_len16 a0.toNat h5 a0.toNat [] (by simp)) ?_
    exact Nat.le_trans (Nat.pow_le_pow_right (by decide) h5) (by decide)
  · rw [if_neg h]
    exact Nat.zero_le _
theorem allF_rows (a0 : Int) : ∀ l ∈ allF a0, latB l = true ∧ (l.length : Int) = a0 ∧ l.length ≤ 5 := by
  intro l hl
  unfold allF at hl
  by_cases h : 1 ≤ a0 ∧ a0 ≤ 5
  · rw [if_pos h] at hl
    obtain ⟨h1, h2⟩ := latF_mem _ _ _ _ hl
    rw [List.length_nil, Nat.zero_add] at h2
    exact ⟨h1, by omega, by omega⟩
  · rw [if_neg h] at hl
    cases hl
end Go.Proofs.Ytjijfflifonjoaa.M
