/- Lists of the numbers below a bound of which something holds, and the loops that make them. -/
import Derived.Test.YtomapoenndlbiaaMA
namespace Go.Proofs.Ytomapoenndlbiaa.M
set_option linter.unusedVariables false
open Go.RowKit Go.Proofs.YtomapoenndlbiaaW.PrintWords Go.Proofs.YtomapoenndlbiaaW.PrintLast Go.Proofs.YtomapoenndlbiaaW.PrintMore

/-- The numbers below n of which p holds, ascending. -/
def listN (p : Nat → Bool) (n : Nat) : List Int := ((List.range n).filter p).map fun (i : Nat) => (i : Int)
theorem listN_succ (p : Nat → Bool) (n : Nat) : listN p (n + 1) = if p n then listN p n ++ [(n : Int)] else listN p n := by
  unfold listN
  rw [List.range_succ, List.filter_append, List.map_append]
  cases h : p n <;> simp [h]
theorem listN_len (p : Nat → Bool) (n : Nat) : (listN p n).length ≤ n := by
  unfold listN
  rw [List.length_map]
  exact Nat.le_trans (List.length_filter_le _ _) (by simp)
/-- A loop that lists numbers. -/
theorem ev_list {α : Type} (F : Nat → List Int → Int → Option α) (n : Nat) (p : Nat → Bool) (r : α)
    (h1 : ∀ i, i < n → ∀ s, s.length ≤ i → ∀ r, (p i = true → Ev (fun k => F k (s ++ [(i : Int)]) ((i + 1 : Nat) : Int)) r) → (p i = false → Ev (fun k => F k s ((i + 1 : Nat) : Int)) r) → Ev (fun k => F k s (i : Int)) r)
    (h2 : Ev (fun k => F k (listN p n) (n : Int)) r) : Ev (fun k => F k [] 0) r := by
  refine ev_inv2 F n (fun i s => s = listN p i) r ?_ (fun s hs => by rw [hs]; exact h2) n 0 [] (by omega) rfl
  intro i hi s hs k
  subst hs
  refine h1 i hi _ (listN_len p i) r (fun hp => k _ ?_) (fun hp => k _ ?_)
  · rw [listN_succ, hp]; rfl
  · rw [listN_succ, hp]; rfl
theorem listN_mem {p : Nat → Bool} {n : Nat} {v : Int} : v ∈ listN p n ↔ ∃ c : Nat, c < n ∧ p c = true ∧ v = (c : Int) := by
  unfold listN
  simp only [List.mem_map, List.mem_filter, List.mem_range]
  constructor
  · rintro ⟨c, ⟨h1, h2⟩, h3⟩
    exact ⟨c, h1, h2, h3.symm⟩
  · rintro ⟨c, h1, h2, h3⟩
    exact ⟨c, ⟨h1, h2⟩, h3.symm⟩
theorem listN_asc (p : Nat → Bool) (n : Nat) : (listN p n).Pairwise (· < ·) := by
  unfold listN
  rw [List.pairwise_map]
  refine List.Pairwise.imp ?_ (List.Pairwise.filter p List.pairwise_lt_range)
  intro a b h
  exact Int.ofNat_lt.mpr h
theorem listN_one {p : Nat → Bool} {n : Nat} (h : ∀ b c, b < n → c < n → p b = true → p c = true → b = c) : (listN p n).length ≤ 1 := by
  induction n with
  | zero => simp [listN]
  | succ n ih =>
    rw [listN_succ]
    by_cases e : p n = true
    · rw [if_pos e]
      have : listN p n = [] := by
        rw [List.eq_nil_iff_forall_not_mem]
        intro v hv
        obtain ⟨c, h1, h2, _⟩ := listN_mem.1 hv
        have := h c n (by omega) (by omega) h2 e
        omega
      rw [this]
      exact Nat.le_refl 1
    · rw [if_neg e]
      exact ih fun b c hb hc => h b c (by omega) (by omega)
end Go.Proofs.Ytomapoenndlbiaa.M
