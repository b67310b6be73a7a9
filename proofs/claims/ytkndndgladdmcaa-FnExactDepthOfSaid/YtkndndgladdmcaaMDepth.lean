/- Powers of an element fall, and stand still behind as many steps as there are elements. -/
import Derived.Test.YtkndndgladdmcaaMAlg
namespace Go.Proofs.Ytkndndgladdmcaa.M
set_option linter.unusedVariables false
open Go.RowKit Go.Proofs.YtkndndgladdmcaaW.PrintWords Go.Proofs.YtkndndgladdmcaaW.PrintLast Go.Proofs.YtkndndgladdmcaaW.PrintMore Go.Proofs.Ytkndndgladdmcaa.P

theorem countP_lt2 {p q : Nat → Bool} {y : Nat} : ∀ {l : List Nat}, (∀ x ∈ l, p x = true → q x = true) → y ∈ l → q y = true → p y = false → l.countP p < l.countP q
  | [], _, h, _, _ => by simp at h
  | a :: l, hs, hm, hq, hp => by
    have hle : l.countP p ≤ l.countP q := List.countP_mono_left (fun x hx => hs x (List.mem_cons_of_mem _ hx))
    rcases List.mem_cons.1 hm with rfl | h
    · rw [List.countP_cons_of_neg (by rw [hp]; decide), List.countP_cons_of_pos hq]
      omega
    · have := countP_lt2 (fun x hx => hs x (List.mem_cons_of_mem _ hx)) h hq hp
      by_cases ha : p a = true
      · rw [List.countP_cons_of_pos ha, List.countP_cons_of_pos (hs a List.mem_cons_self ha)]
        omega
      · rw [List.countP_cons_of_neg ha]
        by_cases hb : q a = true
        · rw [List.countP_cons_of_pos hb]
          omega
        · rw [List.countP_cons_of_neg hb]
          omega
/-- How many elements are at most a. -/
def cntB (up : List Int) (a : Nat) : Nat := (List.range up.length).countP fun w => le up w a
theorem cntB_lt {up : List Int} (L : Lat up) {a b : Nat} (ha : a < up.length) (hb : b < up.length) (h : le up a b = true) (hn : a ≠ b) : cntB up a < cntB up b := by
  unfold cntB
  refine countP_lt2 (y := b) (fun x hx hxa => L.trans x a b (List.mem_range.1 hx) ha hb hxa h) (List.mem_range.2 hb) (L.refl b hb) ?_
  cases hc : le up b a with
  | false => rfl
  | true => exact absurd (L.anti a b ha hb h hc) hn
theorem cntB_pos {up : List Int} (L : Lat up) {a : Nat} (ha : a < up.length) : 0 < cntB up a := by
  unfold cntB
  rw [List.countP_pos_iff]
  exact ⟨a, List.mem_range.2 ha, L.refl a ha⟩
theorem pow_fall {up : List Int} {T : List (List Int)} (A : Alg up T) {x : Nat} (hx : x < up.length) : ∀ m, (∀ j, j < m → powN up T x (j + 1) ≠ powN up T x j) → cntB up (powN up T x m) + m ≤ up.length := by
  intro m
  induction m with
  | zero =>
    intro _
    unfold cntB
    have := List.countP_le_length (p := fun w => le up w (powN up T x 0)) (l := List.range up.length)
    rw [List.length_range] at this
    omega
  | succ m ih =>
    intro h
    have h1 := ih (fun j hj => h j (by omega))
    have h2 := cntB_lt A.L (pow_lt A hx (m + 1)) (pow_lt A hx m) (A.below (pow_lt A hx m) hx) (h m (by omega))
    omega
theorem pow_stable {up : List Int} {T : List (List Int)} (A : Alg up T) {x : Nat} (hx : x < up.length) (k : Nat) (hk : up.length ≤ k) : powN up T x k = powN up T x up.length := by
  obtain ⟨j, hj, he⟩ : ∃ j, j < up.length ∧ powN up T x (j + 1) = powN up T x j := by
    refine Classical.byContradiction fun hc => ?_
    have h1 := pow_fall A hx up.length (fun j hj e => hc ⟨j, hj, e⟩)
    have h2 := cntB_pos A.L (pow_lt A hx up.length)
    omega
  have st : ∀ d, powN up T x (j + d) = powN up T x j := by
    intro d
    induction d with
    | zero => rfl
    | succ d ih =>
      show tN T (powN up T x (j + d)) x = _
      rw [ih]
      exact he
  have e1 := st (k - j)
  have e2 := st (up.length - j)
  rw [show j + (k - j) = k by omega] at e1
  rw [show j + (up.length - j) = up.length by omega] at e2
  rw [e1, e2]
/-- The least power that is the least element, among so many. -/
def depthN (up : List Int) (T : List (List Int)) (x N : Nat) : Int := firstN (N + 1) fun k => decide (powN up T x k = 0)
theorem depth_same {up : List Int} {T : List (List Int)} (A : Alg up T) {x : Nat} (hx : x < up.length) : depthN up T x 20 = depthN up T x up.length := by
  have h6 := A.ok.1
  unfold depthN
  rcases firstN_spec (20 + 1) (fun k => decide (powN up T x k = 0)) with ⟨z, hz, hp, e, hl⟩ | ⟨e, hl⟩
  · rcases firstN_spec (up.length + 1) (fun k => decide (powN up T x k = 0)) with ⟨z', hz', hp', e', hl'⟩ | ⟨e', hl'⟩
    · rw [e, e']
      have : z = z' := by
        refine Classical.byContradiction fun hn => ?_
        by_cases c : z < z'
        · have := (hl' z c).symm.trans hp
          cases this
        · have := (hl z' (by omega)).symm.trans hp'
          cases this
      rw [this]
    · exfalso
      have h2 := hl' up.length (by omega)
      simp only [decide_eq_true_eq, decide_eq_false_iff_not] at h2 hp
      by_cases c : z ≤ up.length
      · have h3 := hl' z (by omega)
        simp only [decide_eq_false_iff_not] at h3
        exact h3 hp
      · rw [pow_stable A hx z (by omega)] at hp
        exact h2 hp
  · rcases firstN_spec (up.length + 1) (fun k => decide (powN up T x k = 0)) with ⟨z', hz', hp', e', hl'⟩ | ⟨e', hl'⟩
    · exfalso
      have := (hl z' (by omega)).symm.trans hp'
      cases this
    · rw [e, e']
def depthM (up : List Int) (T : List (List Int)) (x : Nat) : Int × Bool := if depthN up T x up.length < 0 then (0, false) else (depthN up T x up.length, true)
end Go.Proofs.Ytkndndgladdmcaa.M
