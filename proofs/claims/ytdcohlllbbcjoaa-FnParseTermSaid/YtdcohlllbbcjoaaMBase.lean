/- Plain lemmas on rounds, loops and small numbers. -/
import Derived.Test.YtdcohlllbbcjoaaV0
namespace Go.Proofs.Ytdcohlllbbcjoaa.M
open Go.RowKit Go.Proofs.YtdcohlllbbcjoaaW.PrintWords Go.Proofs.YtdcohlllbbcjoaaW.PrintLast Go.Proofs.YtdcohlllbbcjoaaW.PrintMore

theorem w64 {x : Int} (h1 : -9223372036854775808 ≤ x) (h2 : x ≤ 9223372036854775807) : wrap64 x = x := by
  unfold wrap64; omega
theorem w64s {i n : Nat} (h : i < n) (hn : n ≤ 4611686018427387904) : wrap64 ((i : Int) + 1) = ((i + 1 : Nat) : Int) := by
  rw [w64 (by omega) (by omega)]; omega

/-- A loop that ends early or goes on: 'step i' is what round i answers, if it answers. -/
def runL {α : Type} (step : Nat → Option α) (rest : α) : Nat → Nat → α
  | 0, _ => rest
  | d + 1, i => match step i with
    | some a => a
    | none => runL step rest d (i + 1)
theorem ev_run {α : Type} (F : Nat → Int → Option α) (n : Nat) (step : Nat → Option α) (rest : α)
    (h1 : ∀ i, i < n → (∀ a, step i = some a → Ev (fun k => F k (i : Int)) a) ∧ (step i = none → ∀ r, Ev (fun k => F k ((i + 1 : Nat) : Int)) r → Ev (fun k => F k (i : Int)) r))
    (h2 : Ev (fun k => F k (n : Int)) rest) : ∀ d i, i + d = n → Ev (fun k => F k (i : Int)) (runL step rest d i) := by
  intro d
  induction d with
  | zero =>
    intro i hi
    obtain rfl : i = n := by omega
    exact h2
  | succ d ih =>
    intro i hi
    have h := h1 i (by omega)
    unfold runL
    cases hs : step i with
    | some a => exact h.1 a hs
    | none => exact h.2 hs _ (ih (i + 1) (by omega))
/-- A loop that carries something and never ends early. -/
def foldL {σ : Type} (f : Nat → σ → σ) : Nat → Nat → σ → σ
  | 0, _, s => s
  | d + 1, i, s => foldL f d (i + 1) (f i s)
theorem ev_fold {α σ : Type} (F : Nat → σ → Int → Option α) (n : Nat) (f : Nat → σ → σ) (I : Nat → σ → Prop) (rest : σ → α)
    (h1 : ∀ i, i < n → ∀ s, I i s → I (i + 1) (f i s) ∧ ∀ r, Ev (fun k => F k (f i s) ((i + 1 : Nat) : Int)) r → Ev (fun k => F k s (i : Int)) r)
    (h2 : ∀ s, I n s → Ev (fun k => F k s (n : Int)) (rest s)) : ∀ d i s, i + d = n → I i s → Ev (fun k => F k s (i : Int)) (rest (foldL f d i s)) := by
  intro d
  induction d with
  | zero =>
    intro i s hi hs
    obtain rfl : i = n := by omega
    exact h2 s hs
  | succ d ih =>
    intro i s hi hs
    have h := h1 i (by omega) s hs
    unfold foldL
    exact h.2 _ (ih (i + 1) _ (by omega) h.1)
/-- A loop that carries something, told by what holds of it. -/
theorem ev_inv {α σ : Type} (F : Nat → σ → Int → Option α) (n : Nat) (I : Nat → σ → Prop) (r : α)
    (h1 : ∀ i, i < n → ∀ s, I i s → ∃ s', I (i + 1) s' ∧ (Ev (fun k => F k s' ((i + 1 : Nat) : Int)) r → Ev (fun k => F k s (i : Int)) r))
    (h2 : ∀ s, I n s → Ev (fun k => F k s (n : Int)) r) : ∀ d i s, i + d = n → I i s → Ev (fun k => F k s (i : Int)) r := by
  intro d
  induction d with
  | zero =>
    intro i s hi hs
    obtain rfl : i = n := by omega
    exact h2 s hs
  | succ d ih =>
    intro i s hi hs
    obtain ⟨s', hI, hE⟩ := h1 i (by omega) s hs
    exact hE (ih (i + 1) s' (by omega) hI)
/-- The same, for rounds that are loops themselves. -/
theorem ev_inv2 {α σ : Type} (F : Nat → σ → Int → Option α) (n : Nat) (I : Nat → σ → Prop) (r : α)
    (h1 : ∀ i, i < n → ∀ s, I i s → (∀ s', I (i + 1) s' → Ev (fun k => F k s' ((i + 1 : Nat) : Int)) r) → Ev (fun k => F k s (i : Int)) r)
    (h2 : ∀ s, I n s → Ev (fun k => F k s (n : Int)) r) : ∀ d i s, i + d = n → I i s → Ev (fun k => F k s (i : Int)) r := by
  intro d
  induction d with
  | zero =>
    intro i s hi hs
    obtain rfl : i = n := by omega
    exact h2 s hs
  | succ d ih =>
    intro i s hi hs
    exact h1 i (by omega) s hs (fun s' hs' => ih (i + 1) s' (by omega) hs')
/-- A loop that only says no: no if some round says it. -/
theorem runL_no (p : Nat → Bool) (rest : Bool) : ∀ d i, runL (fun j => if p j then none else some false) rest d i = (((List.range d).all fun j => p (i + j)) && rest) := by
  intro d
  induction d with
  | zero => intro i; simp [runL]
  | succ d ih =>
    intro i
    unfold runL
    by_cases h : p i
    · rw [if_pos h]
      show runL _ rest d (i + 1) = _
      rw [ih, List.range_succ_eq_map, List.all_cons, List.all_map]
      simp [h, Function.comp_def, Nat.add_assoc, Nat.add_comm 1]
    · rw [if_neg h]
      rw [List.range_succ_eq_map, List.all_cons]
      simp [h]
/-- A loop that only says no. -/
theorem ev_no (F : Nat → Int → Option Bool) (n : Nat) (p : Nat → Bool) (r : Bool)
    (h1 : ∀ i, i < n → (p i = true → ∀ r, Ev (fun k => F k ((i + 1 : Nat) : Int)) r → Ev (fun k => F k (i : Int)) r) ∧ (p i = false → Ev (fun k => F k (i : Int)) false))
    (h2 : (List.range n).all p = true → Ev (fun k => F k (n : Int)) r) (h3 : (List.range n).all p = false → r = false) : Ev (fun k => F k 0) r := by
  by_cases ha : (List.range n).all p = true
  · have : ∀ d i, i + d = n → Ev (fun k => F k (i : Int)) r := by
      intro d
      induction d with
      | zero =>
        intro i hi
        obtain rfl : i = n := by omega
        exact h2 ha
      | succ d ih =>
        intro i hi
        exact (h1 i (by omega)).1 ((List.all_eq_true.1 ha) i (by rw [List.mem_range]; omega)) _ (ih (i + 1) (by omega))
    exact this n 0 (by omega)
  · have hf : (List.range n).all p = false := by simpa using ha
    rw [h3 hf]
    have : ∀ d i, i + d = n → (∃ j, i ≤ j ∧ j < n ∧ p j = false) → Ev (fun k => F k (i : Int)) false := by
      intro d
      induction d with
      | zero => rintro i hi ⟨j, h1, h2, _⟩; omega
      | succ d ih =>
        rintro i hi ⟨j, hj1, hj2, hj3⟩
        cases hp : p i with
        | false => exact (h1 i (by omega)).2 hp
        | true =>
          refine (h1 i (by omega)).1 hp _ (ih (i + 1) (by omega) ⟨j, ?_, hj2, hj3⟩)
          by_cases e : i = j
          · subst e; rw [hp] at hj3; cases hj3
          · omega
    refine this n 0 (by omega) ?_
    rw [List.all_eq_false] at hf
    obtain ⟨j, hj, hp⟩ := hf
    exact ⟨j, Nat.zero_le _, List.mem_range.1 hj, by simpa using hp⟩
theorem Ev.some {α : Type} (a : α) : Ev (fun _ => Option.some a) a := ⟨0, fun _ _ => rfl⟩
theorem Ev.const {α : Type} {o : Option α} {a : α} (h : o = Option.some a) : Ev (fun _ => o) a := ⟨0, fun _ _ => h⟩
theorem Ev.eq {α : Type} {g : Nat → Option α} {a b : α} (h : Ev g a) (e : a = b) : Ev g b := e ▸ h
theorem Ev.uniq {α : Type} {g : Nat → Option α} {a b : α} (h : Ev g a) (h' : Ev g b) : a = b := by
  obtain ⟨K, hK⟩ := h
  obtain ⟨K', hK'⟩ := h'
  have e1 := hK (max K K') (Nat.le_max_left _ _)
  have e2 := hK' (max K K') (Nat.le_max_right _ _)
  rw [e1] at e2
  exact Option.some.inj e2
theorem Ev.pos {α : Type} {c : Prop} [Decidable c] {g f : Nat → Option α} {r : α} (h : c) (k : Ev g r) : Ev (fun n => if c then g n else f n) r :=
  Ev.congr (fun _ => if_pos h) k
theorem Ev.neg {α : Type} {c : Prop} [Decidable c] {g f : Nat → Option α} {r : α} (h : ¬ c) (k : Ev f r) : Ev (fun n => if c then g n else f n) r :=
  Ev.congr (fun _ => if_neg h) k
theorem Ev.ite' {α : Type} {c : Prop} [Decidable c] {g f : Nat → Option α} {r : α} (k : c → Ev g r) (k' : ¬ c → Ev f r) : Ev (fun n => if c then g n else f n) r := by
  by_cases h : c
  · exact Ev.pos h (k h)
  · exact Ev.neg h (k' h)
/-- A call that takes no rounds. -/
theorem Ev.bindc {α β : Type} {o : Option α} {f : Nat → α → Option β} {a : α} {r : β} (h : o = Option.some a) (k : Ev (fun n => f n a) r) : Ev (fun n => o.bind (f n)) r :=
  Ev.congr (fun n => by rw [h]; rfl) k

theorem rd_lt {l : List Int} {i : Nat} (h : i < l.length) : rd l (i : Int) = l[i] := by
  simp [rd, h]
theorem rd_mem {l : List Int} {i : Nat} (h : i < l.length) : rd l (i : Int) ∈ l := by
  rw [rd_lt h]; exact List.getElem_mem h
end Go.Proofs.Ytdcohlllbbcjoaa.M
