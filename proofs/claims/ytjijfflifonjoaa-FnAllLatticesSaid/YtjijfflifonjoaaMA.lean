/- Plain lemmas on rounds, loops and small numbers. -/
import Derived.Test.YtjijfflifonjoaaV0
import Derived.Test.YtjijfflifonjoaaP1
import Derived.Test.YtjijfflifonjoaaP8
import Derived.Test.YtjijfflifonjoaaP3
import Derived.Test.YtjijfflifonjoaaP9
import Derived.Test.YtjijfflifonjoaaP4
import Derived.Test.YtjijfflifonjoaaP10
import Derived.Test.YtjijfflifonjoaaP2
import Derived.Test.YtjijfflifonjoaaP5
import Derived.Test.YtjijfflifonjoaaP11
namespace Go.Proofs.Ytjijfflifonjoaa.M
open Go.RowKit Go.Proofs.YtjijfflifonjoaaW.PrintWords Go.Proofs.YtjijfflifonjoaaW.PrintLast Go.Proofs.YtjijfflifonjoaaW.PrintMore

theorem w64 {x : Int} (h1 : -9223372036854775808 ≤ x) (h2 : x ≤ 9223372036854775807) : wrap64 x = x := by
  unfold wrap64; omega
theorem w64s {i n : Nat} (h : i < n) (hn : n ≤ 4611686018427387904) : wrap64 ((i : Int) + 1) = ((i + 1 : Nat) : Int) := by
  rw [w64 (by omega) (by omega)]; omega

/-- A loop that ends early or goes on: 'step i' is what round i answers, if it answers. -/
def runL {α : Type} (step : Nat → Option α) (rest : α) : Nat → Nat → α
  | 0, _ => rest
  | d + 1, i => match step i with
    | some a => a
    | none => runL step rest d (i + 1)
theorem ev_run {α : Type} (F : Nat → Int → Option α) (n : Nat) (step : Nat → Option α) (rest : α)
    (h1 : ∀ i, i < n → (∀ a, step i = some a → Ev (fun k => F k (i : Int)) a) ∧ (step i = none → ∀ r, Ev (fun k => F k ((i + 1 : Nat) : Int)) r → Ev (fun k => F k (i : Int)) r))
    (h2 : Ev (fun k => F k (n : Int)) rest) : ∀ d i, i + d = n → Ev (fun k => F k (i : Int)) (runL step rest d i) := by
  intro d
  induction d with
  | zero =>
    intro i hi
    obtain rfl : i = n := by omega
    exact h2
  | succ d ih =>
    intro i hi
    have h := h1 i (by omega)
    unfold runL
    cases hs : step i with
    | some a => exact h.1 a hs
    | none => exact h.2 hs _ (ih (i + 1) (by omega))
/-- A loop that carries something and never ends early. -/
def foldL {σ : Type} (f : Nat → σ → σ) : Nat → Nat → σ → σ
  | 0, _, s => s
  | d + 1, i, s => foldL f d (i + 1) (f i s)
theorem ev_fold {α σ : Type} (F : Nat → σ → Int → Option α) (n : Nat) (f : Nat → σ → σ) (I : Nat → σ → Prop) (rest : σ → α)
    (h1 : ∀ i, i < n → ∀ s, I i s → I (i + 1) (f i s) ∧ ∀ r, Ev (fun k => F k (f i s) ((i + 1 : Nat) : Int)) r → Ev (fun k => F k s (i : Int)) r)
    (h2 : ∀ s, I n s → Ev (fun k => F k s (n : Int)) (rest s)) : ∀ d i s, i + d = n → I i s → Ev (fun k => F k s (i : Int)) (rest (foldL f d i s)) := by
  intro d
  induction d with
  | zero =>
    intro i s hi hs
    obtain rfl : i = n := by omega
    exact h2 s hs
  | succ d ih =>
    intro i s hi hs
    have h := h1 i (by omega) s hs
    unfold foldL
    exact h.2 _ (ih (i + 1) _ (by omega) h.1)
/-- A loop that carries something, told by what holds of it. -/
theorem ev_inv {α σ : Type} (F : Nat → σ → Int → Option α) (n : Nat) (I : Nat → σ → Prop) (r : α)
    (h1 : ∀ i, i < n → ∀ s, I i s → ∃ s', I (i + 1) s' ∧ (Ev (fun k => F k s' ((i + 1 : Nat) : Int)) r → Ev (fun k => F k s (i : Int)) r))
    (h2 : ∀ s, I n s → Ev (fun k => F k s (n : Int)) r) : ∀ d i s, i + d = n → I i s → Ev (fun k => F k s (i : Int)) r := by
  intro d
  induction d with
  | zero =>
    intro i s hi hs
    obtain rfl : i = n := by omega
    exact h2 s hs
  | succ d ih =>
    intro i s hi hs
    obtain ⟨s', hI, hE⟩ := h1 i (by omega) s hs
    exact hE (ih (i + 1) s' (by omega) hI)
/-- The same, for rounds that are loops themselves. -/
theorem ev_inv2 {α σ : Type} (F : Nat → σ → Int → Option α) (n : Nat) (I : Nat → σ → Prop) (r : α)
    (h1 : ∀ i, i < n → ∀ s, I i s → (∀ s', I (i + 1) s' → Ev (fun k => F k s' ((i + 1 : Nat) : Int)) r) → Ev (fun k => F k s (i : Int)) r)
    (h2 : ∀ s, I n s → Ev (fun k => F k s (n : Int)) r) : ∀ d i s, i + d = n → I i s → Ev (fun k => F k s (i : Int)) r := by
  intro d
  induction d with
  | zero =>
    intro i s hi hs
    obtain rfl : i = n := by omega
    exact h2 s hs
  | succ d ih =>
    intro i s hi hs
    exact h1 i (by omega) s hs (fun s' hs' => ih (i + 1) s' (by omega) hs')
/-- A loop that only says no: no if some round says it. -/
theorem runL_no (p : Nat → Bool) (rest : Bool) : ∀ d i, runL (fun j => if p j then none else some false) rest d i = (((List.range d).all fun j => p (i + j)) && rest) := by
  intro d
  induction d with
  | zero => intro i; simp [runL]
  | succ d ih =>
    intro i
    unfold runL
    by_cases h : p i
    · rw [if_pos h]
      show runL _ rest d (i + 1) = _
      rw [ih, List.range_succ_eq_map, List.all_cons, List.all_map]
      simp [h, Function.comp_def, Nat.add_assoc, Nat.add_comm 1]
    · rw [if_neg h]
      rw [List.range_succ_eq_map, List.all_cons]
      simp [h]
/-- A loop that only says no. -/
theorem ev_no (F : Nat → Int → Option Bool) (n : Nat) (p : Nat → Bool) (r : Bool)
    (h1 : ∀ i, i < n → (p i = true → ∀ r, Ev (fun k => F k ((i + 1 : Nat) : Int)) r → Ev (fun k => F k (i : Int)) r) ∧ (p i = false → Ev (fun k => F k (i : Int)) false))
    (h2 : (List.range n).all p = true → Ev (fun k => F k (n : Int)) r) (h3 : (List.range n).all p = false → r = false) : Ev (fun k => F k 0) r := by
  by_cases ha : (List.range n).all p = true
  · have : ∀ d i, i + d = n → Ev (fun k => F k (i : Int)) r := by
      intro d
      induction d with
      | zero =>
        intro i hi
        obtain rfl : i = n := by omega
        exact h2 ha
      | succ d ih =>
        intro i hi
        exact (h1 i (by omega)).1 ((List.all_eq_true.1 ha) i (by rw [List.mem_range]; omega)) _ (ih (i + 1) (by omega))
    exact this n 0 (by omega)
  · have hf : (List.range n).all p = false := by simpa using ha
    rw [h3 hf]
    have : ∀ d i, i + d = n → (∃ j, i ≤ j ∧ j < n ∧ p j = false) → Ev (fun k => F k (i : Int)) false := by
      intro d
      induction d with
      | zero => rintro i hi ⟨j, h1, h2, _⟩; omega
      | succ d ih =>
        rintro i hi ⟨j, hj1, hj2, hj3⟩
        cases hp : p i with
        | false => exact (h1 i (by omega)).2 hp
        | true =>
          refine (h1 i (by omega)).1 hp _ (ih (i + 1) (by omega) ⟨j, ?_, hj2, hj3⟩)
          by_cases e : i = j
          · subst e; rw [hp] at hj3; cases hj3
          · omega
    refine this n 0 (by omega) ?_
    rw [List.all_eq_false] at hf
    obtain ⟨j, hj, hp⟩ := hf
    exact ⟨j, Nat.zero_le _, List.mem_range.1 hj, by simpa using hp⟩
theorem Ev.some {α : Type} (a : α) : Ev (fun _ => Option.some a) a := ⟨0, fun _ _ => rfl⟩
theorem Ev.const {α : Type} {o : Option α} {a : α} (h : o = Option.some a) : Ev (fun _ => o) a := ⟨0, fun _ _ => h⟩
theorem Ev.eq {α : Type} {g : Nat → Option α} {a b : α} (h : Ev g a) (e : a = b) : Ev g b := e ▸ h
theorem Ev.uniq {α : Type} {g : Nat → Option α} {a b : α} (h : Ev g a) (h' : Ev g b) : a = b := by
  obtain ⟨K, hK⟩ := h
  obtain ⟨K', hK'⟩ := h'
  have e1 := hK (max K K') (Nat.le_max_left _ _)
  have e2 := hK' (max K K') (Nat.le_max_right _ _)
  rw [e1] at e2
  exact Option.some.inj e2
theorem Ev.pos {α : Type} {c : Prop} [Decidable c] {g f : Nat → Option α} {r : α} (h : c) (k : Ev g r) : Ev (fun n => if c then g n else f n) r :=
  Ev.congr (fun _ => if_pos h) k
theorem Ev.neg {α : Type} {c : Prop} [Decidable c] {g f : Nat → Option α} {r : α} (h : ¬ c) (k : Ev f r) : Ev (fun n => if c then g n else f n) r :=
  Ev.congr (fun _ => if_neg h) k
theorem Ev.ite' {α : Type} {c : Prop} [Decidable c] {g f : Nat → Option α} {r : α} (k : c → Ev g r) (k' : ¬ c → Ev f r) : Ev (fun n => if c then g n else f n) r := by
  by_cases h : c
  · exact Ev.pos h (k h)
  · exact Ev.neg h (k' h)
/-- A call that takes no rounds. -/
theorem Ev.bindc {α β : Type} {o : Option α} {f : Nat → α → Option β} {a : α} {r : β} (h : o = Option.some a) (k : Ev (fun n => f n a) r) : Ev (fun n => o.bind (f n)) r :=
  Ev.congr (fun n => by rw [h]; rfl) k

theorem rd_lt {l : List Int} {i : Nat} (h : i < l.length) : rd l (i : Int) = l[i] := by
  simp [rd, h]
theorem rd_mem {l : List Int} {i : Nat} (h : i < l.length) : rd l (i : Int) ∈ l := by
  rw [rd_lt h]; exact List.getElem_mem h
end Go.Proofs.Ytjijfflifonjoaa.M

/- Loops over 0..n-1 that end early with a no: in one piece. -/
namespace Go.Proofs.Ytjijfflifonjoaa.M
open Go.RowKit Go.Proofs.YtjijfflifonjoaaW.PrintWords Go.Proofs.YtjijfflifonjoaaW.PrintLast Go.Proofs.YtjijfflifonjoaaW.PrintMore
/-- A loop that only says no: each round is told once, for both answers. -/
theorem ev_all (F : Nat → Int → Option Bool) (n : Nat) (p : Nat → Bool) (r : Bool)
    (h1 : ∀ i, i < n → ∀ r, (p i = true → Ev (fun k => F k ((i + 1 : Nat) : Int)) r) → (p i = false → r = false) → Ev (fun k => F k (i : Int)) r)
    (h2 : (List.range n).all p = true → Ev (fun k => F k (n : Int)) r) (h3 : (List.range n).all p = false → r = false) : Ev (fun k => F k 0) r :=
  ev_no F n p r (fun i hi => ⟨fun hp r hr => h1 i hi r (fun _ => hr) (fun e => by rw [hp] at e; cases e), fun hp => h1 i hi false (fun e => by rw [hp] at e; cases e) (fun _ => rfl)⟩) h2 h3
end Go.Proofs.Ytjijfflifonjoaa.M

/- Bits of small numbers, as the program and the reference ask for them. -/
namespace Go.Proofs.Ytjijfflifonjoaa.M
set_option linter.unusedVariables false
open Go.RowKit Go.Proofs.YtjijfflifonjoaaW.PrintWords Go.Proofs.YtjijfflifonjoaaW.PrintLast Go.Proofs.YtjijfflifonjoaaW.PrintMore

theorem wraps62 (n : Int) (h0 : 0 ≤ n) (h1 : n < 2 ^ 62) : IntKind.i64.wrap n = n := by rw [IntKind.wrap_i64]; omega
theorem bitsAnd (a b : Nat) (ha : a < 2 ^ 62) (hb : b < 2 ^ 62) : bits .and .i64 (a : Int) (b : Int) = ((a &&& b : Nat) : Int) :=
  (bits_nat .i64 62 (by decide) wraps62 a b ha hb).1
theorem bitsOr (a b : Nat) (ha : a < 2 ^ 62) (hb : b < 2 ^ 62) : bits .or .i64 (a : Int) (b : Int) = ((a ||| b : Nat) : Int) :=
  (bits_nat .i64 62 (by decide) wraps62 a b ha hb).2
theorem bitsAndNot (a b : Nat) (ha : a < 2 ^ 62) (hb : b < 2 ^ 62) : ∃ c : Nat, bits .andNot .i64 (a : Int) (b : Int) = (c : Int) ∧ ∀ z, c.testBit z = (a.testBit z && !b.testBit z) := by
  refine ⟨(BitVec.ofNat 64 a &&& ~~~(BitVec.ofNat 64 b)).toNat, ?_, ?_⟩
  · have hlt : (BitVec.ofNat 64 a &&& ~~~(BitVec.ofNat 64 b)).toNat < 2 ^ 62 := by
      rw [BitVec.toNat_and]
      refine Nat.lt_of_le_of_lt Nat.and_le_left ?_
      rw [BitVec.toNat_ofNat, Nat.mod_eq_of_lt (by omega)]
      exact ha
    have e : bits .andNot .i64 (a : Int) (b : Int) = IntKind.i64.wrap ((BitVec.ofNat 64 a &&& ~~~(BitVec.ofNat 64 b)).toNat : Int) := by
      show IntKind.i64.wrap _ = _
      rw [BitVec.ofInt_natCast, BitVec.ofInt_natCast]
      rfl
    rw [e]
    exact wraps62 _ (Int.natCast_nonneg _) (Int.ofNat_lt.mpr hlt)
  · intro z
    rw [BitVec.testBit_toNat, BitVec.getLsbD_and, BitVec.getLsbD_not, BitVec.getLsbD_ofNat, BitVec.getLsbD_ofNat]
    by_cases hz : z < 64
    · simp [hz]
    · have h1 : a.testBit z = false := Nat.testBit_lt_two_pow (Nat.lt_of_lt_of_le ha (Nat.pow_le_pow_right (by decide) (by omega)))
      simp [h1]
theorem eq0_of_bits (c : Nat) : c = 0 ↔ ∀ z, c.testBit z = false := by
  constructor
  · rintro rfl z; simp
  · intro h; exact Nat.eq_of_testBit_eq (fun i => by simp [h i])
theorem andNot0 (a b : Nat) (ha : a < 2 ^ 62) (hb : b < 2 ^ 62) : bits .andNot .i64 (a : Int) (b : Int) = 0 ↔ ∀ z, a.testBit z = true → b.testBit z = true := by
  obtain ⟨c, hc, h⟩ := bitsAndNot a b ha hb
  rw [hc]
  constructor
  · intro e z hz
    have e0 : c = 0 := by omega
    have := (eq0_of_bits c).1 e0 z
    rw [h z, hz] at this
    simpa using this
  · intro k
    have : c = 0 := (eq0_of_bits c).2 (fun z => by
      rw [h z]
      cases hz : a.testBit z with
      | false => rfl
      | true => simp [k z hz])
    omega
theorem shl1 (n : Nat) (hn : n ≤ 62) : shl .i64 1 (n : Int) = ((2 ^ n : Nat) : Int) := by
  unfold shl
  have h : 2 ^ n ≤ 2 ^ 62 := Nat.pow_le_pow_right (by decide) hn
  have e : min ((n : Int).toNat) IntKind.i64.bits = n := by
    rw [Int.toNat_natCast]; exact Nat.min_eq_left (by show n ≤ 64; omega)
  rw [e, Int.one_mul, IntKind.wrap_i64]
  have e2 : ((2 : Int) ^ n) = ((2 ^ n : Nat) : Int) := by rw [Int.natCast_pow]; rfl
  rw [e2]
  have h2 : ((2 ^ n : Nat) : Int) ≤ 4611686018427387904 := Int.ofNat_le.mpr (Nat.le_trans h (by decide))
  have h3 : (0 : Int) ≤ ((2 ^ n : Nat) : Int) := Int.natCast_nonneg _
  omega
theorem shrN (a n : Nat) (ha : a < 2 ^ 62) : shr .i64 (a : Int) (n : Int) = ((a / 2 ^ n : Nat) : Int) := by
  unfold shr
  rw [Int.toNat_natCast]
  by_cases h : n ≤ 64
  · rw [Nat.min_eq_left (show n ≤ IntKind.i64.bits from h)]
    norm_cast
  · rw [Nat.min_eq_right (show IntKind.i64.bits ≤ n by show 64 ≤ n; omega)]
    have e1 : a / 2 ^ n = 0 := Nat.div_eq_of_lt (Nat.lt_of_lt_of_le ha (Nat.pow_le_pow_right (by decide) (by omega)))
    have e2 : a / 2 ^ IntKind.i64.bits = 0 := Nat.div_eq_of_lt (Nat.lt_of_lt_of_le ha (Nat.pow_le_pow_right (by decide) (by decide)))
    rw [e1]
    have : ((a : Int) / 2 ^ IntKind.i64.bits) = ((a / 2 ^ IntKind.i64.bits : Nat) : Int) := by rw [Int.natCast_ediv, Int.natCast_pow]; rfl
    rw [this, e2]
theorem tmod2 (a : Nat) : Int.tmod (a : Int) 2 = ((a % 2 : Nat) : Int) := by
  rw [Int.tmod_eq_emod_of_nonneg (by omega)]; norm_cast
/-- 'set >> y % 2 == 1' -/
theorem bit_ask (a y : Nat) (ha : a < 2 ^ 62) : (Int.tmod (shr .i64 (a : Int) (y : Int)) 2 == 1) = a.testBit y := by
  rw [shrN a y ha, tmod2, Nat.testBit_eq_decide_div_mod_eq]
  by_cases h : a / 2 ^ y % 2 = 1
  · simp [h]
  · have h0 : a / 2 ^ y % 2 = 0 := by omega
    simp [h0]
theorem bit_ask' (a y : Nat) (ha : a < 2 ^ 62) : (Int.tmod (shr .i64 (a : Int) (y : Int)) 2 = 1) ↔ a.testBit y = true := by
  rw [← bit_ask a y ha]; simp
end Go.Proofs.Ytjijfflifonjoaa.M

/- The reference's powers of 2 and bits. -/
namespace Go.Proofs.Ytjijfflifonjoaa.M
set_option linter.unusedVariables false
open Go.RowKit Go.Proofs.YtjijfflifonjoaaW.PrintWords Go.Proofs.YtjijfflifonjoaaW.PrintLast Go.Proofs.YtjijfflifonjoaaW.PrintMore Go.Proofs.Ytjijfflifonjoaa.P

theorem power_l (n : Nat) : ∀ acc : Nat, n ≤ 62 → acc * 2 ^ n ≤ 2 ^ 62 → Ev (fun k => spec_power.l0 k (n : Int) (acc : Int)) ((acc * 2 ^ n : Nat) : Int) := by
  induction n with
  | zero =>
    intro acc _ h
    refine Ev.step (fun k => by simp only [spec_power.l0]; exact rfl) ?_
    refine Ev.neg (by omega) (Ev.const (by simp))
  | succ n ih =>
    intro acc hn h
    refine Ev.step (fun k => by simp only [spec_power.l0]; exact rfl) ?_
    refine Ev.pos (by omega) ?_
    have hp : 1 ≤ 2 ^ n := Nat.one_le_two_pow
    have h2 : acc * 2 ^ (n + 1) = (2 * acc) * 2 ^ n := by rw [Nat.pow_succ]; ac_rfl
    have h3 : 2 * acc ≤ (2 * acc) * 2 ^ n := Nat.le_mul_of_pos_right _ hp
    have h4 : 2 * acc ≤ 4611686018427387904 := by rw [h2] at h; exact Nat.le_trans h3 (Nat.le_trans h (by decide))
    rw [w64 (x := ((n + 1 : Nat) : Int) - 1) (by omega) (by omega), w64 (x := 2 * (acc : Int)) (by omega) (by omega)]
    have := ih (2 * acc) (by omega) (by rw [← h2]; exact h)
    rw [h2]
    have e1 : (((n + 1 : Nat) : Int) - 1) = (n : Int) := by omega
    have e2 : (2 * (acc : Int)) = ((2 * acc : Nat) : Int) := by omega
    rw [e1, e2]
    exact this
theorem power_ev (n : Nat) (hn : n ≤ 62) : Ev (fun k => spec_power.f k (n : Int)) ((2 ^ n : Nat) : Int) := by
  have := power_l n 1 hn (by rw [Nat.one_mul]; exact Nat.pow_le_pow_right (by decide) hn)
  rw [Nat.one_mul] at this
  exact this
/-- 'bit(x, j)' of a number that is not negative. -/
theorem bit_ev (x j : Nat) (hx : x < 2 ^ 62) (hj : j ≤ 62) : Ev (fun k => spec_bit.f k (x : Int) (j : Int)) (if x.testBit j then 1 else 0) := by
  unfold spec_bit.f
  refine Ev.bind (power_ev j hj) ?_
  have hp : 0 < 2 ^ j := Nat.two_pow_pos j
  refine Ev.neg (by omega) (Ev.const ?_)
  have e : Int.tdiv (x : Int) ((2 ^ j : Nat) : Int) = ((x / 2 ^ j : Nat) : Int) := by
    rw [Int.tdiv_eq_ediv_of_nonneg (by omega), Int.natCast_ediv]
  have hle : x / 2 ^ j ≤ x := Nat.div_le_self _ _
  have hx' : x < 4611686018427387904 := hx
  rw [e, Nat.testBit_eq_decide_div_mod_eq]
  generalize x / 2 ^ j = q at hle ⊢
  rw [w64 (by omega) (by omega), tmod2]
  by_cases h : q % 2 = 1
  · simp [h]
  · have h0 : q % 2 = 0 := by omega
    simp [h0]
end Go.Proofs.Ytjijfflifonjoaa.M

/- Lattices by numbers: what is below, meets and joins, as the program and the reference find them. -/
namespace Go.Proofs.Ytjijfflifonjoaa.M
set_option linter.unusedVariables false
open Go.RowKit Go.Proofs.YtjijfflifonjoaaW.PrintWords Go.Proofs.YtjijfflifonjoaaW.PrintLast Go.Proofs.YtjijfflifonjoaaW.PrintMore Go.Proofs.Ytjijfflifonjoaa.P

/-- The element y is at least x. -/
def le (up : List Int) (x y : Nat) : Bool := (rd up (x : Int)).toNat.testBit y
/-- All numbers are sums of 2 to some of the elements. -/
def OkR (up : List Int) : Prop := up.length ≤ 6 ∧ ∀ x, x < up.length → 0 ≤ rd up (x : Int) ∧ rd up (x : Int) < ((2 ^ up.length : Nat) : Int)
theorem OkR.lt {up : List Int} (h : OkR up) {x : Nat} (hx : x < up.length) : 0 ≤ rd up (x : Int) ∧ (rd up (x : Int)).toNat < 64 := by
  obtain ⟨h0, h1⟩ := h.2 x hx
  have : 2 ^ up.length ≤ 2 ^ 6 := Nat.pow_le_pow_right (by decide) h.1
  omega
theorem OkR.big {up : List Int} (h : OkR up) {x y : Nat} (hx : x < up.length) (hy : le up x y = true) : y < up.length := by
  obtain ⟨h0, h1⟩ := h.2 x hx
  refine Classical.byContradiction fun hc => ?_
  have hlt : (rd up (x : Int)).toNat < 2 ^ up.length := by omega
  have : (rd up (x : Int)).toNat.testBit y = false := Nat.testBit_lt_two_pow (Nat.lt_of_lt_of_le hlt (Nat.pow_le_pow_right (by decide) (by omega)))
  rw [le, this] at hy
  cases hy
theorem spec_below_ev {up : List Int} (h : OkR up) {x y : Nat} (hx : x < up.length) (hy : y ≤ 62) : Ev (fun k => spec_below.f k up (x : Int) (y : Int)) (le up x y) := by
  unfold spec_below.f
  obtain ⟨h0, h1⟩ := h.lt hx
  refine Ev.pos (by omega) (Ev.pos (by omega) ?_)
  have e : rd up (x : Int) = (((rd up (x : Int)).toNat : Nat) : Int) := by omega
  have hb := bit_ev (rd up (x : Int)).toNat y (by omega) hy
  rw [← e] at hb
  refine Ev.bind hb (Ev.const ?_)
  unfold le
  cases (rd up (x : Int)).toNat.testBit y <;> rfl
theorem impl_below_eq {up : List Int} (h : OkR up) {x y : Nat} (hx : x < up.length) : impl_below.f up (x : Int) (y : Int) = some (le up x y) := by
  unfold impl_below.f
  obtain ⟨h0, h1⟩ := h.lt hx
  rw [if_pos (by omega), if_pos (by omega), if_pos (by omega)]
  have e : rd up (x : Int) = (((rd up (x : Int)).toNat : Nat) : Int) := by omega
  rw [e, bit_ask _ y (by omega)]
  rfl
/-- The first element of which p holds, -1 if there is none. -/
def firstN (n : Nat) (p : Nat → Bool) : Int := runL (fun z => if p z then some (z : Int) else none) (-1) n 0
def isMeet (up : List Int) (x y z : Nat) : Bool := le up z x && le up z y && (List.range up.length).all fun w => !(le up w x) || !(le up w y) || le up w z
def isJoin (up : List Int) (x y z : Nat) : Bool := le up x z && le up y z && (List.range up.length).all fun w => !(le up x w) || !(le up y w) || le up z w
def meetM (up : List Int) (x y : Nat) : Int := firstN up.length (isMeet up x y)
def joinM (up : List Int) (x y : Nat) : Int := firstN up.length (isJoin up x y)
theorem all_from (n : Nat) (p : Nat → Bool) (i d : Nat) (h : i + d = n) : ((List.range n).all p) = (((List.range i).all p) && ((List.range d).all fun j => p (i + j))) := by
  subst h
  rw [List.range_add, List.all_append, List.all_map]
  rfl
theorem all_step (p : Nat → Bool) (i d : Nat) : ((List.range (d + 1)).all fun j => p (i + j)) = (p i && (List.range d).all fun j => p (i + 1 + j)) := by
  rw [List.range_succ_eq_map, List.all_cons, List.all_map]
  simp [Function.comp_def, Nat.add_assoc, Nat.add_comm 1]
theorem spec_meet_l1 {up : List Int} (h : OkR up) {x y z : Nat} (hx : x < up.length) (hy : y < up.length) (hz : z < up.length) (r : Int) :
    ∀ d w ok, w + d = up.length →
      ((ok && (List.range d).all fun j => !(le up (w + j) x) || !(le up (w + j) y) || le up (w + j) z) = true → r = (z : Int)) →
      ((ok && (List.range d).all fun j => !(le up (w + j) x) || !(le up (w + j) y) || le up (w + j) z) = false → Ev (fun k => spec_meet.l0 k up (x : Int) (y : Int) ((z + 1 : Nat) : Int)) r) →
      Ev (fun k => spec_meet.l1 k up (x : Int) (y : Int) (z : Int) ok (w : Int)) r := by
  have h6 := h.1
  intro d
  induction d with
  | zero =>
    intro w ok hw h1 h2
    refine Ev.step (fun k => by simp only [spec_meet.l1]; exact rfl) ?_
    refine Ev.neg (by omega) ?_
    refine Ev.step (fun k => by simp only [spec_meet.j3]; exact rfl) ?_
    refine Ev.neg (by decide) ?_
    cases ok with
    | true =>
      refine Ev.pos rfl ?_
      have := h1 (by simp)
      subst this
      exact Ev.some _
    | false =>
      refine Ev.neg (by decide) ?_
      rw [w64s hz (by omega)]
      exact h2 (by simp)
  | succ d ih =>
    intro w ok hw h1 h2
    rw [all_step (fun j => !(le up j x) || !(le up j y) || le up j z)] at h1 h2
    refine Ev.step (fun k => by simp only [spec_meet.l1]; exact rfl) ?_
    refine Ev.pos (by omega) ?_
    refine Ev.step (fun k => by simp only [spec_meet.j3]; exact rfl) ?_
    cases ok with
    | false =>
      refine Ev.neg (by decide) (Ev.neg (by decide) ?_)
      rw [w64s hz (by omega)]
      exact h2 (by simp)
    | true =>
      refine Ev.pos rfl ?_
      have hw' : w < up.length := by omega
      have hs := fun b (hb : b = (!(le up w x) || !(le up w y) || le up w z)) => ih (w + 1) b (by omega) (by rw [hb]; simpa using h1) (by rw [hb]; simpa using h2)
      refine Ev.bind (spec_below_ev h hw' (by omega)) ?_
      cases hA : le up w x with
      | false =>
        refine Ev.neg (by decide) ?_
        rw [w64s hw' (by omega)]
        exact hs true (by rw [hA]; rfl)
      | true =>
        refine Ev.pos rfl (Ev.bind (spec_below_ev h hw' (by omega)) ?_)
        cases hB : le up w y with
        | false =>
          refine Ev.neg (by decide) ?_
          rw [w64s hw' (by omega)]
          exact hs true (by rw [hA, hB]; rfl)
        | true =>
          refine Ev.pos rfl (Ev.bind (spec_below_ev h hw' (by omega)) ?_)
          rw [w64s hw' (by omega)]
          exact hs _ (by rw [hA, hB]; rfl)
theorem spec_meet_ev {up : List Int} (h : OkR up) {x y : Nat} (hx : x < up.length) (hy : y < up.length) : Ev (fun k => spec_meet.f k up (x : Int) (y : Int)) (meetM up x y) := by
  have h6 := h.1
  unfold spec_meet.f meetM firstN
  refine ev_run (fun k i => spec_meet.l0 k up (x : Int) (y : Int) i) up.length _ (-1) ?_ ?_ up.length 0 (by omega)
  · intro z hz
    have key : ∀ r, (isMeet up x y z = true → r = (z : Int)) → (isMeet up x y z = false → Ev (fun k => spec_meet.l0 k up (x : Int) (y : Int) ((z + 1 : Nat) : Int)) r) → Ev (fun k => spec_meet.l0 k up (x : Int) (y : Int) (z : Int)) r := by
      intro r h1 h2
      refine Ev.step (fun k => by simp only [spec_meet.l0]; exact rfl) ?_
      refine Ev.pos (by omega) ?_
      have hl := fun ok (hb : ok = (le up z x && le up z y)) => spec_meet_l1 h hx hy hz r up.length 0 ok (by omega) (by rw [hb]; simpa [isMeet] using h1) (by rw [hb]; simpa [isMeet] using h2)
      refine Ev.bind (spec_below_ev h hz (by omega)) ?_
      cases hA : le up z x with
      | false =>
        refine Ev.neg (by decide) (Ev.step (fun k => by simp only [spec_meet.j1]; exact rfl) ?_)
        exact hl false (by rw [hA]; rfl)
      | true =>
        refine Ev.pos rfl (Ev.bind (spec_below_ev h hz (by omega)) (Ev.step (fun k => by simp only [spec_meet.j1]; exact rfl) ?_))
        exact hl _ (by rw [hA]; rfl)
    cases hm : isMeet up x y z with
    | true =>
      refine ⟨fun a ha => ?_, fun ha => by simp at ha⟩
      obtain rfl : (z : Int) = a := by simpa using ha
      exact key _ (fun _ => rfl) (fun e => by rw [hm] at e; cases e)
    | false =>
      refine ⟨fun a ha => by simp at ha, fun _ r hr => key r (fun e => by rw [hm] at e; cases e) (fun _ => hr)⟩
  · refine Ev.step (fun k => by simp only [spec_meet.l0]; exact rfl) ?_
    exact Ev.neg (by omega) (Ev.some _)
theorem spec_join_l1 {up : List Int} (h : OkR up) {x y z : Nat} (hx : x < up.length) (hy : y < up.length) (hz : z < up.length) (r : Int) :
    ∀ d w ok, w + d = up.length →
      ((ok && (List.range d).all fun j => !(le up x (w + j)) || !(le up y (w + j)) || le up z (w + j)) = true → r = (z : Int)) →
      ((ok && (List.range d).all fun j => !(le up x (w + j)) || !(le up y (w + j)) || le up z (w + j)) = false → Ev (fun k => spec_join.l0 k up (x : Int) (y : Int) ((z + 1 : Nat) : Int)) r) →
      Ev (fun k => spec_join.l1 k up (x : Int) (y : Int) (z : Int) ok (w : Int)) r := by
  have h6 := h.1
  intro d
  induction d with
  | zero =>
    intro w ok hw h1 h2
    refine Ev.step (fun k => by simp only [spec_join.l1]; exact rfl) ?_
    refine Ev.neg (by omega) ?_
    refine Ev.step (fun k => by simp only [spec_join.j3]; exact rfl) ?_
    refine Ev.neg (by decide) ?_
    cases ok with
    | true =>
      refine Ev.pos rfl ?_
      have := h1 (by simp)
      subst this
      exact Ev.some _
    | false =>
      refine Ev.neg (by decide) ?_
      rw [w64s hz (by omega)]
      exact h2 (by simp)
  | succ d ih =>
    intro w ok hw h1 h2
    rw [all_step (fun j => !(le up x j) || !(le up y j) || le up z j)] at h1 h2
    refine Ev.step (fun k => by simp only [spec_join.l1]; exact rfl) ?_
    refine Ev.pos (by omega) ?_
    refine Ev.step (fun k => by simp only [spec_join.j3]; exact rfl) ?_
    cases ok with
    | false =>
      refine Ev.neg (by decide) (Ev.neg (by decide) ?_)
      rw [w64s hz (by omega)]
      exact h2 (by simp)
    | true =>
      refine Ev.pos rfl ?_
      have hw' : w < up.length := by omega
      have hs := fun b (hb : b = (!(le up x w) || !(le up y w) || le up z w)) => ih (w + 1) b (by omega) (by rw [hb]; simpa using h1) (by rw [hb]; simpa using h2)
      refine Ev.bind (spec_below_ev h hx (by omega)) ?_
      cases hA : le up x w with
      | false =>
        refine Ev.neg (by decide) ?_
        rw [w64s hw' (by omega)]
        exact hs true (by rw [hA]; rfl)
      | true =>
        refine Ev.pos rfl (Ev.bind (spec_below_ev h hy (by omega)) ?_)
        cases hB : le up y w with
        | false =>
          refine Ev.neg (by decide) ?_
          rw [w64s hw' (by omega)]
          exact hs true (by rw [hA, hB]; rfl)
        | true =>
          refine Ev.pos rfl (Ev.bind (spec_below_ev h hz (by omega)) ?_)
          rw [w64s hw' (by omega)]
          exact hs _ (by rw [hA, hB]; rfl)
theorem spec_join_ev {up : List Int} (h : OkR up) {x y : Nat} (hx : x < up.length) (hy : y < up.length) : Ev (fun k => spec_join.f k up (x : Int) (y : Int)) (joinM up x y) := by
  have h6 := h.1
  unfold spec_join.f joinM firstN
  refine ev_run (fun k i => spec_join.l0 k up (x : Int) (y : Int) i) up.length _ (-1) ?_ ?_ up.length 0 (by omega)
  · intro z hz
    have key : ∀ r, (isJoin up x y z = true → r = (z : Int)) → (isJoin up x y z = false → Ev (fun k => spec_join.l0 k up (x : Int) (y : Int) ((z + 1 : Nat) : Int)) r) → Ev (fun k => spec_join.l0 k up (x : Int) (y : Int) (z : Int)) r := by
      intro r h1 h2
      refine Ev.step (fun k => by simp only [spec_join.l0]; exact rfl) ?_
      refine Ev.pos (by omega) ?_
      have hl := fun ok (hb : ok = (le up x z && le up y z)) => spec_join_l1 h hx hy hz r up.length 0 ok (by omega) (by rw [hb]; simpa [isJoin] using h1) (by rw [hb]; simpa [isJoin] using h2)
      refine Ev.bind (spec_below_ev h hx (by omega)) ?_
      cases hA : le up x z with
      | false =>
        refine Ev.neg (by decide) (Ev.step (fun k => by simp only [spec_join.j1]; exact rfl) ?_)
        exact hl false (by rw [hA]; rfl)
      | true =>
        refine Ev.pos rfl (Ev.bind (spec_below_ev h hy (by omega)) (Ev.step (fun k => by simp only [spec_join.j1]; exact rfl) ?_))
        exact hl _ (by rw [hA]; rfl)
    cases hm : isJoin up x y z with
    | true =>
      refine ⟨fun a ha => ?_, fun ha => by simp at ha⟩
      obtain rfl : (z : Int) = a := by simpa using ha
      exact key _ (fun _ => rfl) (fun e => by rw [hm] at e; cases e)
    | false =>
      refine ⟨fun a ha => by simp at ha, fun _ r hr => key r (fun e => by rw [hm] at e; cases e) (fun _ => hr)⟩
  · refine Ev.step (fun k => by simp only [spec_join.l0]; exact rfl) ?_
    exact Ev.neg (by omega) (Ev.some _)
theorem impl_meet_l1 {up : List Int} (h : OkR up) {x y z : Nat} (hx : x < up.length) (hy : y < up.length) (hz : z < up.length) (r : Int) :
    ∀ d w ok, w + d = up.length →
      ((ok && (List.range d).all fun j => !(le up (w + j) x) || !(le up (w + j) y) || le up (w + j) z) = true → r = (z : Int)) →
      ((ok && (List.range d).all fun j => !(le up (w + j) x) || !(le up (w + j) y) || le up (w + j) z) = false → Ev (fun k => impl_meet.l0 k up (x : Int) (y : Int) (up.length : Int) ((z + 1 : Nat) : Int)) r) →
      Ev (fun k => impl_meet.l1 k up (x : Int) (y : Int) (z : Int) ok (up.length : Int) (z : Int) (up.length : Int) (w : Int)) r := by
  have h6 := h.1
  intro d
  induction d with
  | zero =>
    intro w ok hw h1 h2
    refine Ev.step (fun k => by simp only [impl_meet.l1]; exact rfl) ?_
    refine Ev.neg (by omega) ?_
    cases ok with
    | true =>
      refine Ev.pos rfl ?_
      have := h1 (by simp)
      subst this
      exact Ev.some _
    | false =>
      refine Ev.neg (by decide) ?_
      rw [w64s hz (by omega)]
      exact h2 (by simp)
  | succ d ih =>
    intro w ok hw h1 h2
    rw [all_step (fun j => !(le up j x) || !(le up j y) || le up j z)] at h1 h2
    refine Ev.step (fun k => by simp only [impl_meet.l1]; exact rfl) ?_
    refine Ev.pos (by omega) ?_
    have hw' : w < up.length := by omega
    have hs := fun b (hb : b = (ok && (!(le up w x) || !(le up w y) || le up w z))) => ih (w + 1) b (by omega) (by rw [hb, Bool.and_assoc]; exact h1) (by rw [hb, Bool.and_assoc]; exact h2)
    cases ok with
    | false =>
      refine Ev.neg (by decide) ?_
      rw [w64s hw' (by omega)]
      exact hs false rfl
    | true =>
      refine Ev.pos rfl ?_
      refine Ev.bindc (impl_below_eq h hw') ?_
      cases hA : le up w x with
      | false =>
        refine Ev.neg (by decide) ?_
        rw [w64s hw' (by omega)]
        exact hs true (by rw [hA]; rfl)
      | true =>
        refine Ev.pos rfl (Ev.bindc (impl_below_eq h hw') ?_)
        cases hB : le up w y with
        | false =>
          refine Ev.neg (by decide) ?_
          rw [w64s hw' (by omega)]
          exact hs true (by rw [hA, hB]; rfl)
        | true =>
          refine Ev.pos rfl (Ev.bindc (impl_below_eq h hw') ?_)
          rw [w64s hw' (by omega)]
          exact hs _ (by rw [hA, hB]; rfl)
theorem impl_meet_ev {up : List Int} (h : OkR up) {x y : Nat} (hx : x < up.length) (hy : y < up.length) : Ev (fun k => impl_meet.f k up (x : Int) (y : Int)) (meetM up x y) := by
  have h6 := h.1
  unfold impl_meet.f meetM firstN
  refine ev_run (fun k i => impl_meet.l0 k up (x : Int) (y : Int) (up.length : Int) i) up.length _ (-1) ?_ ?_ up.length 0 (by omega)
  · intro z hz
    have key : ∀ r, (isMeet up x y z = true → r = (z : Int)) → (isMeet up x y z = false → Ev (fun k => impl_meet.l0 k up (x : Int) (y : Int) (up.length : Int) ((z + 1 : Nat) : Int)) r) → Ev (fun k => impl_meet.l0 k up (x : Int) (y : Int) (up.length : Int) (z : Int)) r := by
      intro r h1 h2
      refine Ev.step (fun k => by simp only [impl_meet.l0]; exact rfl) ?_
      refine Ev.pos (by omega) ?_
      have hno : (le up z x && le up z y) = false → Ev (fun k => impl_meet.j1 k up (x : Int) (y : Int) (z : Int) (up.length : Int) (z : Int) true) r := by
        intro e
        refine Ev.step (fun k => by simp only [impl_meet.j1]; exact rfl) ?_
        refine Ev.pos trivial ?_
        rw [w64s hz (by omega)]
        exact h2 (by rw [isMeet, e]; rfl)
      refine Ev.bindc (impl_below_eq h hz) ?_
      cases hA : le up z x with
      | false =>
        refine Ev.neg (by decide) ?_
        exact hno (by rw [hA]; rfl)
      | true =>
        refine Ev.pos rfl (Ev.bindc (impl_below_eq h hz) ?_)
        cases hB : le up z y with
        | false => exact hno (by rw [hA, hB]; rfl)
        | true =>
          refine Ev.step (fun k => by simp only [impl_meet.j1]; exact rfl) ?_
          refine Ev.neg (by decide) ?_
          exact impl_meet_l1 h hx hy hz r up.length 0 true (by omega) (by simpa [isMeet, hA, hB] using h1) (by simpa [isMeet, hA, hB] using h2)
    cases hm : isMeet up x y z with
    | true =>
      refine ⟨fun a ha => ?_, fun ha => by simp at ha⟩
      obtain rfl : (z : Int) = a := by simpa using ha
      exact key _ (fun _ => rfl) (fun e => by rw [hm] at e; cases e)
    | false =>
      refine ⟨fun a ha => by simp at ha, fun _ r hr => key r (fun e => by rw [hm] at e; cases e) (fun _ => hr)⟩
  · refine Ev.step (fun k => by simp only [impl_meet.l0]; exact rfl) ?_
    exact Ev.neg (by omega) (Ev.some _)
theorem impl_join_ev {up : List Int} (h : OkR up) {x y : Nat} (hx : x < up.length) (hy : y < up.length) : Ev (fun k => impl_join.f k up (x : Int) (y : Int)) (joinM up x y) := by
  have h6 := h.1
  unfold impl_join.f joinM firstN
  refine Ev.pos (by omega) (Ev.pos (by omega) (Ev.pos (by omega) (Ev.pos (by omega) ?_)))
  obtain ⟨hx0, hx1⟩ := h.lt hx
  obtain ⟨hy0, hy1⟩ := h.lt hy
  have eb : bits .and .i64 (rd up (x : Int)) (rd up (y : Int)) = (((rd up (x : Int)).toNat &&& (rd up (y : Int)).toNat : Nat) : Int) := by
    have := bitsAnd (rd up (x : Int)).toNat (rd up (y : Int)).toNat (by omega) (by omega)
    rwa [Int.toNat_of_nonneg hx0, Int.toNat_of_nonneg hy0] at this
  rw [eb]
  have hb : ((rd up (x : Int)).toNat &&& (rd up (y : Int)).toNat) < 64 := Nat.lt_of_le_of_lt Nat.and_le_left hx1
  have hbit : ∀ z, ((rd up (x : Int)).toNat &&& (rd up (y : Int)).toNat).testBit z = (le up x z && le up y z) := fun z => by rw [Nat.testBit_and]; rfl
  generalize (rd up (x : Int)).toNat &&& (rd up (y : Int)).toNat = both at hb hbit
  refine ev_run (fun k i => impl_join.l0 k up (both : Int) (up.length : Int) i) up.length _ (-1) ?_ ?_ up.length 0 (by omega)
  · intro z hz
    have key : ∀ r, (isJoin up x y z = true → r = (z : Int)) → (isJoin up x y z = false → Ev (fun k => impl_join.l0 k up (both : Int) (up.length : Int) ((z + 1 : Nat) : Int)) r) → Ev (fun k => impl_join.l0 k up (both : Int) (up.length : Int) (z : Int)) r := by
      intro r h1 h2
      refine Ev.step (fun k => by simp only [impl_join.l0]; exact rfl) ?_
      refine Ev.pos (by omega) (Ev.pos (by omega) ?_)
      obtain ⟨hz0, hz1⟩ := h.lt hz
      have ez : rd up (z : Int) = (((rd up (z : Int)).toNat : Nat) : Int) := by omega
      by_cases c1 : both.testBit z = true
      · refine Ev.pos ((bit_ask' both z (by omega)).2 c1) (Ev.pos (by omega) ?_)
        have c0 : (le up x z && le up y z) = true := by rw [← hbit]; exact c1
        have hall : bits .andNot .i64 (both : Int) (rd up (z : Int)) = 0 ↔ ((List.range up.length).all fun w => !(le up x w) || !(le up y w) || le up z w) = true := by
          rw [ez, andNot0 both _ (by omega) (by omega), List.all_eq_true]
          constructor
          · intro k w _
            cases e1 : le up x w with
            | false => rfl
            | true =>
              cases e2 : le up y w with
              | false => rfl
              | true =>
                have : le up z w = true := k w (by rw [hbit, e1, e2]; rfl)
                rw [this]; rfl
          · intro k w hw
            rw [hbit, Bool.and_eq_true] at hw
            have := k w (List.mem_range.2 (h.big hx hw.1))
            rw [hw.1, hw.2] at this
            show le up z w = true
            simpa using this
        by_cases c2 : bits .andNot .i64 (both : Int) (rd up (z : Int)) = 0
        · refine Ev.pos c2 ?_
          rw [h1 (by rw [isJoin, c0, hall.1 c2]; rfl)]
          exact Ev.some _
        · refine Ev.neg c2 ?_
          rw [w64s hz (by omega)]
          refine h2 ?_
          rw [isJoin, c0, Bool.true_and]
          cases e : ((List.range up.length).all fun w => !(le up x w) || !(le up y w) || le up z w) with
          | false => rfl
          | true => exact absurd (hall.2 e) c2
      · refine Ev.neg (fun e => c1 ((bit_ask' both z (by omega)).1 e)) ?_
        rw [w64s hz (by omega)]
        refine h2 ?_
        rw [isJoin]
        have : (le up x z && le up y z) = false := by rw [← hbit]; simpa using c1
        rw [this]; rfl
    cases hm : isJoin up x y z with
    | true =>
      refine ⟨fun a ha => ?_, fun ha => by simp at ha⟩
      obtain rfl : (z : Int) = a := by simpa using ha
      exact key _ (fun _ => rfl) (fun e => by rw [hm] at e; cases e)
    | false =>
      refine ⟨fun a ha => by simp at ha, fun _ r hr => key r (fun e => by rw [hm] at e; cases e) (fun _ => hr)⟩
  · refine Ev.step (fun k => by simp only [impl_join.l0]; exact rfl) ?_
    exact Ev.neg (by omega) (Ev.some _)
end Go.Proofs.Ytjijfflifonjoaa.M

/- Which numbers are a lattice: the program's ValidLattice and the reference's answer the same. -/
namespace Go.Proofs.Ytjijfflifonjoaa.M
set_option linter.unusedVariables false
open Go.RowKit Go.Proofs.YtjijfflifonjoaaW.PrintWords Go.Proofs.YtjijfflifonjoaaW.PrintLast Go.Proofs.YtjijfflifonjoaaW.PrintMore Go.Proofs.Ytjijfflifonjoaa.P

theorem inRange_eq (a b c : Int) : spec_inRange.f a b c = some (decide (b ≤ a ∧ a ≤ c)) := by
  unfold spec_inRange.f
  by_cases h : b ≤ a
  · rw [if_pos h]; simp [h]
  · rw [if_neg h]; simp [h]
theorem within_eq' (a b c : Int) : impl_within.f a b c = some (decide (b ≤ a ∧ a ≤ c)) := by
  unfold impl_within.f
  by_cases h : a ≥ b
  · rw [if_pos h]; have : b ≤ a := h; simp [this]
  · rw [if_neg h]; have : ¬ b ≤ a := h; simp [this]
/-- Is each number a sum of 2 to some of the elements? -/
def okB (up : List Int) : Bool := (List.range up.length).all fun x => decide (0 ≤ rd up (x : Int) ∧ rd up (x : Int) ≤ ((2 ^ up.length : Nat) : Int) - 1)
theorem okB_iff {up : List Int} (h6 : up.length ≤ 6) : okB up = true ↔ OkR up := by
  unfold okB OkR
  rw [List.all_eq_true]
  constructor
  · intro h
    refine ⟨h6, fun x hx => ?_⟩
    have := of_decide_eq_true (h x (List.mem_range.2 hx))
    omega
  · intro h x hx
    have := h.2 x (List.mem_range.1 hx)
    exact decide_eq_true (by omega)
def allN (n : Nat) (p : Nat → Bool) : Bool := (List.range n).all p
theorem allN_iff {n : Nat} {p : Nat → Bool} : allN n p = true ↔ ∀ i, i < n → p i = true := by
  unfold allN; rw [List.all_eq_true]
  exact ⟨fun h i hi => h i (List.mem_range.2 hi), fun h i hi => h i (List.mem_range.1 hi)⟩
/-- An order with a least and a greatest element. -/
def ordB (up : List Int) : Bool := allN up.length fun x => (le up x x && le up 0 x && le up x (up.length - 1)) &&
  allN up.length fun y => !(!(decide (x = y)) && le up x y && le up y x) && allN up.length fun z => !(le up x y && le up y z && !(le up x z))
def bothB (up : List Int) : Bool := allN up.length fun x => allN up.length fun y => decide (0 ≤ meetM up x y) && decide (0 ≤ joinM up x y)
/-- The numbers up are a lattice. -/
def latB (up : List Int) : Bool := decide (1 ≤ up.length ∧ up.length ≤ 6) && okB up && ordB up && bothB up

theorem spec_order_ev {up : List Int} (h : OkR up) (h1 : 1 ≤ up.length) : Ev (fun k => spec_validOrder.l1 k up (up.length : Int) 0) (ordB up) := by
  have h6 := h.1
  refine ev_no (fun k i => spec_validOrder.l1 k up (up.length : Int) i) up.length _ _ ?_ ?_ (fun e => e)
  · intro x hx
    -- behind the first test
    have inner : ∀ r, ((allN up.length fun y => !(!(decide (x = y)) && le up x y && le up y x) && allN up.length fun z => !(le up x y && le up y z && !(le up x z))) = true → Ev (fun k => spec_validOrder.l1 k up (up.length : Int) ((x + 1 : Nat) : Int)) r) →
        ((allN up.length fun y => !(!(decide (x = y)) && le up x y && le up y x) && allN up.length fun z => !(le up x y && le up y z && !(le up x z))) = false → r = false) →
        Ev (fun k => spec_validOrder.l2 k up (up.length : Int) (x : Int) 0) r := by
      intro r k1 k2
      refine ev_no (fun k i => spec_validOrder.l2 k up (up.length : Int) (x : Int) i) up.length _ _ ?_ (fun e => ?_) k2
      · intro y hy
        have third : ∀ r, ((allN up.length fun z => !(le up x y && le up y z && !(le up x z))) = true → Ev (fun k => spec_validOrder.l2 k up (up.length : Int) (x : Int) ((y + 1 : Nat) : Int)) r) →
            ((allN up.length fun z => !(le up x y && le up y z && !(le up x z))) = false → r = false) →
            Ev (fun k => spec_validOrder.l3 k up (up.length : Int) (x : Int) (y : Int) 0) r := by
          intro r q1 q2
          refine ev_no (fun k i => spec_validOrder.l3 k up (up.length : Int) (x : Int) (y : Int) i) up.length _ _ ?_ (fun e => ?_) q2
          · intro z hz
            constructor
            · intro hp r hr
              refine Ev.step (fun k => by simp only [spec_validOrder.l3]; exact rfl) ?_
              refine Ev.pos (by omega) ?_
              refine Ev.bind (spec_below_ev h hx (by omega)) ?_
              rw [w64s hz (by omega)]
              cases hA : le up x y with
              | false => exact Ev.neg (by decide) hr
              | true =>
                refine Ev.pos rfl (Ev.bind (spec_below_ev h hy (by omega)) ?_)
                cases hB : le up y z with
                | false => exact Ev.neg (by decide) hr
                | true =>
                  refine Ev.pos rfl (Ev.bind (spec_below_ev h hx (by omega)) ?_)
                  rw [hA, hB] at hp
                  have hC : le up x z = true := by simpa using hp
                  rw [hC]
                  exact Ev.pos rfl hr
            · intro hp
              have hp' : le up x y = true ∧ le up y z = true ∧ le up x z = false := by
                cases hA : le up x y <;> cases hB : le up y z <;> cases hC : le up x z <;> simp [hA, hB, hC] at hp ⊢
              refine Ev.step (fun k => by simp only [spec_validOrder.l3]; exact rfl) ?_
              refine Ev.pos (by omega) ?_
              refine Ev.bind (spec_below_ev h hx (by omega)) ?_
              rw [hp'.1]
              refine Ev.pos rfl (Ev.bind (spec_below_ev h hy (by omega)) ?_)
              rw [hp'.2.1]
              refine Ev.pos rfl (Ev.bind (spec_below_ev h hx (by omega)) ?_)
              rw [hp'.2.2]
              exact Ev.neg (by decide) (Ev.some _)
          · refine Ev.step (fun k => by simp only [spec_validOrder.l3]; exact rfl) ?_
            refine Ev.neg (by omega) ?_
            rw [w64s hy (by omega)]
            exact q1 e
        have second : ∀ r, (!(decide (x = y)) && le up x y && le up y x) = false → Ev (fun k => spec_validOrder.l3 k up (up.length : Int) (x : Int) (y : Int) 0) r → Ev (fun k => spec_validOrder.l2 k up (up.length : Int) (x : Int) (y : Int)) r := by
          intro r hb hr
          have hj : Ev (fun k => spec_validOrder.j4 k up (up.length : Int) (x : Int) (y : Int) false) r := by
            refine Ev.step (fun k => by simp only [spec_validOrder.j4]; exact rfl) ?_
            exact Ev.neg (by decide) hr
          refine Ev.step (fun k => by simp only [spec_validOrder.l2]; exact rfl) ?_
          refine Ev.pos (by omega) ?_
          by_cases exy : x = y
          · exact Ev.pos (by omega) hj
          · refine Ev.neg (by omega) (Ev.bind (spec_below_ev h hx (by omega)) ?_)
            cases hA : le up x y with
            | false => exact Ev.neg (by decide) hj
            | true =>
              refine Ev.pos rfl (Ev.bind (spec_below_ev h hy (by omega)) ?_)
              have : le up y x = false := by simpa [exy, hA] using hb
              rw [this]
              exact hj
        constructor
        · intro hp r hr
          rw [Bool.and_eq_true] at hp
          exact second r (by have hq := hp.1; rw [Bool.not_eq_true'] at hq; exact hq) (third r (fun _ => hr) (fun e => by rw [hp.2] at e; cases e))
        · intro hp
          cases hb : (!(decide (x = y)) && le up x y && le up y x) with
          | false =>
            rw [hb] at hp
            exact second _ hb (third _ (fun e => by rw [e] at hp; cases hp) (fun _ => rfl))
          | true =>
            rw [Bool.and_eq_true, Bool.and_eq_true] at hb
            obtain ⟨⟨e1, e2⟩, e3⟩ := hb
            have exy : ¬ x = y := by simpa using e1
            refine Ev.step (fun k => by simp only [spec_validOrder.l2]; exact rfl) ?_
            refine Ev.pos (by omega) (Ev.neg (by omega) (Ev.bind (spec_below_ev h hx (by omega)) ?_))
            rw [e2]
            refine Ev.pos rfl (Ev.bind (spec_below_ev h hy (by omega)) ?_)
            rw [e3]
            refine Ev.step (fun k => by simp only [spec_validOrder.j4]; exact rfl) ?_
            exact Ev.pos (by first | rfl | trivial) (Ev.some _)
      · refine Ev.step (fun k => by simp only [spec_validOrder.l2]; exact rfl) ?_
        refine Ev.neg (by omega) ?_
        rw [w64s hx (by omega)]
        exact k1 e
    have first : ∀ r, (le up x x && le up 0 x && le up x (up.length - 1)) = true → Ev (fun k => spec_validOrder.l2 k up (up.length : Int) (x : Int) 0) r → Ev (fun k => spec_validOrder.l1 k up (up.length : Int) (x : Int)) r := by
      intro r hb hr
      rw [Bool.and_eq_true, Bool.and_eq_true] at hb
      obtain ⟨⟨e1, e2⟩, e3⟩ := hb
      refine Ev.step (fun k => by simp only [spec_validOrder.l1]; exact rfl) ?_
      refine Ev.pos (by omega) (Ev.bind (spec_below_ev h hx (by omega)) ?_)
      rw [e1]
      refine Ev.pos rfl (Ev.bind (spec_below_ev (x := 0) h (by omega) (by omega)) ?_)
      rw [e2]
      rw [show wrap64 ((up.length : Int) - 1) = ((up.length - 1 : Nat) : Int) by rw [w64 (by omega) (by omega)]; omega]
      refine Ev.pos rfl (Ev.bind (spec_below_ev h hx (by omega)) ?_)
      rw [e3]
      refine Ev.step (fun k => by simp only [spec_validOrder.j2]; exact rfl) ?_
      exact Ev.neg (by decide) hr
    constructor
    · intro hp r hr
      rw [Bool.and_eq_true] at hp
      exact first r hp.1 (inner r (fun _ => hr) (fun e => by rw [hp.2] at e; cases e))
    · intro hp
      cases hb : (le up x x && le up 0 x && le up x (up.length - 1)) with
      | true =>
        rw [hb] at hp
        exact first _ hb (inner _ (fun e => by rw [e] at hp; cases hp) (fun _ => rfl))
      | false =>
        have hj : Ev (fun k => spec_validOrder.j2 k up (up.length : Int) (x : Int) true) false := by
          refine Ev.step (fun k => by simp only [spec_validOrder.j2]; exact rfl) ?_
          exact Ev.pos (by first | rfl | trivial) (Ev.some _)
        refine Ev.step (fun k => by simp only [spec_validOrder.l1]; exact rfl) ?_
        refine Ev.pos (by omega) (Ev.bind (spec_below_ev h hx (by omega)) ?_)
        cases e1 : le up x x with
        | false => exact Ev.neg (by decide) hj
        | true =>
          refine Ev.pos rfl (Ev.bind (spec_below_ev (x := 0) h (by omega) (by omega)) ?_)
          cases e2 : le up 0 x with
          | false => exact Ev.neg (by decide) hj
          | true =>
            rw [show wrap64 ((up.length : Int) - 1) = ((up.length - 1 : Nat) : Int) by rw [w64 (by omega) (by omega)]; omega]
            refine Ev.pos rfl (Ev.bind (spec_below_ev h hx (by omega)) ?_)
            rw [e1, e2] at hb
            have e3 : le up x (up.length - 1) = false := by simpa using hb
            rw [e3]
            exact hj
  · intro e
    refine Ev.step (fun k => by simp only [spec_validOrder.l1]; exact rfl) ?_
    refine Ev.neg (by omega) ?_
    rw [show ordB up = true from e]
    exact Ev.some _
theorem spec_validOrder_ev (up : List Int) (hl : up.length ≤ 17592186044416) : Ev (fun k => spec_validOrder.f k up) (decide (1 ≤ up.length ∧ up.length ≤ 6) && okB up && ordB up) := by
  unfold spec_validOrder.f
  refine Ev.bindc (inRange_eq _ _ _) ?_
  by_cases hn : 1 ≤ up.length ∧ up.length ≤ 6
  · rw [show decide ((1 : Int) ≤ (up.length : Int) ∧ (up.length : Int) ≤ 6) = true from decide_eq_true (by omega), show decide (1 ≤ up.length ∧ up.length ≤ 6) = true from decide_eq_true hn]
    refine Ev.pos rfl ?_
    refine ev_no (fun k i => spec_validOrder.l0 k up (up.length : Int) i) up.length (fun x => decide (0 ≤ rd up (x : Int) ∧ rd up (x : Int) ≤ ((2 ^ up.length : Nat) : Int) - 1)) _ ?_ ?_ ?_
    · intro x hx
      have hp := power_ev up.length (by omega)
      have h64 : 2 ^ up.length ≤ 2 ^ 6 := Nat.pow_le_pow_right (by decide) hn.2
      have h0 : 0 < 2 ^ up.length := Nat.two_pow_pos _
      constructor
      · intro hq r hr
        refine Ev.step (fun k => by simp only [spec_validOrder.l0]; exact rfl) ?_
        refine Ev.pos (by omega) (Ev.pos (by omega) (Ev.pos (by omega) (Ev.bind hp ?_)))
        rw [w64 (x := ((2 ^ up.length : Nat) : Int) - 1) (by omega) (by omega)]
        refine Ev.bindc (inRange_eq _ _ _) ?_
        rw [hq, w64s hx (by omega)]
        exact Ev.pos rfl hr
      · intro hq
        refine Ev.step (fun k => by simp only [spec_validOrder.l0]; exact rfl) ?_
        refine Ev.pos (by omega) (Ev.pos (by omega) (Ev.pos (by omega) (Ev.bind hp ?_)))
        rw [w64 (x := ((2 ^ up.length : Nat) : Int) - 1) (by omega) (by omega)]
        refine Ev.bindc (inRange_eq _ _ _) ?_
        rw [hq]
        exact Ev.neg (by decide) (Ev.some _)
    · intro e
      have e' : okB up = true := e
      rw [e', Bool.true_and, Bool.true_and]
      refine Ev.step (fun k => by simp only [spec_validOrder.l0]; exact rfl) ?_
      exact Ev.neg (by omega) (spec_order_ev ((okB_iff hn.2).1 e') hn.1)
    · intro e
      have e' : okB up = false := e
      rw [e']; rfl
  · rw [show decide ((1 : Int) ≤ (up.length : Int) ∧ (up.length : Int) ≤ 6) = false from decide_eq_false (by omega), show decide (1 ≤ up.length ∧ up.length ≤ 6) = false from decide_eq_false hn]
    exact Ev.neg (by decide) (Ev.some _)
theorem both_loop {up : List Int} (h : OkR up) (F G : Nat → Int → Option Bool) (H : Nat → Int → Int → Option Bool) (r : Bool)
    (g0 : ∀ x, x < up.length → ∀ r, Ev (fun k => H k (x : Int) 0) r → Ev (fun k => G k (x : Int)) r)
    (g1 : ∀ x, x < up.length → ∀ y, y < up.length → ∀ r, (0 ≤ meetM up x y ∧ 0 ≤ joinM up x y → Ev (fun k => H k (x : Int) ((y + 1 : Nat) : Int)) r) → (¬ (0 ≤ meetM up x y ∧ 0 ≤ joinM up x y) → r = false) → Ev (fun k => H k (x : Int) (y : Int)) r)
    (g2 : ∀ x, x < up.length → ∀ r, Ev (fun k => G k ((x + 1 : Nat) : Int)) r → Ev (fun k => H k (x : Int) (up.length : Int)) r)
    (g3 : bothB up = true → Ev (fun k => G k (up.length : Int)) r) (g4 : bothB up = false → r = false) : Ev (fun k => G k 0) r := by
  refine ev_no G up.length _ r ?_ g3 g4
  intro x hx
  have key : ∀ r, ((allN up.length fun y => decide (0 ≤ meetM up x y) && decide (0 ≤ joinM up x y)) = true → Ev (fun k => G k ((x + 1 : Nat) : Int)) r) → ((allN up.length fun y => decide (0 ≤ meetM up x y) && decide (0 ≤ joinM up x y)) = false → r = false) → Ev (fun k => G k (x : Int)) r := by
    intro r k1 k2
    refine g0 x hx r ?_
    refine ev_no (fun k i => H k (x : Int) i) up.length _ r ?_ (fun e => g2 x hx r (k1 e)) k2
    intro y hy
    constructor
    · intro hp r hr
      rw [Bool.and_eq_true, decide_eq_true_eq, decide_eq_true_eq] at hp
      exact g1 x hx y hy r (fun _ => hr) (fun e => absurd hp e)
    · intro hp
      refine g1 x hx y hy false (fun e => ?_) (fun _ => rfl)
      rw [decide_eq_true e.1, decide_eq_true e.2] at hp
      cases hp
  exact ⟨fun hp r hr => key r (fun _ => hr) (fun e => by rw [hp] at e; cases e), fun hp => key false (fun e => by rw [hp] at e; cases e) (fun _ => rfl)⟩
theorem spec_validLattice_ev (up : List Int) (hl : up.length ≤ 17592186044416) : Ev (fun k => spec_validLattice.f k up) (latB up) := by
  unfold spec_validLattice.f
  refine Ev.bind (spec_validOrder_ev up hl) ?_
  unfold latB
  cases hb : (decide (1 ≤ up.length ∧ up.length ≤ 6) && okB up && ordB up) with
  | false => exact Ev.neg (by decide) (Ev.some _)
  | true =>
    refine Ev.pos rfl ?_
    rw [Bool.true_and]
    rw [Bool.and_eq_true, Bool.and_eq_true, decide_eq_true_eq] at hb
    obtain ⟨⟨hn, ho⟩, _⟩ := hb
    have h : OkR up := (okB_iff hn.2).1 ho
    refine both_loop h (fun _ _ => none) (fun k i => spec_validLattice.l0 k up i) (fun k x i => spec_validLattice.l1 k up x i) _ ?_ ?_ ?_ ?_ (fun e => e)
    · intro x hx r hr
      refine Ev.step (fun k => by simp only [spec_validLattice.l0]; exact rfl) ?_
      exact Ev.pos (by omega) hr
    · intro x hx y hy r h1 h2
      refine Ev.step (fun k => by simp only [spec_validLattice.l1]; exact rfl) ?_
      refine Ev.pos (by omega) (Ev.bind (spec_meet_ev h hx hy) ?_)
      refine Ev.ite' (fun c => ?_) (fun c => ?_)
      · rw [h2 (by omega)]; exact Ev.some _
      · refine Ev.bind (spec_join_ev h hx hy) ?_
        refine Ev.ite' (fun c2 => ?_) (fun c2 => ?_)
        · rw [h2 (by omega)]; exact Ev.some _
        · rw [w64s hy (by omega)]
          exact h1 (by omega)
    · intro x hx r hr
      refine Ev.step (fun k => by simp only [spec_validLattice.l1]; exact rfl) ?_
      refine Ev.neg (by omega) ?_
      rw [w64s hx (by omega)]
      exact hr
    · intro e
      refine Ev.step (fun k => by simp only [spec_validLattice.l0]; exact rfl) ?_
      rw [e]
      exact Ev.neg (by omega) (Ev.some _)
/-- What the program's below answers, whatever the number is. -/
def belI (up : List Int) (x y : Nat) : Bool := Int.tmod (shr .i64 (rd up (x : Int)) (y : Int)) 2 == 1
theorem impl_below_any {up : List Int} {x y : Nat} (hx : x < up.length) : impl_below.f up (x : Int) (y : Int) = some (belI up x y) := by
  unfold impl_below.f
  rw [if_pos (by omega), if_pos (by omega), if_pos (by omega)]
  rfl
theorem belI_le {up : List Int} (h : OkR up) {x y : Nat} (hx : x < up.length) : belI up x y = le up x y := by
  have h1 := impl_below_any (y := y) hx
  rw [impl_below_eq h hx] at h1
  exact (Option.some.inj h1).symm
def p1 (up : List Int) (x : Nat) : Bool := decide (0 ≤ rd up (x : Int) ∧ rd up (x : Int) ≤ ((2 ^ up.length : Nat) : Int) - 1) && (belI up x x && belI up x (up.length - 1) && belI up 0 x) &&
  allN up.length fun y => !(belI up x y) || ((decide (y = x) || !(belI up y x)) && decide (bits .andNot .i64 (rd up (y : Int)) (rd up (x : Int)) = 0))
theorem p1_all {up : List Int} (h1 : 1 ≤ up.length) (h6 : up.length ≤ 6) : allN up.length (p1 up) = (okB up && ordB up) := by
  rw [Bool.eq_iff_iff, Bool.and_eq_true]
  have ok_of : (∀ x, x < up.length → p1 up x = true) → OkR up := by
    intro hp
    refine (okB_iff h6).1 ?_
    rw [okB, List.all_eq_true]
    intro x hx
    have := hp x (List.mem_range.1 hx)
    rw [p1, Bool.and_eq_true, Bool.and_eq_true] at this
    exact this.1.1
  have sub : OkR up → ∀ x y, x < up.length → y < up.length → (bits .andNot .i64 (rd up (y : Int)) (rd up (x : Int)) = 0 ↔ ∀ z, z < up.length → le up y z = true → le up x z = true) := by
    intro h x y hx hy
    obtain ⟨hx0, hx1⟩ := h.lt hx
    obtain ⟨hy0, hy1⟩ := h.lt hy
    have e := andNot0 (rd up (y : Int)).toNat (rd up (x : Int)).toNat (by omega) (by omega)
    rw [Int.toNat_of_nonneg hx0, Int.toNat_of_nonneg hy0] at e
    rw [e]
    exact ⟨fun k z _ hz => k z hz, fun k z hz => k z (h.big hy hz) hz⟩
  constructor
  · intro hp
    rw [allN_iff] at hp
    have h := ok_of hp
    refine ⟨(okB_iff h6).2 h, ?_⟩
    rw [ordB, allN_iff]
    intro x hx
    have hx' := hp x hx
    rw [p1, Bool.and_eq_true, Bool.and_eq_true, Bool.and_eq_true, Bool.and_eq_true, belI_le h hx, belI_le h hx, belI_le (x := 0) h (by omega), allN_iff] at hx'
    obtain ⟨⟨_, ⟨⟨e1, e2⟩, e3⟩⟩, e4⟩ := hx'
    rw [Bool.and_eq_true, e1, e2, e3, allN_iff]
    refine ⟨rfl, fun y hy => ?_⟩
    have e5 := e4 y hy
    rw [belI_le h hx, belI_le h hy, Bool.or_eq_true, Bool.and_eq_true, Bool.or_eq_true, decide_eq_true_eq, decide_eq_true_eq, sub h x y hx hy] at e5
    rw [Bool.and_eq_true, allN_iff]
    cases hA : le up x y with
    | false => exact ⟨by simp, fun z hz => by simp⟩
    | true =>
      rw [hA] at e5
      rcases e5 with e5 | ⟨e5, e6⟩
      · cases e5
      · refine ⟨?_, fun z hz => ?_⟩
        · rcases e5 with e5 | e5
          · simp [e5]
          · have : le up y x = false := by simpa using e5
            simp [this]
        · cases hB : le up y z with
          | false => simp
          | true => simp [e6 z hz hB]
  · rintro ⟨ho, hord⟩
    have h := (okB_iff h6).1 ho
    rw [allN_iff]
    intro x hx
    rw [okB, List.all_eq_true] at ho
    rw [ordB, allN_iff] at hord
    have hx' := hord x hx
    rw [Bool.and_eq_true, Bool.and_eq_true, Bool.and_eq_true, allN_iff] at hx'
    obtain ⟨⟨⟨e1, e2⟩, e3⟩, e4⟩ := hx'
    rw [p1, Bool.and_eq_true, Bool.and_eq_true, ho x (List.mem_range.2 hx), belI_le h hx, belI_le h hx, belI_le (x := 0) h (by omega), e1, e2, e3, allN_iff]
    refine ⟨⟨rfl, rfl⟩, fun y hy => ?_⟩
    have e5 := e4 y hy
    rw [Bool.and_eq_true, allN_iff] at e5
    obtain ⟨e5, e6⟩ := e5
    rw [belI_le h hx, belI_le h hy]
    cases hA : le up x y with
    | false => rfl
    | true =>
      rw [Bool.or_eq_true, Bool.and_eq_true, Bool.or_eq_true, decide_eq_true_eq, decide_eq_true_eq, sub h x y hx hy]
      refine Or.inr ⟨?_, fun z hz hB => ?_⟩
      · by_cases c : y = x
        · exact Or.inl c
        · have c' : ¬ x = y := fun e => c e.symm
          simp [hA, c'] at e5
          exact Or.inr (by simp [e5])
      · have := e6 z hz
        simpa [hA, hB] using this
theorem impl_ValidLattice_ev (up : List Int) (hl : up.length ≤ 17592186044416) : Ev (fun k => impl_ValidLattice.f k up) (latB up) := by
  unfold impl_ValidLattice.f
  refine Ev.bindc (within_eq' _ _ _) ?_
  unfold latB
  by_cases hn : 1 ≤ up.length ∧ up.length ≤ 6
  case neg =>
    rw [show decide ((1 : Int) ≤ (up.length : Int) ∧ (up.length : Int) ≤ 6) = false from decide_eq_false (by omega), show decide (1 ≤ up.length ∧ up.length ≤ 6) = false from decide_eq_false hn]
    exact Ev.neg (by decide) (Ev.some _)
  obtain ⟨h1, h6⟩ := hn
  rw [show decide ((1 : Int) ≤ (up.length : Int) ∧ (up.length : Int) ≤ 6) = true from decide_eq_true (by omega), show decide (1 ≤ up.length ∧ up.length ≤ 6) = true from decide_eq_true ⟨h1, h6⟩, Bool.true_and, ← p1_all h1 h6]
  refine Ev.pos rfl ?_
  have h64 : 2 ^ up.length ≤ 2 ^ 6 := Nat.pow_le_pow_right (by decide) h6
  have h0 : 0 < 2 ^ up.length := Nat.two_pow_pos _
  refine ev_no (fun k i => impl_ValidLattice.l0 k up (up.length : Int) up (up.length : Int) i) up.length (p1 up) _ ?_ ?_ (fun e => by rw [show allN up.length (p1 up) = false from e]; rfl)
  · intro x hx
    have ey : ∀ y : Nat, ((y : Int) = (x : Int)) ↔ y = x := fun y => by omega
    have inner : ∀ r, ((allN up.length fun y => !(belI up x y) || ((decide (y = x) || !(belI up y x)) && decide (bits .andNot .i64 (rd up (y : Int)) (rd up (x : Int)) = 0))) = true → Ev (fun k => impl_ValidLattice.l0 k up (up.length : Int) up (up.length : Int) ((x + 1 : Nat) : Int)) r) →
        ((allN up.length fun y => !(belI up x y) || ((decide (y = x) || !(belI up y x)) && decide (bits .andNot .i64 (rd up (y : Int)) (rd up (x : Int)) = 0))) = false → r = false) →
        Ev (fun k => impl_ValidLattice.l1 k up (up.length : Int) (x : Int) (rd up (x : Int)) up (up.length : Int) (x : Int) (up.length : Int) 0) r := by
      intro r k1 k2
      refine ev_no (fun k i => impl_ValidLattice.l1 k up (up.length : Int) (x : Int) (rd up (x : Int)) up (up.length : Int) (x : Int) (up.length : Int) i) up.length _ _ ?_ (fun e => ?_) k2
      · intro y hy
        have key : ∀ r, ((!(belI up x y) || ((decide (y = x) || !(belI up y x)) && decide (bits .andNot .i64 (rd up (y : Int)) (rd up (x : Int)) = 0))) = true → Ev (fun k => impl_ValidLattice.l1 k up (up.length : Int) (x : Int) (rd up (x : Int)) up (up.length : Int) (x : Int) (up.length : Int) ((y + 1 : Nat) : Int)) r) →
            ((!(belI up x y) || ((decide (y = x) || !(belI up y x)) && decide (bits .andNot .i64 (rd up (y : Int)) (rd up (x : Int)) = 0))) = false → r = false) →
            Ev (fun k => impl_ValidLattice.l1 k up (up.length : Int) (x : Int) (rd up (x : Int)) up (up.length : Int) (x : Int) (up.length : Int) (y : Int)) r := by
          intro r q1 q2
          refine Ev.step (fun k => by simp only [impl_ValidLattice.l1]; exact rfl) ?_
          refine Ev.pos (by omega) (Ev.bindc (impl_below_any hx) ?_)
          rw [w64s hy (by omega)]
          cases hA : belI up x y with
          | false => exact Ev.neg (by decide) (q1 (by rw [hA]; rfl))
          | true =>
            rw [hA] at q1 q2
            refine Ev.pos rfl ?_
            by_cases c : y = x
            · subst c
              refine Ev.pos rfl (Ev.pos (by omega) (Ev.pos (by omega) ?_))
              refine Ev.ite' (fun c2 => q1 (by simp [c2])) (fun c2 => ?_)
              rw [q2 (by simp [c2])]
              exact Ev.some _
            · refine Ev.neg (fun e => c ((ey y).1 e)) (Ev.bindc (impl_below_any hy) ?_)
              cases hB : belI up y x with
              | true =>
                refine Ev.pos rfl ?_
                rw [q2 (by simp [c, hB])]
                exact Ev.some _
              | false =>
                refine Ev.neg (by decide) (Ev.pos (by omega) (Ev.pos (by omega) ?_))
                refine Ev.ite' (fun c2 => q1 (by simp [hB, c2])) (fun c2 => ?_)
                rw [q2 (by simp [c2])]
                exact Ev.some _
        exact ⟨fun hp r hr => key r (fun _ => hr) (fun e => by rw [hp] at e; cases e), fun hp => key false (fun e => by rw [hp] at e; cases e) (fun _ => rfl)⟩
      · refine Ev.step (fun k => by simp only [impl_ValidLattice.l1]; exact rfl) ?_
        refine Ev.neg (by omega) ?_
        rw [w64s hx (by omega)]
        exact k1 e
    have hj : Ev (fun k => impl_ValidLattice.j1 k up (up.length : Int) (x : Int) (rd up (x : Int)) up (up.length : Int) (x : Int) true) false := by
      refine Ev.step (fun k => by simp only [impl_ValidLattice.j1]; exact rfl) ?_
      exact Ev.pos (by first | rfl | trivial) (Ev.some _)
    have e1 : wrap64 (shl .i64 1 (up.length : Int) - 1) = ((2 ^ up.length : Nat) : Int) - 1 := by
      rw [shl1 up.length (by omega), w64 (by omega) (by omega)]
    have e2 : wrap64 ((up.length : Int) - 1) = ((up.length - 1 : Nat) : Int) := by rw [w64 (by omega) (by omega)]; omega
    have key : ∀ r, (p1 up x = true → Ev (fun k => impl_ValidLattice.l0 k up (up.length : Int) up (up.length : Int) ((x + 1 : Nat) : Int)) r) → (p1 up x = false → r = false) → Ev (fun k => impl_ValidLattice.l0 k up (up.length : Int) up (up.length : Int) (x : Int)) r := by
      intro r k1 k2
      refine Ev.step (fun k => by simp only [impl_ValidLattice.l0]; exact rfl) ?_
      refine Ev.pos (by omega) (Ev.pos (by omega) (Ev.pos (by omega) (Ev.pos (by omega) ?_)))
      rw [e1, e2]
      refine Ev.bindc (within_eq' _ _ _) ?_
      unfold p1 at k1 k2
      cases hr : decide (0 ≤ rd up (x : Int) ∧ rd up (x : Int) ≤ ((2 ^ up.length : Nat) : Int) - 1) with
      | false =>
        refine Ev.neg (by decide) ?_
        rw [k2 (by rw [hr]; rfl)]
        exact hj
      | true =>
        rw [hr] at k1 k2
        refine Ev.pos rfl (Ev.bindc (impl_below_any hx) ?_)
        cases hA : belI up x x with
        | false =>
          refine Ev.neg (by decide) ?_
          rw [k2 (by rw [hA]; rfl)]
          exact hj
        | true =>
          rw [hA] at k1 k2
          refine Ev.pos rfl (Ev.bindc (impl_below_any hx) ?_)
          cases hB : belI up x (up.length - 1) with
          | false =>
            refine Ev.neg (by decide) ?_
            rw [k2 (by rw [hB]; rfl)]
            exact hj
          | true =>
            rw [hB] at k1 k2
            refine Ev.pos rfl (Ev.bindc (impl_below_any (x := 0) (by omega)) ?_)
            cases hC : belI up 0 x with
            | false =>
              rw [k2 (by rw [hC]; rfl)]
              exact hj
            | true =>
              rw [hC] at k1 k2
              refine Ev.step (fun k => by simp only [impl_ValidLattice.j1]; exact rfl) ?_
              exact Ev.neg (by decide) (inner r (fun e => k1 (by rw [e]; rfl)) (fun e => k2 (by rw [e]; rfl)))
    exact ⟨fun hp r hr => key r (fun _ => hr) (fun e => by rw [hp] at e; cases e), fun hp => key false (fun e => by rw [hp] at e; cases e) (fun _ => rfl)⟩
  · intro e
    have e' : allN up.length (p1 up) = true := e
    rw [e', Bool.true_and]
    rw [p1_all h1 h6, Bool.and_eq_true] at e'
    have h : OkR up := (okB_iff h6).1 e'.1
    refine Ev.step (fun k => by simp only [impl_ValidLattice.l0]; exact rfl) ?_
    refine Ev.neg (by omega) ?_
    refine both_loop h (fun _ _ => none) (fun k i => impl_ValidLattice.l2 k up (up.length : Int) i) (fun k x i => impl_ValidLattice.l3 k up x (up.length : Int) x (up.length : Int) i) _ ?_ ?_ ?_ ?_ (fun e => e)
    · intro x hx r hr
      refine Ev.step (fun k => by simp only [impl_ValidLattice.l2]; exact rfl) ?_
      exact Ev.pos (by omega) hr
    · intro x hx y hy r h1 h2
      refine Ev.step (fun k => by simp only [impl_ValidLattice.l3]; exact rfl) ?_
      refine Ev.pos (by omega) (Ev.bind (impl_meet_ev h hx hy) ?_)
      refine Ev.ite' (fun c => ?_) (fun c => ?_)
      · rw [h2 (by omega)]; exact Ev.some _
      · refine Ev.bind (impl_join_ev h hx hy) ?_
        refine Ev.ite' (fun c2 => ?_) (fun c2 => ?_)
        · rw [h2 (by omega)]; exact Ev.some _
        · rw [w64s hy (by omega)]
          exact h1 (by omega)
    · intro x hx r hr
      refine Ev.step (fun k => by simp only [impl_ValidLattice.l3]; exact rfl) ?_
      refine Ev.neg (by omega) ?_
      rw [w64s hx (by omega)]
      exact hr
    · intro e
      refine Ev.step (fun k => by simp only [impl_ValidLattice.l2]; exact rfl) ?_
      rw [e]
      exact Ev.neg (by omega) (Ev.some _)
end Go.Proofs.Ytjijfflifonjoaa.M
