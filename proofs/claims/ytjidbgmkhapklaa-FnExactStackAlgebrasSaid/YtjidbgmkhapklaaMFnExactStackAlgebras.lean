/- What the law FnExactStackAlgebras leans on: plain lemmas on lists, numbers and lattices, and what the printed functions answer. -/
import Derived.Test.YtjidbgmkhapklaaP0
import Derived.Test.YtjidbgmkhapklaaP10
import Derived.Test.YtjidbgmkhapklaaP17
import Derived.Test.YtjidbgmkhapklaaP12
import Derived.Test.YtjidbgmkhapklaaP13
import Derived.Test.YtjidbgmkhapklaaP18
import Derived.Test.YtjidbgmkhapklaaP19
import Derived.Test.YtjidbgmkhapklaaP11
import Derived.Test.YtjidbgmkhapklaaP14
import Derived.Test.YtjidbgmkhapklaaP20
import Derived.Test.YtjidbgmkhapklaaP15
import Derived.Test.YtjidbgmkhapklaaP21
import Derived.Test.YtjidbgmkhapklaaP22
import Derived.Test.YtjidbgmkhapklaaP23
import Derived.Test.YtjidbgmkhapklaaP26
import Derived.Test.YtjidbgmkhapklaaP24
import Derived.Test.YtjidbgmkhapklaaP25
import Derived.Test.YtjidbgmkhapklaaP8
import Derived.Test.YtjidbgmkhapklaaP1
import Derived.Test.YtjidbgmkhapklaaP6
import Derived.Test.YtjidbgmkhapklaaP7
import Derived.Test.YtjidbgmkhapklaaP9
import Derived.Test.YtjidbgmkhapklaaP2
import Derived.Test.YtjidbgmkhapklaaP3
import Derived.Test.YtjidbgmkhapklaaP16
import Derived.Test.YtjidbgmkhapklaaP27
import Derived.Test.YtjidbgmkhapklaaP28
import Derived.Test.YtjidbgmkhapklaaP4
import Derived.Test.YtjidbgmkhapklaaP5
namespace Go.Proofs.Ytjidbgmkhapklaa.M
set_option linter.unusedVariables false
set_option linter.unusedSectionVars false
open Go.RowKit Go.Proofs.YtjidbgmkhapklaaW.PrintWords Go.Proofs.YtjidbgmkhapklaaW.PrintLast Go.Proofs.YtjidbgmkhapklaaW.PrintMore Go.Proofs.Ytjidbgmkhapklaa.P
theorem w64 {x : Int} (h1 : -9223372036854775808 ≤ x) (h2 : x ≤ 9223372036854775807) : wrap64 x = x := by
 unfold wrap64; omega
theorem w64s {i n : Nat} (h : i < n) (hn : n ≤ 4611686018427387904) : wrap64 ((i : Int) + 1) = ((i + 1 : Nat) : Int) := by
 rw [w64 (by omega) (by omega)]; omega
def runL {α : Type} (step : Nat → Option α) (rest : α) : Nat → Nat → α
 | 0, _ => rest
 | d + 1, i => match step i with
  | some a => a
  | none => runL step rest d (i + 1)
theorem ev_run {α : Type} (F : Nat → Int → Option α) (n : Nat) (step : Nat → Option α) (rest : α)
  (h1 : ∀ i, i < n → (∀ a, step i = some a → Ev (fun k => F k (i : Int)) a) ∧ (step i = none → ∀ r, Ev (fun k => F k ((i + 1 : Nat) : Int)) r → Ev (fun k => F k (i : Int)) r))
  (h2 : Ev (fun k => F k (n : Int)) rest) : ∀ d i, i + d = n → Ev (fun k => F k (i : Int)) (runL step rest d i) := by
 intro d
 induction d with
 | zero =>
  intro i hi
  obtain rfl : i = n := by omega
  exact h2
 | succ d ih =>
  intro i hi
  have h := h1 i (by omega)
  unfold runL
  cases hs : step i with
  | some a => exact h.1 a hs
  | none => exact h.2 hs _ (ih (i + 1) (by omega))
theorem ev_inv {α σ : Type} (F : Nat → σ → Int → Option α) (n : Nat) (I : Nat → σ → Prop) (r : α)
  (h1 : ∀ i, i < n → ∀ s, I i s → ∃ s', I (i + 1) s' ∧ (Ev (fun k => F k s' ((i + 1 : Nat) : Int)) r → Ev (fun k => F k s (i : Int)) r))
  (h2 : ∀ s, I n s → Ev (fun k => F k s (n : Int)) r) : ∀ d i s, i + d = n → I i s → Ev (fun k => F k s (i : Int)) r := by
 intro d
 induction d with
 | zero =>
  intro i s hi hs
  obtain rfl : i = n := by omega
  exact h2 s hs
 | succ d ih =>
  intro i s hi hs
  obtain ⟨s', hI, hE⟩ := h1 i (by omega) s hs
  exact hE (ih (i + 1) s' (by omega) hI)
theorem ev_inv2 {α σ : Type} (F : Nat → σ → Int → Option α) (n : Nat) (I : Nat → σ → Prop) (r : α)
  (h1 : ∀ i, i < n → ∀ s, I i s → (∀ s', I (i + 1) s' → Ev (fun k => F k s' ((i + 1 : Nat) : Int)) r) → Ev (fun k => F k s (i : Int)) r)
  (h2 : ∀ s, I n s → Ev (fun k => F k s (n : Int)) r) : ∀ d i s, i + d = n → I i s → Ev (fun k => F k s (i : Int)) r := by
 intro d
 induction d with
 | zero =>
  intro i s hi hs
  obtain rfl : i = n := by omega
  exact h2 s hs
 | succ d ih =>
  intro i s hi hs
  exact h1 i (by omega) s hs (fun s' hs' => ih (i + 1) s' (by omega) hs')
theorem runL_no (p : Nat → Bool) (rest : Bool) : ∀ d i, runL (fun j => if p j then none else some false) rest d i = (((List.range d).all fun j => p (i + j)) && rest) := by
 intro d
 induction d with
 | zero => intro i; simp [runL]
 | succ d ih =>
  intro i
  unfold runL
  by_cases h : p i
  ·rw [if_pos h]
   show runL _ rest d (i + 1) = _
   rw [ih, List.range_succ_eq_map, List.all_cons, List.all_map]
   simp [h, Function.comp_def, Nat.add_assoc, Nat.add_comm 1]
  ·rw [if_neg h]
   rw [List.range_succ_eq_map, List.all_cons]
   simp [h]
theorem ev_no (F : Nat → Int → Option Bool) (n : Nat) (p : Nat → Bool) (r : Bool)
  (h1 : ∀ i, i < n → (p i = true → ∀ r, Ev (fun k => F k ((i + 1 : Nat) : Int)) r → Ev (fun k => F k (i : Int)) r) ∧ (p i = false → Ev (fun k => F k (i : Int)) false))
  (h2 : (List.range n).all p = true → Ev (fun k => F k (n : Int)) r) (h3 : (List.range n).all p = false → r = false) : Ev (fun k => F k 0) r := by
 by_cases ha : (List.range n).all p = true
 ·have : ∀ d i, i + d = n → Ev (fun k => F k (i : Int)) r := by
   intro d
   induction d with
   | zero =>
    intro i hi
    obtain rfl : i = n := by omega
    exact h2 ha
   | succ d ih =>
    intro i hi
    exact (h1 i (by omega)).1 ((List.all_eq_true.1 ha) i (by rw [List.mem_range]; omega)) _ (ih (i + 1) (by omega))
  exact this n 0 (by omega)
 ·have hf : (List.range n).all p = false := by simpa using ha
  rw [h3 hf]
  have : ∀ d i, i + d = n → (∃ j, i ≤ j ∧ j < n ∧ p j = false) → Ev (fun k => F k (i : Int)) false := by
   intro d
   induction d with
   | zero => rintro i hi ⟨j, h1, h2, _⟩; omega
   | succ d ih =>
    rintro i hi ⟨j, hj1, hj2, hj3⟩
    cases hp : p i with
    | false => exact (h1 i (by omega)).2 hp
    | true =>
     refine (h1 i (by omega)).1 hp _ (ih (i + 1) (by omega) ⟨j, ?_, hj2, hj3⟩)
     by_cases e : i = j
     ·subst e; rw [hp] at hj3; cases hj3
     ·omega
  refine this n 0 (by omega) ?_
  rw [List.all_eq_false] at hf
  obtain ⟨j, hj, hp⟩ := hf
  exact ⟨j, Nat.zero_le _, List.mem_range.1 hj, by simpa using hp⟩
theorem Ev.some {α : Type} (a : α) : Ev (fun _ => Option.some a) a := ⟨0, fun _ _ => rfl⟩
theorem Ev.const {α : Type} {o : Option α} {a : α} (h : o = Option.some a) : Ev (fun _ => o) a := ⟨0, fun _ _ => h⟩
theorem Ev.eq {α : Type} {g : Nat → Option α} {a b : α} (h : Ev g a) (e : a = b) : Ev g b := e ▸ h
theorem Ev.pos {α : Type} {c : Prop} [Decidable c] {g f : Nat → Option α} {r : α} (h : c) (k : Ev g r) : Ev (fun n => if c then g n else f n) r :=
 Ev.congr (fun _ => if_pos h) k
theorem Ev.neg {α : Type} {c : Prop} [Decidable c] {g f : Nat → Option α} {r : α} (h : ¬ c) (k : Ev f r) : Ev (fun n => if c then g n else f n) r :=
 Ev.congr (fun _ => if_neg h) k
theorem Ev.ite' {α : Type} {c : Prop} [Decidable c] {g f : Nat → Option α} {r : α} (k : c → Ev g r) (k' : ¬ c → Ev f r) : Ev (fun n => if c then g n else f n) r := by
 by_cases h : c
 ·exact Ev.pos h (k h)
 ·exact Ev.neg h (k' h)
theorem Ev.bindc {α β : Type} {o : Option α} {f : Nat → α → Option β} {a : α} {r : β} (h : o = Option.some a) (k : Ev (fun n => f n a) r) : Ev (fun n => o.bind (f n)) r :=
 Ev.congr (fun n => by rw [h]; rfl) k
theorem rd_lt {l : List Int} {i : Nat} (h : i < l.length) : rd l (i : Int) = l[i] := by
 simp [rd, h]
theorem wraps62 (n : Int) (h0 : 0 ≤ n) (h1 : n < 2 ^ 62) : IntKind.i64.wrap n = n := by rw [IntKind.wrap_i64]; omega
theorem bitsAnd (a b : Nat) (ha : a < 2 ^ 62) (hb : b < 2 ^ 62) : bits .and .i64 (a : Int) (b : Int) = ((a &&& b : Nat) : Int) :=
 (bits_nat .i64 62 (by decide) wraps62 a b ha hb).1
theorem bitsOr (a b : Nat) (ha : a < 2 ^ 62) (hb : b < 2 ^ 62) : bits .or .i64 (a : Int) (b : Int) = ((a ||| b : Nat) : Int) :=
 (bits_nat .i64 62 (by decide) wraps62 a b ha hb).2
theorem bitsAndNot (a b : Nat) (ha : a < 2 ^ 62) (hb : b < 2 ^ 62) : ∃ c : Nat, bits .andNot .i64 (a : Int) (b : Int) = (c : Int) ∧ ∀ z, c.testBit z = (a.testBit z && !b.testBit z) := by
 refine ⟨(BitVec.ofNat 64 a &&& ~~~(BitVec.ofNat 64 b)).toNat, ?_, ?_⟩
 ·have hlt : (BitVec.ofNat 64 a &&& ~~~(BitVec.ofNat 64 b)).toNat < 2 ^ 62 := by
   rw [BitVec.toNat_and]
   refine Nat.lt_of_le_of_lt Nat.and_le_left ?_
   rw [BitVec.toNat_ofNat, Nat.mod_eq_of_lt (by omega)]
   exact ha
  have e : bits .andNot .i64 (a : Int) (b : Int) = IntKind.i64.wrap ((BitVec.ofNat 64 a &&& ~~~(BitVec.ofNat 64 b)).toNat : Int) := by
   show IntKind.i64.wrap _ = _
   rw [BitVec.ofInt_natCast, BitVec.ofInt_natCast]
   rfl
  rw [e]
  exact wraps62 _ (Int.natCast_nonneg _) (Int.ofNat_lt.mpr hlt)
 ·intro z
  rw [BitVec.testBit_toNat, BitVec.getLsbD_and, BitVec.getLsbD_not, BitVec.getLsbD_ofNat, BitVec.getLsbD_ofNat]
  by_cases hz : z < 64
  ·simp [hz]
  ·have h1 : a.testBit z = false := Nat.testBit_lt_two_pow (Nat.lt_of_lt_of_le ha (Nat.pow_le_pow_right (by decide) (by omega)))
   simp [h1]
theorem eq0_of_bits (c : Nat) : c = 0 ↔ ∀ z, c.testBit z = false := by
 constructor
 ·rintro rfl z; simp
 ·intro h; exact Nat.eq_of_testBit_eq (fun i => by simp [h i])
theorem andNot0 (a b : Nat) (ha : a < 2 ^ 62) (hb : b < 2 ^ 62) : bits .andNot .i64 (a : Int) (b : Int) = 0 ↔ ∀ z, a.testBit z = true → b.testBit z = true := by
 obtain ⟨c, hc, h⟩ := bitsAndNot a b ha hb
 rw [hc]
 constructor
 ·intro e z hz
  have e0 : c = 0 := by omega
  have := (eq0_of_bits c).1 e0 z
  rw [h z, hz] at this
  simpa using this
 ·intro k
  have : c = 0 := (eq0_of_bits c).2 (fun z => by
   rw [h z]
   cases hz : a.testBit z with
   | false => rfl
   | true => simp [k z hz])
  omega
theorem shl1 (n : Nat) (hn : n ≤ 62) : shl .i64 1 (n : Int) = ((2 ^ n : Nat) : Int) := by
 unfold shl
 have h : 2 ^ n ≤ 2 ^ 62 := Nat.pow_le_pow_right (by decide) hn
 have e : min ((n : Int).toNat) IntKind.i64.bits = n := by
  rw [Int.toNat_natCast]; exact Nat.min_eq_left (by show n ≤ 64; omega)
 rw [e, Int.one_mul, IntKind.wrap_i64]
 have e2 : ((2 : Int) ^ n) = ((2 ^ n : Nat) : Int) := by rw [Int.natCast_pow]; rfl
 rw [e2]
 have h2 : ((2 ^ n : Nat) : Int) ≤ 4611686018427387904 := Int.ofNat_le.mpr (Nat.le_trans h (by decide))
 have h3 : (0 : Int) ≤ ((2 ^ n : Nat) : Int) := Int.natCast_nonneg _
 omega
theorem shrN (a n : Nat) (ha : a < 2 ^ 62) : shr .i64 (a : Int) (n : Int) = ((a / 2 ^ n : Nat) : Int) := by
 unfold shr
 rw [Int.toNat_natCast]
 by_cases h : n ≤ 64
 ·rw [Nat.min_eq_left (show n ≤ IntKind.i64.bits from h)]
  norm_cast
 ·rw [Nat.min_eq_right (show IntKind.i64.bits ≤ n by show 64 ≤ n; omega)]
  have e1 : a / 2 ^ n = 0 := Nat.div_eq_of_lt (Nat.lt_of_lt_of_le ha (Nat.pow_le_pow_right (by decide) (by omega)))
  have e2 : a / 2 ^ IntKind.i64.bits = 0 := Nat.div_eq_of_lt (Nat.lt_of_lt_of_le ha (Nat.pow_le_pow_right (by decide) (by decide)))
  rw [e1]
  have : ((a : Int) / 2 ^ IntKind.i64.bits) = ((a / 2 ^ IntKind.i64.bits : Nat) : Int) := by rw [Int.natCast_ediv, Int.natCast_pow]; rfl
  rw [this, e2]
theorem tmod2 (a : Nat) : Int.tmod (a : Int) 2 = ((a % 2 : Nat) : Int) := by
 rw [Int.tmod_eq_emod_of_nonneg (by omega)]; norm_cast
theorem bit_ask (a y : Nat) (ha : a < 2 ^ 62) : (Int.tmod (shr .i64 (a : Int) (y : Int)) 2 == 1) = a.testBit y := by
 rw [shrN a y ha, tmod2, Nat.testBit_eq_decide_div_mod_eq]
 by_cases h : a / 2 ^ y % 2 = 1
 ·simp [h]
 ·have h0 : a / 2 ^ y % 2 = 0 := by omega
  simp [h0]
theorem bit_ask' (a y : Nat) (ha : a < 2 ^ 62) : (Int.tmod (shr .i64 (a : Int) (y : Int)) 2 = 1) ↔ a.testBit y = true := by
 rw [← bit_ask a y ha]; simp
theorem power_l (n : Nat) : ∀ acc : Nat, n ≤ 62 → acc * 2 ^ n ≤ 2 ^ 62 → Ev (fun k => spec_power.l0 k (n : Int) (acc : Int)) ((acc * 2 ^ n : Nat) : Int) := by
 induction n with
 | zero =>
  intro acc _ h
  refine Ev.step (fun k => by simp only [spec_power.l0]; exact rfl) ?_
  refine Ev.neg (by omega) (Ev.const (by simp))
 | succ n ih =>
  intro acc hn h
  refine Ev.step (fun k => by simp only [spec_power.l0]; exact rfl) ?_
  refine Ev.pos (by omega) ?_
  have hp : 1 ≤ 2 ^ n := Nat.one_le_two_pow
  have h2 : acc * 2 ^ (n + 1) = (2 * acc) * 2 ^ n := by rw [Nat.pow_succ]; ac_rfl
  have h3 : 2 * acc ≤ (2 * acc) * 2 ^ n := Nat.le_mul_of_pos_right _ hp
  have h4 : 2 * acc ≤ 4611686018427387904 := by rw [h2] at h; exact Nat.le_trans h3 (Nat.le_trans h (by decide))
  rw [w64 (x := ((n + 1 : Nat) : Int) - 1) (by omega) (by omega), w64 (x := 2 * (acc : Int)) (by omega) (by omega)]
  have := ih (2 * acc) (by omega) (by rw [← h2]; exact h)
  rw [h2]
  have e1 : (((n + 1 : Nat) : Int) - 1) = (n : Int) := by omega
  have e2 : (2 * (acc : Int)) = ((2 * acc : Nat) : Int) := by omega
  rw [e1, e2]
  exact this
theorem power_ev (n : Nat) (hn : n ≤ 62) : Ev (fun k => spec_power.f k (n : Int)) ((2 ^ n : Nat) : Int) := by
 have := power_l n 1 hn (by rw [Nat.one_mul]; exact Nat.pow_le_pow_right (by decide) hn)
 rw [Nat.one_mul] at this
 exact this
theorem bit_ev (x j : Nat) (hx : x < 2 ^ 62) (hj : j ≤ 62) : Ev (fun k => spec_bit.f k (x : Int) (j : Int)) (if x.testBit j then 1 else 0) := by
 unfold spec_bit.f
 refine Ev.bind (power_ev j hj) ?_
 have hp : 0 < 2 ^ j := Nat.two_pow_pos j
 refine Ev.neg (by omega) (Ev.const ?_)
 have e : Int.tdiv (x : Int) ((2 ^ j : Nat) : Int) = ((x / 2 ^ j : Nat) : Int) := by
  rw [Int.tdiv_eq_ediv_of_nonneg (by omega), Int.natCast_ediv]
 have hle : x / 2 ^ j ≤ x := Nat.div_le_self _ _
 have hx' : x < 4611686018427387904 := hx
 rw [e, Nat.testBit_eq_decide_div_mod_eq]
 generalize x / 2 ^ j = q at hle ⊢
 rw [w64 (by omega) (by omega), tmod2]
 by_cases h : q % 2 = 1
 ·simp [h]
 ·have h0 : q % 2 = 0 := by omega
  simp [h0]
def le (up : List Int) (x y : Nat) : Bool := (rd up (x : Int)).toNat.testBit y
def OkR (up : List Int) : Prop := up.length ≤ 6 ∧ ∀ x, x < up.length → 0 ≤ rd up (x : Int) ∧ rd up (x : Int) < ((2 ^ up.length : Nat) : Int)
theorem OkR.lt {up : List Int} (h : OkR up) {x : Nat} (hx : x < up.length) : 0 ≤ rd up (x : Int) ∧ (rd up (x : Int)).toNat < 64 := by
 obtain ⟨h0, h1⟩ := h.2 x hx
 have : 2 ^ up.length ≤ 2 ^ 6 := Nat.pow_le_pow_right (by decide) h.1
 omega
theorem OkR.big {up : List Int} (h : OkR up) {x y : Nat} (hx : x < up.length) (hy : le up x y = true) : y < up.length := by
 obtain ⟨h0, h1⟩ := h.2 x hx
 refine Classical.byContradiction fun hc => ?_
 have hlt : (rd up (x : Int)).toNat < 2 ^ up.length := by omega
 have : (rd up (x : Int)).toNat.testBit y = false := Nat.testBit_lt_two_pow (Nat.lt_of_lt_of_le hlt (Nat.pow_le_pow_right (by decide) (by omega)))
 rw [le, this] at hy
 cases hy
theorem spec_below_ev {up : List Int} (h : OkR up) {x y : Nat} (hx : x < up.length) (hy : y ≤ 62) : Ev (fun k => spec_below.f k up (x : Int) (y : Int)) (le up x y) := by
 unfold spec_below.f
 obtain ⟨h0, h1⟩ := h.lt hx
 refine Ev.pos (by omega) (Ev.pos (by omega) ?_)
 have e : rd up (x : Int) = (((rd up (x : Int)).toNat : Nat) : Int) := by omega
 have hb := bit_ev (rd up (x : Int)).toNat y (by omega) hy
 rw [← e] at hb
 refine Ev.bind hb (Ev.const ?_)
 unfold le
 cases (rd up (x : Int)).toNat.testBit y <;> rfl
theorem impl_below_eq {up : List Int} (h : OkR up) {x y : Nat} (hx : x < up.length) : impl_below.f up (x : Int) (y : Int) = some (le up x y) := by
 unfold impl_below.f
 obtain ⟨h0, h1⟩ := h.lt hx
 rw [if_pos (by omega), if_pos (by omega), if_pos (by omega)]
 have e : rd up (x : Int) = (((rd up (x : Int)).toNat : Nat) : Int) := by omega
 rw [e, bit_ask _ y (by omega)]
 rfl
def firstN (n : Nat) (p : Nat → Bool) : Int := runL (fun z => if p z then some (z : Int) else none) (-1) n 0
def isMeet (up : List Int) (x y z : Nat) : Bool := le up z x && le up z y && (List.range up.length).all fun w => !(le up w x) || !(le up w y) || le up w z
def isJoin (up : List Int) (x y z : Nat) : Bool := le up x z && le up y z && (List.range up.length).all fun w => !(le up x w) || !(le up y w) || le up z w
def meetM (up : List Int) (x y : Nat) : Int := firstN up.length (isMeet up x y)
def joinM (up : List Int) (x y : Nat) : Int := firstN up.length (isJoin up x y)
theorem all_step (p : Nat → Bool) (i d : Nat) : ((List.range (d + 1)).all fun j => p (i + j)) = (p i && (List.range d).all fun j => p (i + 1 + j)) := by
 rw [List.range_succ_eq_map, List.all_cons, List.all_map]
 simp [Function.comp_def, Nat.add_assoc, Nat.add_comm 1]
theorem spec_meet_l1 {up : List Int} (h : OkR up) {x y z : Nat} (hx : x < up.length) (hy : y < up.length) (hz : z < up.length) (r : Int) :
  ∀ d w ok, w + d = up.length →
   ((ok && (List.range d).all fun j => !(le up (w + j) x) || !(le up (w + j) y) || le up (w + j) z) = true → r = (z : Int)) →
   ((ok && (List.range d).all fun j => !(le up (w + j) x) || !(le up (w + j) y) || le up (w + j) z) = false → Ev (fun k => spec_meet.l0 k up (x : Int) (y : Int) ((z + 1 : Nat) : Int)) r) →
   Ev (fun k => spec_meet.l1 k up (x : Int) (y : Int) (z : Int) ok (w : Int)) r := by
 have h6 := h.1
 intro d
 induction d with
 | zero =>
  intro w ok hw h1 h2
  refine Ev.step (fun k => by simp only [spec_meet.l1]; exact rfl) ?_
  refine Ev.neg (by omega) ?_
  refine Ev.step (fun k => by simp only [spec_meet.j3]; exact rfl) ?_
  refine Ev.neg (by decide) ?_
  cases ok with
  | true =>
   refine Ev.pos rfl ?_
   have := h1 (by simp)
   subst this
   exact Ev.some _
  | false =>
   refine Ev.neg (by decide) ?_
   rw [w64s hz (by omega)]
   exact h2 (by simp)
 | succ d ih =>
  intro w ok hw h1 h2
  rw [all_step (fun j => !(le up j x) || !(le up j y) || le up j z)] at h1 h2
  refine Ev.step (fun k => by simp only [spec_meet.l1]; exact rfl) ?_
  refine Ev.pos (by omega) ?_
  refine Ev.step (fun k => by simp only [spec_meet.j3]; exact rfl) ?_
  cases ok with
  | false =>
   refine Ev.neg (by decide) (Ev.neg (by decide) ?_)
   rw [w64s hz (by omega)]
   exact h2 (by simp)
  | true =>
   refine Ev.pos rfl ?_
   have hw' : w < up.length := by omega
   have hs := fun b (hb : b = (!(le up w x) || !(le up w y) || le up w z)) => ih (w + 1) b (by omega) (by rw [hb]; simpa using h1) (by rw [hb]; simpa using h2)
   refine Ev.bind (spec_below_ev h hw' (by omega)) ?_
   cases hA : le up w x with
   | false =>
    refine Ev.neg (by decide) ?_
    rw [w64s hw' (by omega)]
    exact hs true (by rw [hA]; rfl)
   | true =>
    refine Ev.pos rfl (Ev.bind (spec_below_ev h hw' (by omega)) ?_)
    cases hB : le up w y with
    | false =>
     refine Ev.neg (by decide) ?_
     rw [w64s hw' (by omega)]
     exact hs true (by rw [hA, hB]; rfl)
    | true =>
     refine Ev.pos rfl (Ev.bind (spec_below_ev h hw' (by omega)) ?_)
     rw [w64s hw' (by omega)]
     exact hs _ (by rw [hA, hB]; rfl)
theorem spec_meet_ev {up : List Int} (h : OkR up) {x y : Nat} (hx : x < up.length) (hy : y < up.length) : Ev (fun k => spec_meet.f k up (x : Int) (y : Int)) (meetM up x y) := by
 have h6 := h.1
 unfold spec_meet.f meetM firstN
 refine ev_run (fun k i => spec_meet.l0 k up (x : Int) (y : Int) i) up.length _ (-1) ?_ ?_ up.length 0 (by omega)
 ·intro z hz
  have key : ∀ r, (isMeet up x y z = true → r = (z : Int)) → (isMeet up x y z = false → Ev (fun k => spec_meet.l0 k up (x : Int) (y : Int) ((z + 1 : Nat) : Int)) r) → Ev (fun k => spec_meet.l0 k up (x : Int) (y : Int) (z : Int)) r := by
   intro r h1 h2
   refine Ev.step (fun k => by simp only [spec_meet.l0]; exact rfl) ?_
   refine Ev.pos (by omega) ?_
   have hl := fun ok (hb : ok = (le up z x && le up z y)) => spec_meet_l1 h hx hy hz r up.length 0 ok (by omega) (by rw [hb]; simpa [isMeet] using h1) (by rw [hb]; simpa [isMeet] using h2)
   refine Ev.bind (spec_below_ev h hz (by omega)) ?_
   cases hA : le up z x with
   | false =>
    refine Ev.neg (by decide) (Ev.step (fun k => by simp only [spec_meet.j1]; exact rfl) ?_)
    exact hl false (by rw [hA]; rfl)
   | true =>
    refine Ev.pos rfl (Ev.bind (spec_below_ev h hz (by omega)) (Ev.step (fun k => by simp only [spec_meet.j1]; exact rfl) ?_))
    exact hl _ (by rw [hA]; rfl)
  cases hm : isMeet up x y z with
  | true =>
   refine ⟨fun a ha => ?_, fun ha => by simp at ha⟩
   obtain rfl : (z : Int) = a := by simpa using ha
   exact key _ (fun _ => rfl) (fun e => by rw [hm] at e; cases e)
  | false =>
   refine ⟨fun a ha => by simp at ha, fun _ r hr => key r (fun e => by rw [hm] at e; cases e) (fun _ => hr)⟩
 ·refine Ev.step (fun k => by simp only [spec_meet.l0]; exact rfl) ?_
  exact Ev.neg (by omega) (Ev.some _)
theorem spec_join_l1 {up : List Int} (h : OkR up) {x y z : Nat} (hx : x < up.length) (hy : y < up.length) (hz : z < up.length) (r : Int) :
  ∀ d w ok, w + d = up.length →
   ((ok && (List.range d).all fun j => !(le up x (w + j)) || !(le up y (w + j)) || le up z (w + j)) = true → r = (z : Int)) →
   ((ok && (List.range d).all fun j => !(le up x (w + j)) || !(le up y (w + j)) || le up z (w + j)) = false → Ev (fun k => spec_join.l0 k up (x : Int) (y : Int) ((z + 1 : Nat) : Int)) r) →
   Ev (fun k => spec_join.l1 k up (x : Int) (y : Int) (z : Int) ok (w : Int)) r := by
 have h6 := h.1
 intro d
 induction d with
 | zero =>
  intro w ok hw h1 h2
  refine Ev.step (fun k => by simp only [spec_join.l1]; exact rfl) ?_
  refine Ev.neg (by omega) ?_
  refine Ev.step (fun k => by simp only [spec_join.j3]; exact rfl) ?_
  refine Ev.neg (by decide) ?_
  cases ok with
  | true =>
   refine Ev.pos rfl ?_
   have := h1 (by simp)
   subst this
   exact Ev.some _
  | false =>
   refine Ev.neg (by decide) ?_
   rw [w64s hz (by omega)]
   exact h2 (by simp)
 | succ d ih =>
  intro w ok hw h1 h2
  rw [all_step (fun j => !(le up x j) || !(le up y j) || le up z j)] at h1 h2
  refine Ev.step (fun k => by simp only [spec_join.l1]; exact rfl) ?_
  refine Ev.pos (by omega) ?_
  refine Ev.step (fun k => by simp only [spec_join.j3]; exact rfl) ?_
  cases ok with
  | false =>
   refine Ev.neg (by decide) (Ev.neg (by decide) ?_)
   rw [w64s hz (by omega)]
   exact h2 (by simp)
  | true =>
   refine Ev.pos rfl ?_
   have hw' : w < up.length := by omega
   have hs := fun b (hb : b = (!(le up x w) || !(le up y w) || le up z w)) => ih (w + 1) b (by omega) (by rw [hb]; simpa using h1) (by rw [hb]; simpa using h2)
   refine Ev.bind (spec_below_ev h hx (by omega)) ?_
   cases hA : le up x w with
   | false =>
    refine Ev.neg (by decide) ?_
    rw [w64s hw' (by omega)]
    exact hs true (by rw [hA]; rfl)
   | true =>
    refine Ev.pos rfl (Ev.bind (spec_below_ev h hy (by omega)) ?_)
    cases hB : le up y w with
    | false =>
     refine Ev.neg (by decide) ?_
     rw [w64s hw' (by omega)]
     exact hs true (by rw [hA, hB]; rfl)
    | true =>
     refine Ev.pos rfl (Ev.bind (spec_below_ev h hz (by omega)) ?_)
     rw [w64s hw' (by omega)]
     exact hs _ (by rw [hA, hB]; rfl)
theorem spec_join_ev {up : List Int} (h : OkR up) {x y : Nat} (hx : x < up.length) (hy : y < up.length) : Ev (fun k => spec_join.f k up (x : Int) (y : Int)) (joinM up x y) := by
 have h6 := h.1
 unfold spec_join.f joinM firstN
 refine ev_run (fun k i => spec_join.l0 k up (x : Int) (y : Int) i) up.length _ (-1) ?_ ?_ up.length 0 (by omega)
 ·intro z hz
  have key : ∀ r, (isJoin up x y z = true → r = (z : Int)) → (isJoin up x y z = false → Ev (fun k => spec_join.l0 k up (x : Int) (y : Int) ((z + 1 : Nat) : Int)) r) → Ev (fun k => spec_join.l0 k up (x : Int) (y : Int) (z : Int)) r := by
   intro r h1 h2
   refine Ev.step (fun k => by simp only [spec_join.l0]; exact rfl) ?_
   refine Ev.pos (by omega) ?_
   have hl := fun ok (hb : ok = (le up x z && le up y z)) => spec_join_l1 h hx hy hz r up.length 0 ok (by omega) (by rw [hb]; simpa [isJoin] using h1) (by rw [hb]; simpa [isJoin] using h2)
   refine Ev.bind (spec_below_ev h hx (by omega)) ?_
   cases hA : le up x z with
   | false =>
    refine Ev.neg (by decide) (Ev.step (fun k => by simp only [spec_join.j1]; exact rfl) ?_)
    exact hl false (by rw [hA]; rfl)
   | true =>
    refine Ev.pos rfl (Ev.bind (spec_below_ev h hy (by omega)) (Ev.step (fun k => by simp only [spec_join.j1]; exact rfl) ?_))
    exact hl _ (by rw [hA]; rfl)
  cases hm : isJoin up x y z with
  | true =>
   refine ⟨fun a ha => ?_, fun ha => by simp at ha⟩
   obtain rfl : (z : Int) = a := by simpa using ha
   exact key _ (fun _ => rfl) (fun e => by rw [hm] at e; cases e)
  | false =>
   refine ⟨fun a ha => by simp at ha, fun _ r hr => key r (fun e => by rw [hm] at e; cases e) (fun _ => hr)⟩
 ·refine Ev.step (fun k => by simp only [spec_join.l0]; exact rfl) ?_
  exact Ev.neg (by omega) (Ev.some _)
theorem impl_meet_l1 {up : List Int} (h : OkR up) {x y z : Nat} (hx : x < up.length) (hy : y < up.length) (hz : z < up.length) (r : Int) :
  ∀ d w ok, w + d = up.length →
   ((ok && (List.range d).all fun j => !(le up (w + j) x) || !(le up (w + j) y) || le up (w + j) z) = true → r = (z : Int)) →
   ((ok && (List.range d).all fun j => !(le up (w + j) x) || !(le up (w + j) y) || le up (w + j) z) = false → Ev (fun k => impl_meet.l0 k up (x : Int) (y : Int) (up.length : Int) ((z + 1 : Nat) : Int)) r) →
   Ev (fun k => impl_meet.l1 k up (x : Int) (y : Int) (z : Int) ok (up.length : Int) (z : Int) (up.length : Int) (w : Int)) r := by
 have h6 := h.1
 intro d
 induction d with
 | zero =>
  intro w ok hw h1 h2
  refine Ev.step (fun k => by simp only [impl_meet.l1]; exact rfl) ?_
  refine Ev.neg (by omega) ?_
  cases ok with
  | true =>
   refine Ev.pos rfl ?_
   have := h1 (by simp)
   subst this
   exact Ev.some _
  | false =>
   refine Ev.neg (by decide) ?_
   rw [w64s hz (by omega)]
   exact h2 (by simp)
 | succ d ih =>
  intro w ok hw h1 h2
  rw [all_step (fun j => !(le up j x) || !(le up j y) || le up j z)] at h1 h2
  refine Ev.step (fun k => by simp only [impl_meet.l1]; exact rfl) ?_
  refine Ev.pos (by omega) ?_
  have hw' : w < up.length := by omega
  have hs := fun b (hb : b = (ok && (!(le up w x) || !(le up w y) || le up w z))) => ih (w + 1) b (by omega) (by rw [hb, Bool.and_assoc]; exact h1) (by rw [hb, Bool.and_assoc]; exact h2)
  cases ok with
  | false =>
   refine Ev.neg (by decide) ?_
   rw [w64s hw' (by omega)]
   exact hs false rfl
  | true =>
   refine Ev.pos rfl ?_
   refine Ev.bindc (impl_below_eq h hw') ?_
   cases hA : le up w x with
   | false =>
    refine Ev.neg (by decide) ?_
    rw [w64s hw' (by omega)]
    exact hs true (by rw [hA]; rfl)
   | true =>
    refine Ev.pos rfl (Ev.bindc (impl_below_eq h hw') ?_)
    cases hB : le up w y with
    | false =>
     refine Ev.neg (by decide) ?_
     rw [w64s hw' (by omega)]
     exact hs true (by rw [hA, hB]; rfl)
    | true =>
     refine Ev.pos rfl (Ev.bindc (impl_below_eq h hw') ?_)
     rw [w64s hw' (by omega)]
     exact hs _ (by rw [hA, hB]; rfl)
theorem impl_meet_ev {up : List Int} (h : OkR up) {x y : Nat} (hx : x < up.length) (hy : y < up.length) : Ev (fun k => impl_meet.f k up (x : Int) (y : Int)) (meetM up x y) := by
 have h6 := h.1
 unfold impl_meet.f meetM firstN
 refine ev_run (fun k i => impl_meet.l0 k up (x : Int) (y : Int) (up.length : Int) i) up.length _ (-1) ?_ ?_ up.length 0 (by omega)
 ·intro z hz
  have key : ∀ r, (isMeet up x y z = true → r = (z : Int)) → (isMeet up x y z = false → Ev (fun k => impl_meet.l0 k up (x : Int) (y : Int) (up.length : Int) ((z + 1 : Nat) : Int)) r) → Ev (fun k => impl_meet.l0 k up (x : Int) (y : Int) (up.length : Int) (z : Int)) r := by
   intro r h1 h2
   refine Ev.step (fun k => by simp only [impl_meet.l0]; exact rfl) ?_
   refine Ev.pos (by omega) ?_
   have hno : (le up z x && le up z y) = false → Ev (fun k => impl_meet.j1 k up (x : Int) (y : Int) (z : Int) (up.length : Int) (z : Int) true) r := by
    intro e
    refine Ev.step (fun k => by simp only [impl_meet.j1]; exact rfl) ?_
    refine Ev.pos trivial ?_
    rw [w64s hz (by omega)]
    exact h2 (by rw [isMeet, e]; rfl)
   refine Ev.bindc (impl_below_eq h hz) ?_
   cases hA : le up z x with
   | false =>
    refine Ev.neg (by decide) ?_
    exact hno (by rw [hA]; rfl)
   | true =>
    refine Ev.pos rfl (Ev.bindc (impl_below_eq h hz) ?_)
    cases hB : le up z y with
    | false => exact hno (by rw [hA, hB]; rfl)
    | true =>
     refine Ev.step (fun k => by simp only [impl_meet.j1]; exact rfl) ?_
     refine Ev.neg (by decide) ?_
     exact impl_meet_l1 h hx hy hz r up.length 0 true (by omega) (by simpa [isMeet, hA, hB] using h1) (by simpa [isMeet, hA, hB] using h2)
  cases hm : isMeet up x y z with
  | true =>
   refine ⟨fun a ha => ?_, fun ha => by simp at ha⟩
   obtain rfl : (z : Int) = a := by simpa using ha
   exact key _ (fun _ => rfl) (fun e => by rw [hm] at e; cases e)
  | false =>
   refine ⟨fun a ha => by simp at ha, fun _ r hr => key r (fun e => by rw [hm] at e; cases e) (fun _ => hr)⟩
 ·refine Ev.step (fun k => by simp only [impl_meet.l0]; exact rfl) ?_
  exact Ev.neg (by omega) (Ev.some _)
theorem impl_join_ev {up : List Int} (h : OkR up) {x y : Nat} (hx : x < up.length) (hy : y < up.length) : Ev (fun k => impl_join.f k up (x : Int) (y : Int)) (joinM up x y) := by
 have h6 := h.1
 unfold impl_join.f joinM firstN
 refine Ev.pos (by omega) (Ev.pos (by omega) (Ev.pos (by omega) (Ev.pos (by omega) ?_)))
 obtain ⟨hx0, hx1⟩ := h.lt hx
 obtain ⟨hy0, hy1⟩ := h.lt hy
 have eb : bits .and .i64 (rd up (x : Int)) (rd up (y : Int)) = (((rd up (x : Int)).toNat &&& (rd up (y : Int)).toNat : Nat) : Int) := by
  have := bitsAnd (rd up (x : Int)).toNat (rd up (y : Int)).toNat (by omega) (by omega)
  rwa [Int.toNat_of_nonneg hx0, Int.toNat_of_nonneg hy0] at this
 rw [eb]
 have hb : ((rd up (x : Int)).toNat &&& (rd up (y : Int)).toNat) < 64 := Nat.lt_of_le_of_lt Nat.and_le_left hx1
 have hbit : ∀ z, ((rd up (x : Int)).toNat &&& (rd up (y : Int)).toNat).testBit z = (le up x z && le up y z) := fun z => by rw [Nat.testBit_and]; rfl
 generalize (rd up (x : Int)).toNat &&& (rd up (y : Int)).toNat = both at hb hbit
 refine ev_run (fun k i => impl_join.l0 k up (both : Int) (up.length : Int) i) up.length _ (-1) ?_ ?_ up.length 0 (by omega)
 ·intro z hz
  have key : ∀ r, (isJoin up x y z = true → r = (z : Int)) → (isJoin up x y z = false → Ev (fun k => impl_join.l0 k up (both : Int) (up.length : Int) ((z + 1 : Nat) : Int)) r) → Ev (fun k => impl_join.l0 k up (both : Int) (up.length : Int) (z : Int)) r := by
   intro r h1 h2
   refine Ev.step (fun k => by simp only [impl_join.l0]; exact rfl) ?_
   refine Ev.pos (by omega) (Ev.pos (by omega) ?_)
   obtain ⟨hz0, hz1⟩ := h.lt hz
   have ez : rd up (z : Int) = (((rd up (z : Int)).toNat : Nat) : Int) := by omega
   by_cases c1 : both.testBit z = true
   ·refine Ev.pos ((bit_ask' both z (by omega)).2 c1) (Ev.pos (by omega) ?_)
    have c0 : (le up x z && le up y z) = true := by rw [← hbit]; exact c1
    have hall : bits .andNot .i64 (both : Int) (rd up (z : Int)) = 0 ↔ ((List.range up.length).all fun w => !(le up x w) || !(le up y w) || le up z w) = true := by
     rw [ez, andNot0 both _ (by omega) (by omega), List.all_eq_true]
     constructor
     ·intro k w _
      cases e1 : le up x w with
      | false => rfl
      | true =>
       cases e2 : le up y w with
       | false => rfl
       | true =>
        have : le up z w = true := k w (by rw [hbit, e1, e2]; rfl)
        rw [this]; rfl
     ·intro k w hw
      rw [hbit, Bool.and_eq_true] at hw
      have := k w (List.mem_range.2 (h.big hx hw.1))
      rw [hw.1, hw.2] at this
      show le up z w = true
      simpa using this
    by_cases c2 : bits .andNot .i64 (both : Int) (rd up (z : Int)) = 0
    ·refine Ev.pos c2 ?_
     rw [h1 (by rw [isJoin, c0, hall.1 c2]; rfl)]
     exact Ev.some _
    ·refine Ev.neg c2 ?_
     rw [w64s hz (by omega)]
     refine h2 ?_
     rw [isJoin, c0, Bool.true_and]
     cases e : ((List.range up.length).all fun w => !(le up x w) || !(le up y w) || le up z w) with
     | false => rfl
     | true => exact absurd (hall.2 e) c2
   ·refine Ev.neg (fun e => c1 ((bit_ask' both z (by omega)).1 e)) ?_
    rw [w64s hz (by omega)]
    refine h2 ?_
    rw [isJoin]
    have : (le up x z && le up y z) = false := by rw [← hbit]; simpa using c1
    rw [this]; rfl
  cases hm : isJoin up x y z with
  | true =>
   refine ⟨fun a ha => ?_, fun ha => by simp at ha⟩
   obtain rfl : (z : Int) = a := by simpa using ha
   exact key _ (fun _ => rfl) (fun e => by rw [hm] at e; cases e)
  | false =>
   refine ⟨fun a ha => by simp at ha, fun _ r hr => key r (fun e => by rw [hm] at e; cases e) (fun _ => hr)⟩
 ·refine Ev.step (fun k => by simp only [impl_join.l0]; exact rfl) ?_
  exact Ev.neg (by omega) (Ev.some _)
theorem inRange_eq (a b c : Int) : spec_inRange.f a b c = some (decide (b ≤ a ∧ a ≤ c)) := by
 unfold spec_inRange.f
 by_cases h : b ≤ a
 ·rw [if_pos h]; simp [h]
 ·rw [if_neg h]; simp [h]
theorem within_eq' (a b c : Int) : impl_within.f a b c = some (decide (b ≤ a ∧ a ≤ c)) := by
 unfold impl_within.f
 by_cases h : a ≥ b
 ·rw [if_pos h]; have : b ≤ a := h; simp [this]
 ·rw [if_neg h]; have : ¬ b ≤ a := h; simp [this]
def okB (up : List Int) : Bool := (List.range up.length).all fun x => decide (0 ≤ rd up (x : Int) ∧ rd up (x : Int) ≤ ((2 ^ up.length : Nat) : Int) - 1)
theorem okB_iff {up : List Int} (h6 : up.length ≤ 6) : okB up = true ↔ OkR up := by
 unfold okB OkR
 rw [List.all_eq_true]
 constructor
 ·intro h
  refine ⟨h6, fun x hx => ?_⟩
  have := of_decide_eq_true (h x (List.mem_range.2 hx))
  omega
 ·intro h x hx
  have := h.2 x (List.mem_range.1 hx)
  exact decide_eq_true (by omega)
def allN (n : Nat) (p : Nat → Bool) : Bool := (List.range n).all p
theorem allN_iff {n : Nat} {p : Nat → Bool} : allN n p = true ↔ ∀ i, i < n → p i = true := by
 unfold allN; rw [List.all_eq_true]
 exact ⟨fun h i hi => h i (List.mem_range.2 hi), fun h i hi => h i (List.mem_range.1 hi)⟩
def ordB (up : List Int) : Bool := allN up.length fun x => (le up x x && le up 0 x && le up x (up.length - 1)) &&
 allN up.length fun y => !(!(decide (x = y)) && le up x y && le up y x) && allN up.length fun z => !(le up x y && le up y z && !(le up x z))
def bothB (up : List Int) : Bool := allN up.length fun x => allN up.length fun y => decide (0 ≤ meetM up x y) && decide (0 ≤ joinM up x y)
def latB (up : List Int) : Bool := decide (1 ≤ up.length ∧ up.length ≤ 6) && okB up && ordB up && bothB up
theorem spec_order_ev {up : List Int} (h : OkR up) (h1 : 1 ≤ up.length) : Ev (fun k => spec_validOrder.l1 k up (up.length : Int) 0) (ordB up) := by
 have h6 := h.1
 refine ev_no (fun k i => spec_validOrder.l1 k up (up.length : Int) i) up.length _ _ ?_ ?_ (fun e => e)
 ·intro x hx
  -- behind the first test
  have inner : ∀ r, ((allN up.length fun y => !(!(decide (x = y)) && le up x y && le up y x) && allN up.length fun z => !(le up x y && le up y z && !(le up x z))) = true → Ev (fun k => spec_validOrder.l1 k up (up.length : Int) ((x + 1 : Nat) : Int)) r) →
    ((allN up.length fun y => !(!(decide (x = y)) && le up x y && le up y x) && allN up.length fun z => !(le up x y && le up y z && !(le up x z))) = false → r = false) →
    Ev (fun k => spec_validOrder.l2 k up (up.length : Int) (x : Int) 0) r := by
   intro r k1 k2
   refine ev_no (fun k i => spec_validOrder.l2 k up (up.length : Int) (x : Int) i) up.length _ _ ?_ (fun e => ?_) k2
   ·intro y hy
    have third : ∀ r, ((allN up.length fun z => !(le up x y && le up y z && !(le up x z))) = true → Ev (fun k => spec_validOrder.l2 k up (up.length : Int) (x : Int) ((y + 1 : Nat) : Int)) r) →
      ((allN up.length fun z => !(le up x y && le up y z && !(le up x z))) = false → r = false) →
      Ev (fun k => spec_validOrder.l3 k up (up.length : Int) (x : Int) (y : Int) 0) r := by
     intro r q1 q2
     refine ev_no (fun k i => spec_validOrder.l3 k up (up.length : Int) (x : Int) (y : Int) i) up.length _ _ ?_ (fun e => ?_) q2
     ·intro z hz
      constructor
      ·intro hp r hr
       refine Ev.step (fun k => by simp only [spec_validOrder.l3]; exact rfl) ?_
       refine Ev.pos (by omega) ?_
       refine Ev.bind (spec_below_ev h hx (by omega)) ?_
       rw [w64s hz (by omega)]
       cases hA : le up x y with
       | false => exact Ev.neg (by decide) hr
       | true =>
        refine Ev.pos rfl (Ev.bind (spec_below_ev h hy (by omega)) ?_)
        cases hB : le up y z with
        | false => exact Ev.neg (by decide) hr
        | true =>
         refine Ev.pos rfl (Ev.bind (spec_below_ev h hx (by omega)) ?_)
         rw [hA, hB] at hp
         have hC : le up x z = true := by simpa using hp
         rw [hC]
         exact Ev.pos rfl hr
      ·intro hp
       have hp' : le up x y = true ∧ le up y z = true ∧ le up x z = false := by
        cases hA : le up x y <;> cases hB : le up y z <;> cases hC : le up x z <;> simp [hA, hB, hC] at hp ⊢
       refine Ev.step (fun k => by simp only [spec_validOrder.l3]; exact rfl) ?_
       refine Ev.pos (by omega) ?_
       refine Ev.bind (spec_below_ev h hx (by omega)) ?_
       rw [hp'.1]
       refine Ev.pos rfl (Ev.bind (spec_below_ev h hy (by omega)) ?_)
       rw [hp'.2.1]
       refine Ev.pos rfl (Ev.bind (spec_below_ev h hx (by omega)) ?_)
       rw [hp'.2.2]
       exact Ev.neg (by decide) (Ev.some _)
     ·refine Ev.step (fun k => by simp only [spec_validOrder.l3]; exact rfl) ?_
      refine Ev.neg (by omega) ?_
      rw [w64s hy (by omega)]
      exact q1 e
    have second : ∀ r, (!(decide (x = y)) && le up x y && le up y x) = false → Ev (fun k => spec_validOrder.l3 k up (up.length : Int) (x : Int) (y : Int) 0) r → Ev (fun k => spec_validOrder.l2 k up (up.length : Int) (x : Int) (y : Int)) r := by
     intro r hb hr
     have hj : Ev (fun k => spec_validOrder.j4 k up (up.length : Int) (x : Int) (y : Int) false) r := by
      refine Ev.step (fun k => by simp only [spec_validOrder.j4]; exact rfl) ?_
      exact Ev.neg (by decide) hr
     refine Ev.step (fun k => by simp only [spec_validOrder.l2]; exact rfl) ?_
     refine Ev.pos (by omega) ?_
     by_cases exy : x = y
     ·exact Ev.pos (by omega) hj
     ·refine Ev.neg (by omega) (Ev.bind (spec_below_ev h hx (by omega)) ?_)
      cases hA : le up x y with
      | false => exact Ev.neg (by decide) hj
      | true =>
       refine Ev.pos rfl (Ev.bind (spec_below_ev h hy (by omega)) ?_)
       have : le up y x = false := by simpa [exy, hA] using hb
       rw [this]
       exact hj
    constructor
    ·intro hp r hr
     rw [Bool.and_eq_true] at hp
     exact second r (by have hq := hp.1; rw [Bool.not_eq_true'] at hq; exact hq) (third r (fun _ => hr) (fun e => by rw [hp.2] at e; cases e))
    ·intro hp
     cases hb : (!(decide (x = y)) && le up x y && le up y x) with
     | false =>
      rw [hb] at hp
      exact second _ hb (third _ (fun e => by rw [e] at hp; cases hp) (fun _ => rfl))
     | true =>
      rw [Bool.and_eq_true, Bool.and_eq_true] at hb
      obtain ⟨⟨e1, e2⟩, e3⟩ := hb
      have exy : ¬ x = y := by simpa using e1
      refine Ev.step (fun k => by simp only [spec_validOrder.l2]; exact rfl) ?_
      refine Ev.pos (by omega) (Ev.neg (by omega) (Ev.bind (spec_below_ev h hx (by omega)) ?_))
      rw [e2]
      refine Ev.pos rfl (Ev.bind (spec_below_ev h hy (by omega)) ?_)
      rw [e3]
      refine Ev.step (fun k => by simp only [spec_validOrder.j4]; exact rfl) ?_
      exact Ev.pos (by first | rfl | trivial) (Ev.some _)
   ·refine Ev.step (fun k => by simp only [spec_validOrder.l2]; exact rfl) ?_
    refine Ev.neg (by omega) ?_
    rw [w64s hx (by omega)]
    exact k1 e
  have first : ∀ r, (le up x x && le up 0 x && le up x (up.length - 1)) = true → Ev (fun k => spec_validOrder.l2 k up (up.length : Int) (x : Int) 0) r → Ev (fun k => spec_validOrder.l1 k up (up.length : Int) (x : Int)) r := by
   intro r hb hr
   rw [Bool.and_eq_true, Bool.and_eq_true] at hb
   obtain ⟨⟨e1, e2⟩, e3⟩ := hb
   refine Ev.step (fun k => by simp only [spec_validOrder.l1]; exact rfl) ?_
   refine Ev.pos (by omega) (Ev.bind (spec_below_ev h hx (by omega)) ?_)
   rw [e1]
   refine Ev.pos rfl (Ev.bind (spec_below_ev (x := 0) h (by omega) (by omega)) ?_)
   rw [e2]
   rw [show wrap64 ((up.length : Int) - 1) = ((up.length - 1 : Nat) : Int) by rw [w64 (by omega) (by omega)]; omega]
   refine Ev.pos rfl (Ev.bind (spec_below_ev h hx (by omega)) ?_)
   rw [e3]
   refine Ev.step (fun k => by simp only [spec_validOrder.j2]; exact rfl) ?_
   exact Ev.neg (by decide) hr
  constructor
  ·intro hp r hr
   rw [Bool.and_eq_true] at hp
   exact first r hp.1 (inner r (fun _ => hr) (fun e => by rw [hp.2] at e; cases e))
  ·intro hp
   cases hb : (le up x x && le up 0 x && le up x (up.length - 1)) with
   | true =>
    rw [hb] at hp
    exact first _ hb (inner _ (fun e => by rw [e] at hp; cases hp) (fun _ => rfl))
   | false =>
    have hj : Ev (fun k => spec_validOrder.j2 k up (up.length : Int) (x : Int) true) false := by
     refine Ev.step (fun k => by simp only [spec_validOrder.j2]; exact rfl) ?_
     exact Ev.pos (by first | rfl | trivial) (Ev.some _)
    refine Ev.step (fun k => by simp only [spec_validOrder.l1]; exact rfl) ?_
    refine Ev.pos (by omega) (Ev.bind (spec_below_ev h hx (by omega)) ?_)
    cases e1 : le up x x with
    | false => exact Ev.neg (by decide) hj
    | true =>
     refine Ev.pos rfl (Ev.bind (spec_below_ev (x := 0) h (by omega) (by omega)) ?_)
     cases e2 : le up 0 x with
     | false => exact Ev.neg (by decide) hj
     | true =>
      rw [show wrap64 ((up.length : Int) - 1) = ((up.length - 1 : Nat) : Int) by rw [w64 (by omega) (by omega)]; omega]
      refine Ev.pos rfl (Ev.bind (spec_below_ev h hx (by omega)) ?_)
      rw [e1, e2] at hb
      have e3 : le up x (up.length - 1) = false := by simpa using hb
      rw [e3]
      exact hj
 ·intro e
  refine Ev.step (fun k => by simp only [spec_validOrder.l1]; exact rfl) ?_
  refine Ev.neg (by omega) ?_
  rw [show ordB up = true from e]
  exact Ev.some _
theorem spec_validOrder_ev (up : List Int) (hl : up.length ≤ 17592186044416) : Ev (fun k => spec_validOrder.f k up) (decide (1 ≤ up.length ∧ up.length ≤ 6) && okB up && ordB up) := by
 unfold spec_validOrder.f
 refine Ev.bindc (inRange_eq _ _ _) ?_
 by_cases hn : 1 ≤ up.length ∧ up.length ≤ 6
 ·rw [show decide ((1 : Int) ≤ (up.length : Int) ∧ (up.length : Int) ≤ 6) = true from decide_eq_true (by omega), show decide (1 ≤ up.length ∧ up.length ≤ 6) = true from decide_eq_true hn]
  refine Ev.pos rfl ?_
  refine ev_no (fun k i => spec_validOrder.l0 k up (up.length : Int) i) up.length (fun x => decide (0 ≤ rd up (x : Int) ∧ rd up (x : Int) ≤ ((2 ^ up.length : Nat) : Int) - 1)) _ ?_ ?_ ?_
  ·intro x hx
   have hp := power_ev up.length (by omega)
   have h64 : 2 ^ up.length ≤ 2 ^ 6 := Nat.pow_le_pow_right (by decide) hn.2
   have h0 : 0 < 2 ^ up.length := Nat.two_pow_pos _
   constructor
   ·intro hq r hr
    refine Ev.step (fun k => by simp only [spec_validOrder.l0]; exact rfl) ?_
    refine Ev.pos (by omega) (Ev.pos (by omega) (Ev.pos (by omega) (Ev.bind hp ?_)))
    rw [w64 (x := ((2 ^ up.length : Nat) : Int) - 1) (by omega) (by omega)]
    refine Ev.bindc (inRange_eq _ _ _) ?_
    rw [hq, w64s hx (by omega)]
    exact Ev.pos rfl hr
   ·intro hq
    refine Ev.step (fun k => by simp only [spec_validOrder.l0]; exact rfl) ?_
    refine Ev.pos (by omega) (Ev.pos (by omega) (Ev.pos (by omega) (Ev.bind hp ?_)))
    rw [w64 (x := ((2 ^ up.length : Nat) : Int) - 1) (by omega) (by omega)]
    refine Ev.bindc (inRange_eq _ _ _) ?_
    rw [hq]
    exact Ev.neg (by decide) (Ev.some _)
  ·intro e
   have e' : okB up = true := e
   rw [e', Bool.true_and, Bool.true_and]
   refine Ev.step (fun k => by simp only [spec_validOrder.l0]; exact rfl) ?_
   exact Ev.neg (by omega) (spec_order_ev ((okB_iff hn.2).1 e') hn.1)
  ·intro e
   have e' : okB up = false := e
   rw [e']; rfl
 ·rw [show decide ((1 : Int) ≤ (up.length : Int) ∧ (up.length : Int) ≤ 6) = false from decide_eq_false (by omega), show decide (1 ≤ up.length ∧ up.length ≤ 6) = false from decide_eq_false hn]
  exact Ev.neg (by decide) (Ev.some _)
theorem both_loop {up : List Int} (h : OkR up) (F G : Nat → Int → Option Bool) (H : Nat → Int → Int → Option Bool) (r : Bool)
  (g0 : ∀ x, x < up.length → ∀ r, Ev (fun k => H k (x : Int) 0) r → Ev (fun k => G k (x : Int)) r)
  (g1 : ∀ x, x < up.length → ∀ y, y < up.length → ∀ r, (0 ≤ meetM up x y ∧ 0 ≤ joinM up x y → Ev (fun k => H k (x : Int) ((y + 1 : Nat) : Int)) r) → (¬ (0 ≤ meetM up x y ∧ 0 ≤ joinM up x y) → r = false) → Ev (fun k => H k (x : Int) (y : Int)) r)
  (g2 : ∀ x, x < up.length → ∀ r, Ev (fun k => G k ((x + 1 : Nat) : Int)) r → Ev (fun k => H k (x : Int) (up.length : Int)) r)
  (g3 : bothB up = true → Ev (fun k => G k (up.length : Int)) r) (g4 : bothB up = false → r = false) : Ev (fun k => G k 0) r := by
 refine ev_no G up.length _ r ?_ g3 g4
 intro x hx
 have key : ∀ r, ((allN up.length fun y => decide (0 ≤ meetM up x y) && decide (0 ≤ joinM up x y)) = true → Ev (fun k => G k ((x + 1 : Nat) : Int)) r) → ((allN up.length fun y => decide (0 ≤ meetM up x y) && decide (0 ≤ joinM up x y)) = false → r = false) → Ev (fun k => G k (x : Int)) r := by
  intro r k1 k2
  refine g0 x hx r ?_
  refine ev_no (fun k i => H k (x : Int) i) up.length _ r ?_ (fun e => g2 x hx r (k1 e)) k2
  intro y hy
  constructor
  ·intro hp r hr
   rw [Bool.and_eq_true, decide_eq_true_eq, decide_eq_true_eq] at hp
   exact g1 x hx y hy r (fun _ => hr) (fun e => absurd hp e)
  ·intro hp
   refine g1 x hx y hy false (fun e => ?_) (fun _ => rfl)
   rw [decide_eq_true e.1, decide_eq_true e.2] at hp
   cases hp
 exact ⟨fun hp r hr => key r (fun _ => hr) (fun e => by rw [hp] at e; cases e), fun hp => key false (fun e => by rw [hp] at e; cases e) (fun _ => rfl)⟩
theorem spec_validLattice_ev (up : List Int) (hl : up.length ≤ 17592186044416) : Ev (fun k => spec_validLattice.f k up) (latB up) := by
 unfold spec_validLattice.f
 refine Ev.bind (spec_validOrder_ev up hl) ?_
 unfold latB
 cases hb : (decide (1 ≤ up.length ∧ up.length ≤ 6) && okB up && ordB up) with
 | false => exact Ev.neg (by decide) (Ev.some _)
 | true =>
  refine Ev.pos rfl ?_
  rw [Bool.true_and]
  rw [Bool.and_eq_true, Bool.and_eq_true, decide_eq_true_eq] at hb
  obtain ⟨⟨hn, ho⟩, _⟩ := hb
  have h : OkR up := (okB_iff hn.2).1 ho
  refine both_loop h (fun _ _ => none) (fun k i => spec_validLattice.l0 k up i) (fun k x i => spec_validLattice.l1 k up x i) _ ?_ ?_ ?_ ?_ (fun e => e)
  ·intro x hx r hr
   refine Ev.step (fun k => by simp only [spec_validLattice.l0]; exact rfl) ?_
   exact Ev.pos (by omega) hr
  ·intro x hx y hy r h1 h2
   refine Ev.step (fun k => by simp only [spec_validLattice.l1]; exact rfl) ?_
   refine Ev.pos (by omega) (Ev.bind (spec_meet_ev h hx hy) ?_)
   refine Ev.ite' (fun c => ?_) (fun c => ?_)
   ·rw [h2 (by omega)]; exact Ev.some _
   ·refine Ev.bind (spec_join_ev h hx hy) ?_
    refine Ev.ite' (fun c2 => ?_) (fun c2 => ?_)
    ·rw [h2 (by omega)]; exact Ev.some _
    ·rw [w64s hy (by omega)]
     exact h1 (by omega)
  ·intro x hx r hr
   refine Ev.step (fun k => by simp only [spec_validLattice.l1]; exact rfl) ?_
   refine Ev.neg (by omega) ?_
   rw [w64s hx (by omega)]
   exact hr
  ·intro e
   refine Ev.step (fun k => by simp only [spec_validLattice.l0]; exact rfl) ?_
   rw [e]
   exact Ev.neg (by omega) (Ev.some _)
def belI (up : List Int) (x y : Nat) : Bool := Int.tmod (shr .i64 (rd up (x : Int)) (y : Int)) 2 == 1
theorem impl_below_any {up : List Int} {x y : Nat} (hx : x < up.length) : impl_below.f up (x : Int) (y : Int) = some (belI up x y) := by
 unfold impl_below.f
 rw [if_pos (by omega), if_pos (by omega), if_pos (by omega)]
 rfl
theorem belI_le {up : List Int} (h : OkR up) {x y : Nat} (hx : x < up.length) : belI up x y = le up x y := by
 have h1 := impl_below_any (y := y) hx
 rw [impl_below_eq h hx] at h1
 exact (Option.some.inj h1).symm
def p1 (up : List Int) (x : Nat) : Bool := decide (0 ≤ rd up (x : Int) ∧ rd up (x : Int) ≤ ((2 ^ up.length : Nat) : Int) - 1) && (belI up x x && belI up x (up.length - 1) && belI up 0 x) &&
 allN up.length fun y => !(belI up x y) || ((decide (y = x) || !(belI up y x)) && decide (bits .andNot .i64 (rd up (y : Int)) (rd up (x : Int)) = 0))
theorem p1_all {up : List Int} (h1 : 1 ≤ up.length) (h6 : up.length ≤ 6) : allN up.length (p1 up) = (okB up && ordB up) := by
 rw [Bool.eq_iff_iff, Bool.and_eq_true]
 have ok_of : (∀ x, x < up.length → p1 up x = true) → OkR up := by
  intro hp
  refine (okB_iff h6).1 ?_
  rw [okB, List.all_eq_true]
  intro x hx
  have := hp x (List.mem_range.1 hx)
  rw [p1, Bool.and_eq_true, Bool.and_eq_true] at this
  exact this.1.1
 have sub : OkR up → ∀ x y, x < up.length → y < up.length → (bits .andNot .i64 (rd up (y : Int)) (rd up (x : Int)) = 0 ↔ ∀ z, z < up.length → le up y z = true → le up x z = true) := by
  intro h x y hx hy
  obtain ⟨hx0, hx1⟩ := h.lt hx
  obtain ⟨hy0, hy1⟩ := h.lt hy
  have e := andNot0 (rd up (y : Int)).toNat (rd up (x : Int)).toNat (by omega) (by omega)
  rw [Int.toNat_of_nonneg hx0, Int.toNat_of_nonneg hy0] at e
  rw [e]
  exact ⟨fun k z _ hz => k z hz, fun k z hz => k z (h.big hy hz) hz⟩
 constructor
 ·intro hp
  rw [allN_iff] at hp
  have h := ok_of hp
  refine ⟨(okB_iff h6).2 h, ?_⟩
  rw [ordB, allN_iff]
  intro x hx
  have hx' := hp x hx
  rw [p1, Bool.and_eq_true, Bool.and_eq_true, Bool.and_eq_true, Bool.and_eq_true, belI_le h hx, belI_le h hx, belI_le (x := 0) h (by omega), allN_iff] at hx'
  obtain ⟨⟨_, ⟨⟨e1, e2⟩, e3⟩⟩, e4⟩ := hx'
  rw [Bool.and_eq_true, e1, e2, e3, allN_iff]
  refine ⟨rfl, fun y hy => ?_⟩
  have e5 := e4 y hy
  rw [belI_le h hx, belI_le h hy, Bool.or_eq_true, Bool.and_eq_true, Bool.or_eq_true, decide_eq_true_eq, decide_eq_true_eq, sub h x y hx hy] at e5
  rw [Bool.and_eq_true, allN_iff]
  cases hA : le up x y with
  | false => exact ⟨by simp, fun z hz => by simp⟩
  | true =>
   rw [hA] at e5
   rcases e5 with e5 | ⟨e5, e6⟩
   ·cases e5
   ·refine ⟨?_, fun z hz => ?_⟩
    ·rcases e5 with e5 | e5
     ·simp [e5]
     ·have : le up y x = false := by simpa using e5
      simp [this]
    ·cases hB : le up y z with
     | false => simp
     | true => simp [e6 z hz hB]
 ·rintro ⟨ho, hord⟩
  have h := (okB_iff h6).1 ho
  rw [allN_iff]
  intro x hx
  rw [okB, List.all_eq_true] at ho
  rw [ordB, allN_iff] at hord
  have hx' := hord x hx
  rw [Bool.and_eq_true, Bool.and_eq_true, Bool.and_eq_true, allN_iff] at hx'
  obtain ⟨⟨⟨e1, e2⟩, e3⟩, e4⟩ := hx'
  rw [p1, Bool.and_eq_true, Bool.and_eq_true, ho x (List.mem_range.2 hx), belI_le h hx, belI_le h hx, belI_le (x := 0) h (by omega), e1, e2, e3, allN_iff]
  refine ⟨⟨rfl, rfl⟩, fun y hy => ?_⟩
  have e5 := e4 y hy
  rw [Bool.and_eq_true, allN_iff] at e5
  obtain ⟨e5, e6⟩ := e5
  rw [belI_le h hx, belI_le h hy]
  cases hA : le up x y with
  | false => rfl
  | true =>
   rw [Bool.or_eq_true, Bool.and_eq_true, Bool.or_eq_true, decide_eq_true_eq, decide_eq_true_eq, sub h x y hx hy]
   refine Or.inr ⟨?_, fun z hz hB => ?_⟩
   ·by_cases c : y = x
    ·exact Or.inl c
    ·have c' : ¬ x = y := fun e => c e.symm
     simp [hA, c'] at e5
     exact Or.inr (by simp [e5])
   ·have := e6 z hz
    simpa [hA, hB] using this
theorem impl_ValidLattice_ev (up : List Int) (hl : up.length ≤ 17592186044416) : Ev (fun k => impl_ValidLattice.f k up) (latB up) := by
 unfold impl_ValidLattice.f
 refine Ev.bindc (within_eq' _ _ _) ?_
 unfold latB
 by_cases hn : 1 ≤ up.length ∧ up.length ≤ 6
 case neg =>
  rw [show decide ((1 : Int) ≤ (up.length : Int) ∧ (up.length : Int) ≤ 6) = false from decide_eq_false (by omega), show decide (1 ≤ up.length ∧ up.length ≤ 6) = false from decide_eq_false hn]
  exact Ev.neg (by decide) (Ev.some _)
 obtain ⟨h1, h6⟩ := hn
 rw [show decide ((1 : Int) ≤ (up.length : Int) ∧ (up.length : Int) ≤ 6) = true from decide_eq_true (by omega), show decide (1 ≤ up.length ∧ up.length ≤ 6) = true from decide_eq_true ⟨h1, h6⟩, Bool.true_and, ← p1_all h1 h6]
 refine Ev.pos rfl ?_
 have h64 : 2 ^ up.length ≤ 2 ^ 6 := Nat.pow_le_pow_right (by decide) h6
 have h0 : 0 < 2 ^ up.length := Nat.two_pow_pos _
 refine ev_no (fun k i => impl_ValidLattice.l0 k up (up.length : Int) up (up.length : Int) i) up.length (p1 up) _ ?_ ?_ (fun e => by rw [show allN up.length (p1 up) = false from e]; rfl)
 ·intro x hx
  have ey : ∀ y : Nat, ((y : Int) = (x : Int)) ↔ y = x := fun y => by omega
  have inner : ∀ r, ((allN up.length fun y => !(belI up x y) || ((decide (y = x) || !(belI up y x)) && decide (bits .andNot .i64 (rd up (y : Int)) (rd up (x : Int)) = 0))) = true → Ev (fun k => impl_ValidLattice.l0 k up (up.length : Int) up (up.length : Int) ((x + 1 : Nat) : Int)) r) →
    ((allN up.length fun y => !(belI up x y) || ((decide (y = x) || !(belI up y x)) && decide (bits .andNot .i64 (rd up (y : Int)) (rd up (x : Int)) = 0))) = false → r = false) →
    Ev (fun k => impl_ValidLattice.l1 k up (up.length : Int) (x : Int) (rd up (x : Int)) up (up.length : Int) (x : Int) (up.length : Int) 0) r := by
   intro r k1 k2
   refine ev_no (fun k i => impl_ValidLattice.l1 k up (up.length : Int) (x : Int) (rd up (x : Int)) up (up.length : Int) (x : Int) (up.length : Int) i) up.length _ _ ?_ (fun e => ?_) k2
   ·intro y hy
    have key : ∀ r, ((!(belI up x y) || ((decide (y = x) || !(belI up y x)) && decide (bits .andNot .i64 (rd up (y : Int)) (rd up (x : Int)) = 0))) = true → Ev (fun k => impl_ValidLattice.l1 k up (up.length : Int) (x : Int) (rd up (x : Int)) up (up.length : Int) (x : Int) (up.length : Int) ((y + 1 : Nat) : Int)) r) →
      ((!(belI up x y) || ((decide (y = x) || !(belI up y x)) && decide (bits .andNot .i64 (rd up (y : Int)) (rd up (x : Int)) = 0))) = false → r = false) →
      Ev (fun k => impl_ValidLattice.l1 k up (up.length : Int) (x : Int) (rd up (x : Int)) up (up.length : Int) (x : Int) (up.length : Int) (y : Int)) r := by
     intro r q1 q2
     refine Ev.step (fun k => by simp only [impl_ValidLattice.l1]; exact rfl) ?_
     refine Ev.pos (by omega) (Ev.bindc (impl_below_any hx) ?_)
     rw [w64s hy (by omega)]
     cases hA : belI up x y with
     | false => exact Ev.neg (by decide) (q1 (by rw [hA]; rfl))
     | true =>
      rw [hA] at q1 q2
      refine Ev.pos rfl ?_
      by_cases c : y = x
      ·subst c
       refine Ev.pos rfl (Ev.pos (by omega) (Ev.pos (by omega) ?_))
       refine Ev.ite' (fun c2 => q1 (by simp [c2])) (fun c2 => ?_)
       rw [q2 (by simp [c2])]
       exact Ev.some _
      ·refine Ev.neg (fun e => c ((ey y).1 e)) (Ev.bindc (impl_below_any hy) ?_)
       cases hB : belI up y x with
       | true =>
        refine Ev.pos rfl ?_
        rw [q2 (by simp [c, hB])]
        exact Ev.some _
       | false =>
        refine Ev.neg (by decide) (Ev.pos (by omega) (Ev.pos (by omega) ?_))
        refine Ev.ite' (fun c2 => q1 (by simp [hB, c2])) (fun c2 => ?_)
        rw [q2 (by simp [c2])]
        exact Ev.some _
    exact ⟨fun hp r hr => key r (fun _ => hr) (fun e => by rw [hp] at e; cases e), fun hp => key false (fun e => by rw [hp] at e; cases e) (fun _ => rfl)⟩
   ·refine Ev.step (fun k => by simp only [impl_ValidLattice.l1]; exact rfl) ?_
    refine Ev.neg (by omega) ?_
    rw [w64s hx (by omega)]
    exact k1 e
  have hj : Ev (fun k => impl_ValidLattice.j1 k up (up.length : Int) (x : Int) (rd up (x : Int)) up (up.length : Int) (x : Int) true) false := by
   refine Ev.step (fun k => by simp only [impl_ValidLattice.j1]; exact rfl) ?_
   exact Ev.pos (by first | rfl | trivial) (Ev.some _)
  have e1 : wrap64 (shl .i64 1 (up.length : Int) - 1) = ((2 ^ up.length : Nat) : Int) - 1 := by
   rw [shl1 up.length (by omega), w64 (by omega) (by omega)]
  have e2 : wrap64 ((up.length : Int) - 1) = ((up.length - 1 : Nat) : Int) := by rw [w64 (by omega) (by omega)]; omega
  have key : ∀ r, (p1 up x = true → Ev (fun k => impl_ValidLattice.l0 k up (up.length : Int) up (up.length : Int) ((x + 1 : Nat) : Int)) r) → (p1 up x = false → r = false) → Ev (fun k => impl_ValidLattice.l0 k up (up.length : Int) up (up.length : Int) (x : Int)) r := by
   intro r k1 k2
   refine Ev.step (fun k => by simp only [impl_ValidLattice.l0]; exact rfl) ?_
   refine Ev.pos (by omega) (Ev.pos (by omega) (Ev.pos (by omega) (Ev.pos (by omega) ?_)))
   rw [e1, e2]
   refine Ev.bindc (within_eq' _ _ _) ?_
   unfold p1 at k1 k2
   cases hr : decide (0 ≤ rd up (x : Int) ∧ rd up (x : Int) ≤ ((2 ^ up.length : Nat) : Int) - 1) with
   | false =>
    refine Ev.neg (by decide) ?_
    rw [k2 (by rw [hr]; rfl)]
    exact hj
   | true =>
    rw [hr] at k1 k2
    refine Ev.pos rfl (Ev.bindc (impl_below_any hx) ?_)
    cases hA : belI up x x with
    | false =>
     refine Ev.neg (by decide) ?_
     rw [k2 (by rw [hA]; rfl)]
     exact hj
    | true =>
     rw [hA] at k1 k2
     refine Ev.pos rfl (Ev.bindc (impl_below_any hx) ?_)
     cases hB : belI up x (up.length - 1) with
     | false =>
      refine Ev.neg (by decide) ?_
      rw [k2 (by rw [hB]; rfl)]
      exact hj
     | true =>
      rw [hB] at k1 k2
      refine Ev.pos rfl (Ev.bindc (impl_below_any (x := 0) (by omega)) ?_)
      cases hC : belI up 0 x with
      | false =>
       rw [k2 (by rw [hC]; rfl)]
       exact hj
      | true =>
       rw [hC] at k1 k2
       refine Ev.step (fun k => by simp only [impl_ValidLattice.j1]; exact rfl) ?_
       exact Ev.neg (by decide) (inner r (fun e => k1 (by rw [e]; rfl)) (fun e => k2 (by rw [e]; rfl)))
  exact ⟨fun hp r hr => key r (fun _ => hr) (fun e => by rw [hp] at e; cases e), fun hp => key false (fun e => by rw [hp] at e; cases e) (fun _ => rfl)⟩
 ·intro e
  have e' : allN up.length (p1 up) = true := e
  rw [e', Bool.true_and]
  rw [p1_all h1 h6, Bool.and_eq_true] at e'
  have h : OkR up := (okB_iff h6).1 e'.1
  refine Ev.step (fun k => by simp only [impl_ValidLattice.l0]; exact rfl) ?_
  refine Ev.neg (by omega) ?_
  refine both_loop h (fun _ _ => none) (fun k i => impl_ValidLattice.l2 k up (up.length : Int) i) (fun k x i => impl_ValidLattice.l3 k up x (up.length : Int) x (up.length : Int) i) _ ?_ ?_ ?_ ?_ (fun e => e)
  ·intro x hx r hr
   refine Ev.step (fun k => by simp only [impl_ValidLattice.l2]; exact rfl) ?_
   exact Ev.pos (by omega) hr
  ·intro x hx y hy r h1 h2
   refine Ev.step (fun k => by simp only [impl_ValidLattice.l3]; exact rfl) ?_
   refine Ev.pos (by omega) (Ev.bind (impl_meet_ev h hx hy) ?_)
   refine Ev.ite' (fun c => ?_) (fun c => ?_)
   ·rw [h2 (by omega)]; exact Ev.some _
   ·refine Ev.bind (impl_join_ev h hx hy) ?_
    refine Ev.ite' (fun c2 => ?_) (fun c2 => ?_)
    ·rw [h2 (by omega)]; exact Ev.some _
    ·rw [w64s hy (by omega)]
     exact h1 (by omega)
  ·intro x hx r hr
   refine Ev.step (fun k => by simp only [impl_ValidLattice.l3]; exact rfl) ?_
   refine Ev.neg (by omega) ?_
   rw [w64s hx (by omega)]
   exact hr
  ·intro e
   refine Ev.step (fun k => by simp only [impl_ValidLattice.l2]; exact rfl) ?_
   rw [e]
   exact Ev.neg (by omega) (Ev.some _)
theorem latB_ok {up : List Int} (h : latB up = true) : OkR up ∧ 1 ≤ up.length := by
 unfold latB at h
 rw [Bool.and_eq_true, Bool.and_eq_true, Bool.and_eq_true, decide_eq_true_eq] at h
 exact ⟨(okB_iff h.1.1.1.2).1 h.1.1.2, h.1.1.1.1⟩
theorem find_spec (n : Nat) (p : Nat → Bool) : ∀ d i, i + d = n →
  (∃ z, i ≤ z ∧ z < n ∧ p z = true ∧ runL (fun z => if p z then some (z : Int) else none) (-1) d i = (z : Int) ∧ ∀ w, i ≤ w → w < z → p w = false) ∨
  (runL (fun z => if p z then some (z : Int) else none) (-1) d i = -1 ∧ ∀ z, i ≤ z → z < n → p z = false) := by
 intro d
 induction d with
 | zero => intro i hi; right; exact ⟨rfl, fun z h1 h2 => by omega⟩
 | succ d ih =>
  intro i hi
  unfold runL
  cases hp : p i with
  | true => left; exact ⟨i, Nat.le_refl _, by omega, hp, by simp, fun w h1 h2 => by omega⟩
  | false =>
   simp only [Bool.false_eq_true, if_false]
   rcases ih (i + 1) (by omega) with ⟨z, h1, h2, h3, h4, h5⟩ | ⟨h1, h2⟩
   ·left
    refine ⟨z, by omega, h2, h3, h4, fun w hw hz => ?_⟩
    by_cases e : w = i
    ·subst e; exact hp
    ·exact h5 w (by omega) hz
   ·right
    refine ⟨h1, fun z hz hn => ?_⟩
    by_cases e : z = i
    ·subst e; exact hp
    ·exact h2 z (by omega) hn
theorem firstN_spec (n : Nat) (p : Nat → Bool) : (∃ z, z < n ∧ p z = true ∧ firstN n p = (z : Int) ∧ ∀ w, w < z → p w = false) ∨ (firstN n p = -1 ∧ ∀ z, z < n → p z = false) := by
 rcases find_spec n p n 0 (by omega) with ⟨z, _, h2, h3, h4, h5⟩ | ⟨h1, h2⟩
 ·exact Or.inl ⟨z, h2, h3, h4, fun w hw => h5 w (Nat.zero_le _) hw⟩
 ·exact Or.inr ⟨h1, fun z hz => h2 z (Nat.zero_le _) hz⟩
theorem firstN_pos {n : Nat} {p : Nat → Bool} (h : 0 ≤ firstN n p) : firstN n p = ((firstN n p).toNat : Int) ∧ (firstN n p).toNat < n ∧ p (firstN n p).toNat = true := by
 rcases firstN_spec n p with ⟨z, h1, h2, h3, _⟩ | ⟨h1, _⟩
 ·rw [h3, Int.toNat_natCast]; exact ⟨rfl, h1, h2⟩
 ·omega
def meetN (up : List Int) (x y : Nat) : Nat := (meetM up x y).toNat
def joinN (up : List Int) (x y : Nat) : Nat := (joinM up x y).toNat
theorem latB_both {up : List Int} (h : latB up = true) {x y : Nat} (hx : x < up.length) (hy : y < up.length) : 0 ≤ meetM up x y ∧ 0 ≤ joinM up x y := by
 unfold latB at h
 rw [Bool.and_eq_true] at h
 have := (allN_iff.1 ((allN_iff.1 h.2) x hx)) y hy
 rwa [Bool.and_eq_true, decide_eq_true_eq, decide_eq_true_eq] at this
theorem meetN_spec {up : List Int} (h : latB up = true) {x y : Nat} (hx : x < up.length) (hy : y < up.length) : meetM up x y = (meetN up x y : Int) ∧ meetN up x y < up.length ∧ isMeet up x y (meetN up x y) = true :=
 firstN_pos (latB_both h hx hy).1
theorem joinN_spec {up : List Int} (h : latB up = true) {x y : Nat} (hx : x < up.length) (hy : y < up.length) : joinM up x y = (joinN up x y : Int) ∧ joinN up x y < up.length ∧ isJoin up x y (joinN up x y) = true :=
 firstN_pos (latB_both h hx hy).2
structure Lat (up : List Int) : Prop where
 ok : OkR up
 pos : 1 ≤ up.length
 refl : ∀ x, x < up.length → le up x x = true
 bot : ∀ x, x < up.length → le up 0 x = true
 top : ∀ x, x < up.length → le up x (up.length - 1) = true
 anti : ∀ x y, x < up.length → y < up.length → le up x y = true → le up y x = true → x = y
 trans : ∀ x y z, x < up.length → y < up.length → z < up.length → le up x y = true → le up y z = true → le up x z = true
theorem isMeet_iff {up : List Int} {x y z : Nat} : isMeet up x y z = true ↔ le up z x = true ∧ le up z y = true ∧ ∀ w, w < up.length → le up w x = true → le up w y = true → le up w z = true := by
 unfold isMeet
 rw [Bool.and_eq_true, Bool.and_eq_true, List.all_eq_true]
 constructor
 ·rintro ⟨⟨h1, h2⟩, h3⟩
  refine ⟨h1, h2, fun w hw a b => ?_⟩
  have := h3 w (List.mem_range.2 hw)
  simpa [a, b] using this
 ·rintro ⟨h1, h2, h3⟩
  refine ⟨⟨h1, h2⟩, fun w hw => ?_⟩
  cases a : le up w x with
  | false => rfl
  | true =>
   cases b : le up w y with
   | false => rfl
   | true => simpa using h3 w (List.mem_range.1 hw) a b
theorem isJoin_iff {up : List Int} {x y z : Nat} : isJoin up x y z = true ↔ le up x z = true ∧ le up y z = true ∧ ∀ w, w < up.length → le up x w = true → le up y w = true → le up z w = true := by
 unfold isJoin
 rw [Bool.and_eq_true, Bool.and_eq_true, List.all_eq_true]
 constructor
 ·rintro ⟨⟨h1, h2⟩, h3⟩
  refine ⟨h1, h2, fun w hw a b => ?_⟩
  have := h3 w (List.mem_range.2 hw)
  simpa [a, b] using this
 ·rintro ⟨h1, h2, h3⟩
  refine ⟨⟨h1, h2⟩, fun w hw => ?_⟩
  cases a : le up x w with
  | false => rfl
  | true =>
   cases b : le up y w with
   | false => rfl
   | true => simpa using h3 w (List.mem_range.1 hw) a b
theorem ordB_iff {up : List Int} : ordB up = true ↔ ∀ x, x < up.length → (le up x x = true ∧ le up 0 x = true ∧ le up x (up.length - 1) = true) ∧ ∀ y, y < up.length → ¬ (x ≠ y ∧ le up x y = true ∧ le up y x = true) ∧ ∀ z, z < up.length → le up x y = true → le up y z = true → le up x z = true := by
 unfold ordB
 rw [allN_iff]
 refine forall_congr' fun x => forall_congr' fun hx => ?_
 rw [Bool.and_eq_true, Bool.and_eq_true, Bool.and_eq_true, allN_iff]
 refine and_congr and_assoc (forall_congr' fun y => forall_congr' fun hy => ?_)
 rw [Bool.and_eq_true, allN_iff]
 refine and_congr ?_ (forall_congr' fun z => forall_congr' fun hz => ?_)
 ·rw [Bool.not_eq_true', Bool.and_eq_false_imp]
  by_cases e : x = y <;> cases a : le up x y <;> cases b : le up y x <;> simp [e]
 ·cases a : le up x y <;> cases b : le up y z <;> cases c : le up x z <;> simp
theorem Lat.of {up : List Int} (hb : latB up = true) : Lat up := by
 obtain ⟨h, h1⟩ := latB_ok hb
 have ho : ordB up = true := by
  unfold latB at hb
  rw [Bool.and_eq_true, Bool.and_eq_true] at hb
  exact hb.1.2
 have ho := ordB_iff.1 ho
 exact ⟨h, h1, fun x hx => (ho x hx).1.1, fun x hx => (ho x hx).1.2.1, fun x hx => (ho x hx).1.2.2, fun x y hx hy a b => Decidable.byContradiction fun e => ((ho x hx).2 y hy).1 ⟨e, a, b⟩, fun x y z hx hy hz a b => ((ho x hx).2 y hy).2 z hz a b⟩
theorem firstN_some {n : Nat} {p : Nat → Bool} {z : Nat} (hz : z < n) (hp : p z = true) : 0 ≤ firstN n p := by
 rcases firstN_spec n p with ⟨w, _, _, h, _⟩ | ⟨_, h⟩
 ·rw [h]; exact Int.natCast_nonneg _
 ·rw [h z hz] at hp; cases hp
theorem latB_of {up : List Int} (h : Lat up) (hm : ∀ x y, x < up.length → y < up.length → ∃ z, z < up.length ∧ isMeet up x y z = true) (hj : ∀ x y, x < up.length → y < up.length → ∃ z, z < up.length ∧ isJoin up x y z = true) : latB up = true := by
 unfold latB
 rw [Bool.and_eq_true, Bool.and_eq_true, Bool.and_eq_true]
 refine ⟨⟨⟨decide_eq_true ⟨h.pos, h.ok.1⟩, (okB_iff h.ok.1).2 h.ok⟩, ordB_iff.2 ?_⟩, ?_⟩
 ·intro x hx
  refine ⟨⟨h.refl x hx, h.bot x hx, h.top x hx⟩, fun y hy => ⟨fun e => e.1 (h.anti x y hx hy e.2.1 e.2.2), fun z hz a b => h.trans x y z hx hy hz a b⟩⟩
 ·unfold bothB
  rw [allN_iff]
  intro x hx
  rw [allN_iff]
  intro y hy
  obtain ⟨z, hz, h1⟩ := hm x y hx hy
  obtain ⟨w, hw, h2⟩ := hj x y hx hy
  rw [Bool.and_eq_true, decide_eq_true_eq, decide_eq_true_eq]
  exact ⟨firstN_some hz h1, firstN_some hw h2⟩
section
variable {up : List Int} (hb : latB up = true)
include hb
theorem mlt {x y : Nat} (hx : x < up.length) (hy : y < up.length) : meetN up x y < up.length := (meetN_spec hb hx hy).2.1
theorem jlt {x y : Nat} (hx : x < up.length) (hy : y < up.length) : joinN up x y < up.length := (joinN_spec hb hx hy).2.1
theorem m_l {x y : Nat} (hx : x < up.length) (hy : y < up.length) : le up (meetN up x y) x = true := (isMeet_iff.1 (meetN_spec hb hx hy).2.2).1
theorem m_r {x y : Nat} (hx : x < up.length) (hy : y < up.length) : le up (meetN up x y) y = true := (isMeet_iff.1 (meetN_spec hb hx hy).2.2).2.1
theorem m_g {x y w : Nat} (hx : x < up.length) (hy : y < up.length) (hw : w < up.length) (a : le up w x = true) (b : le up w y = true) : le up w (meetN up x y) = true := (isMeet_iff.1 (meetN_spec hb hx hy).2.2).2.2 w hw a b
theorem j_l {x y : Nat} (hx : x < up.length) (hy : y < up.length) : le up x (joinN up x y) = true := (isJoin_iff.1 (joinN_spec hb hx hy).2.2).1
theorem j_r {x y : Nat} (hx : x < up.length) (hy : y < up.length) : le up y (joinN up x y) = true := (isJoin_iff.1 (joinN_spec hb hx hy).2.2).2.1
theorem j_g {x y w : Nat} (hx : x < up.length) (hy : y < up.length) (hw : w < up.length) (a : le up x w = true) (b : le up y w = true) : le up (joinN up x y) w = true := (isJoin_iff.1 (joinN_spec hb hx hy).2.2).2.2 w hw a b
theorem j_eq {x y z : Nat} (hx : x < up.length) (hy : y < up.length) (hz : z < up.length) (h : isJoin up x y z = true) : joinN up x y = z := by
 have i := isJoin_iff.1 h
 exact (Lat.of hb).anti _ _ (jlt hb hx hy) hz (j_g hb hx hy hz i.1 i.2.1) (i.2.2 _ (jlt hb hx hy) (j_l hb hx hy) (j_r hb hx hy))
theorem j_comm {x y : Nat} (hx : x < up.length) (hy : y < up.length) : joinN up x y = joinN up y x :=
 j_eq hb hx hy (jlt hb hy hx) (isJoin_iff.2 ⟨j_r hb hy hx, j_l hb hy hx, fun w hw a b => j_g hb hy hx hw b a⟩)
theorem le_join {x y : Nat} (hx : x < up.length) (hy : y < up.length) : le up x y = true ↔ joinN up x y = y := by
 constructor
 ·intro h
  exact j_eq hb hx hy hy (isJoin_iff.2 ⟨h, (Lat.of hb).refl y hy, fun w _ _ b => b⟩)
 ·intro h
  have := j_l hb hx hy
  rwa [h] at this
theorem joinN_int {x y : Nat} (hx : x < up.length) (hy : y < up.length) : joinM up x y = (joinN up x y : Int) := (joinN_spec hb hx hy).1
end
def rowT (T : List (List Int)) (x : Nat) : List Int := rd_L1 T (x : Int)
theorem rowT_lt {T : List (List Int)} {x : Nat} (h : x < T.length) : rowT T x = T[x] := by simp [rowT, rd_L1, h]
theorem rowT_mem {T : List (List Int)} {x : Nat} (h : x < T.length) : rowT T x ∈ T := by rw [rowT_lt h]; exact List.getElem_mem h
def tN (T : List (List Int)) (x y : Nat) : Nat := (rd (rowT T x) (y : Int)).toNat
def valAt (up : List Int) (T : List (List Int)) (x y : Nat) : Bool := decide (0 ≤ rd (rowT T x) (y : Int) ∧ rd (rowT T x) (y : Int) ≤ (up.length : Int) - 1)
def rowB (up : List Int) (T : List (List Int)) (x : Nat) : Bool := decide ((rowT T x).length = up.length) && allN up.length (valAt up T x)
def shapeB (up : List Int) (T : List (List Int)) : Bool := decide (T.length = up.length) && allN up.length (rowB up T)
def lawAt (up : List Int) (T : List (List Int)) (x y z : Nat) : Bool := decide (tN T (tN T x y) z = tN T x (tN T y z)) && decide (tN T x (joinN up y z) = joinN up (tN T x y) (tN T x z))
def lawY (up : List Int) (T : List (List Int)) (x y : Nat) : Bool := decide (tN T x y = tN T y x) && allN up.length (lawAt up T x y)
def lawX (up : List Int) (T : List (List Int)) (x : Nat) : Bool := (decide (tN T x (up.length - 1) = x) && decide (tN T x 0 = 0)) && allN up.length (lawY up T x)
def lawB (up : List Int) (T : List (List Int)) : Bool := allN up.length (lawX up T)
def algB (up : List Int) (T : List (List Int)) : Bool := latB up && (shapeB up T && lawB up T)
structure Tab (up : List Int) (T : List (List Int)) : Prop where
 len : T.length = up.length
 row : ∀ x, x < up.length → (rowT T x).length = up.length
 val : ∀ x y, x < up.length → y < up.length → rd (rowT T x) (y : Int) = (tN T x y : Int)
 lt : ∀ x y, x < up.length → y < up.length → tN T x y < up.length
theorem Tab.of {up : List Int} {T : List (List Int)} (h : shapeB up T = true) : Tab up T := by
 unfold shapeB at h
 rw [Bool.and_eq_true, decide_eq_true_eq] at h
 obtain ⟨h1, h2⟩ := h
 have hr : ∀ x, x < up.length → (rowT T x).length = up.length ∧ ∀ y, y < up.length → 0 ≤ rd (rowT T x) (y : Int) ∧ rd (rowT T x) (y : Int) ≤ (up.length : Int) - 1 := by
  intro x hx
  have := allN_iff.1 h2 x hx
  unfold rowB at this
  rw [Bool.and_eq_true, decide_eq_true_eq] at this
  refine ⟨this.1, fun y hy => ?_⟩
  have h3 := allN_iff.1 this.2 y hy
  unfold valAt at h3
  exact of_decide_eq_true h3
 refine ⟨h1, fun x hx => (hr x hx).1, fun x y hx hy => ?_, fun x y hx hy => ?_⟩
 ·have := (hr x hx).2 y hy
  unfold tN
  omega
 ·have := (hr x hx).2 y hy
  unfold tN
  omega
theorem Tab.shape {up : List Int} {T : List (List Int)} (h : Tab up T) : shapeB up T = true := by
 unfold shapeB
 rw [Bool.and_eq_true, decide_eq_true_eq]
 refine ⟨h.len, allN_iff.2 fun x hx => ?_⟩
 unfold rowB
 rw [Bool.and_eq_true, decide_eq_true_eq]
 refine ⟨h.row x hx, allN_iff.2 fun y hy => ?_⟩
 unfold valAt
 rw [decide_eq_true_eq, h.val x y hx hy]
 have := h.lt x y hx hy
 omega
structure Alg (up : List Int) (T : List (List Int)) : Prop extends Tab up T where
 lat : latB up = true
 one : ∀ x, x < up.length → tN T x (up.length - 1) = x
 zero : ∀ x, x < up.length → tN T x 0 = 0
 comm : ∀ x y, x < up.length → y < up.length → tN T x y = tN T y x
 assoc : ∀ x y z, x < up.length → y < up.length → z < up.length → tN T (tN T x y) z = tN T x (tN T y z)
 dist : ∀ x y z, x < up.length → y < up.length → z < up.length → tN T x (joinN up y z) = joinN up (tN T x y) (tN T x z)
theorem Alg.of {up : List Int} {T : List (List Int)} (h : algB up T = true) : Alg up T := by
 unfold algB at h
 rw [Bool.and_eq_true, Bool.and_eq_true] at h
 obtain ⟨h0, h1, h2⟩ := h
 have hx : ∀ x, x < up.length → (tN T x (up.length - 1) = x ∧ tN T x 0 = 0) ∧ ∀ y, y < up.length → tN T x y = tN T y x ∧ ∀ z, z < up.length → tN T (tN T x y) z = tN T x (tN T y z) ∧ tN T x (joinN up y z) = joinN up (tN T x y) (tN T x z) := by
  intro x hx
  have a := allN_iff.1 h2 x hx
  unfold lawX at a
  rw [Bool.and_eq_true, Bool.and_eq_true, decide_eq_true_eq, decide_eq_true_eq] at a
  refine ⟨a.1, fun y hy => ?_⟩
  have b := allN_iff.1 a.2 y hy
  unfold lawY at b
  rw [Bool.and_eq_true, decide_eq_true_eq] at b
  refine ⟨b.1, fun z hz => ?_⟩
  have c := allN_iff.1 b.2 z hz
  unfold lawAt at c
  rw [Bool.and_eq_true, decide_eq_true_eq, decide_eq_true_eq] at c
  exact c
 exact { Tab.of h1 with lat := h0, one := fun x h => (hx x h).1.1, zero := fun x h => (hx x h).1.2, comm := fun x y h h' => ((hx x h).2 y h').1, assoc := fun x y z h h' h'' => (((hx x h).2 y h').2 z h'').1, dist := fun x y z h h' h'' => (((hx x h).2 y h').2 z h'').2 }
theorem Alg.alg {up : List Int} {T : List (List Int)} (h : Alg up T) : algB up T = true := by
 unfold algB
 rw [Bool.and_eq_true, Bool.and_eq_true]
 refine ⟨h.lat, h.toTab.shape, allN_iff.2 fun x hx => ?_⟩
 unfold lawX
 rw [Bool.and_eq_true, Bool.and_eq_true, decide_eq_true_eq, decide_eq_true_eq]
 refine ⟨⟨h.one x hx, h.zero x hx⟩, allN_iff.2 fun y hy => ?_⟩
 unfold lawY
 rw [Bool.and_eq_true, decide_eq_true_eq]
 refine ⟨h.comm x y hx hy, allN_iff.2 fun z hz => ?_⟩
 unfold lawAt
 rw [Bool.and_eq_true, decide_eq_true_eq, decide_eq_true_eq]
 exact ⟨h.assoc x y z hx hy hz, h.dist x y z hx hy hz⟩
section
variable {up : List Int} {T : List (List Int)} (A : Alg up T)
include A
theorem Alg.pos : 1 ≤ up.length := (latB_ok A.lat).2
theorem Alg.ok : OkR up := (latB_ok A.lat).1
theorem Alg.L : Lat up := Lat.of A.lat
theorem Alg.mono {x y z : Nat} (hx : x < up.length) (hy : y < up.length) (hz : z < up.length) (h : le up y z = true) : le up (tN T x y) (tN T x z) = true := by
 rw [le_join A.lat (A.lt x y hx hy) (A.lt x z hx hz), ← A.dist x y z hx hy hz, (le_join A.lat hy hz).1 h]
theorem Alg.below {x y : Nat} (hx : x < up.length) (hy : y < up.length) : le up (tN T x y) x = true := by
 have p := A.pos
 have h := A.mono hx hy (z := up.length - 1) (by omega) (A.L.top y hy)
 rwa [A.one x hx] at h
end
def rowF (n : Nat) (f : Nat → Nat) : List Int := (List.range n).map fun y => ((f y : Nat) : Int)
def tabF (n : Nat) (f : Nat → Nat → Nat) : List (List Int) := (List.range n).map fun x => rowF n (f x)
theorem rowF_len (n : Nat) (f : Nat → Nat) : (rowF n f).length = n := by simp [rowF]
theorem tabF_len (n : Nat) (f : Nat → Nat → Nat) : (tabF n f).length = n := by simp [tabF]
theorem rowF_rd {n : Nat} {f : Nat → Nat} {y : Nat} (hy : y < n) : rd (rowF n f) (y : Int) = (f y : Int) := by
 rw [rd_lt (by rw [rowF_len]; exact hy)]
 simp [rowF]
theorem tabF_row {n : Nat} {f : Nat → Nat → Nat} {x : Nat} (hx : x < n) : rowT (tabF n f) x = rowF n (f x) := by
 rw [rowT_lt (by rw [tabF_len]; exact hx)]
 simp [tabF]
theorem tabF_t {n : Nat} {f : Nat → Nat → Nat} {x y : Nat} (hx : x < n) (hy : y < n) : tN (tabF n f) x y = f x y := by
 unfold tN
 rw [tabF_row hx, rowF_rd hy, Int.toNat_natCast]
theorem tabF_tab {up : List Int} {f : Nat → Nat → Nat} (h : ∀ x y, x < up.length → y < up.length → f x y < up.length) : Tab up (tabF up.length f) where
 len := tabF_len _ _
 row := fun x hx => by rw [tabF_row hx, rowF_len]
 val := fun x y hx hy => by rw [tabF_t hx hy, tabF_row hx, rowF_rd hy]
 lt := fun x y hx hy => by rw [tabF_t hx hy]; exact h x y hx hy
structure Good (up : List Int) (f : Nat → Nat → Nat) : Prop where
 lt : ∀ x y, x < up.length → y < up.length → f x y < up.length
 one : ∀ x, x < up.length → f x (up.length - 1) = x
 zero : ∀ x, x < up.length → f x 0 = 0
 comm : ∀ x y, x < up.length → y < up.length → f x y = f y x
 assoc : ∀ x y z, x < up.length → y < up.length → z < up.length → f (f x y) z = f x (f y z)
 dist : ∀ x y z, x < up.length → y < up.length → z < up.length → f x (joinN up y z) = joinN up (f x y) (f x z)
theorem Good.alg {up : List Int} {f : Nat → Nat → Nat} (hb : latB up = true) (h : Good up f) : Alg up (tabF up.length f) := by
 have pos := (latB_ok hb).2
 refine { tabF_tab h.lt with lat := hb, one := fun x hx => ?_, zero := fun x hx => ?_, comm := fun x y hx hy => ?_, assoc := fun x y z hx hy hz => ?_, dist := fun x y z hx hy hz => ?_ }
 ·rw [tabF_t hx (by omega)]
  exact h.one x hx
 ·rw [tabF_t hx (by omega)]
  exact h.zero x hx
 ·rw [tabF_t hx hy, tabF_t hy hx]
  exact h.comm x y hx hy
 ·rw [tabF_t hx hy, tabF_t hy hz, tabF_t (h.lt x y hx hy) hz, tabF_t hx (h.lt y z hy hz)]
  exact h.assoc x y z hx hy hz
 ·rw [tabF_t hx hy, tabF_t hx hz, tabF_t hx (jlt hb hy hz)]
  exact h.dist x y z hx hy hz
theorem ev_all (F : Nat → Int → Option Bool) (n : Nat) (p : Nat → Bool) (r : Bool)
  (h1 : ∀ i, i < n → ∀ r, (p i = true → Ev (fun k => F k ((i + 1 : Nat) : Int)) r) → (p i = false → r = false) → Ev (fun k => F k (i : Int)) r)
  (h2 : (List.range n).all p = true → Ev (fun k => F k (n : Int)) r) (h3 : (List.range n).all p = false → r = false) : Ev (fun k => F k 0) r :=
 ev_no F n p r (fun i hi => ⟨fun hp r hr => h1 i hi r (fun _ => hr) (fun e => by rw [hp] at e; cases e), fun hp => h1 i hi false (fun e => by rw [hp] at e; cases e) (fun _ => rfl)⟩) h2 h3
theorem sjoin {up : List Int} (hb : latB up = true) {x y : Nat} (hx : x < up.length) (hy : y < up.length) : Ev (fun k => spec_join.f k up (x : Int) (y : Int)) (joinN up x y : Int) :=
 Ev.eq (spec_join_ev (latB_ok hb).1 hx hy) (joinN_int hb hx hy)
theorem ijoin {up : List Int} (hb : latB up = true) {x y : Nat} (hx : x < up.length) (hy : y < up.length) : Ev (fun k => impl_join.f k up (x : Int) (y : Int)) (joinN up x y : Int) :=
 Ev.eq (impl_join_ev (latB_ok hb).1 hx hy) (joinN_int hb hx hy)
theorem shape_no {up : List Int} {T : List (List Int)} (h : ¬ T.length = up.length) : (shapeB up T && lawB up T) = false := by
 unfold shapeB
 rw [decide_eq_false h]
 rfl
theorem shape_rows {up : List Int} {T : List (List Int)} (h : T.length = up.length) : shapeB up T = allN up.length (rowB up T) := by
 unfold shapeB
 rw [decide_eq_true h, Bool.true_and]
theorem last_eq {n : Nat} (h : 1 ≤ n) (h6 : n ≤ 6) : wrap64 ((n : Int) - 1) = ((n - 1 : Nat) : Int) := by
 rw [w64 (by omega) (by omega)]
 omega
theorem spec_validAlgebra_ev (up : List Int) (T : List (List Int)) (hl : up.length ≤ 17592186044416) : Ev (fun k => spec_validAlgebra.f k up T) (algB up T) := by
 unfold spec_validAlgebra.f
 refine Ev.bind (spec_validLattice_ev up hl) ?_
 unfold algB
 cases hb : latB up with
 | false =>
  refine Ev.neg (by decide) (Ev.step (fun k => by simp only [spec_validAlgebra.j0]; exact rfl) ?_)
  exact Ev.pos trivial (Ev.some _)
 | true =>
  obtain ⟨ho, h1⟩ := latB_ok hb
  have h6 := ho.1
  have en := last_eq h1 h6
  rw [Bool.true_and]
  refine Ev.pos rfl (Ev.step (fun k => by simp only [spec_validAlgebra.j0]; exact rfl) ?_)
  by_cases hT : T.length = up.length
  ·refine Ev.neg (by simp [hT]) ?_
   rw [shape_rows hT]
   refine ev_all (fun k i => spec_validAlgebra.l0 k (up.length : Int) i up T) up.length (rowB up T) _ ?_ ?_ ?_
   ·intro x hx r k1 k2
    refine Ev.step (fun k => by simp only [spec_validAlgebra.l0]; exact rfl) (Ev.pos (by omega) (Ev.pos (by omega) (Ev.pos (by omega) ?_)))
    refine Ev.ite' (fun c => ?_) (fun c => ?_)
    ·have hc : (rd_L1 T (x : Int)).length = up.length := by omega
     have hr : rowB up T x = allN up.length (valAt up T x) := by
      unfold rowB
      rw [decide_eq_true (p := (rowT T x).length = up.length) hc, Bool.true_and]
     rw [hr] at k1 k2
     refine ev_all (fun k i => spec_validAlgebra.l1 k (up.length : Int) (x : Int) i up T) up.length (valAt up T x) r ?_ ?_ k2
     ·intro y hy r q1 q2
      refine Ev.step (fun k => by simp only [spec_validAlgebra.l1]; exact rfl) (Ev.pos (by omega) (Ev.pos (by omega) (Ev.pos (by omega) (Ev.pos (by omega) (Ev.pos (by omega) ?_)))))
      refine Ev.bindc (inRange_eq _ _ _) ?_
      rw [w64 (x := (up.length : Int) - 1) (by omega) (by omega), w64s hy (by omega)]
      cases hv : valAt up T x y with
      | true => exact Ev.pos hv (q1 hv)
      | false =>
       rw [q2 hv]
       refine Ev.neg ?_ (Ev.some _)
       show ¬ valAt up T x y = true
       rw [hv]
       decide
     ·intro e
      refine Ev.step (fun k => by simp only [spec_validAlgebra.l1]; exact rfl) (Ev.neg (by omega) ?_)
      rw [w64s hx (by omega)]
      exact k1 e
    ·rw [k2 (by unfold rowB; rw [decide_eq_false (p := (rowT T x).length = up.length) (fun e => c (by show ((rowT T x).length : Int) = _; omega)), Bool.false_and])]
     exact Ev.some _
   ·intro e
    have e' : allN up.length (rowB up T) = true := e
    have A : Tab up T := Tab.of (by rw [shape_rows hT]; exact e)
    refine Ev.step (fun k => by simp only [spec_validAlgebra.l0]; exact rfl) (Ev.neg (by omega) ?_)
    rw [e', Bool.true_and]
    refine ev_all (fun k i => spec_validAlgebra.l2 k (up.length : Int) i up T) up.length (lawX up T) _ ?_ (fun e => ?_) (fun e => e)
    ·intro x hx r k1 k2
     have rx : (rd_L1 T (x : Int)).length = up.length := A.row x hx
     refine Ev.step (fun k => by simp only [spec_validAlgebra.l2]; exact rfl) ?_
     rw [en, show rd (rd_L1 T (x : Int)) ((up.length - 1 : Nat) : Int) = (tN T x (up.length - 1) : Int) from A.val x _ hx (by omega), show rd (rd_L1 T (x : Int)) 0 = (tN T x 0 : Int) from A.val x 0 hx (by omega)]
     refine Ev.pos (by omega) (Ev.pos (by omega) (Ev.pos (by omega) (Ev.pos (by omega) (Ev.pos (by omega) ?_))))
     have key : ∀ b : Bool, (b = false ↔ tN T x (up.length - 1) = x ∧ tN T x 0 = 0) → Ev (fun k => spec_validAlgebra.j4 k (up.length : Int) (x : Int) b up T) r := by
      intro b hb'
      refine Ev.step (fun k => by simp only [spec_validAlgebra.j4]; exact rfl) ?_
      cases b with
      | true =>
       rw [k2 ?_]
       ·exact Ev.pos rfl (Ev.some _)
       ·unfold lawX
        rw [Bool.and_eq_false_iff]
        left
        rw [Bool.eq_false_iff]
        intro h
        rw [Bool.and_eq_true, decide_eq_true_eq, decide_eq_true_eq] at h
        have := hb'.2 h
        cases this
      | false =>
       refine Ev.neg (by decide) ?_
       obtain ⟨c1, c2⟩ := hb'.1 rfl
       have hr : lawX up T x = allN up.length (lawY up T x) := by
        unfold lawX
        rw [decide_eq_true c1, decide_eq_true c2, Bool.true_and, Bool.true_and]
       rw [hr] at k1 k2
       refine ev_all (fun k i => spec_validAlgebra.l3 k (up.length : Int) (x : Int) i up T) up.length (lawY up T x) r ?_ ?_ k2
       ·intro y hy r q1 q2
        have ry : (rd_L1 T (y : Int)).length = up.length := A.row y hy
        have hxy := A.lt x y hx hy
        have rxy : (rd_L1 T (tN T x y : Int)).length = up.length := A.row _ hxy
        refine Ev.step (fun k => by simp only [spec_validAlgebra.l3]; exact rfl) ?_
        rw [show rd (rd_L1 T (x : Int)) (y : Int) = (tN T x y : Int) from A.val x y hx hy, show rd (rd_L1 T (y : Int)) (x : Int) = (tN T y x : Int) from A.val y x hy hx]
        refine Ev.pos (by omega) (Ev.pos (by omega) (Ev.pos (by omega) (Ev.pos (by omega) (Ev.pos (by omega) (Ev.pos (by omega) (Ev.pos (by omega) ?_))))))
        refine Ev.ite' (fun c => ?_) (fun c => ?_)
        ·have hr : lawY up T x y = allN up.length (lawAt up T x y) := by
          unfold lawY
          rw [decide_eq_true (p := tN T x y = tN T y x) (by omega), Bool.true_and]
         rw [hr] at q1 q2
         refine ev_all (fun k i => spec_validAlgebra.l4 k (up.length : Int) (x : Int) (y : Int) i up T) up.length (lawAt up T x y) r ?_ ?_ q2
         ·intro z hz r s1 s2
          have hyz := A.lt y z hy hz
          have hxz := A.lt x z hx hz
          have hj := jlt hb hy hz
          refine Ev.step (fun k => by simp only [spec_validAlgebra.l4]; exact rfl) ?_
          rw [w64s hz (by omega), show rd (rd_L1 T (x : Int)) (y : Int) = (tN T x y : Int) from A.val x y hx hy, show rd (rd_L1 T (y : Int)) (z : Int) = (tN T y z : Int) from A.val y z hy hz, show rd (rd_L1 T (x : Int)) (z : Int) = (tN T x z : Int) from A.val x z hx hz,
           show rd (rd_L1 T (tN T x y : Int)) (z : Int) = (tN T (tN T x y) z : Int) from A.val _ z hxy hz, show rd (rd_L1 T (x : Int)) (tN T y z : Int) = (tN T x (tN T y z) : Int) from A.val x _ hx hyz]
          refine Ev.pos (by omega) (Ev.pos (by omega) (Ev.pos (by omega) (Ev.pos (by omega) (Ev.pos (by omega) (Ev.pos (by omega) (Ev.pos (by omega) (Ev.pos (by omega) (Ev.pos (by omega) (Ev.pos (by omega) (Ev.pos (by omega) (Ev.pos (by omega) (Ev.pos (by omega) ?_))))))))))))
          refine Ev.ite' (fun c1 => ?_) (fun c1 => ?_)
          ·refine Ev.bind (sjoin hb hy hz) (Ev.pos (by omega) (Ev.pos (by omega) (Ev.pos (by omega) (Ev.bind (sjoin hb hxy hxz) ?_))))
           rw [show rd (rd_L1 T (x : Int)) (joinN up y z : Int) = (tN T x (joinN up y z) : Int) from A.val x _ hx hj]
           refine Ev.ite' (fun c2 => s1 ?_) (fun c2 => ?_)
           ·unfold lawAt
            rw [decide_eq_true (show tN T (tN T x y) z = tN T x (tN T y z) by omega), decide_eq_true (show tN T x (joinN up y z) = joinN up (tN T x y) (tN T x z) by omega)]
            rfl
           ·rw [s2 ?_]
            ·exact Ev.some _
            ·unfold lawAt
             rw [decide_eq_false (fun e => c2 (by omega) : ¬ tN T x (joinN up y z) = joinN up (tN T x y) (tN T x z)), Bool.and_false]
          ·rw [s2 ?_]
           ·exact Ev.some _
           ·unfold lawAt
            rw [decide_eq_false (fun e => c1 (by omega) : ¬ tN T (tN T x y) z = tN T x (tN T y z)), Bool.false_and]
         ·intro e
          refine Ev.step (fun k => by simp only [spec_validAlgebra.l4]; exact rfl) (Ev.neg (by omega) ?_)
          rw [w64s hy (by omega)]
          exact q1 e
        ·rw [q2 ?_]
         ·exact Ev.some _
         ·unfold lawY
          rw [decide_eq_false (fun e => c (by omega) : ¬ tN T x y = tN T y x), Bool.false_and]
       ·intro e
        refine Ev.step (fun k => by simp only [spec_validAlgebra.l3]; exact rfl) (Ev.neg (by omega) ?_)
        rw [w64s hx (by omega)]
        exact k1 e
     refine Ev.ite' (fun c => Ev.pos (by omega) (key _ ?_)) (fun c => key _ ?_)
     ·rw [bne_eq_false_iff_eq]
      omega
     ·constructor
      ·intro h; cases h
      ·intro h; exact absurd (by omega) c
    ·refine Ev.step (fun k => by simp only [spec_validAlgebra.l2]; exact rfl) (Ev.neg (by omega) ?_)
     rw [show lawB up T = true from e]
     exact Ev.some _
   ·intro e
    rw [show allN up.length (rowB up T) = false from e]
    rfl
  ·refine Ev.pos ?_ (Ev.eq (Ev.some _) (shape_no hT).symm)
   rw [bne_iff_ne]
   omega
theorem cf_val (r : List Int) (n : Nat) (h6 : n ≤ 6) (hr : r.length ≤ 17592186044416) : cf_ValidAlgebra_1.f r (n : Int) = some (r.any fun x => !(decide (0 ≤ x ∧ x ≤ (n : Int) - 1))) := by
 unfold cf_ValidAlgebra_1.f
 rw [if_pos (by omega)]
 congr 2
 funext x
 rw [w64 (x := (n : Int) - 1) (by omega) (by omega)]
 unfold withinB
 rw [← Bool.decide_and]
theorem any_row {up : List Int} {T : List (List Int)} {x : Nat} (hc : (rd_L1 T (x : Int)).length = up.length) : ((rd_L1 T (x : Int)).any fun v => !(decide (0 ≤ v ∧ v ≤ (up.length : Int) - 1))) = !(allN up.length (valAt up T x)) := by
 rw [Bool.eq_iff_iff, List.any_eq_true, Bool.not_eq_true', ← Bool.not_eq_true, allN_iff]
 constructor
 ·rintro ⟨v, hv, hn⟩ h
  obtain ⟨i, hi, rfl⟩ := List.mem_iff_getElem.1 hv
  have := h i (by omega)
  unfold valAt at this
  rw [show rowT T x = rd_L1 T (x : Int) from rfl, rd_lt hi] at this
  rw [this] at hn
  cases hn
 ·intro h
  refine Classical.byContradiction fun hc2 => h fun i hi => ?_
  have hi' : i < (rd_L1 T (x : Int)).length := by omega
  unfold valAt
  rw [show rowT T x = rd_L1 T (x : Int) from rfl, rd_lt hi']
  refine Classical.byContradiction fun hv => hc2 ⟨_, List.getElem_mem hi', ?_⟩
  rw [Bool.not_eq_true] at hv
  rw [hv]
  rfl
theorem impl_ValidAlgebra_ev (up : List Int) (T : List (List Int)) (hl : up.length ≤ 17592186044416) : Ev (fun k => impl_ValidAlgebra.f k up T) (algB up T) := by
 unfold impl_ValidAlgebra.f
 refine Ev.bind (impl_ValidLattice_ev up hl) ?_
 unfold algB
 cases hb : latB up with
 | false =>
  refine Ev.neg (by decide) (Ev.step (fun k => by simp only [impl_ValidAlgebra.j0]; exact rfl) ?_)
  exact Ev.pos trivial (Ev.some _)
 | true =>
  obtain ⟨ho, h1⟩ := latB_ok hb
  have h6 := ho.1
  have en := last_eq h1 h6
  rw [Bool.true_and]
  refine Ev.pos rfl (Ev.step (fun k => by simp only [impl_ValidAlgebra.j0]; exact rfl) ?_)
  by_cases hT : T.length = up.length
  ·refine Ev.neg (by simp [hT]) ?_
   rw [shape_rows hT]
   refine ev_all (fun k i => impl_ValidAlgebra.l0 k T (T.length : Int) i up T (up.length : Int)) up.length (rowB up T) _ ?_ ?_ ?_
   ·intro x hx r k1 k2
    refine Ev.step (fun k => by simp only [impl_ValidAlgebra.l0]; exact rfl) (Ev.pos (by omega) (Ev.pos (by omega) (Ev.pos (by omega) ?_)))
    rw [w64s hx (by omega)]
    refine Ev.ite' (fun c => ?_) (fun c => ?_)
    ·have hc : (rd_L1 T (x : Int)).length = up.length := by omega
     have hr : rowB up T x = allN up.length (valAt up T x) := by
      unfold rowB
      rw [decide_eq_true (p := (rowT T x).length = up.length) hc, Bool.true_and]
     rw [hr] at k1 k2
     refine Ev.bindc (cf_val _ _ h6 (by omega)) ?_
     rw [any_row hc]
     cases hv : allN up.length (valAt up T x) with
     | true => exact Ev.neg (by decide) (k1 hv)
     | false =>
      rw [k2 hv]
      exact Ev.pos rfl (Ev.some _)
    ·rw [k2 (by unfold rowB; rw [decide_eq_false (p := (rowT T x).length = up.length) (fun e => c (by show ((rowT T x).length : Int) = _; omega)), Bool.false_and])]
     exact Ev.some _
   ·intro e
    have e' : allN up.length (rowB up T) = true := e
    have A : Tab up T := Tab.of (by rw [shape_rows hT]; exact e)
    refine Ev.step (fun k => by simp only [impl_ValidAlgebra.l0]; exact rfl) (Ev.neg (by omega) ?_)
    rw [e', Bool.true_and]
    refine ev_all (fun k i => impl_ValidAlgebra.l1 k (up.length : Int) i up T (up.length : Int)) up.length (lawX up T) _ ?_ (fun e => ?_) (fun e => e)
    ·intro x hx r k1 k2
     have rx : (rd_L1 T (x : Int)).length = up.length := A.row x hx
     refine Ev.step (fun k => by simp only [impl_ValidAlgebra.l1]; exact rfl) ?_
     rw [en, show rd (rd_L1 T (x : Int)) ((up.length - 1 : Nat) : Int) = (tN T x (up.length - 1) : Int) from A.val x _ hx (by omega), show rd (rd_L1 T (x : Int)) 0 = (tN T x 0 : Int) from A.val x 0 hx (by omega)]
     refine Ev.pos (by omega) (Ev.pos (by omega) (Ev.pos (by omega) (Ev.pos (by omega) (Ev.pos (by omega) ?_))))
     have key : ∀ b : Bool, (b = false ↔ tN T x (up.length - 1) = x ∧ tN T x 0 = 0) → Ev (fun k => impl_ValidAlgebra.j3 k (x : Int) (up.length : Int) (x : Int) b up T (up.length : Int)) r := by
      intro b hb'
      refine Ev.step (fun k => by simp only [impl_ValidAlgebra.j3]; exact rfl) ?_
      cases b with
      | true =>
       rw [k2 ?_]
       ·exact Ev.pos rfl (Ev.some _)
       ·unfold lawX
        rw [Bool.and_eq_false_iff]
        left
        rw [Bool.eq_false_iff]
        intro h
        rw [Bool.and_eq_true, decide_eq_true_eq, decide_eq_true_eq] at h
        have := hb'.2 h
        cases this
      | false =>
       refine Ev.neg (by decide) ?_
       obtain ⟨c1, c2⟩ := hb'.1 rfl
       have hr : lawX up T x = allN up.length (lawY up T x) := by
        unfold lawX
        rw [decide_eq_true c1, decide_eq_true c2, Bool.true_and, Bool.true_and]
       rw [hr] at k1 k2
       refine ev_all (fun k i => impl_ValidAlgebra.l2 k (x : Int) (up.length : Int) (x : Int) (up.length : Int) i up T (up.length : Int)) up.length (lawY up T x) r ?_ ?_ k2
       ·intro y hy r q1 q2
        have ry : (rd_L1 T (y : Int)).length = up.length := A.row y hy
        have hxy := A.lt x y hx hy
        have rxy : (rd_L1 T (tN T x y : Int)).length = up.length := A.row _ hxy
        refine Ev.step (fun k => by simp only [impl_ValidAlgebra.l2]; exact rfl) ?_
        rw [show rd (rd_L1 T (x : Int)) (y : Int) = (tN T x y : Int) from A.val x y hx hy, show rd (rd_L1 T (y : Int)) (x : Int) = (tN T y x : Int) from A.val y x hy hx]
        refine Ev.pos (by omega) (Ev.pos (by omega) (Ev.pos (by omega) (Ev.pos (by omega) (Ev.pos (by omega) (Ev.pos (by omega) (Ev.pos (by omega) ?_))))))
        refine Ev.ite' (fun c => ?_) (fun c => ?_)
        ·have hr : lawY up T x y = allN up.length (lawAt up T x y) := by
          unfold lawY
          rw [decide_eq_true (p := tN T x y = tN T y x) (by omega), Bool.true_and]
         rw [hr] at q1 q2
         refine ev_all (fun k i => impl_ValidAlgebra.l3 k (x : Int) (y : Int) (up.length : Int) (x : Int) (up.length : Int) (y : Int) (up.length : Int) i up T (up.length : Int)) up.length (lawAt up T x y) r ?_ ?_ q2
         ·intro z hz r s1 s2
          have hyz := A.lt y z hy hz
          have hxz := A.lt x z hx hz
          have hj := jlt hb hy hz
          refine Ev.step (fun k => by simp only [impl_ValidAlgebra.l3]; exact rfl) ?_
          rw [w64s hz (by omega), show rd (rd_L1 T (x : Int)) (y : Int) = (tN T x y : Int) from A.val x y hx hy, show rd (rd_L1 T (y : Int)) (z : Int) = (tN T y z : Int) from A.val y z hy hz, show rd (rd_L1 T (x : Int)) (z : Int) = (tN T x z : Int) from A.val x z hx hz,
           show rd (rd_L1 T (tN T x y : Int)) (z : Int) = (tN T (tN T x y) z : Int) from A.val _ z hxy hz, show rd (rd_L1 T (x : Int)) (tN T y z : Int) = (tN T x (tN T y z) : Int) from A.val x _ hx hyz]
          refine Ev.pos (by omega) (Ev.pos (by omega) (Ev.pos (by omega) (Ev.pos (by omega) (Ev.pos (by omega) (Ev.pos (by omega) (Ev.pos (by omega) (Ev.pos (by omega) (Ev.pos (by omega) (Ev.pos (by omega) (Ev.pos (by omega) (Ev.pos (by omega) (Ev.pos (by omega) ?_))))))))))))
          refine Ev.ite' (fun c1 => ?_) (fun c1 => ?_)
          ·refine Ev.bind (ijoin hb hy hz) (Ev.pos (by omega) (Ev.pos (by omega) (Ev.pos (by omega) (Ev.bind (ijoin hb hxy hxz) ?_))))
           rw [show rd (rd_L1 T (x : Int)) (joinN up y z : Int) = (tN T x (joinN up y z) : Int) from A.val x _ hx hj]
           refine Ev.ite' (fun c2 => s1 ?_) (fun c2 => ?_)
           ·unfold lawAt
            rw [decide_eq_true (show tN T (tN T x y) z = tN T x (tN T y z) by omega), decide_eq_true (show tN T x (joinN up y z) = joinN up (tN T x y) (tN T x z) by omega)]
            rfl
           ·rw [s2 ?_]
            ·exact Ev.some _
            ·unfold lawAt
             rw [decide_eq_false (fun e => c2 (by omega) : ¬ tN T x (joinN up y z) = joinN up (tN T x y) (tN T x z)), Bool.and_false]
          ·rw [s2 ?_]
           ·exact Ev.some _
           ·unfold lawAt
            rw [decide_eq_false (fun e => c1 (by omega) : ¬ tN T (tN T x y) z = tN T x (tN T y z)), Bool.false_and]
         ·intro e
          refine Ev.step (fun k => by simp only [impl_ValidAlgebra.l3]; exact rfl) (Ev.neg (by omega) ?_)
          rw [w64s hy (by omega)]
          exact q1 e
        ·rw [q2 ?_]
         ·exact Ev.some _
         ·unfold lawY
          rw [decide_eq_false (fun e => c (by omega) : ¬ tN T x y = tN T y x), Bool.false_and]
       ·intro e
        refine Ev.step (fun k => by simp only [impl_ValidAlgebra.l2]; exact rfl) (Ev.neg (by omega) ?_)
        rw [w64s hx (by omega)]
        exact k1 e
     refine Ev.ite' (fun c => Ev.pos (by omega) (key _ ?_)) (fun c => key _ ?_)
     ·rw [bne_eq_false_iff_eq]
      omega
     ·constructor
      ·intro h; cases h
      ·intro h; exact absurd (by omega) c
    ·refine Ev.step (fun k => by simp only [impl_ValidAlgebra.l1]; exact rfl) (Ev.neg (by omega) ?_)
     rw [show lawB up T = true from e]
     exact Ev.some _
   ·intro e
    rw [show allN up.length (rowB up T) = false from e]
    rfl
  ·refine Ev.pos ?_ (Ev.eq (Ev.some _) (shape_no hT).symm)
   rw [bne_iff_ne]
   omega
theorem clone_eq (l : List Int) (hl : l.length ≤ 17592186044415) : slices_Clone_int_int.f l = some l := by
 show (if ([] : List Int).length + l.length < 17592186044416 then some ([] ++ l) else none) = some l
 rw [if_pos (by simp; omega)]
 rfl
theorem all_rounds {P : Nat → Nat → Prop} : ∀ n, (∀ i, i < n → ∃ K, ∀ k, K ≤ k → P i k) → ∃ K, ∀ i, i < n → ∀ k, K ≤ k → P i k
 | 0, _ => ⟨0, fun i hi => absurd hi (Nat.not_lt_zero _)⟩
 | n + 1, h => by
  obtain ⟨K, hK⟩ := all_rounds n (fun i hi => h i (by omega))
  obtain ⟨K', hK'⟩ := h n (by omega)
  refine ⟨max K K', fun i hi k hk => ?_⟩
  by_cases e : i = n
  ·subst e
   exact hK' k (by omega)
  ·exact hK i (by omega) k (by omega)
theorem rowF_succ (y : Nat) (f : Nat → Nat) : rowF y f ++ [((f y : Nat) : Int)] = rowF (y + 1) f := by
 unfold rowF
 rw [List.range_succ, List.map_append]
 rfl
theorem build_row (t : Int → Int → Option Int) (f : Nat → Nat → Nat) (up U : List Int) (n : Nat) (hn : n ≤ 1000) (x : Nat) (hx : x < n) (ht : ∀ y, y < n → t (x : Int) (y : Int) = some ((f x y : Nat) : Int)) (T : List (List Int)) (hT : T.length ≤ 1000) (c : List Int × List (List Int)) (m : Nat)
  (hc : ∀ j, m ≤ j → impl_build.l0 t j up (n : Int) ((x + 1 : Nat) : Int) U (T ++ [rowF n (f x)]) = some c) :
  ∀ d y, y + d = n → ∀ j, m + d + 1 ≤ j → impl_build.l1 t j up (x : Int) (rowF y (f x)) (n : Int) (x : Int) (n : Int) (y : Int) U T = some c := by
 intro d
 induction d with
 | zero =>
  intro y hy j hj
  obtain rfl : y = n := by omega
  obtain ⟨k, rfl⟩ : ∃ k, j = k + 1 := ⟨j - 1, by omega⟩
  simp only [impl_build.l1]
  rw [if_neg (by omega), if_pos (by omega), w64s hx (by omega)]
  exact hc k (by omega)
 | succ d ih =>
  intro y hy j hj
  obtain ⟨k, rfl⟩ : ∃ k, j = k + 1 := ⟨j - 1, by omega⟩
  simp only [impl_build.l1]
  rw [if_pos (by omega), ht y (by omega), Option.bind_some, if_pos (by rw [rowF_len]; omega), w64s (show y < n by omega) (by omega), rowF_succ]
  exact ih (y + 1) (by omega) k (by omega)
theorem build_rows (t : Int → Int → Option Int) (f : Nat → Nat → Nat) (up U : List Int) (n : Nat) (hl : up.length = n) (hn : n ≤ 1000) (ht : ∀ x y, x < n → y < n → t (x : Int) (y : Int) = some ((f x y : Nat) : Int)) :
  ∀ d x, x + d = n → ∀ j, d * (n + 2) + 1 ≤ j → impl_build.l0 t j up (n : Int) (x : Int) U ((List.range x).map fun x => rowF n (f x)) = some (U, tabF n f) := by
 intro d
 induction d with
 | zero =>
  intro x hx j hj
  obtain rfl : x = n := by omega
  obtain ⟨k, rfl⟩ : ∃ k, j = k + 1 := ⟨j - 1, by omega⟩
  simp only [impl_build.l0]
  rw [if_neg (by omega)]
  rfl
 | succ d ih =>
  intro x hx j hj
  obtain ⟨k, rfl⟩ : ∃ k, j = k + 1 := ⟨j - 1, by omega⟩
  rw [Nat.succ_mul] at hj
  simp only [impl_build.l0]
  rw [if_pos (by omega), hl]
  refine build_row t f up U n hn x (by omega) (fun y hy => ht x y (by omega) hy) _ (by simp; omega) _ (d * (n + 2) + 1) (fun j hj => ?_) n 0 (by omega) k (by omega)
  have e : (List.map (fun x => rowF n (f x)) (List.range x) ++ [rowF n (f x)]) = List.map (fun x => rowF n (f x)) (List.range (x + 1)) := by
   rw [List.range_succ, List.map_append]
   rfl
  rw [e]
  exact ih (x + 1) (by omega) j hj
theorem build_ev (t : Nat → Int → Int → Option Int) (f : Nat → Nat → Nat) (up : List Int) (hu : up.length ≤ 1000) (ht : ∀ x y, x < up.length → y < up.length → Ev (fun k => t k (x : Int) (y : Int)) ((f x y : Nat) : Int)) :
  Ev (fun k => impl_build.f (t k) k up) (up, tabF up.length f) := by
 obtain ⟨K, hK⟩ := all_rounds (P := fun x k => ∀ y, y < up.length → t k (x : Int) (y : Int) = some ((f x y : Nat) : Int)) up.length (fun x hx => by
  obtain ⟨K, hK⟩ := all_rounds (P := fun y k => t k (x : Int) (y : Int) = some ((f x y : Nat) : Int)) up.length (fun y hy => ht x y hx hy)
  exact ⟨K, fun k hk y hy => hK y hy k hk⟩)
 refine ⟨max K (up.length * (up.length + 2) + 1), fun k hk => ?_⟩
 show ((slices_Clone_int_int.f up).bind fun t245 => (impl_build.l0 (t k) k up (up.length : Int) 0 t245 ([] : List (List Int)))) = _
 rw [clone_eq up (by omega), Option.bind_some]
 exact build_rows (t k) f up up up.length rfl hu (fun x y hx hy => hK x hx k (by omega) y hy) up.length 0 (by omega) k (by omega)
theorem rows_take (T : List (List Int)) (i : Nat) (hi : i < T.length) : T.take i ++ [rd_L1 T (i : Int)] = T.take (i + 1) := by
 rw [List.take_succ_eq_append_getElem hi]
 simp [rd_L1, hi]
theorem copyAlgebra_ev (up : List Int) (T : List (List Int)) (hu : up.length ≤ 1000000) (hT : T.length ≤ 1000000) (hr : ∀ r ∈ T, r.length ≤ 1000000) : Ev (fun k => impl_copyAlgebra.f k up T) (up, T) := by
 unfold impl_copyAlgebra.f
 refine Ev.bindc (clone_eq up (by omega)) ?_
 have hl : ∀ d i, i + d = T.length → Ev (fun k => impl_copyAlgebra.l0 k T (T.length : Int) (i : Int) up (T.take i)) (up, T) := by
  intro d
  induction d with
  | zero =>
   intro i hi
   obtain rfl : i = T.length := by omega
   refine Ev.step (fun k => by simp only [impl_copyAlgebra.l0]; exact rfl) ?_
   rw [List.take_length]
   exact Ev.neg (by omega) (Ev.some _)
  | succ d ih =>
   intro i hi
   refine Ev.step (fun k => by simp only [impl_copyAlgebra.l0]; exact rfl) ?_
   refine Ev.pos (by omega) (Ev.pos (by omega) (Ev.pos (by omega) ?_))
   refine Ev.bindc (clone_eq _ ?_) ?_
   ·have : rd_L1 T (i : Int) ∈ T := by
     have hi' : i < T.length := by omega
     simp [rd_L1, hi']
    have := hr _ this
    omega
   ·refine Ev.pos (by rw [List.length_take]; omega) ?_
    rw [rows_take T i (by omega), w64s (show i < T.length by omega) (by omega)]
    exact ih (i + 1) (by omega)
 exact hl T.length 0 (by omega)
theorem Tab.rows {up : List Int} {T : List (List Int)} (h : Tab up T) : ∀ r ∈ T, r.length = up.length := by
 intro r hr
 obtain ⟨i, hi, rfl⟩ := List.mem_iff_getElem.1 hr
 have h2 := h.row i (by rw [← h.len]; exact hi)
 rwa [rowT_lt hi] at h2
theorem algebraOr_yes {up : List Int} {T : List (List Int)} (A : Alg up T) : Ev (fun k => impl_algebraOr.f k up T) (up, T, true) := by
 have h6 := A.ok.1
 have hl := A.len
 unfold impl_algebraOr.f
 refine Ev.bind (impl_ValidAlgebra_ev up T (by omega)) ?_
 rw [A.alg]
 exact Ev.pos rfl (Ev.bind (copyAlgebra_ev up T (by omega) (by omega) (fun r hr => by rw [A.toTab.rows r hr]; omega)) (Ev.some _))
def maskN (p : Nat → Bool) : Nat → Nat
 | 0 => 0
 | n + 1 => maskN p n + (if p n then 2 ^ n else 0)
theorem maskN_lt (p : Nat → Bool) (n : Nat) : maskN p n < 2 ^ n := by
 induction n with
 | zero => simp [maskN]
 | succ n ih =>
  unfold maskN
  rw [Nat.pow_succ]
  split <;> omega
theorem or_pow (a n : Nat) (h : a < 2 ^ n) : a ||| 2 ^ n = a + 2 ^ n := by
 have := Nat.two_pow_add_eq_or_of_lt h 1
 rw [Nat.mul_one] at this
 rw [Nat.or_comm, ← this, Nat.add_comm]
theorem maskN_testBit (p : Nat → Bool) (n : Nat) : ∀ i, (maskN p n).testBit i = (decide (i < n) && p i) := by
 induction n with
 | zero => intro i; simp [maskN]
 | succ n ih =>
  intro i
  have hlt := maskN_lt p n
  unfold maskN
  cases hp : p n with
  | false =>
   simp only [Bool.false_eq_true, if_false, Nat.add_zero]
   rw [ih i]
   by_cases e : i = n
   ·subst e; simp [hp]
   ·have : decide (i < n + 1) = decide (i < n) := by rw [decide_eq_decide]; omega
    rw [this]
  | true =>
   simp only [if_true]
   rw [← or_pow _ n hlt, Nat.testBit_or, ih i, Nat.testBit_two_pow]
   by_cases e : i = n
   ·subst e; simp [hp]
   ·have h1 : decide (i < n + 1) = decide (i < n) := by rw [decide_eq_decide]; omega
    have h2 : decide (n = i) = false := decide_eq_false (fun h => e h.symm)
    rw [h1, h2, Bool.or_false]
def relU (n : Nat) (p : Nat → Nat → Bool) : List Int := (List.range n).map fun x => ((maskN (p x) n : Nat) : Int)
theorem relU_len (n : Nat) (p : Nat → Nat → Bool) : (relU n p).length = n := by simp [relU]
theorem relU_rd {n : Nat} {p : Nat → Nat → Bool} {x : Nat} (hx : x < n) : rd (relU n p) (x : Int) = ((maskN (p x) n : Nat) : Int) := by
 rw [rd_lt (by rw [relU_len]; exact hx)]
 simp [relU]
theorem relU_le {n : Nat} {p : Nat → Nat → Bool} {x y : Nat} (hx : x < n) (hy : y < n) : le (relU n p) x y = p x y := by
 unfold le
 rw [relU_rd hx, Int.toNat_natCast, maskN_testBit, decide_eq_true hy, Bool.true_and]
theorem relU_ok {n : Nat} (p : Nat → Nat → Bool) (h6 : n ≤ 6) : OkR (relU n p) := by
 refine ⟨by rw [relU_len]; exact h6, fun x hx => ?_⟩
 rw [relU_len] at hx
 rw [relU_rd hx, relU_len]
 have := maskN_lt (p x) n
 omega
def low (a : List Int) : Nat := a.length - 1
def stN (a b : List Int) : Nat := low a + b.length
def stLe (a b : List Int) (x y : Nat) : Bool := if x < low a then (if y < low a then le a x y else true) else (if y < low a then false else le b (x - low a) (y - low a))
def stUp (a b : List Int) : List Int := relU (stN a b) (stLe a b)
def stJ (a b : List Int) (x y : Nat) : Nat := if x < low a then (if y < low a then joinN a x y else y) else (if y < low a then x else low a + joinN b (x - low a) (y - low a))
def stM (a b : List Int) (x y : Nat) : Nat := if x < low a then (if y < low a then meetN a x y else x) else (if y < low a then y else low a + meetN b (x - low a) (y - low a))
def stT (a b : List Int) (Ta Tb : List (List Int)) (x y : Nat) : Nat := if x < low a then (if y < low a then tN Ta x y else x) else (if y < low a then y else low a + tN Tb (x - low a) (y - low a))
theorem stUp_len (a b : List Int) : (stUp a b).length = stN a b := relU_len _ _
theorem m_low {a : List Int} (ha : latB a = true) {x y : Nat} (c : x < low a) (hy : y < a.length) : meetN a x y < low a := by
 have La := Lat.of ha
 have pa := La.pos
 have hla : low a + 1 = a.length := by unfold low; omega
 have h1 := mlt ha (x := x) (by omega) hy
 have h2 := m_l ha (x := x) (by omega) hy
 refine Classical.byContradiction fun hc => ?_
 have e : meetN a x y = a.length - 1 := by omega
 rw [e] at h2
 have := La.anti x (a.length - 1) (by omega) (by omega) (La.top x (by omega)) h2
 omega
section
variable {a b : List Int} (ha : latB a = true) (hb : latB b = true)
include ha hb
theorem st_lat (h6 : stN a b ≤ 6) : Lat (stUp a b) := by
 have La := Lat.of ha
 have Lb := Lat.of hb
 have pa := La.pos
 have pb := Lb.pos
 have hla : low a + 1 = a.length := by unfold low; omega
 have hn : stN a b = low a + b.length := rfl
 have hle : ∀ x y, x < stN a b → y < stN a b → le (stUp a b) x y = stLe a b x y := fun x y hx hy => relU_le hx hy
 refine ⟨relU_ok _ h6, by rw [stUp_len]; omega, ?_, ?_, ?_, ?_, ?_⟩
 ·intro x hx
  rw [stUp_len] at hx
  rw [hle x x hx hx]
  unfold stLe
  by_cases c : x < low a
  ·rw [if_pos c, if_pos c]; exact La.refl x (by omega)
  ·rw [if_neg c, if_neg c]; exact Lb.refl _ (by omega)
 ·intro x hx
  rw [stUp_len] at hx
  rw [hle 0 x (by omega) hx]
  unfold stLe
  by_cases c : 0 < low a
  ·rw [if_pos c]
   by_cases c2 : x < low a
   ·rw [if_pos c2]; exact La.bot x (by omega)
   ·rw [if_neg c2]
  ·rw [if_neg c, if_neg (by omega), Nat.zero_sub]
   exact Lb.bot _ (by omega)
 ·intro x hx
  rw [stUp_len] at hx ⊢
  rw [hle x _ hx (by omega)]
  unfold stLe
  by_cases c : x < low a
  ·rw [if_pos c, if_neg (by omega)]
  ·rw [if_neg c, if_neg (by omega), show stN a b - 1 - low a = b.length - 1 by omega]
   exact Lb.top _ (by omega)
 ·intro x y hx hy h1 h2
  rw [stUp_len] at hx hy
  rw [hle x y hx hy] at h1
  rw [hle y x hy hx] at h2
  unfold stLe at h1 h2
  by_cases c : x < low a
  ·by_cases c2 : y < low a
   ·rw [if_pos c, if_pos c2] at h1
    rw [if_pos c2, if_pos c] at h2
    exact La.anti x y (by omega) (by omega) h1 h2
   ·rw [if_neg c2, if_pos c] at h2
    cases h2
  ·by_cases c2 : y < low a
   ·rw [if_neg c, if_pos c2] at h1
    cases h1
   ·rw [if_neg c, if_neg c2] at h1
    rw [if_neg c2, if_neg c] at h2
    have := Lb.anti _ _ (by omega) (by omega) h1 h2
    omega
 ·intro x y z hx hy hz h1 h2
  rw [stUp_len] at hx hy hz
  rw [hle x y hx hy] at h1
  rw [hle y z hy hz] at h2
  rw [hle x z hx hz]
  unfold stLe at h1 h2 ⊢
  by_cases c : x < low a
  ·rw [if_pos c] at h1 ⊢
   by_cases c3 : z < low a
   ·rw [if_pos c3]
    by_cases c2 : y < low a
    ·rw [if_pos c2] at h1
     rw [if_pos c2, if_pos c3] at h2
     exact La.trans x y z (by omega) (by omega) (by omega) h1 h2
    ·rw [if_neg c2, if_pos c3] at h2
     cases h2
   ·rw [if_neg c3]
  ·rw [if_neg c] at h1 ⊢
   by_cases c2 : y < low a
   ·rw [if_pos c2] at h1
    cases h1
   ·rw [if_neg c2] at h1 h2
    by_cases c3 : z < low a
    ·rw [if_pos c3] at h2
     cases h2
    ·rw [if_neg c3] at h2 ⊢
     exact Lb.trans _ _ _ (by omega) (by omega) (by omega) h1 h2
theorem st_join (h6 : stN a b ≤ 6) {x y : Nat} (hx : x < stN a b) (hy : y < stN a b) : stJ a b x y < stN a b ∧ isJoin (stUp a b) x y (stJ a b x y) = true := by
 have La := Lat.of ha
 have Lb := Lat.of hb
 have pa := La.pos
 have pb := Lb.pos
 have hla : low a + 1 = a.length := by unfold low; omega
 have hn : stN a b = low a + b.length := rfl
 have L := st_lat ha hb h6
 have hle : ∀ x y, x < stN a b → y < stN a b → le (stUp a b) x y = stLe a b x y := fun x y hx hy => relU_le hx hy
 by_cases c : x < low a
 ·by_cases c2 : y < low a
  ·have hj := jlt ha (x := x) (y := y) (by omega) (by omega)
   have e : stJ a b x y = joinN a x y := by unfold stJ; rw [if_pos c, if_pos c2]
   rw [e]
   refine ⟨by omega, ?_⟩
   rw [isJoin_iff]
   by_cases c3 : joinN a x y < low a
   ·rw [hle x _ hx (by omega), hle y _ hy (by omega)]
    refine ⟨?_, ?_, ?_⟩
    ·unfold stLe; rw [if_pos c, if_pos c3]; exact j_l ha (by omega) (by omega)
    ·unfold stLe; rw [if_pos c2, if_pos c3]; exact j_r ha (by omega) (by omega)
    ·intro w hw h1 h2
     rw [stUp_len] at hw
     rw [hle x w hx hw] at h1
     rw [hle y w hy hw] at h2
     rw [hle _ w (by omega) hw]
     unfold stLe at h1 h2 ⊢
     rw [if_pos c] at h1
     rw [if_pos c2] at h2
     rw [if_pos c3]
     by_cases c4 : w < low a
     ·rw [if_pos c4] at h1 h2 ⊢
      exact j_g ha (by omega) (by omega) (by omega) h1 h2
     ·rw [if_neg c4]
   ·have ej : joinN a x y = low a := by omega
    rw [hle x _ hx (by omega), hle y _ hy (by omega)]
    refine ⟨?_, ?_, ?_⟩
    ·unfold stLe; rw [if_pos c, if_neg c3]
    ·unfold stLe; rw [if_pos c2, if_neg c3]
    ·intro w hw h1 h2
     rw [stUp_len] at hw
     rw [hle x w hx hw] at h1
     rw [hle y w hy hw] at h2
     rw [hle _ w (by omega) hw]
     unfold stLe at h1 h2 ⊢
     rw [if_pos c] at h1
     rw [if_pos c2] at h2
     rw [if_neg c3]
     by_cases c4 : w < low a
     ·rw [if_pos c4] at h1 h2
      have h3 := j_g ha (by omega) (by omega) (show w < a.length by omega) h1 h2
      have h4 := La.top w (by omega)
      rw [ej] at h3
      have := La.anti w (low a) (by omega) (by omega) (by rw [show low a = a.length - 1 from rfl]; exact h4) h3
      omega
     ·rw [if_neg c4, ej, Nat.sub_self]
      exact Lb.bot _ (by omega)
  ·have e : stJ a b x y = y := by unfold stJ; rw [if_pos c, if_neg c2]
   rw [e]
   refine ⟨hy, isJoin_iff.2 ⟨?_, L.refl y (by rw [stUp_len]; exact hy), fun w hw h1 h2 => h2⟩⟩
   rw [hle x y hx hy]
   unfold stLe
   rw [if_pos c, if_neg c2]
 ·by_cases c2 : y < low a
  ·have e : stJ a b x y = x := by unfold stJ; rw [if_neg c, if_pos c2]
   rw [e]
   refine ⟨hx, isJoin_iff.2 ⟨L.refl x (by rw [stUp_len]; exact hx), ?_, fun w hw h1 h2 => h1⟩⟩
   rw [hle y x hy hx]
   unfold stLe
   rw [if_pos c2, if_neg c]
  ·have hj := jlt hb (x := x - low a) (y := y - low a) (by omega) (by omega)
   have e : stJ a b x y = low a + joinN b (x - low a) (y - low a) := by unfold stJ; rw [if_neg c, if_neg c2]
   rw [e]
   refine ⟨by omega, ?_⟩
   rw [isJoin_iff, hle x _ hx (by omega), hle y _ hy (by omega)]
   refine ⟨?_, ?_, ?_⟩
   ·unfold stLe; rw [if_neg c, if_neg (by omega), Nat.add_sub_cancel_left]; exact j_l hb (by omega) (by omega)
   ·unfold stLe; rw [if_neg c2, if_neg (by omega), Nat.add_sub_cancel_left]; exact j_r hb (by omega) (by omega)
   ·intro w hw h1 h2
    rw [stUp_len] at hw
    rw [hle x w hx hw] at h1
    rw [hle y w hy hw] at h2
    rw [hle _ w (by omega) hw]
    unfold stLe at h1 h2 ⊢
    rw [if_neg c] at h1
    rw [if_neg c2] at h2
    rw [if_neg (by omega), Nat.add_sub_cancel_left]
    by_cases c4 : w < low a
    ·rw [if_pos c4] at h1
     cases h1
    ·rw [if_neg c4] at h1 h2 ⊢
     exact j_g hb (by omega) (by omega) (by omega) h1 h2
theorem st_meet (h6 : stN a b ≤ 6) {x y : Nat} (hx : x < stN a b) (hy : y < stN a b) : stM a b x y < stN a b ∧ isMeet (stUp a b) x y (stM a b x y) = true := by
 have La := Lat.of ha
 have Lb := Lat.of hb
 have pa := La.pos
 have pb := Lb.pos
 have hla : low a + 1 = a.length := by unfold low; omega
 have hn : stN a b = low a + b.length := rfl
 have L := st_lat ha hb h6
 have hle : ∀ x y, x < stN a b → y < stN a b → le (stUp a b) x y = stLe a b x y := fun x y hx hy => relU_le hx hy
 by_cases c : x < low a
 ·by_cases c2 : y < low a
  ·have hj := m_low ha c (y := y) (by omega)
   have e : stM a b x y = meetN a x y := by unfold stM; rw [if_pos c, if_pos c2]
   rw [e]
   refine ⟨by omega, ?_⟩
   rw [isMeet_iff, hle _ x (by omega) hx, hle _ y (by omega) hy]
   refine ⟨?_, ?_, ?_⟩
   ·unfold stLe; rw [if_pos hj, if_pos c]; exact m_l ha (by omega) (by omega)
   ·unfold stLe; rw [if_pos hj, if_pos c2]; exact m_r ha (by omega) (by omega)
   ·intro w hw h1 h2
    rw [stUp_len] at hw
    rw [hle w x hw hx] at h1
    rw [hle w y hw hy] at h2
    rw [hle w _ hw (by omega)]
    unfold stLe at h1 h2 ⊢
    by_cases c4 : w < low a
    ·rw [if_pos c4, if_pos c] at h1
     rw [if_pos c4, if_pos c2] at h2
     rw [if_pos c4, if_pos hj]
     exact m_g ha (by omega) (by omega) (by omega) h1 h2
    ·rw [if_neg c4, if_pos c] at h1
     cases h1
  ·have e : stM a b x y = x := by unfold stM; rw [if_pos c, if_neg c2]
   rw [e]
   refine ⟨hx, isMeet_iff.2 ⟨L.refl x (by rw [stUp_len]; exact hx), ?_, fun w hw h1 h2 => h1⟩⟩
   rw [hle x y hx hy]
   unfold stLe
   rw [if_pos c, if_neg c2]
 ·by_cases c2 : y < low a
  ·have e : stM a b x y = y := by unfold stM; rw [if_neg c, if_pos c2]
   rw [e]
   refine ⟨hy, isMeet_iff.2 ⟨?_, L.refl y (by rw [stUp_len]; exact hy), fun w hw h1 h2 => h2⟩⟩
   rw [hle y x hy hx]
   unfold stLe
   rw [if_pos c2, if_neg c]
  ·have hj := mlt hb (x := x - low a) (y := y - low a) (by omega) (by omega)
   have e : stM a b x y = low a + meetN b (x - low a) (y - low a) := by unfold stM; rw [if_neg c, if_neg c2]
   rw [e]
   refine ⟨by omega, ?_⟩
   rw [isMeet_iff, hle _ x (by omega) hx, hle _ y (by omega) hy]
   refine ⟨?_, ?_, ?_⟩
   ·unfold stLe; rw [if_neg (by omega), if_neg c, Nat.add_sub_cancel_left]; exact m_l hb (by omega) (by omega)
   ·unfold stLe; rw [if_neg (by omega), if_neg c2, Nat.add_sub_cancel_left]; exact m_r hb (by omega) (by omega)
   ·intro w hw h1 h2
    rw [stUp_len] at hw
    rw [hle w x hw hx] at h1
    rw [hle w y hw hy] at h2
    rw [hle w _ hw (by omega)]
    unfold stLe at h1 h2 ⊢
    by_cases c4 : w < low a
    ·rw [if_pos c4, if_neg (by omega)]
    ·rw [if_neg c4, if_neg c] at h1
     rw [if_neg c4, if_neg c2] at h2
     rw [if_neg c4, if_neg (by omega), Nat.add_sub_cancel_left]
     exact m_g hb (by omega) (by omega) (by omega) h1 h2
theorem st_latB (h6 : stN a b ≤ 6) : latB (stUp a b) = true := by
 refine latB_of (st_lat ha hb h6) (fun x y hx hy => ?_) (fun x y hx hy => ?_)
 ·rw [stUp_len] at hx hy ⊢
  exact ⟨_, st_meet ha hb h6 hx hy⟩
 ·rw [stUp_len] at hx hy ⊢
  exact ⟨_, st_join ha hb h6 hx hy⟩
theorem st_joinN (h6 : stN a b ≤ 6) {x y : Nat} (hx : x < stN a b) (hy : y < stN a b) : joinN (stUp a b) x y = stJ a b x y := by
 obtain ⟨h1, h2⟩ := st_join ha hb h6 hx hy
 exact j_eq (st_latB ha hb h6) (by rw [stUp_len]; exact hx) (by rw [stUp_len]; exact hy) (by rw [stUp_len]; exact h1) h2
end
theorem t_low {a : List Int} {Ta : List (List Int)} (A : Alg a Ta) {x y : Nat} (c : x < low a) (hy : y < a.length) : tN Ta x y < low a := by
 have La := A.L
 have pa := La.pos
 have hla : low a + 1 = a.length := by unfold low; omega
 have h1 := A.lt x y (by omega) hy
 have h2 := A.below (x := x) (y := y) (by omega) hy
 refine Classical.byContradiction fun hc => ?_
 have e : tN Ta x y = a.length - 1 := by omega
 rw [e] at h2
 have := La.anti x (a.length - 1) (by omega) (by omega) (La.top x (by omega)) h2
 omega
section
variable {a b : List Int} {Ta Tb : List (List Int)} (A : Alg a Ta) (B : Alg b Tb)
include A B
theorem st_good (h6 : stN a b ≤ 6) : Good (stUp a b) (stT a b Ta Tb) := by
 have La := A.L
 have Lb := B.L
 have pa := La.pos
 have pb := Lb.pos
 have hla : low a + 1 = a.length := by unfold low; omega
 have hn : stN a b = low a + b.length := rfl
 have tl : ∀ x y, x < low a → y < low a → tN Ta x y < low a := fun x y hx hy => t_low A hx (by omega)
 have tb : ∀ x y, x < b.length → y < b.length → tN Tb x y < b.length := B.lt
 have ll : ∀ {x y}, x < low a → y < low a → stT a b Ta Tb x y = tN Ta x y := fun c c2 => by unfold stT; rw [if_pos c, if_pos c2]
 have lh : ∀ {x y}, x < low a → ¬ y < low a → stT a b Ta Tb x y = x := fun c c2 => by unfold stT; rw [if_pos c, if_neg c2]
 have hl : ∀ {x y}, ¬ x < low a → y < low a → stT a b Ta Tb x y = y := fun c c2 => by unfold stT; rw [if_neg c, if_pos c2]
 have hh : ∀ {x y}, ¬ x < low a → ¬ y < low a → stT a b Ta Tb x y = low a + tN Tb (x - low a) (y - low a) := fun c c2 => by unfold stT; rw [if_neg c, if_neg c2]
 have jll : ∀ {x y}, x < low a → y < low a → stJ a b x y = joinN a x y := fun c c2 => by unfold stJ; rw [if_pos c, if_pos c2]
 have jlh : ∀ {x y}, x < low a → ¬ y < low a → stJ a b x y = y := fun c c2 => by unfold stJ; rw [if_pos c, if_neg c2]
 have jhl : ∀ {x y}, ¬ x < low a → y < low a → stJ a b x y = x := fun c c2 => by unfold stJ; rw [if_neg c, if_pos c2]
 have jhh : ∀ {x y}, ¬ x < low a → ¬ y < low a → stJ a b x y = low a + joinN b (x - low a) (y - low a) := fun c c2 => by unfold stJ; rw [if_neg c, if_neg c2]
 have lt : ∀ x y, x < stN a b → y < stN a b → stT a b Ta Tb x y < stN a b := by
  intro x y hx hy
  by_cases c : x < low a
  ·by_cases c2 : y < low a
   ·rw [ll c c2]; have := tl x y c c2; omega
   ·rw [lh c c2]; exact hx
  ·by_cases c2 : y < low a
   ·rw [hl c c2]; exact hy
   ·rw [hh c c2]; have := tb (x - low a) (y - low a) (by omega) (by omega); omega
 refine ⟨?_, ?_, ?_, ?_, ?_, ?_⟩
 ·intro x y hx hy
  rw [stUp_len] at hx hy ⊢
  exact lt x y hx hy
 ·intro x hx
  rw [stUp_len] at hx ⊢
  by_cases c : x < low a
  ·rw [lh c (by omega)]
  ·rw [hh c (by omega), show stN a b - 1 - low a = b.length - 1 by omega, B.one _ (by omega)]
   omega
 ·intro x hx
  rw [stUp_len] at hx
  by_cases c0 : 0 < low a
  ·by_cases c : x < low a
   ·rw [ll c c0, A.zero x (by omega)]
   ·rw [hl c c0]
  ·rw [hh (by omega) (by omega), Nat.zero_sub, B.zero _ (by omega)]
   omega
 ·intro x y hx hy
  rw [stUp_len] at hx hy
  by_cases c : x < low a
  ·by_cases c2 : y < low a
   ·rw [ll c c2, ll c2 c, A.comm x y (by omega) (by omega)]
   ·rw [lh c c2, hl c2 c]
  ·by_cases c2 : y < low a
   ·rw [hl c c2, lh c2 c]
   ·rw [hh c c2, hh c2 c, B.comm _ _ (by omega) (by omega)]
 ·intro x y z hx hy hz
  rw [stUp_len] at hx hy hz
  by_cases c : x < low a
  ·by_cases c2 : y < low a
   ·by_cases c3 : z < low a
    ·rw [ll c c2, ll c2 c3, ll (tl x y c c2) c3, ll c (tl y z c2 c3), A.assoc x y z (by omega) (by omega) (by omega)]
    ·rw [ll c c2, lh c2 c3, lh (tl x y c c2) c3, ll c c2]
   ·by_cases c3 : z < low a
    ·rw [lh c c2, hl c2 c3]
    ·rw [lh c c2, hh c2 c3, lh c c3, lh c (by omega)]
  ·by_cases c2 : y < low a
   ·by_cases c3 : z < low a
    ·rw [hl c c2, ll c2 c3, hl c (tl y z c2 c3)]
    ·rw [hl c c2, lh c2 c3, hl c c2]
   ·by_cases c3 : z < low a
    ·rw [hh c c2, hl c2 c3, hl c c3, hl (by omega) c3]
    ·rw [hh c c2, hh c2 c3, hh (by omega) c3, hh c (by omega), Nat.add_sub_cancel_left, Nat.add_sub_cancel_left, B.assoc _ _ _ (by omega) (by omega) (by omega)]
 ·intro x y z hx hy hz
  rw [stUp_len] at hx hy hz
  rw [st_joinN A.lat B.lat h6 hy hz, st_joinN A.lat B.lat h6 (lt x y hx hy) (lt x z hx hz)]
  by_cases c2 : y < low a
  ·by_cases c3 : z < low a
   ·have hj := jlt A.lat (x := y) (y := z) (by omega) (by omega)
    rw [jll c2 c3]
    by_cases c : x < low a
    ·have e : stT a b Ta Tb x (joinN a y z) = tN Ta x (joinN a y z) := by
      by_cases c4 : joinN a y z < low a
      ·exact ll c c4
      ·rw [lh c c4, show joinN a y z = a.length - 1 by omega, A.one x (by omega)]
     rw [e, ll c c2, ll c c3, jll (tl x y c c2) (tl x z c c3), A.dist x y z (by omega) (by omega) (by omega)]
    ·rw [hl c c2, hl c c3, jll c2 c3]
     by_cases c4 : joinN a y z < low a
     ·exact hl c c4
     ·rw [hh c c4, show joinN a y z - low a = 0 by omega, B.zero _ (by omega)]
      omega
   ·rw [jlh c2 c3]
    by_cases c : x < low a
    ·rw [lh c c3, ll c c2, jll (tl x y c c2) c]
     exact ((le_join A.lat (A.lt x y (by omega) (by omega)) (by omega)).1 (A.below (by omega) (by omega))).symm
    ·rw [hl c c2, hh c c3, jlh c2 (by omega)]
  ·by_cases c3 : z < low a
   ·rw [jhl c2 c3]
    by_cases c : x < low a
    ·rw [lh c c2, ll c c3, jll c (tl x z c c3), j_comm A.lat (by omega) (A.lt x z (by omega) (by omega))]
     exact ((le_join A.lat (A.lt x z (by omega) (by omega)) (by omega)).1 (A.below (by omega) (by omega))).symm
    ·rw [hl c c3, hh c c2, jhl (by omega) c3]
   ·have hj := jlt B.lat (x := y - low a) (y := z - low a) (by omega) (by omega)
    rw [jhh c2 c3]
    by_cases c : x < low a
    ·rw [lh c (by omega), lh c c2, lh c c3, jll c c]
     exact ((le_join A.lat (by omega) (by omega)).1 (La.refl x (by omega))).symm
    ·rw [hh c (by omega), hh c c2, hh c c3, jhh (by omega) (by omega), Nat.add_sub_cancel_left, Nat.add_sub_cancel_left, Nat.add_sub_cancel_left, B.dist _ _ _ (by omega) (by omega) (by omega)]
theorem st_alg (h6 : stN a b ≤ 6) : Alg (stUp a b) (tabF (stUp a b).length (stT a b Ta Tb)) := Good.alg (st_latB A.lat B.lat h6) (st_good A B h6)
end
theorem toIntS_ev (l : List Int) (hl : l.length ≤ 17592186044416) : Ev (fun k => laws_toIntS.f k l) l := by
 unfold laws_toIntS.f
 refine Ev.pos (by omega) (Ev.pos (by omega) ?_)
 refine ev_inv (fun k (s : List Int) i => laws_toIntS.l0 k l s i) l.length (fun i s => s.length = l.length ∧ ∀ j, j < i → s[j]? = l[j]?) l ?_ ?_ l.length 0 _ (by omega) ⟨by simp, fun j hj => by omega⟩
 ·intro i hi s hs
  obtain ⟨hs1, hs2⟩ := hs
  refine ⟨s.set i (rd l i), ⟨by simp [hs1], ?_⟩, fun h => ?_⟩
  ·intro j hj
   by_cases e : j = i
   ·subst e
    rw [List.getElem?_set_self (by omega), rd_lt hi, List.getElem?_eq_getElem hi]
   ·rw [List.getElem?_set_ne (by omega)]
    exact hs2 j (by omega)
  ·refine Ev.step (fun k => by simp only [laws_toIntS.l0]; exact rfl) ?_
   refine Ev.pos (by omega) (Ev.pos (by omega) (Ev.pos (by omega) ?_))
   rw [w64s hi (by omega)]
   exact h
 ·intro s hs
  refine Ev.step (fun k => by simp only [laws_toIntS.l0]; exact rfl) ?_
  refine Ev.neg (by omega) ?_
  refine Ev.const ?_
  congr 1
  apply List.ext_getElem? 
  intro j
  by_cases hj : j < l.length
  ·exact hs.2 j hj
  ·rw [List.getElem?_eq_none (by omega), List.getElem?_eq_none (by omega)]
theorem eqIntS_ev (a b : List Int) (ha : a.length ≤ 17592186044416) : Ev (fun k => laws_eqIntS.f k a b) (decide (a = b)) := by
 unfold laws_eqIntS.f
 by_cases hl : a.length = b.length
 ·refine Ev.pos (by omega) ?_
  have h := ev_run (fun k i => laws_eqIntS.l0 k a b i) a.length (fun i => if (decide (rd a i = rd b i)) then none else some false) true ?_ ?_ a.length 0 (by omega)
  ·rw [runL_no (fun i => decide (rd a i = rd b i))] at h
   refine Ev.eq h ?_
   rw [Bool.and_true, Bool.eq_iff_iff]
   simp only [List.all_eq_true, List.mem_range, decide_eq_true_eq, Nat.zero_add]
   constructor
   ·intro h
    apply List.ext_getElem hl
    intro i h1 h2
    have := h i h1
    rwa [rd_lt h1, rd_lt h2] at this
   ·rintro rfl i hi
    rfl
  ·intro i hi
   refine ⟨fun x hx => ?_, fun hx r hr => ?_⟩
   ·by_cases e : rd a i = rd b i
    ·simp [e] at hx
    ·simp [e] at hx
     subst hx
     refine Ev.step (fun k => by simp only [laws_eqIntS.l0]; exact rfl) ?_
     exact Ev.pos (by omega) (Ev.pos (by omega) (Ev.pos (by omega) (Ev.neg e (Ev.some _))))
   ·by_cases e : rd a i = rd b i
    ·refine Ev.step (fun k => by simp only [laws_eqIntS.l0]; exact rfl) ?_
     refine Ev.pos (by omega) (Ev.pos (by omega) (Ev.pos (by omega) (Ev.pos e ?_)))
     rw [w64s hi (by omega)]
     exact hr
    ·simp [e] at hx
  ·refine Ev.step (fun k => by simp only [laws_eqIntS.l0]; exact rfl) ?_
   exact Ev.neg (by omega) (Ev.some _)
 ·refine Ev.neg (by omega) ?_
  refine Ev.eq (Ev.some false) ?_
  symm
  rw [decide_eq_false_iff_not]
  rintro rfl
  exact hl rfl
theorem eqIntS_same (a : List Int) (ha : a.length ≤ 17592186044416) : Ev (fun k => laws_eqIntS.f k a a) true :=
 Ev.eq (eqIntS_ev a a ha) (by simp)
theorem szIntS_eq (l : List Int) (a : Int) (h0 : 0 ≤ a) (h1 : a ≤ 1048576) (hl : l.length ≤ maxLen) : laws_szIntS.f l a = some (if a - (l.length : Int) < 0 then -1 else a - (l.length : Int)) := by
 unfold laws_szIntS.f
 simp only [maxLen] at hl
 rw [w64 (by omega) (by omega)]
 split <;> rfl
theorem szIntSS_l0 (T : List (List Int)) (hT : T.length ≤ 1048576) (hr : ∀ r ∈ T, r.length ≤ maxLen) : ∀ d i : Nat, i + d = T.length → ∀ left : Int, 0 ≤ left → left ≤ 1048576 →
  ∃ s : Int, Ev (fun k => laws_szIntSS.l0 k T left (i : Int)) s ∧ (s < 0 ∨ (0 ≤ s ∧ s ≤ left ∧ ∀ j, i ≤ j → j < T.length → ((rowT T j).length : Int) ≤ left)) := by
 intro d
 induction d with
 | zero =>
  intro i hi left h0 h1
  refine ⟨left, Ev.step (fun k => by simp only [laws_szIntSS.l0]; exact rfl) (Ev.neg (by omega) (Ev.some _)), .inr ⟨h0, Int.le_refl _, fun j h1 h2 => by omega⟩⟩
 | succ d ih =>
  intro i hi left h0 h1
  have hi' : i < T.length := by omega
  have hrow := hr _ (rowT_mem hi')
  by_cases c : left - ((rowT T i).length : Int) < 0
  ·refine ⟨-1, ?_, .inl (by decide)⟩
   refine Ev.step (fun k => by simp only [laws_szIntSS.l0]; exact rfl) (Ev.pos (by omega) (Ev.pos (by omega) ?_))
   refine Ev.bindc (szIntS_eq (rowT T i) left h0 h1 hrow) ?_
   rw [if_pos c]
   exact Ev.pos (by decide) (Ev.some _)
  ·obtain ⟨s, hs, hc⟩ := ih (i + 1) (by omega) (left - ((rowT T i).length : Int)) (by omega) (by omega)
   refine ⟨s, ?_, ?_⟩
   ·refine Ev.step (fun k => by simp only [laws_szIntSS.l0]; exact rfl) (Ev.pos (by omega) (Ev.pos (by omega) ?_))
    refine Ev.bindc (szIntS_eq (rowT T i) left h0 h1 hrow) ?_
    rw [if_neg c, w64s hi' (by omega)]
    exact Ev.neg c hs
   ·rcases hc with hc | ⟨h2, h3, h4⟩
    ·exact .inl hc
    ·refine .inr ⟨h2, by omega, fun j h5 h6 => ?_⟩
     by_cases e : j = i
     ·subst e; omega
     ·have := h4 j (by omega) h6
      omega
def Sm (up : List Int) (T : List (List Int)) : Prop := up.length ≤ 1048576 ∧ T.length ≤ 1048576 ∧ ∀ r ∈ T, r.length ≤ 1048576
theorem szAlgebra_ev (up : List Int) (T : List (List Int)) (a : Int) (h0 : 0 ≤ a) (h1 : a ≤ 1048576) (hl : up.length ≤ maxLen) (hT : T.length ≤ maxLen) (hr : ∀ r ∈ T, r.length ≤ maxLen) :
  ∃ s : Int, Ev (fun k => laws_szAlgebra.f k up T a) s ∧ (s < 0 ∨ (0 ≤ s ∧ s ≤ a ∧ Sm up T)) := by
 by_cases c : a - (up.length : Int) < 0
 ·refine ⟨-1, ?_, .inl (by decide)⟩
  unfold laws_szAlgebra.f
  refine Ev.bindc (szIntS_eq up a h0 h1 hl) ?_
  rw [if_pos c]
  exact Ev.pos (by decide) (Ev.some _)
 ·by_cases c2 : a - (up.length : Int) - (T.length : Int) < 0
  ·refine ⟨-1, ?_, .inl (by decide)⟩
   unfold laws_szAlgebra.f
   refine Ev.bindc (szIntS_eq up a h0 h1 hl) ?_
   rw [if_neg c]
   refine Ev.neg c (Ev.bind (a := -1) ?_ (Ev.pos (by decide) (Ev.some _)))
   unfold laws_szIntSS.f
   simp only [maxLen] at hT
   rw [w64 (x := a - (up.length : Int) - (T.length : Int)) (by omega) (by omega)]
   exact Ev.pos c2 (Ev.some _)
  ·obtain ⟨s, hs, hc⟩ := szIntSS_l0 T (by omega) hr T.length 0 (by omega) (a - (up.length : Int) - (T.length : Int)) (by omega) (by omega)
   have hss : Ev (fun k => laws_szIntSS.f k T (a - (up.length : Int))) s := by
    unfold laws_szIntSS.f
    simp only [maxLen] at hT
    rw [w64 (x := a - (up.length : Int) - (T.length : Int)) (by omega) (by omega)]
    exact Ev.neg c2 hs
   rcases hc with hc | ⟨h2, h3, h4⟩
   ·refine ⟨-1, ?_, .inl (by decide)⟩
    unfold laws_szAlgebra.f
    refine Ev.bindc (szIntS_eq up a h0 h1 hl) ?_
    rw [if_neg c]
    exact Ev.neg c (Ev.bind hss (Ev.pos hc (Ev.some _)))
   ·refine ⟨s, ?_, .inr ⟨h2, by omega, by omega, by omega, fun r hr => ?_⟩⟩
    ·unfold laws_szAlgebra.f
     refine Ev.bindc (szIntS_eq up a h0 h1 hl) ?_
     rw [if_neg c]
     exact Ev.neg c (Ev.bind hss (Ev.neg (by omega) (Ev.some _)))
    ·obtain ⟨j, hj, rfl⟩ := List.mem_iff_getElem.1 hr
     have := h4 j (by omega) hj
     rw [rowT_lt hj] at this
     omega
theorem toIntSS_ev (T : List (List Int)) (hT : T.length ≤ 1048576) (hr : ∀ r ∈ T, r.length ≤ 1048576) : Ev (fun k => laws_toIntSS.f k T) T := by
 unfold laws_toIntSS.f
 refine Ev.pos (by omega) (Ev.pos (by omega) ?_)
 refine ev_inv (fun k (s : List (List Int)) i => laws_toIntSS.l0 k T s i) T.length (fun i s => s.length = T.length ∧ ∀ j, j < i → s[j]? = T[j]?) T ?_ ?_ T.length 0 _ (by omega) ⟨by simp, fun j hj => by omega⟩
 ·intro i hi s hs
  obtain ⟨hs1, hs2⟩ := hs
  refine ⟨s.set i (rowT T i), ⟨by simp [hs1], ?_⟩, fun h => ?_⟩
  ·intro j hj
   by_cases e : j = i
   ·subst e
    rw [List.getElem?_set_self (by omega), rowT_lt hi, List.getElem?_eq_getElem hi]
   ·rw [List.getElem?_set_ne (by omega)]
    exact hs2 j (by omega)
  ·refine Ev.step (fun k => by simp only [laws_toIntSS.l0]; exact rfl) ?_
   have hrow := hr _ (rowT_mem hi)
   refine Ev.pos (by omega) (Ev.pos (by omega) (Ev.bind (toIntS_ev (rowT T i) (by omega)) (Ev.pos (by omega) ?_)))
   rw [w64s hi (by omega)]
   exact h
 ·intro s hs
  refine Ev.step (fun k => by simp only [laws_toIntSS.l0]; exact rfl) ?_
  refine Ev.neg (by omega) ?_
  refine Ev.const ?_
  congr 1
  apply List.ext_getElem?
  intro j
  by_cases hj : j < T.length
  ·exact hs.2 j hj
  ·rw [List.getElem?_eq_none (by omega), List.getElem?_eq_none (by omega)]
theorem toAlgebra_ev {up : List Int} {T : List (List Int)} (h : Sm up T) : Ev (fun k => laws_toAlgebra.f k up T) (up, T) := by
 unfold laws_toAlgebra.f
 have h1 := h.1
 exact Ev.bind (toIntS_ev up (by omega)) (Ev.bind (toIntSS_ev T h.2.1 h.2.2) (Ev.some _))
theorem eqIntSS_same (T : List (List Int)) (hT : T.length ≤ 1048576) (hr : ∀ r ∈ T, r.length ≤ 1048576) : Ev (fun k => laws_eqIntSS.f k T T) true := by
 unfold laws_eqIntSS.f
 refine Ev.pos rfl ?_
 refine ev_inv (fun k (_ : Unit) i => laws_eqIntSS.l0 k T T i) T.length (fun _ _ => True) true ?_ ?_ T.length 0 () (by omega) trivial
 ·intro i hi _ _
  refine ⟨(), trivial, fun h => ?_⟩
  have hrow := hr _ (rowT_mem hi)
  refine Ev.step (fun k => by simp only [laws_eqIntSS.l0]; exact rfl) ?_
  refine Ev.pos (by omega) (Ev.pos (by omega) (Ev.pos (by omega) (Ev.bind (eqIntS_same (rowT T i) (by omega)) (Ev.pos rfl ?_))))
  rw [w64s hi (by omega)]
  exact h
 ·intro _ _
  refine Ev.step (fun k => by simp only [laws_eqIntSS.l0]; exact rfl) ?_
  exact Ev.neg (by omega) (Ev.some _)
theorem eqAlgebra_same {up : List Int} {T : List (List Int)} (h : Sm up T) : Ev (fun k => laws_eqAlgebra.f k up T up T) true := by
 unfold laws_eqAlgebra.f
 have h1 := h.1
 exact Ev.bind (eqIntS_same up (by omega)) (Ev.pos rfl (Ev.bind (eqIntSS_same T h.2.1 h.2.2) (Ev.pos rfl (Ev.some _))))
theorem rdT_ok {up : List Int} {T : List (List Int)} (A : Tab up T) {x y : Nat} (hx : x < up.length) (hy : y < up.length) : rdT T (x : Int) (y : Int) = some ((tN T x y : Nat) : Int) := by
 have hl := A.len
 have hr : (rd_L1 T (x : Int)).length = up.length := A.row x hx
 have hv : rd (rd_L1 T (x : Int)) (y : Int) = ((tN T x y : Nat) : Int) := A.val x y hx hy
 unfold rdT
 rw [if_pos ⟨by omega, by omega, by omega, by omega⟩, hv]
theorem mn_l {x y : Int} (h : x ≤ y) : mn x y = x := by unfold mn; split <;> omega
theorem mn_r {x y : Int} (h : y ≤ x) : mn x y = y := by unfold mn; split <;> omega
theorem mask_snoc (p : Nat → Bool) (y : Nat) : maskN p (y + 1) = maskN p y + (if p y then 2 ^ y else 0) := rfl
section
variable {a b : List Int} {Ta Tb : List (List Int)} (A : Alg a Ta) (B : Alg b Tb) (h6 : stN a b ≤ 6)
include A B h6
theorem spec_stack_j3 {x y : Nat} (hx : x < stN a b) (hy : y < stN a b) (row : List Int) (hr : row.length ≤ 100) (z : Int) (U : List Int) (T : List (List Int)) (r : List Int × List (List Int))
  (h : Ev (fun k => spec_stack.l1 k (low a : Int) (stN a b : Int) (x : Int) (row ++ [z]) ((maskN (stLe a b x) (y + 1) : Nat) : Int) ((y + 1 : Nat) : Int) a Ta b Tb U T) r) :
  Ev (fun k => spec_stack.j3 k (low a : Int) (stN a b : Int) (x : Int) row ((maskN (stLe a b x) y : Nat) : Int) (y : Int) z a Ta b Tb U T) r := by
 have pa := A.pos
 have pb := B.pos
 have hla : low a + 1 = a.length := by unfold low; omega
 have hn : stN a b = low a + b.length := rfl
 have hlt := maskN_lt (stLe a b x) y
 have hq6 : 2 ^ y ≤ 2 ^ 6 := Nat.pow_le_pow_right (by decide) (by omega)
 have hq0 : 0 < 2 ^ y := Nat.two_pow_pos y
 have hno : stLe a b x y = false → Ev (fun k => spec_stack.l1 k (low a : Int) (stN a b : Int) (x : Int) (row ++ [z]) ((maskN (stLe a b x) y : Nat) : Int) ((y + 1 : Nat) : Int) a Ta b Tb U T) r := fun e => by
  rw [mask_snoc, e, if_neg (by decide), Nat.add_zero] at h
  exact h
 have hyes : stLe a b x y = true → Ev (fun k => (spec_power.f k (y : Int)).bind fun t => spec_stack.l1 k (low a : Int) (stN a b : Int) (x : Int) (row ++ [z]) (wrap64 (((maskN (stLe a b x) y : Nat) : Int) + t)) (wrap64 ((y : Int) + 1)) a Ta b Tb U T) r := fun e => by
  rw [mask_snoc, e, if_pos rfl] at h
  refine Ev.bind (power_ev y (by omega)) ?_
  rw [w64s hy (by omega), w64 (by omega) (by omega), ← Int.natCast_add]
  exact h
 refine Ev.step (fun k => by simp only [spec_stack.j3]; exact rfl) (Ev.pos (by omega) (Ev.bindc rfl ?_))
 by_cases c : x < low a
 ·refine Ev.pos (by omega) ?_
  by_cases d : y < low a
  ·refine Ev.neg (by omega) (Ev.pos (by omega) (Ev.bind (spec_below_ev A.ok (by omega) (by omega)) ?_))
   have e : stLe a b x y = le a x y := by unfold stLe; rw [if_pos c, if_pos d]
   cases hl : le a x y with
   | true => exact Ev.pos rfl (hyes (by rw [e, hl]))
   | false =>
    refine Ev.neg (by decide) (Ev.neg (by omega) ?_)
    rw [w64s hy (by omega)]
    exact hno (by rw [e, hl])
  ·exact Ev.pos (by omega) (hyes (by unfold stLe; rw [if_pos c, if_neg d]))
 ·refine Ev.neg (by omega) (Ev.pos (by omega) ?_)
  by_cases d : y < low a
  ·refine Ev.neg (by omega) ?_
   rw [w64s hy (by omega)]
   exact hno (by unfold stLe; rw [if_neg c, if_pos d])
  ·have e : stLe a b x y = le b (x - low a) (y - low a) := by unfold stLe; rw [if_neg c, if_neg d]
   have e1 : wrap64 ((x : Int) - (low a : Int)) = ((x - low a : Nat) : Int) := by rw [w64 (by omega) (by omega)]; omega
   have e2 : wrap64 ((y : Int) - (low a : Int)) = ((y - low a : Nat) : Int) := by rw [w64 (by omega) (by omega)]; omega
   rw [e1, e2]
   refine Ev.pos (by omega) (Ev.bind (spec_below_ev B.ok (by omega) (by omega)) ?_)
   cases hl : le b (x - low a) (y - low a) with
   | true => exact Ev.pos rfl (hyes (by rw [e, hl]))
   | false =>
    refine Ev.neg (by decide) ?_
    rw [w64s hy (by omega)]
    exact hno (by rw [e, hl])
theorem spec_stack_ev : Ev (fun k => spec_stack.f k a Ta b Tb) (stUp a b, tabF (stUp a b).length (stT a b Ta Tb)) := by
 have pa := A.pos
 have pb := B.pos
 have a6 := A.ok.1
 have b6 := B.ok.1
 have hA := A.len
 have hB := B.len
 have hla : low a + 1 = a.length := by unfold low; omega
 have hn : stN a b = low a + b.length := rfl
 have hul := stUp_len a b
 unfold spec_stack.f
 have e1 : wrap64 ((a.length : Int) - 1) = (low a : Int) := by rw [w64 (by omega) (by omega)]; omega
 have e2 : wrap64 ((low a : Int) + (b.length : Int)) = (stN a b : Int) := by rw [w64 (by omega) (by omega)]; omega
 rw [e1, e2, hul]
 show Ev (fun k => spec_stack.l0 k (low a : Int) (stN a b : Int) ((0 : Nat) : Int) a Ta b Tb ([] : List Int) ([] : List (List Int))) _
 refine ev_inv2 (fun k (s : List Int × List (List Int)) i => spec_stack.l0 k (low a : Int) (stN a b : Int) i a Ta b Tb s.1 s.2) (stN a b) (fun x s => s.1 = ((List.range x).map fun x => ((maskN (stLe a b x) (stN a b) : Nat) : Int)) ∧ s.2 = (List.range x).map fun x => rowF (stN a b) (stT a b Ta Tb x)) _ ?_ ?_ (stN a b) 0 ([], []) (by omega) ⟨rfl, rfl⟩
 ·rintro x hx ⟨U, T⟩ ⟨hU, hT⟩ k1
  refine Ev.step (fun k => by simp only [spec_stack.l0]; exact rfl) ?_
  refine Ev.pos (by omega) ?_
  refine ev_inv2 (fun k (s : List Int × Int) i => spec_stack.l1 k (low a : Int) (stN a b : Int) (x : Int) s.1 s.2 i a Ta b Tb U T) (stN a b) (fun y s => s.1 = rowF y (stT a b Ta Tb x) ∧ s.2 = ((maskN (stLe a b x) y : Nat) : Int)) _ ?_ ?_ (stN a b) 0 (_, _) (by omega) ⟨rfl, rfl⟩
  ·rintro y hy ⟨row, v⟩ ⟨hr, hv⟩ k2
   simp only at hr hv
   have hrl : row.length ≤ 100 := by rw [hr, rowF_len]; omega
   have next : ∀ z : Int, z = ((stT a b Ta Tb x y : Nat) : Int) → Ev (fun k => spec_stack.j3 k (low a : Int) (stN a b : Int) (x : Int) row v (y : Int) z a Ta b Tb U T) (stUp a b, tabF (stN a b) (stT a b Ta Tb)) := by
    intro z hz
    rw [hv]
    refine spec_stack_j3 A B h6 hx hy row hrl z U T _ ?_
    refine k2 (_, _) ⟨?_, rfl⟩
    show row ++ [z] = _
    rw [hr, hz, rowF_succ]
   refine Ev.step (fun k => by simp only [spec_stack.l1]; exact rfl) ?_
   refine Ev.pos (by omega) ?_
   by_cases c : x < low a
   ·refine Ev.pos (by omega) (Ev.step (fun k => by simp only [spec_stack.j2]; exact rfl) ?_)
    have r1 : (rd_L1 Ta (x : Int)).length = a.length := A.row x (by omega)
    by_cases d : y < low a
    ·have v1 : rd (rd_L1 Ta (x : Int)) (y : Int) = ((tN Ta x y : Nat) : Int) := A.val x y (by omega) (by omega)
     refine Ev.pos (by simp only [decide_eq_true_eq]; omega) (Ev.pos (by omega) (Ev.pos (by omega) (Ev.pos (by omega) (Ev.pos (by omega) (next _ ?_)))))
     rw [v1]
     unfold stT
     rw [if_pos c, if_pos d]
    ·refine Ev.neg (by simp only [decide_eq_true_eq]; omega) (Ev.neg (by omega) (next _ ?_))
     unfold stT
     rw [if_pos c, if_neg d, mn_l (by omega)]
   ·refine Ev.neg (by omega) (Ev.step (fun k => by simp only [spec_stack.j2]; exact rfl) ?_)
    refine Ev.neg (by decide) (Ev.pos (by omega) ?_)
    by_cases d : y < low a
    ·refine Ev.neg (by omega) (next _ ?_)
     unfold stT
     rw [if_neg c, if_pos d, mn_r (by omega)]
    ·have e1 : wrap64 ((x : Int) - (low a : Int)) = ((x - low a : Nat) : Int) := by rw [w64 (by omega) (by omega)]; omega
     have e2 : wrap64 ((y : Int) - (low a : Int)) = ((y - low a : Nat) : Int) := by rw [w64 (by omega) (by omega)]; omega
     have r1 : (rd_L1 Tb ((x - low a : Nat) : Int)).length = b.length := B.row _ (by omega)
     have v1 : rd (rd_L1 Tb ((x - low a : Nat) : Int)) ((y - low a : Nat) : Int) = ((tN Tb (x - low a) (y - low a) : Nat) : Int) := B.val _ _ (by omega) (by omega)
     have l1 := B.lt (x - low a) (y - low a) (by omega) (by omega)
     rw [e1, e2, v1]
     refine Ev.pos (by omega) (Ev.pos (by omega) (Ev.pos (by omega) (Ev.pos (by omega) (Ev.pos (by omega) (next _ ?_)))))
     unfold stT
     rw [if_neg c, if_neg d, w64 (by omega) (by omega), ← Int.natCast_add]
  ·rintro ⟨row, v⟩ ⟨hr, hv⟩
   simp only at hr hv
   refine Ev.step (fun k => by simp only [spec_stack.l1]; exact rfl) ?_
   refine Ev.neg (by omega) (Ev.pos (by rw [show T = _ from hT]; simp; omega) (Ev.pos (by rw [show U = _ from hU]; simp; omega) ?_))
   rw [w64s hx (by omega)]
   refine k1 (_, _) ⟨?_, ?_⟩
   ·show U ++ [v] = _
    rw [show U = _ from hU, hv, List.range_succ, List.map_append]
    rfl
   ·show T ++ [row] = _
    rw [show T = _ from hT, hr, List.range_succ, List.map_append]
    rfl
 ·rintro ⟨U, T⟩ ⟨hU, hT⟩
  refine Ev.step (fun k => by simp only [spec_stack.l0]; exact rfl) ?_
  refine Ev.neg (by omega) (Ev.const ?_)
  rw [show U = _ from hU, show T = _ from hT]
  rfl
end
theorem shlN (v n : Nat) (hn : n ≤ 62) (h : v * 2 ^ n < 2 ^ 62) : shl .i64 (v : Int) (n : Int) = ((v * 2 ^ n : Nat) : Int) := by
 unfold shl
 have e : min ((n : Int).toNat) IntKind.i64.bits = n := by
  rw [Int.toNat_natCast]; exact Nat.min_eq_left (by show n ≤ 64; omega)
 have e2 : ((2 : Int) ^ n) = ((2 ^ n : Nat) : Int) := by rw [Int.natCast_pow]; rfl
 rw [e, IntKind.wrap_i64, e2, ← Int.natCast_mul]
 have h2 : ((v * 2 ^ n : Nat) : Int) < 4611686018427387904 := Int.ofNat_lt.mpr (Nat.lt_of_lt_of_le h (by decide))
 have h3 : (0 : Int) ≤ ((v * 2 ^ n : Nat) : Int) := Int.natCast_nonneg _
 omega
theorem bit_mul (v n z : Nat) : (v * 2 ^ n).testBit z = (decide (n ≤ z) && v.testBit (z - n)) := by
 rw [← Nat.shiftLeft_eq, Nat.testBit_shiftLeft]
theorem lt62_of_bits {c n : Nat} (hn : n ≤ 62) (h : ∀ z, n ≤ z → c.testBit z = false) : c < 2 ^ 62 := by
 have h1 : c < 2 ^ n := by
  refine Nat.lt_pow_two_of_testBit c (fun i hi => h i hi)
 exact Nat.lt_of_lt_of_le h1 (Nat.pow_le_pow_right (by decide) hn)
theorem le_bit {up : List Int} {x : Nat} (h : OkR up) (hx : x < up.length) : ∃ v : Nat, rd up (x : Int) = (v : Int) ∧ v < 64 ∧ ∀ z, v.testBit z = le up x z := by
 obtain ⟨h1, h2⟩ := h.lt hx
 refine ⟨(rd up (x : Int)).toNat, by omega, h2, fun z => rfl⟩
section
variable {a b : List Int} {Ta Tb : List (List Int)} (A : Alg a Ta) (B : Alg b Tb) (h6 : stN a b ≤ 6)
include A B h6
theorem st_lowrow {x : Nat} (hx : x < low a) : bits .or .i64 (bits .andNot .i64 (rd a (x : Int)) (shl .i64 1 (low a : Int))) (shl .i64 (wrap64 (shl .i64 1 (b.length : Int) - 1)) (low a : Int)) = ((maskN (stLe a b x) (stN a b) : Nat) : Int) := by
 have pa := A.pos
 have pb := B.pos
 have hla : low a + 1 = a.length := by unfold low; omega
 have hn : stN a b = low a + b.length := rfl
 obtain ⟨v, hv, v64, hb⟩ := le_bit A.ok (x := x) (by omega)
 have p1 : 2 ^ b.length ≤ 2 ^ 6 := Nat.pow_le_pow_right (by decide) (by omega)
 have p2 : 2 ^ low a ≤ 2 ^ 6 := Nat.pow_le_pow_right (by decide) (by omega)
 have p3 := Nat.two_pow_pos b.length
 have p4 := Nat.two_pow_pos (low a)
 have hab : wrap64 (shl .i64 1 (b.length : Int) - 1) = ((2 ^ b.length - 1 : Nat) : Int) := by
  rw [shl1 _ (by omega), w64 (by omega) (by omega)]
  omega
 have hmul : (2 ^ b.length - 1) * 2 ^ low a ≤ 64 * 64 := Nat.mul_le_mul (by omega) (by omega)
 rw [hab, shlN _ _ (by omega) (by omega), shl1 _ (by omega), hv]
 obtain ⟨c, hc, hcb⟩ := bitsAndNot v (2 ^ low a) (by omega) (by omega)
 rw [hc]
 have hbig : ∀ z, 6 ≤ z → v.testBit z = false := fun z hz => Nat.testBit_lt_two_pow (Nat.lt_of_lt_of_le (show v < 2 ^ 6 by omega) (Nat.pow_le_pow_right (by decide) hz))
 have hc62 : c < 2 ^ 62 := lt62_of_bits (n := 6) (by decide) (fun z hz => by rw [hcb, hbig z hz, Bool.false_and])
 rw [bitsOr c _ hc62 (by omega)]
 congr 1
 refine Nat.eq_of_testBit_eq fun z => ?_
 rw [Nat.testBit_or, hcb, bit_mul, Nat.testBit_two_pow_sub_one, maskN_testBit, Nat.testBit_two_pow, hb z]
 unfold stLe
 rw [if_pos hx]
 by_cases c1 : z < low a
 ·rw [if_pos c1, decide_eq_false (p := low a = z) (by omega), decide_eq_false (p := low a ≤ z) (by omega), decide_eq_true (p := z < stN a b) (by omega)]
  simp
 ·rw [if_neg c1, decide_eq_true (p := low a ≤ z) (by omega), Bool.true_and, Bool.and_true]
  by_cases c2 : z < stN a b
  ·rw [decide_eq_true (p := z < stN a b) c2, decide_eq_true (p := z - low a < b.length) (by omega), Bool.or_true]
  ·rw [decide_eq_false (p := z < stN a b) c2, decide_eq_false (p := z - low a < b.length) (by omega), Bool.or_false]
   cases hl : le a x z with
   | false => rfl
   | true =>
    have := A.ok.big (x := x) (y := z) (by omega) hl
    omega
theorem st_highrow {i : Nat} (hi : i < b.length) : shl .i64 (rd b (i : Int)) (low a : Int) = ((maskN (stLe a b (low a + i)) (stN a b) : Nat) : Int) := by
 have pa := A.pos
 have hla : low a + 1 = a.length := by unfold low; omega
 have hn : stN a b = low a + b.length := rfl
 obtain ⟨v, hv, v64, hb⟩ := le_bit B.ok hi
 have p2 : 2 ^ low a ≤ 2 ^ 6 := Nat.pow_le_pow_right (by decide) (by omega)
 have hmul : v * 2 ^ low a ≤ 64 * 64 := Nat.mul_le_mul (by omega) (by omega)
 rw [hv, shlN _ _ (by omega) (by omega)]
 congr 1
 refine Nat.eq_of_testBit_eq fun z => ?_
 rw [bit_mul, maskN_testBit, hb]
 unfold stLe
 rw [if_neg (show ¬ low a + i < low a by omega), show low a + i - low a = i by omega]
 by_cases c1 : z < low a
 ·rw [if_pos c1, decide_eq_false (p := low a ≤ z) (by omega), Bool.false_and, Bool.and_false]
 ·rw [if_neg c1, decide_eq_true (p := low a ≤ z) (by omega), Bool.true_and]
  cases hl : le b i (z - low a) with
  | false => rw [Bool.and_false]
  | true =>
   have := B.ok.big hi hl
   rw [decide_eq_true (p := z < stN a b) (by omega)]
   rfl
theorem st_t {x y : Nat} (hx : x < stN a b) (hy : y < stN a b) : bu_stack_1.t (low a : Int) Tb Ta (x : Int) (y : Int) = some ((stT a b Ta Tb x y : Nat) : Int) := by
 have pa := A.pos
 have a6 := A.ok.1
 have b6 := B.ok.1
 have hla : low a + 1 = a.length := by unfold low; omega
 have hn : stN a b = low a + b.length := rfl
 unfold bu_stack_1.t stT
 by_cases c : x < low a
 ·rw [if_neg (show ¬ (low a : Int) ≤ (x : Int) by omega), if_pos c]
  by_cases d : y < low a
  ·rw [if_neg (show ¬ (low a : Int) ≤ (y : Int) by omega), if_pos d, rdT_ok A.toTab (by omega) (by omega)]
  ·rw [if_pos (show (low a : Int) ≤ (y : Int) by omega), if_neg d, mn_l (by omega)]
 ·rw [if_pos (show (low a : Int) ≤ (x : Int) by omega), if_neg c]
  by_cases d : y < low a
  ·rw [if_neg (show ¬ (low a : Int) ≤ (y : Int) by omega), if_pos d, mn_r (by omega)]
  ·have e1 : wrap64 ((x : Int) - (low a : Int)) = ((x - low a : Nat) : Int) := by rw [w64 (by omega) (by omega)]; omega
   have e2 : wrap64 ((y : Int) - (low a : Int)) = ((y - low a : Nat) : Int) := by rw [w64 (by omega) (by omega)]; omega
   have l1 := B.lt (x - low a) (y - low a) (by omega) (by omega)
   rw [if_pos (show (low a : Int) ≤ (y : Int) by omega), if_neg d, e1, e2, rdT_ok B.toTab (by omega) (by omega), Option.bind_some]
   rw [w64 (by omega) (by omega), Nat.add_comm, Int.natCast_add]
theorem impl_stack_ev : Ev (fun k => impl_stack.f k a Ta b Tb) (stUp a b, tabF (stUp a b).length (stT a b Ta Tb)) := by
 have pa := A.pos
 have pb := B.pos
 have a6 := A.ok.1
 have b6 := B.ok.1
 have hla : low a + 1 = a.length := by unfold low; omega
 have hn : stN a b = low a + b.length := rfl
 have hul := stUp_len a b
 unfold impl_stack.f
 have e1 : wrap64 ((a.length : Int) - 1) = (low a : Int) := by rw [w64 (by omega) (by omega)]; omega
 rw [e1, Int.toNat_natCast]
 refine Ev.pos (by omega) (Ev.pos (by omega) ?_)
 have htl : (a.take (low a)).length = low a := by rw [List.length_take]; omega
 rw [htl]
 have hrow : ∀ n, n ≤ stN a b → ((List.range n).map fun x => ((maskN (stLe a b x) (stN a b) : Nat) : Int)).length = n := fun n _ => by simp
 have fin : Ev (fun k => impl_stack.l1 k ((List.range (low a)).map fun x => ((maskN (stLe a b x) (stN a b) : Nat) : Int)) b (b.length : Int) 0 a Ta b Tb (low a : Int)) (stUp a b, tabF (stUp a b).length (stT a b Ta Tb)) := by
  show Ev (fun k => impl_stack.l1 k ((List.range (low a)).map fun x => ((maskN (stLe a b x) (stN a b) : Nat) : Int)) b (b.length : Int) ((0 : Nat) : Int) a Ta b Tb (low a : Int)) _
  refine ev_inv2 (fun k (s : List Int) i => impl_stack.l1 k s b (b.length : Int) i a Ta b Tb (low a : Int)) b.length (fun i s => s = (List.range (low a + i)).map fun x => ((maskN (stLe a b x) (stN a b) : Nat) : Int)) _ ?_ ?_ b.length 0 _ (by omega) rfl
  ·intro i hi s hs k1
   refine Ev.step (fun k => by simp only [impl_stack.l1]; exact rfl) ?_
   refine Ev.pos (by omega) (Ev.pos (by omega) (Ev.pos (by omega) (Ev.pos (by omega) (Ev.pos (by rw [hs]; simp; omega) ?_))))
   rw [st_highrow A B h6 hi, w64s hi (by omega)]
   refine k1 _ ?_
   rw [hs, show low a + (i + 1) = (low a + i) + 1 by omega, List.range_succ, List.map_append]
   rfl
  ·intro s hs
   have hsU : s = stUp a b := by rw [hs]; rfl
   rw [hsU]
   refine Ev.step (fun k => by simp only [impl_stack.l1]; exact rfl) ?_
   refine Ev.neg (by omega) (Ev.bind (a := (stUp a b, tabF (stUp a b).length (stT a b Ta Tb))) ?_ (Ev.some _))
   exact build_ev (fun _ => bu_stack_1.t (low a : Int) Tb Ta) (stT a b Ta Tb) (stUp a b) (by omega) (fun x y hx hy => Ev.const (st_t A B h6 (by omega) (by omega)))
 show Ev (fun k => impl_stack.l0 k (([] : List Int)) (shl .i64 (wrap64 ((shl .i64 1 (b.length : Int)) - 1)) (low a : Int)) (a.take (low a)) (low a : Int) ((0 : Nat) : Int) a Ta b Tb (low a : Int)) _
 refine ev_inv2 (fun k (s : List Int) i => impl_stack.l0 k s (shl .i64 (wrap64 ((shl .i64 1 (b.length : Int)) - 1)) (low a : Int)) (a.take (low a)) (low a : Int) i a Ta b Tb (low a : Int)) (low a) (fun i s => s = (List.range i).map fun x => ((maskN (stLe a b x) (stN a b) : Nat) : Int)) _ ?_ ?_ (low a) 0 _ (by omega) rfl
 ·intro x hx s hs k1
  refine Ev.step (fun k => by simp only [impl_stack.l0]; exact rfl) ?_
  have hrd : rd (a.take (low a)) (x : Int) = rd a (x : Int) := by
   rw [rd_lt (by omega), rd_lt (show x < a.length by omega), List.getElem_take]
  rw [hrd, st_lowrow A B h6 hx, w64s hx (by omega)]
  refine Ev.pos (by omega) (Ev.pos (by omega) (Ev.pos (by omega) (Ev.pos (by omega) (Ev.pos (by rw [hs]; simp; omega) ?_))))
  refine k1 _ ?_
  rw [hs, List.range_succ, List.map_append]
  rfl
 ·intro s hs
  rw [hs]
  refine Ev.step (fun k => by simp only [impl_stack.l0]; exact rfl) ?_
  exact Ev.neg (by omega) fin
end
def StackAlgebrasM (a : List Int) (Ta : List (List Int)) (b : List Int) (Tb : List (List Int)) : List Int × List (List Int) × Bool := if (algB a Ta && algB b Tb && decide (stN a b ≤ 6)) = true then (stUp a b, tabF (stUp a b).length (stT a b Ta Tb), true) else ([], [], false)
theorem spec_StackAlgebras_ev (a : List Int) (Ta : List (List Int)) (b : List Int) (Tb : List (List Int)) (hl : a.length ≤ 17592186044416) (hm : b.length ≤ 17592186044416) : Ev (fun k => spec_StackAlgebras.f k a Ta b Tb) (StackAlgebrasM a Ta b Tb) := by
 unfold spec_StackAlgebras.f StackAlgebrasM
 refine Ev.bind (spec_validAlgebra_ev a Ta hl) ?_
 cases ha : algB a Ta with
 | false => exact Ev.neg (by decide) (Ev.some _)
 | true =>
  refine Ev.pos rfl (Ev.bind (spec_validAlgebra_ev b Tb hm) ?_)
  cases hb : algB b Tb with
  | false => exact Ev.neg (by decide) (Ev.some _)
  | true =>
   have A := Alg.of ha
   have B := Alg.of hb
   have a6 := A.ok.1
   have b6 := B.ok.1
   have pa := A.pos
   have hla : low a + 1 = a.length := by unfold low; omega
   have hn : stN a b = low a + b.length := rfl
   have e : wrap64 (wrap64 ((a.length : Int) + (b.length : Int)) - 1) = (stN a b : Int) := by
    rw [w64 (x := (a.length : Int) + (b.length : Int)) (by omega) (by omega), w64 (by omega) (by omega)]
    omega
   refine Ev.pos rfl ?_
   rw [e]
   by_cases h6 : stN a b ≤ 6
   ·rw [decide_eq_true h6]
    exact Ev.neg (by omega) (Ev.bind (spec_stack_ev A B h6) (Ev.some _))
   ·rw [decide_eq_false h6]
    exact Ev.pos (by omega) (Ev.some _)
theorem impl_StackAlgebras_ev (a : List Int) (Ta : List (List Int)) (b : List Int) (Tb : List (List Int)) (hl : a.length ≤ 17592186044416) (hm : b.length ≤ 17592186044416) : Ev (fun k => impl_StackAlgebras.f k a Ta b Tb) (StackAlgebrasM a Ta b Tb) := by
 unfold impl_StackAlgebras.f StackAlgebrasM
 have no : Ev (fun k => impl_StackAlgebras.j0 k true a Ta b Tb) ([], [], false) := Ev.step (fun k => by simp only [impl_StackAlgebras.j0]; exact rfl) (Ev.pos (by simp) (Ev.some _))
 refine Ev.bind (impl_ValidAlgebra_ev a Ta hl) ?_
 cases ha : algB a Ta with
 | false => exact Ev.neg (by decide) no
 | true =>
  refine Ev.pos rfl (Ev.bind (impl_ValidAlgebra_ev b Tb hm) ?_)
  cases hb : algB b Tb with
  | false => exact Ev.neg (by decide) no
  | true =>
   have A := Alg.of ha
   have B := Alg.of hb
   have a6 := A.ok.1
   have b6 := B.ok.1
   have pa := A.pos
   have hla : low a + 1 = a.length := by unfold low; omega
   have hn : stN a b = low a + b.length := rfl
   have e : wrap64 (wrap64 ((a.length : Int) - 1) + (b.length : Int)) = (stN a b : Int) := by
    rw [w64 (x := (a.length : Int) - 1) (by omega) (by omega), w64 (by omega) (by omega)]
    omega
   refine Ev.pos rfl ?_
   rw [e]
   refine Ev.step (fun k => by simp only [impl_StackAlgebras.j0]; exact rfl) ?_
   by_cases h6 : stN a b ≤ 6
   ·rw [decide_eq_true h6]
    exact Ev.neg (by simp only [decide_eq_true_eq]; omega) (Ev.bind (impl_stack_ev A B h6) (Ev.bind (algebraOr_yes (st_alg A B h6)) (Ev.some _)))
   ·rw [decide_eq_false h6]
    exact Ev.pos (by simp only [decide_eq_true_eq]; omega) (Ev.some _)
theorem tabF_rows {n : Nat} {f : Nat → Nat → Nat} : ∀ r ∈ tabF n f, r.length = n := by
 intro r hr
 obtain ⟨i, _, rfl⟩ := List.mem_map.1 (show r ∈ (List.range n).map fun x => rowF n (f x) from hr)
 exact rowF_len _ _
theorem StackAlgebrasM_sm (a : List Int) (Ta : List (List Int)) (b : List Int) (Tb : List (List Int)) : Sm (StackAlgebrasM a Ta b Tb).1 (StackAlgebrasM a Ta b Tb).2.1 := by
 unfold StackAlgebrasM
 by_cases h : (algB a Ta && algB b Tb && decide (stN a b ≤ 6)) = true
 ·rw [if_pos h]
  have h6 : stN a b ≤ 6 := by simp only [Bool.and_eq_true, decide_eq_true_eq] at h; exact h.2
  have hl := stUp_len a b
  refine ⟨by show (stUp a b).length ≤ _; omega, ?_, fun r hr => ?_⟩
  ·show (tabF (stUp a b).length _).length ≤ _
   rw [tabF_len]
   omega
  ·rw [tabF_rows r hr]
   omega
 ·rw [if_neg h]
  exact ⟨by simp, by simp, by simp⟩
def marks (m : Int) (n : Nat) : List Int := (List.range n).map fun (i : Nat) => m + (i : Int)
theorem marks_length (m : Int) (n : Nat) : (marks m n).length = n := by simp [marks]
theorem marks_rd (m : Int) (n : Nat) {i : Nat} (h : i < n) : rd (marks m n) (i : Int) = m + (i : Int) := by
 rw [rd_lt (by rw [marks_length]; exact h)]
 simp [marks]
theorem markIntS_ev (l : List Int) (m : Int) (hm0 : 0 ≤ m) (hm1 : m ≤ 4611686018427387904) (hl : l.length ≤ 17592186044416) : Ev (fun k => laws_markIntS.f k l m) (m + (l.length : Int), marks m l.length) := by
 unfold laws_markIntS.f
 have h := ev_inv (fun k (s : List Int) i => laws_markIntS.l0 k s (m + i) i) l.length (fun i s => s.length = l.length ∧ ∀ j, j < i → s[j]? = some (m + (j : Int))) (m + (l.length : Int), marks m l.length) ?_ ?_ l.length 0 l (by omega) ⟨rfl, fun j hj => by omega⟩
 ·simpa using h
 ·intro i hi s hs
  obtain ⟨hs1, hs2⟩ := hs
  refine ⟨s.set i (m + (i : Int)), ⟨by simp [hs1], ?_⟩, fun h => ?_⟩
  ·intro j hj
   by_cases e : j = i
   ·subst e
    rw [List.getElem?_set_self (by omega)]
   ·rw [List.getElem?_set_ne (by omega)]
    exact hs2 j (by omega)
  ·refine Ev.step (fun k => by simp only [laws_markIntS.l0]; exact rfl) ?_
   refine Ev.pos (by omega) (Ev.pos (by omega) ?_)
   rw [w64s hi (by omega), w64 (x := m + (i : Int) + 1) (by omega) (by omega), show m + (i : Int) + 1 = m + ((i + 1 : Nat) : Int) by omega]
   exact h
 ·intro s hs
  refine Ev.step (fun k => by simp only [laws_markIntS.l0]; exact rfl) ?_
  refine Ev.neg (by omega) (Ev.const ?_)
  have : s = marks m l.length := by
   apply List.ext_getElem?
   intro j
   by_cases hj : j < l.length
   ·rw [hs.2 j hj]; simp [marks, hj]
   ·rw [List.getElem?_eq_none (by omega), List.getElem?_eq_none (by rw [marks_length]; omega)]
  rw [this]
theorem heldIntS_ev (m : Int) (n : Nat) (hm0 : 0 ≤ m) (hm1 : m ≤ 4611686018427387904) (hl : n ≤ 17592186044416) : Ev (fun k => laws_heldIntS.f k (marks m n) m) (m + (n : Int)) := by
 unfold laws_heldIntS.f
 have h := ev_inv (fun k (_ : Unit) i => laws_heldIntS.l0 k (marks m n) (m + i) i) n (fun _ _ => True) (m + (n : Int)) ?_ ?_ n 0 () (by omega) trivial
 ·simpa using h
 ·intro i hi _ _
  refine ⟨(), trivial, fun h => ?_⟩
  refine Ev.step (fun k => by simp only [laws_heldIntS.l0]; exact rfl) ?_
  refine Ev.pos (by rw [marks_length]; omega) (Ev.pos (by omega) (Ev.pos (marks_rd m n hi) ?_))
  rw [w64s hi (by omega), w64 (x := m + (i : Int) + 1) (by omega) (by omega), show m + (i : Int) + 1 = m + ((i + 1 : Nat) : Int) by omega]
  exact h
 ·intro _ _
  refine Ev.step (fun k => by simp only [laws_heldIntS.l0]; exact rfl) ?_
  exact Ev.neg (by rw [marks_length]; omega) (Ev.some _)
def szT : List (List Int) → Nat
 | [] => 0
 | r :: T => r.length + szT T
def marksT (m : Int) : List (List Int) → List (List Int)
 | [] => []
 | r :: T => marks m r.length :: marksT (m + (r.length : Int)) T
theorem szT_le {T : List (List Int)} {b : Nat} (hr : ∀ r ∈ T, r.length ≤ b) : szT T ≤ T.length * b := by
 induction T with
 | nil => simp [szT]
 | cons r T ih =>
  have h1 := hr r (by simp)
  have h2 := ih (fun s hs => hr s (by simp [hs]))
  rw [List.length_cons, Nat.succ_mul]
  show r.length + szT T ≤ _
  omega
theorem rd_mid (D R : List (List Int)) (r : List Int) : rd_L1 (D ++ r :: R) (D.length : Int) = r := by
 simp [rd_L1]
theorem markSS_l (R : List (List Int)) : ∀ (D : List (List Int)) (m : Int), 0 ≤ m → m + (szT R : Int) ≤ 4611686018427387904 → D.length + R.length ≤ 1048576 → (∀ r ∈ R, r.length ≤ 1048576) →
  Ev (fun k => laws_markIntSS.l0 k (D ++ R) m (D.length : Int)) (m + (szT R : Int), D ++ marksT m R) := by
 induction R with
 | nil =>
  intro D m h0 h1 h2 h3
  refine Ev.step (fun k => by simp only [laws_markIntSS.l0]; exact rfl) ?_
  refine Ev.neg (by simp) (Ev.const ?_)
  simp [szT, marksT]
 | cons r R ih =>
  intro D m h0 h1 h2 h3
  have hr := h3 r (by simp)
  have hs : szT (r :: R) = r.length + szT R := rfl
  have hl : (r :: R).length = R.length + 1 := rfl
  rw [hs] at h1
  rw [hl] at h2
  refine Ev.step (fun k => by simp only [laws_markIntSS.l0]; exact rfl) ?_
  refine Ev.pos (by rw [List.length_append, hl]; omega) (Ev.pos (by omega) ?_)
  rw [rd_mid]
  refine Ev.bind (markIntS_ev r m h0 (by omega) (by omega)) ?_
  have h := ih (D ++ [marks m r.length]) (m + (r.length : Int)) (by omega) (by omega) (by rw [List.length_append, List.length_singleton]; omega) (fun s hs => h3 s (by simp [hs]))
  have e1 : (D ++ r :: R).set ((D.length : Int)).toNat (marks m r.length) = (D ++ [marks m r.length]) ++ R := by
   rw [Int.toNat_natCast, List.set_append_right _ _ (Nat.le_refl _), Nat.sub_self]
   simp
  have e2 : wrap64 ((D.length : Int) + 1) = ((D ++ [marks m r.length]).length : Int) := by
   rw [List.length_append, List.length_singleton, w64 (by omega) (by omega)]
   omega
  have e3 : (m + (szT (r :: R) : Int), D ++ marksT m (r :: R)) = (m + (r.length : Int) + (szT R : Int), (D ++ [marks m r.length]) ++ marksT (m + (r.length : Int)) R) := by
   rw [hs]
   refine Prod.ext ?_ ?_
   ·show m + ((r.length + szT R : Nat) : Int) = _
    omega
   ·show D ++ (marks m r.length :: marksT _ R) = _
    simp
  rw [e3]
  show Ev (fun k => laws_markIntSS.l0 k ((D ++ r :: R).set ((D.length : Int)).toNat (marks m r.length)) (m + (r.length : Int)) (wrap64 ((D.length : Int) + 1))) _
  rw [e1, e2]
  exact h
theorem heldSS_l (R : List (List Int)) : ∀ (D : List (List Int)) (m : Int), 0 ≤ m → m + (szT R : Int) ≤ 4611686018427387904 → D.length + R.length ≤ 1048576 → (∀ r ∈ R, r.length ≤ 1048576) →
  Ev (fun k => laws_heldIntSS.l0 k (D ++ marksT m R) m (D.length : Int)) (m + (szT R : Int)) := by
 induction R with
 | nil =>
  intro D m h0 h1 h2 h3
  refine Ev.step (fun k => by simp only [laws_heldIntSS.l0]; exact rfl) ?_
  refine Ev.neg (by simp [marksT]) (Ev.const ?_)
  simp [szT]
 | cons r R ih =>
  intro D m h0 h1 h2 h3
  have hr := h3 r (by simp)
  have hs : szT (r :: R) = r.length + szT R := rfl
  have hl : (r :: R).length = R.length + 1 := rfl
  rw [hs] at h1
  rw [hl] at h2
  refine Ev.step (fun k => by simp only [laws_heldIntSS.l0]; exact rfl) ?_
  have hm : marksT m (r :: R) = marks m r.length :: marksT (m + (r.length : Int)) R := rfl
  rw [hm]
  refine Ev.pos (by rw [List.length_append, List.length_cons]; omega) (Ev.pos (by omega) ?_)
  rw [rd_mid]
  refine Ev.bind (heldIntS_ev m r.length h0 (by omega) (by omega)) (Ev.neg (by omega) ?_)
  have h := ih (D ++ [marks m r.length]) (m + (r.length : Int)) (by omega) (by omega) (by rw [List.length_append, List.length_singleton]; omega) (fun s hs => h3 s (by simp [hs]))
  have e2 : wrap64 ((D.length : Int) + 1) = ((D ++ [marks m r.length]).length : Int) := by
   rw [List.length_append, List.length_singleton, w64 (by omega) (by omega)]
   omega
  have e1 : D ++ marks m r.length :: marksT (m + (r.length : Int)) R = (D ++ [marks m r.length]) ++ marksT (m + (r.length : Int)) R := by simp
  rw [e1, e2, hs]
  have e3 : m + ((r.length + szT R : Nat) : Int) = m + (r.length : Int) + (szT R : Int) := by omega
  rw [e3]
  exact h
theorem markAlg_ev {up : List Int} {T : List (List Int)} (h : Sm up T) : ∃ (q : Int) (U' : List Int) (T' : List (List Int)), 0 ≤ q ∧ Ev (fun k => laws_markAlgebra.f k up T 1) (q, U', T') ∧ Ev (fun k => laws_heldAlgebra.f k U' T' 1) q := by
 obtain ⟨h1, h2, h3⟩ := h
 have hz := szT_le h3
 have hz2 : szT T ≤ 1048576 * 1048576 := Nat.le_trans hz (Nat.mul_le_mul_right _ h2)
 refine ⟨1 + (up.length : Int) + (szT T : Int), marks 1 up.length, marksT (1 + (up.length : Int)) T, by omega, ?_, ?_⟩
 ·unfold laws_markAlgebra.f
  refine Ev.bind (markIntS_ev up 1 (by decide) (by decide) (by omega)) ?_
  refine Ev.bind (markSS_l T [] (1 + (up.length : Int)) (by omega) (by omega) (by simp; omega) h3) (Ev.some _)
 ·unfold laws_heldAlgebra.f
  refine Ev.bind (heldIntS_ev 1 up.length (by decide) (by decide) (by omega)) (Ev.neg (by omega) ?_)
  refine Ev.bind (heldSS_l T [] (1 + (up.length : Int)) (by omega) (by omega) (by simp; omega) h3) (Ev.neg (by omega) (Ev.some _))
theorem Sm.nil : Sm [] [] := ⟨by simp, by simp, by simp⟩
theorem markAlgK_ev {up : List Int} {T : List (List Int)} (h : Sm up T) (m : Int) (m0 : 0 ≤ m) (m1 : m ≤ 4000000000000000) : ∃ (q : Int) (U' : List Int) (T' : List (List Int)), 0 ≤ q ∧ q ≤ m + 1099511627776000 ∧ Ev (fun k => laws_markAlgebra.f k up T m) (q, U', T') := by
 obtain ⟨h1, h2, h3⟩ := h
 have hz := szT_le h3
 have hz2 : szT T ≤ 1048576 * 1048576 := Nat.le_trans hz (Nat.mul_le_mul_right _ h2)
 refine ⟨m + (up.length : Int) + (szT T : Int), marks m up.length, marksT (m + (up.length : Int)) T, by omega, by omega, ?_⟩
 unfold laws_markAlgebra.f
 refine Ev.bind (markIntS_ev up m m0 (by omega) (by omega)) ?_
 exact Ev.bind (markSS_l T [] (m + (up.length : Int)) (by omega) (by omega) (by simp; omega) h3) (Ev.some _)
end Go.Proofs.Ytjidbgmkhapklaa.M
