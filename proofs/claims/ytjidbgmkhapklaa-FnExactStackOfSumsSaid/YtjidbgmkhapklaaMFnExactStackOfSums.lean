/- What the law FnExactStackOfSums leans on: plain lemmas on lists, numbers and lattices, and what the printed functions answer. -/
import Derived.Test.YtjidbgmkhapklaaP0
import Derived.Test.YtjidbgmkhapklaaP1
import Derived.Test.YtjidbgmkhapklaaP11
import Derived.Test.YtjidbgmkhapklaaP9
import Derived.Test.YtjidbgmkhapklaaP20
import Derived.Test.YtjidbgmkhapklaaP21
import Derived.Test.YtjidbgmkhapklaaP22
import Derived.Test.YtjidbgmkhapklaaP50
import Derived.Test.YtjidbgmkhapklaaP52
import Derived.Test.YtjidbgmkhapklaaP49
import Derived.Test.YtjidbgmkhapklaaP51
import Derived.Test.YtjidbgmkhapklaaP53
import Derived.Test.YtjidbgmkhapklaaP23
import Derived.Test.YtjidbgmkhapklaaP25
import Derived.Test.YtjidbgmkhapklaaP24
import Derived.Test.YtjidbgmkhapklaaP26
namespace Go.Proofs.Ytjidbgmkhapklaa.M
set_option linter.unusedVariables false
set_option linter.unusedSectionVars false
open Go.RowKit Go.Proofs.YtjidbgmkhapklaaW.PrintWords Go.Proofs.YtjidbgmkhapklaaW.PrintLast Go.Proofs.YtjidbgmkhapklaaW.PrintMore Go.Proofs.Ytjidbgmkhapklaa.P
theorem w64 {x : Int} (h1 : -9223372036854775808 ≤ x) (h2 : x ≤ 9223372036854775807) : wrap64 x = x := by
  unfold wrap64; omega
theorem w64s {i n : Nat} (h : i < n) (hn : n ≤ 4611686018427387904) : wrap64 ((i : Int) + 1) = ((i + 1 : Nat) : Int) := by
  rw [w64 (by omega) (by omega)]; omega
def runL {α : Type} (step : Nat → Option α) (rest : α) : Nat → Nat → α
  | 0, _ => rest
  | d + 1, i => match step i with
    | some a => a
    | none => runL step rest d (i + 1)
theorem ev_run {α : Type} (F : Nat → Int → Option α) (n : Nat) (step : Nat → Option α) (rest : α)
    (h1 : ∀ i, i < n → (∀ a, step i = some a → Ev (fun k => F k (i : Int)) a) ∧ (step i = none → ∀ r, Ev (fun k => F k ((i + 1 : Nat) : Int)) r → Ev (fun k => F k (i : Int)) r))
    (h2 : Ev (fun k => F k (n : Int)) rest) : ∀ d i, i + d = n → Ev (fun k => F k (i : Int)) (runL step rest d i) := by
  intro d
  induction d with
  | zero =>
    intro i hi
    obtain rfl : i = n := by omega
    exact h2
  | succ d ih =>
    intro i hi
    have h := h1 i (by omega)
    unfold runL
    cases hs : step i with
    | some a => exact h.1 a hs
    | none => exact h.2 hs _ (ih (i + 1) (by omega))
theorem ev_inv {α σ : Type} (F : Nat → σ → Int → Option α) (n : Nat) (I : Nat → σ → Prop) (r : α)
    (h1 : ∀ i, i < n → ∀ s, I i s → ∃ s', I (i + 1) s' ∧ (Ev (fun k => F k s' ((i + 1 : Nat) : Int)) r → Ev (fun k => F k s (i : Int)) r))
    (h2 : ∀ s, I n s → Ev (fun k => F k s (n : Int)) r) : ∀ d i s, i + d = n → I i s → Ev (fun k => F k s (i : Int)) r := by
  intro d
  induction d with
  | zero =>
    intro i s hi hs
    obtain rfl : i = n := by omega
    exact h2 s hs
  | succ d ih =>
    intro i s hi hs
    obtain ⟨s', hI, hE⟩ := h1 i (by omega) s hs
    exact hE (ih (i + 1) s' (by omega) hI)
theorem runL_no (p : Nat → Bool) (rest : Bool) : ∀ d i, runL (fun j => if p j then none else some false) rest d i = (((List.range d).all fun j => p (i + j)) && rest) := by
  intro d
  induction d with
  | zero => intro i; simp [runL]
  | succ d ih =>
    intro i
    unfold runL
    by_cases h : p i
    · rw [if_pos h]
      show runL _ rest d (i + 1) = _
      rw [ih, List.range_succ_eq_map, List.all_cons, List.all_map]
      simp [h, Function.comp_def, Nat.add_assoc, Nat.add_comm 1]
    · rw [if_neg h]
      rw [List.range_succ_eq_map, List.all_cons]
      simp [h]
theorem Ev.some {α : Type} (a : α) : Ev (fun _ => Option.some a) a := ⟨0, fun _ _ => rfl⟩
theorem Ev.const {α : Type} {o : Option α} {a : α} (h : o = Option.some a) : Ev (fun _ => o) a := ⟨0, fun _ _ => h⟩
theorem Ev.eq {α : Type} {g : Nat → Option α} {a b : α} (h : Ev g a) (e : a = b) : Ev g b := e ▸ h
theorem Ev.pos {α : Type} {c : Prop} [Decidable c] {g f : Nat → Option α} {r : α} (h : c) (k : Ev g r) : Ev (fun n => if c then g n else f n) r :=
  Ev.congr (fun _ => if_pos h) k
theorem Ev.neg {α : Type} {c : Prop} [Decidable c] {g f : Nat → Option α} {r : α} (h : ¬ c) (k : Ev f r) : Ev (fun n => if c then g n else f n) r :=
  Ev.congr (fun _ => if_neg h) k
theorem Ev.ite' {α : Type} {c : Prop} [Decidable c] {g f : Nat → Option α} {r : α} (k : c → Ev g r) (k' : ¬ c → Ev f r) : Ev (fun n => if c then g n else f n) r := by
  by_cases h : c
  · exact Ev.pos h (k h)
  · exact Ev.neg h (k' h)
theorem Ev.bindc {α β : Type} {o : Option α} {f : Nat → α → Option β} {a : α} {r : β} (h : o = Option.some a) (k : Ev (fun n => f n a) r) : Ev (fun n => o.bind (f n)) r :=
  Ev.congr (fun n => by rw [h]; rfl) k
theorem rd_lt {l : List Int} {i : Nat} (h : i < l.length) : rd l (i : Int) = l[i] := by
  simp [rd, h]
def le (up : List Int) (x y : Nat) : Bool := (rd up (x : Int)).toNat.testBit y
def OkR (up : List Int) : Prop := up.length ≤ 6 ∧ ∀ x, x < up.length → 0 ≤ rd up (x : Int) ∧ rd up (x : Int) < ((2 ^ up.length : Nat) : Int)
theorem OkR.lt {up : List Int} (h : OkR up) {x : Nat} (hx : x < up.length) : 0 ≤ rd up (x : Int) ∧ (rd up (x : Int)).toNat < 64 := by
  obtain ⟨h0, h1⟩ := h.2 x hx
  have : 2 ^ up.length ≤ 2 ^ 6 := Nat.pow_le_pow_right (by decide) h.1
  omega
def firstN (n : Nat) (p : Nat → Bool) : Int := runL (fun z => if p z then some (z : Int) else none) (-1) n 0
def isMeet (up : List Int) (x y z : Nat) : Bool := le up z x && le up z y && (List.range up.length).all fun w => !(le up w x) || !(le up w y) || le up w z
def isJoin (up : List Int) (x y z : Nat) : Bool := le up x z && le up y z && (List.range up.length).all fun w => !(le up x w) || !(le up y w) || le up z w
def meetM (up : List Int) (x y : Nat) : Int := firstN up.length (isMeet up x y)
def joinM (up : List Int) (x y : Nat) : Int := firstN up.length (isJoin up x y)
theorem inRange_eq (a b c : Int) : spec_inRange.f a b c = some (decide (b ≤ a ∧ a ≤ c)) := by
  unfold spec_inRange.f
  by_cases h : b ≤ a
  · rw [if_pos h]; simp [h]
  · rw [if_neg h]; simp [h]
theorem within_eq' (a b c : Int) : impl_within.f a b c = some (decide (b ≤ a ∧ a ≤ c)) := by
  unfold impl_within.f
  by_cases h : a ≥ b
  · rw [if_pos h]; have : b ≤ a := h; simp [this]
  · rw [if_neg h]; have : ¬ b ≤ a := h; simp [this]
def okB (up : List Int) : Bool := (List.range up.length).all fun x => decide (0 ≤ rd up (x : Int) ∧ rd up (x : Int) ≤ ((2 ^ up.length : Nat) : Int) - 1)
theorem okB_iff {up : List Int} (h6 : up.length ≤ 6) : okB up = true ↔ OkR up := by
  unfold okB OkR
  rw [List.all_eq_true]
  constructor
  · intro h
    refine ⟨h6, fun x hx => ?_⟩
    have := of_decide_eq_true (h x (List.mem_range.2 hx))
    omega
  · intro h x hx
    have := h.2 x (List.mem_range.1 hx)
    exact decide_eq_true (by omega)
def allN (n : Nat) (p : Nat → Bool) : Bool := (List.range n).all p
theorem allN_iff {n : Nat} {p : Nat → Bool} : allN n p = true ↔ ∀ i, i < n → p i = true := by
  unfold allN; rw [List.all_eq_true]
  exact ⟨fun h i hi => h i (List.mem_range.2 hi), fun h i hi => h i (List.mem_range.1 hi)⟩
def ordB (up : List Int) : Bool := allN up.length fun x => (le up x x && le up 0 x && le up x (up.length - 1)) &&
  allN up.length fun y => !(!(decide (x = y)) && le up x y && le up y x) && allN up.length fun z => !(le up x y && le up y z && !(le up x z))
def bothB (up : List Int) : Bool := allN up.length fun x => allN up.length fun y => decide (0 ≤ meetM up x y) && decide (0 ≤ joinM up x y)
def latB (up : List Int) : Bool := decide (1 ≤ up.length ∧ up.length ≤ 6) && okB up && ordB up && bothB up
theorem latB_ok {up : List Int} (h : latB up = true) : OkR up ∧ 1 ≤ up.length := by
  unfold latB at h
  rw [Bool.and_eq_true, Bool.and_eq_true, Bool.and_eq_true, decide_eq_true_eq] at h
  exact ⟨(okB_iff h.1.1.1.2).1 h.1.1.2, h.1.1.1.1⟩
theorem find_spec (n : Nat) (p : Nat → Bool) : ∀ d i, i + d = n →
    (∃ z, i ≤ z ∧ z < n ∧ p z = true ∧ runL (fun z => if p z then some (z : Int) else none) (-1) d i = (z : Int) ∧ ∀ w, i ≤ w → w < z → p w = false) ∨
    (runL (fun z => if p z then some (z : Int) else none) (-1) d i = -1 ∧ ∀ z, i ≤ z → z < n → p z = false) := by
  intro d
  induction d with
  | zero => intro i hi; right; exact ⟨rfl, fun z h1 h2 => by omega⟩
  | succ d ih =>
    intro i hi
    unfold runL
    cases hp : p i with
    | true => left; exact ⟨i, Nat.le_refl _, by omega, hp, by simp, fun w h1 h2 => by omega⟩
    | false =>
      simp only [Bool.false_eq_true, if_false]
      rcases ih (i + 1) (by omega) with ⟨z, h1, h2, h3, h4, h5⟩ | ⟨h1, h2⟩
      · left
        refine ⟨z, by omega, h2, h3, h4, fun w hw hz => ?_⟩
        by_cases e : w = i
        · subst e; exact hp
        · exact h5 w (by omega) hz
      · right
        refine ⟨h1, fun z hz hn => ?_⟩
        by_cases e : z = i
        · subst e; exact hp
        · exact h2 z (by omega) hn
theorem firstN_spec (n : Nat) (p : Nat → Bool) : (∃ z, z < n ∧ p z = true ∧ firstN n p = (z : Int) ∧ ∀ w, w < z → p w = false) ∨ (firstN n p = -1 ∧ ∀ z, z < n → p z = false) := by
  rcases find_spec n p n 0 (by omega) with ⟨z, _, h2, h3, h4, h5⟩ | ⟨h1, h2⟩
  · exact Or.inl ⟨z, h2, h3, h4, fun w hw => h5 w (Nat.zero_le _) hw⟩
  · exact Or.inr ⟨h1, fun z hz => h2 z (Nat.zero_le _) hz⟩
theorem firstN_pos {n : Nat} {p : Nat → Bool} (h : 0 ≤ firstN n p) : firstN n p = ((firstN n p).toNat : Int) ∧ (firstN n p).toNat < n ∧ p (firstN n p).toNat = true := by
  rcases firstN_spec n p with ⟨z, h1, h2, h3, _⟩ | ⟨h1, _⟩
  · rw [h3, Int.toNat_natCast]; exact ⟨rfl, h1, h2⟩
  · omega
def joinN (up : List Int) (x y : Nat) : Nat := (joinM up x y).toNat
theorem latB_both {up : List Int} (h : latB up = true) {x y : Nat} (hx : x < up.length) (hy : y < up.length) : 0 ≤ meetM up x y ∧ 0 ≤ joinM up x y := by
  unfold latB at h
  rw [Bool.and_eq_true] at h
  have := (allN_iff.1 ((allN_iff.1 h.2) x hx)) y hy
  rwa [Bool.and_eq_true, decide_eq_true_eq, decide_eq_true_eq] at this
theorem joinN_spec {up : List Int} (h : latB up = true) {x y : Nat} (hx : x < up.length) (hy : y < up.length) : joinM up x y = (joinN up x y : Int) ∧ joinN up x y < up.length ∧ isJoin up x y (joinN up x y) = true :=
  firstN_pos (latB_both h hx hy).2
structure Lat (up : List Int) : Prop where
  ok : OkR up
  pos : 1 ≤ up.length
  refl : ∀ x, x < up.length → le up x x = true
  bot : ∀ x, x < up.length → le up 0 x = true
  top : ∀ x, x < up.length → le up x (up.length - 1) = true
  anti : ∀ x y, x < up.length → y < up.length → le up x y = true → le up y x = true → x = y
  trans : ∀ x y z, x < up.length → y < up.length → z < up.length → le up x y = true → le up y z = true → le up x z = true
theorem isJoin_iff {up : List Int} {x y z : Nat} : isJoin up x y z = true ↔ le up x z = true ∧ le up y z = true ∧ ∀ w, w < up.length → le up x w = true → le up y w = true → le up z w = true := by
  unfold isJoin
  rw [Bool.and_eq_true, Bool.and_eq_true, List.all_eq_true]
  constructor
  · rintro ⟨⟨h1, h2⟩, h3⟩
    refine ⟨h1, h2, fun w hw a b => ?_⟩
    have := h3 w (List.mem_range.2 hw)
    simpa [a, b] using this
  · rintro ⟨h1, h2, h3⟩
    refine ⟨⟨h1, h2⟩, fun w hw => ?_⟩
    cases a : le up x w with
    | false => rfl
    | true =>
      cases b : le up y w with
      | false => rfl
      | true => simpa using h3 w (List.mem_range.1 hw) a b
theorem ordB_iff {up : List Int} : ordB up = true ↔ ∀ x, x < up.length → (le up x x = true ∧ le up 0 x = true ∧ le up x (up.length - 1) = true) ∧ ∀ y, y < up.length → ¬ (x ≠ y ∧ le up x y = true ∧ le up y x = true) ∧ ∀ z, z < up.length → le up x y = true → le up y z = true → le up x z = true := by
  unfold ordB
  rw [allN_iff]
  refine forall_congr' fun x => forall_congr' fun hx => ?_
  rw [Bool.and_eq_true, Bool.and_eq_true, Bool.and_eq_true, allN_iff]
  refine and_congr and_assoc (forall_congr' fun y => forall_congr' fun hy => ?_)
  rw [Bool.and_eq_true, allN_iff]
  refine and_congr ?_ (forall_congr' fun z => forall_congr' fun hz => ?_)
  · rw [Bool.not_eq_true', Bool.and_eq_false_imp]
    by_cases e : x = y <;> cases a : le up x y <;> cases b : le up y x <;> simp [e]
  · cases a : le up x y <;> cases b : le up y z <;> cases c : le up x z <;> simp
theorem Lat.of {up : List Int} (hb : latB up = true) : Lat up := by
  obtain ⟨h, h1⟩ := latB_ok hb
  have ho : ordB up = true := by
    unfold latB at hb
    rw [Bool.and_eq_true, Bool.and_eq_true] at hb
    exact hb.1.2
  have ho := ordB_iff.1 ho
  exact ⟨h, h1, fun x hx => (ho x hx).1.1, fun x hx => (ho x hx).1.2.1, fun x hx => (ho x hx).1.2.2, fun x y hx hy a b => Decidable.byContradiction fun e => ((ho x hx).2 y hy).1 ⟨e, a, b⟩, fun x y z hx hy hz a b => ((ho x hx).2 y hy).2 z hz a b⟩
section
variable {up : List Int} (hb : latB up = true)
include hb
theorem jlt {x y : Nat} (hx : x < up.length) (hy : y < up.length) : joinN up x y < up.length := (joinN_spec hb hx hy).2.1
theorem j_l {x y : Nat} (hx : x < up.length) (hy : y < up.length) : le up x (joinN up x y) = true := (isJoin_iff.1 (joinN_spec hb hx hy).2.2).1
theorem j_r {x y : Nat} (hx : x < up.length) (hy : y < up.length) : le up y (joinN up x y) = true := (isJoin_iff.1 (joinN_spec hb hx hy).2.2).2.1
theorem j_g {x y w : Nat} (hx : x < up.length) (hy : y < up.length) (hw : w < up.length) (a : le up x w = true) (b : le up y w = true) : le up (joinN up x y) w = true := (isJoin_iff.1 (joinN_spec hb hx hy).2.2).2.2 w hw a b
theorem j_eq {x y z : Nat} (hx : x < up.length) (hy : y < up.length) (hz : z < up.length) (h : isJoin up x y z = true) : joinN up x y = z := by
  have i := isJoin_iff.1 h
  exact (Lat.of hb).anti _ _ (jlt hb hx hy) hz (j_g hb hx hy hz i.1 i.2.1) (i.2.2 _ (jlt hb hx hy) (j_l hb hx hy) (j_r hb hx hy))
theorem le_join {x y : Nat} (hx : x < up.length) (hy : y < up.length) : le up x y = true ↔ joinN up x y = y := by
  constructor
  · intro h
    exact j_eq hb hx hy hy (isJoin_iff.2 ⟨h, (Lat.of hb).refl y hy, fun w _ _ b => b⟩)
  · intro h
    have := j_l hb hx hy
    rwa [h] at this
end
def rowT (T : List (List Int)) (x : Nat) : List Int := rd_L1 T (x : Int)
theorem rowT_lt {T : List (List Int)} {x : Nat} (h : x < T.length) : rowT T x = T[x] := by simp [rowT, rd_L1, h]
theorem rowT_mem {T : List (List Int)} {x : Nat} (h : x < T.length) : rowT T x ∈ T := by rw [rowT_lt h]; exact List.getElem_mem h
def tN (T : List (List Int)) (x y : Nat) : Nat := (rd (rowT T x) (y : Int)).toNat
def valAt (up : List Int) (T : List (List Int)) (x y : Nat) : Bool := decide (0 ≤ rd (rowT T x) (y : Int) ∧ rd (rowT T x) (y : Int) ≤ (up.length : Int) - 1)
def rowB (up : List Int) (T : List (List Int)) (x : Nat) : Bool := decide ((rowT T x).length = up.length) && allN up.length (valAt up T x)
def shapeB (up : List Int) (T : List (List Int)) : Bool := decide (T.length = up.length) && allN up.length (rowB up T)
def lawAt (up : List Int) (T : List (List Int)) (x y z : Nat) : Bool := decide (tN T (tN T x y) z = tN T x (tN T y z)) && decide (tN T x (joinN up y z) = joinN up (tN T x y) (tN T x z))
def lawY (up : List Int) (T : List (List Int)) (x y : Nat) : Bool := decide (tN T x y = tN T y x) && allN up.length (lawAt up T x y)
def lawX (up : List Int) (T : List (List Int)) (x : Nat) : Bool := (decide (tN T x (up.length - 1) = x) && decide (tN T x 0 = 0)) && allN up.length (lawY up T x)
def lawB (up : List Int) (T : List (List Int)) : Bool := allN up.length (lawX up T)
def algB (up : List Int) (T : List (List Int)) : Bool := latB up && (shapeB up T && lawB up T)
structure Tab (up : List Int) (T : List (List Int)) : Prop where
  len : T.length = up.length
  row : ∀ x, x < up.length → (rowT T x).length = up.length
  val : ∀ x y, x < up.length → y < up.length → rd (rowT T x) (y : Int) = (tN T x y : Int)
  lt : ∀ x y, x < up.length → y < up.length → tN T x y < up.length
theorem Tab.of {up : List Int} {T : List (List Int)} (h : shapeB up T = true) : Tab up T := by
  unfold shapeB at h
  rw [Bool.and_eq_true, decide_eq_true_eq] at h
  obtain ⟨h1, h2⟩ := h
  have hr : ∀ x, x < up.length → (rowT T x).length = up.length ∧ ∀ y, y < up.length → 0 ≤ rd (rowT T x) (y : Int) ∧ rd (rowT T x) (y : Int) ≤ (up.length : Int) - 1 := by
    intro x hx
    have := allN_iff.1 h2 x hx
    unfold rowB at this
    rw [Bool.and_eq_true, decide_eq_true_eq] at this
    refine ⟨this.1, fun y hy => ?_⟩
    have h3 := allN_iff.1 this.2 y hy
    unfold valAt at h3
    exact of_decide_eq_true h3
  refine ⟨h1, fun x hx => (hr x hx).1, fun x y hx hy => ?_, fun x y hx hy => ?_⟩
  · have := (hr x hx).2 y hy
    unfold tN
    omega
  · have := (hr x hx).2 y hy
    unfold tN
    omega
structure Alg (up : List Int) (T : List (List Int)) : Prop extends Tab up T where
  lat : latB up = true
  one : ∀ x, x < up.length → tN T x (up.length - 1) = x
  zero : ∀ x, x < up.length → tN T x 0 = 0
  comm : ∀ x y, x < up.length → y < up.length → tN T x y = tN T y x
  assoc : ∀ x y z, x < up.length → y < up.length → z < up.length → tN T (tN T x y) z = tN T x (tN T y z)
  dist : ∀ x y z, x < up.length → y < up.length → z < up.length → tN T x (joinN up y z) = joinN up (tN T x y) (tN T x z)
theorem Alg.of {up : List Int} {T : List (List Int)} (h : algB up T = true) : Alg up T := by
  unfold algB at h
  rw [Bool.and_eq_true, Bool.and_eq_true] at h
  obtain ⟨h0, h1, h2⟩ := h
  have hx : ∀ x, x < up.length → (tN T x (up.length - 1) = x ∧ tN T x 0 = 0) ∧ ∀ y, y < up.length → tN T x y = tN T y x ∧ ∀ z, z < up.length → tN T (tN T x y) z = tN T x (tN T y z) ∧ tN T x (joinN up y z) = joinN up (tN T x y) (tN T x z) := by
    intro x hx
    have a := allN_iff.1 h2 x hx
    unfold lawX at a
    rw [Bool.and_eq_true, Bool.and_eq_true, decide_eq_true_eq, decide_eq_true_eq] at a
    refine ⟨a.1, fun y hy => ?_⟩
    have b := allN_iff.1 a.2 y hy
    unfold lawY at b
    rw [Bool.and_eq_true, decide_eq_true_eq] at b
    refine ⟨b.1, fun z hz => ?_⟩
    have c := allN_iff.1 b.2 z hz
    unfold lawAt at c
    rw [Bool.and_eq_true, decide_eq_true_eq, decide_eq_true_eq] at c
    exact c
  exact { Tab.of h1 with lat := h0, one := fun x h => (hx x h).1.1, zero := fun x h => (hx x h).1.2, comm := fun x y h h' => ((hx x h).2 y h').1, assoc := fun x y z h h' h'' => (((hx x h).2 y h').2 z h'').1, dist := fun x y z h h' h'' => (((hx x h).2 y h').2 z h'').2 }
section
variable {up : List Int} {T : List (List Int)} (A : Alg up T)
include A
theorem Alg.pos : 1 ≤ up.length := (latB_ok A.lat).2
theorem Alg.ok : OkR up := (latB_ok A.lat).1
theorem Alg.mono {x y z : Nat} (hx : x < up.length) (hy : y < up.length) (hz : z < up.length) (h : le up y z = true) : le up (tN T x y) (tN T x z) = true := by
  rw [le_join A.lat (A.lt x y hx hy) (A.lt x z hx hz), ← A.dist x y z hx hy hz, (le_join A.lat hy hz).1 h]
end
theorem toIntS_ev (l : List Int) (hl : l.length ≤ 17592186044416) : Ev (fun k => laws_toIntS.f k l) l := by
  unfold laws_toIntS.f
  refine Ev.pos (by omega) (Ev.pos (by omega) ?_)
  refine ev_inv (fun k (s : List Int) i => laws_toIntS.l0 k l s i) l.length (fun i s => s.length = l.length ∧ ∀ j, j < i → s[j]? = l[j]?) l ?_ ?_ l.length 0 _ (by omega) ⟨by simp, fun j hj => by omega⟩
  · intro i hi s hs
    obtain ⟨hs1, hs2⟩ := hs
    refine ⟨s.set i (rd l i), ⟨by simp [hs1], ?_⟩, fun h => ?_⟩
    · intro j hj
      by_cases e : j = i
      · subst e
        rw [List.getElem?_set_self (by omega), rd_lt hi, List.getElem?_eq_getElem hi]
      · rw [List.getElem?_set_ne (by omega)]
        exact hs2 j (by omega)
    · refine Ev.step (fun k => by simp only [laws_toIntS.l0]; exact rfl) ?_
      refine Ev.pos (by omega) (Ev.pos (by omega) (Ev.pos (by omega) ?_))
      rw [w64s hi (by omega)]
      exact h
  · intro s hs
    refine Ev.step (fun k => by simp only [laws_toIntS.l0]; exact rfl) ?_
    refine Ev.neg (by omega) ?_
    refine Ev.const ?_
    congr 1
    apply List.ext_getElem? 
    intro j
    by_cases hj : j < l.length
    · exact hs.2 j hj
    · rw [List.getElem?_eq_none (by omega), List.getElem?_eq_none (by omega)]
theorem eqIntS_ev (a b : List Int) (ha : a.length ≤ 17592186044416) : Ev (fun k => laws_eqIntS.f k a b) (decide (a = b)) := by
  unfold laws_eqIntS.f
  by_cases hl : a.length = b.length
  · refine Ev.pos (by omega) ?_
    have h := ev_run (fun k i => laws_eqIntS.l0 k a b i) a.length (fun i => if (decide (rd a i = rd b i)) then none else some false) true ?_ ?_ a.length 0 (by omega)
    · rw [runL_no (fun i => decide (rd a i = rd b i))] at h
      refine Ev.eq h ?_
      rw [Bool.and_true, Bool.eq_iff_iff]
      simp only [List.all_eq_true, List.mem_range, decide_eq_true_eq, Nat.zero_add]
      constructor
      · intro h
        apply List.ext_getElem hl
        intro i h1 h2
        have := h i h1
        rwa [rd_lt h1, rd_lt h2] at this
      · rintro rfl i hi
        rfl
    · intro i hi
      refine ⟨fun x hx => ?_, fun hx r hr => ?_⟩
      · by_cases e : rd a i = rd b i
        · simp [e] at hx
        · simp [e] at hx
          subst hx
          refine Ev.step (fun k => by simp only [laws_eqIntS.l0]; exact rfl) ?_
          exact Ev.pos (by omega) (Ev.pos (by omega) (Ev.pos (by omega) (Ev.neg e (Ev.some _))))
      · by_cases e : rd a i = rd b i
        · refine Ev.step (fun k => by simp only [laws_eqIntS.l0]; exact rfl) ?_
          refine Ev.pos (by omega) (Ev.pos (by omega) (Ev.pos (by omega) (Ev.pos e ?_)))
          rw [w64s hi (by omega)]
          exact hr
        · simp [e] at hx
    · refine Ev.step (fun k => by simp only [laws_eqIntS.l0]; exact rfl) ?_
      exact Ev.neg (by omega) (Ev.some _)
  · refine Ev.neg (by omega) ?_
    refine Ev.eq (Ev.some false) ?_
    symm
    rw [decide_eq_false_iff_not]
    rintro rfl
    exact hl rfl
theorem eqIntS_same (a : List Int) (ha : a.length ≤ 17592186044416) : Ev (fun k => laws_eqIntS.f k a a) true :=
  Ev.eq (eqIntS_ev a a ha) (by simp)
def Sm (up : List Int) (T : List (List Int)) : Prop := up.length ≤ 1048576 ∧ T.length ≤ 1048576 ∧ ∀ r ∈ T, r.length ≤ 1048576
theorem eqIntSS_same (T : List (List Int)) (hT : T.length ≤ 1048576) (hr : ∀ r ∈ T, r.length ≤ 1048576) : Ev (fun k => laws_eqIntSS.f k T T) true := by
  unfold laws_eqIntSS.f
  refine Ev.pos rfl ?_
  refine ev_inv (fun k (_ : Unit) i => laws_eqIntSS.l0 k T T i) T.length (fun _ _ => True) true ?_ ?_ T.length 0 () (by omega) trivial
  · intro i hi _ _
    refine ⟨(), trivial, fun h => ?_⟩
    have hrow := hr _ (rowT_mem hi)
    refine Ev.step (fun k => by simp only [laws_eqIntSS.l0]; exact rfl) ?_
    refine Ev.pos (by omega) (Ev.pos (by omega) (Ev.pos (by omega) (Ev.bind (eqIntS_same (rowT T i) (by omega)) (Ev.pos rfl ?_))))
    rw [w64s hi (by omega)]
    exact h
  · intro _ _
    refine Ev.step (fun k => by simp only [laws_eqIntSS.l0]; exact rfl) ?_
    exact Ev.neg (by omega) (Ev.some _)
theorem eqAlgebra_same {up : List Int} {T : List (List Int)} (h : Sm up T) : Ev (fun k => laws_eqAlgebra.f k up T up T) true := by
  unfold laws_eqAlgebra.f
  have h1 := h.1
  exact Ev.bind (eqIntS_same up (by omega)) (Ev.pos rfl (Ev.bind (eqIntSS_same T h.2.1 h.2.2) (Ev.pos rfl (Ev.some _))))
def sizesN : Nat → Nat → List (List Int)
  | 0, _ => [[]]
  | k + 1, left => [] :: (List.range left).flatMap fun s => (sizesN k (left - (s + 1))).map fun r => ((s + 1 : Nat) : Int) :: r
def okS : Int → List Int → Bool
  | _, [] => true
  | left, s :: r => decide (1 ≤ s ∧ s ≤ left) && okS (left - s) r
theorem okS_mem : ∀ (l : List Int) (k left : Nat), left ≤ k → okS (left : Int) l = true → l ∈ sizesN k left := by
  intro l
  induction l with
  | nil =>
    intro k left _ _
    cases k <;> simp [sizesN]
  | cons s r ih =>
    intro k left hk h
    simp only [okS, Bool.and_eq_true, decide_eq_true_eq] at h
    obtain ⟨⟨h1, h2⟩, h3⟩ := h
    obtain ⟨m, rfl⟩ : ∃ m : Nat, s = ((m + 1 : Nat) : Int) := ⟨s.toNat - 1, by omega⟩
    cases k with
    | zero => omega
    | succ k =>
      simp only [sizesN, List.mem_cons, List.mem_flatMap, List.mem_range, List.mem_map]
      refine Or.inr ⟨m, by omega, r, ih k (left - (m + 1)) (by omega) ?_, rfl⟩
      rw [← h3]
      congr 1
      omega
def sumsB (l : List Int) : Bool := match spec_stackOf.f 300 l, impl_stackOf.f 300 l with
  | some (U, T), some (U', T') => decide (U = U') && decide (T = T') && decide (U.length ≤ 6) && decide (T.length ≤ 6) && T.all fun r => decide (r.length ≤ 6)
  | _, _ => false
set_option maxRecDepth 100000 in
theorem sums_all : ((sizesN 5 5).all sumsB) = true := by kernel_rfl
theorem sums_run {l : List Int} (h : okS 5 l = true) : ∃ U T, spec_stackOf.f 300 l = some (U, T) ∧ impl_stackOf.f 300 l = some (U, T) ∧ Sm U T := by
  have hm : l ∈ sizesN 5 5 := okS_mem l 5 5 (by omega) h
  have hb := List.all_eq_true.1 sums_all l hm
  unfold sumsB at hb
  match h1 : spec_stackOf.f 300 l, h2 : impl_stackOf.f 300 l with
  | some (U, T), some (U', T') =>
    rw [h1, h2] at hb
    simp only [Bool.and_eq_true, decide_eq_true_eq, List.all_eq_true] at hb
    obtain ⟨⟨⟨⟨rfl, rfl⟩, a⟩, b⟩, c⟩ := hb
    exact ⟨U, T, rfl, rfl, by omega, by omega, fun r hr => by have := c r hr; omega⟩
  | some _, none => rw [h1, h2] at hb; simp at hb
  | none, some _ => rw [h1, h2] at hb; simp at hb
  | none, none => rw [h1, h2] at hb; simp at hb
theorem okS_step {left : Int} {l : List Int} {i : Nat} (hi : i < l.length) : okS left (l.drop i) = (decide (1 ≤ rd l (i : Int) ∧ rd l (i : Int) ≤ left) && okS (left - rd l (i : Int)) (l.drop (i + 1))) := by
  rw [List.drop_eq_getElem_cons hi, rd_lt hi]
  rfl
theorem spec_validSizes_l (l : List Int) (hl : l.length ≤ 17592186044416) : ∀ d i (n : Int), i + d = l.length → 1 ≤ n → n ≤ 6 → Ev (fun k => spec_validSizes.l0 k l n (i : Int)) (okS (6 - n) (l.drop i)) := by
  intro d
  induction d with
  | zero =>
    intro i n hi h1 h6
    rw [List.drop_eq_nil_of_le (by omega)]
    exact Ev.step (fun k => by simp only [spec_validSizes.l0]; exact rfl) (Ev.neg (by omega) (Ev.some _))
  | succ d ih =>
    intro i n hid h1 h6
    have hi : i < l.length := by omega
    rw [okS_step hi]
    refine Ev.step (fun k => by simp only [spec_validSizes.l0]; exact rfl) (Ev.pos (by omega) (Ev.pos (by omega) (Ev.bindc (inRange_eq _ 1 5) ?_)))
    generalize hs : rd l (i : Int) = s
    by_cases c : 1 ≤ s ∧ s ≤ 5
    · rw [w64 (by omega) (by omega), w64s hi (by omega)]
      refine Ev.pos (by simpa using c) (Ev.ite' (fun c2 => ?_) (fun c2 => ?_))
      · rw [show decide (1 ≤ s ∧ s ≤ 6 - n) = false from by simp; omega]
        exact Ev.some _
      · rw [show decide (1 ≤ s ∧ s ≤ 6 - n) = true from by simp; omega]
        refine Ev.eq (ih (i + 1) (n + s) (by omega) (by omega) (by omega)) ?_
        rw [Bool.true_and]
        congr 1
        omega
    · refine Ev.neg (by simpa using c) ?_
      rw [show decide (1 ≤ s ∧ s ≤ 6 - n) = false from by simp; omega]
      exact Ev.some _
theorem spec_validSizes_ev (l : List Int) (hl : l.length ≤ 17592186044416) : Ev (fun k => spec_validSizes.f k l) (okS 5 l) := by
  unfold spec_validSizes.f
  exact spec_validSizes_l l hl l.length 0 1 (by omega) (by omega) (by omega)
def StackOfSumsM (l : List Int) : List Int × List (List Int) × Bool := if okS 5 l = true then (((spec_stackOf.f 300 l).getD ([], [])).1, ((spec_stackOf.f 300 l).getD ([], [])).2, true) else ([], [], false)
theorem spec_StackOfSums_ev (l : List Int) (hl : l.length ≤ 17592186044416) : Ev (fun k => spec_StackOfSums.f k l) (StackOfSumsM l) := by
  unfold spec_StackOfSums.f StackOfSumsM
  refine Ev.bind (spec_validSizes_ev l hl) ?_
  by_cases h : okS 5 l = true
  · obtain ⟨U, T, h1, h2, _⟩ := sums_run h
    rw [if_pos h, h1]
    exact Ev.pos h (Ev.bind (Ev.of (spec_stackOf.mono _) h1) (Ev.some _))
  · rw [if_neg h]
    exact Ev.neg h (Ev.some _)
theorem impl_StackOfSums_l (l : List Int) (hl : l.length ≤ 17592186044416) (U : List Int) (T : List (List Int)) (hr : okS 5 l = true → Ev (fun k => impl_stackOf.f k l) (U, T)) : ∀ d i (left : Int), i + d = l.length → 0 ≤ left → left ≤ 5 → (okS left (l.drop i) = true → okS 5 l = true) → Ev (fun k => impl_StackOfSums.l0 k l left l (l.length : Int) (i : Int)) (if okS left (l.drop i) = true then (U, T, true) else ([], [], false)) := by
  intro d
  induction d with
  | zero =>
    intro i n hi h1 h6 ho
    rw [List.drop_eq_nil_of_le (by omega)] at ho ⊢
    rw [if_pos (show okS n [] = true from rfl)]
    exact Ev.step (fun k => by simp only [impl_StackOfSums.l0]; exact rfl) (Ev.neg (by omega) (Ev.bind (hr (ho rfl)) (Ev.some _)))
  | succ d ih =>
    intro i n hid h1 h6 ho
    have hi : i < l.length := by omega
    rw [okS_step hi] at ho ⊢
    refine Ev.step (fun k => by simp only [impl_StackOfSums.l0]; exact rfl) (Ev.pos (by omega) (Ev.pos (by omega) (Ev.pos (by omega) (Ev.bindc (within_eq' _ 1 n) ?_))))
    generalize hs : rd l (i : Int) = s at *
    by_cases c : 1 ≤ s ∧ s ≤ n
    · rw [w64 (by omega) (by omega), w64s hi (by omega)]
      rw [show decide (1 ≤ s ∧ s ≤ n) = true from by simp [c], Bool.true_and] at ho ⊢
      exact Ev.pos rfl (ih (i + 1) (n - s) (by omega) (by omega) (by omega) ho)
    · rw [show decide (1 ≤ s ∧ s ≤ n) = false from by simp only [c, decide_false], Bool.false_and]
      exact Ev.neg (by simp) (Ev.some _)
theorem impl_StackOfSums_ev (l : List Int) (hl : l.length ≤ 17592186044416) : Ev (fun k => impl_StackOfSums.f k l) (StackOfSumsM l) := by
  unfold impl_StackOfSums.f StackOfSumsM
  refine impl_StackOfSums_l l hl _ _ (fun h => ?_) l.length 0 5 (by omega) (by omega) (by omega) (fun h => h)
  obtain ⟨U, T, h1, h2, _⟩ := sums_run h
  rw [h1]
  exact Ev.of (impl_stackOf.mono _) h2
theorem StackOfSumsM_sm (l : List Int) : Sm (StackOfSumsM l).1 (StackOfSumsM l).2.1 := by
  unfold StackOfSumsM
  by_cases h : okS 5 l = true
  · obtain ⟨U, T, h1, h2, h3⟩ := sums_run h
    rw [if_pos h, h1]
    exact h3
  · rw [if_neg h]
    exact ⟨by simp, by simp, by simp⟩
def marks (m : Int) (n : Nat) : List Int := (List.range n).map fun (i : Nat) => m + (i : Int)
theorem marks_length (m : Int) (n : Nat) : (marks m n).length = n := by simp [marks]
theorem marks_rd (m : Int) (n : Nat) {i : Nat} (h : i < n) : rd (marks m n) (i : Int) = m + (i : Int) := by
  rw [rd_lt (by rw [marks_length]; exact h)]
  simp [marks]
theorem markIntS_ev (l : List Int) (m : Int) (hm0 : 0 ≤ m) (hm1 : m ≤ 4611686018427387904) (hl : l.length ≤ 17592186044416) : Ev (fun k => laws_markIntS.f k l m) (m + (l.length : Int), marks m l.length) := by
  unfold laws_markIntS.f
  have h := ev_inv (fun k (s : List Int) i => laws_markIntS.l0 k s (m + i) i) l.length (fun i s => s.length = l.length ∧ ∀ j, j < i → s[j]? = some (m + (j : Int))) (m + (l.length : Int), marks m l.length) ?_ ?_ l.length 0 l (by omega) ⟨rfl, fun j hj => by omega⟩
  · simpa using h
  · intro i hi s hs
    obtain ⟨hs1, hs2⟩ := hs
    refine ⟨s.set i (m + (i : Int)), ⟨by simp [hs1], ?_⟩, fun h => ?_⟩
    · intro j hj
      by_cases e : j = i
      · subst e
        rw [List.getElem?_set_self (by omega)]
      · rw [List.getElem?_set_ne (by omega)]
        exact hs2 j (by omega)
    · refine Ev.step (fun k => by simp only [laws_markIntS.l0]; exact rfl) ?_
      refine Ev.pos (by omega) (Ev.pos (by omega) ?_)
      rw [w64s hi (by omega), w64 (x := m + (i : Int) + 1) (by omega) (by omega), show m + (i : Int) + 1 = m + ((i + 1 : Nat) : Int) by omega]
      exact h
  · intro s hs
    refine Ev.step (fun k => by simp only [laws_markIntS.l0]; exact rfl) ?_
    refine Ev.neg (by omega) (Ev.const ?_)
    have : s = marks m l.length := by
      apply List.ext_getElem?
      intro j
      by_cases hj : j < l.length
      · rw [hs.2 j hj]; simp [marks, hj]
      · rw [List.getElem?_eq_none (by omega), List.getElem?_eq_none (by rw [marks_length]; omega)]
    rw [this]
theorem heldIntS_ev (m : Int) (n : Nat) (hm0 : 0 ≤ m) (hm1 : m ≤ 4611686018427387904) (hl : n ≤ 17592186044416) : Ev (fun k => laws_heldIntS.f k (marks m n) m) (m + (n : Int)) := by
  unfold laws_heldIntS.f
  have h := ev_inv (fun k (_ : Unit) i => laws_heldIntS.l0 k (marks m n) (m + i) i) n (fun _ _ => True) (m + (n : Int)) ?_ ?_ n 0 () (by omega) trivial
  · simpa using h
  · intro i hi _ _
    refine ⟨(), trivial, fun h => ?_⟩
    refine Ev.step (fun k => by simp only [laws_heldIntS.l0]; exact rfl) ?_
    refine Ev.pos (by rw [marks_length]; omega) (Ev.pos (by omega) (Ev.pos (marks_rd m n hi) ?_))
    rw [w64s hi (by omega), w64 (x := m + (i : Int) + 1) (by omega) (by omega), show m + (i : Int) + 1 = m + ((i + 1 : Nat) : Int) by omega]
    exact h
  · intro _ _
    refine Ev.step (fun k => by simp only [laws_heldIntS.l0]; exact rfl) ?_
    exact Ev.neg (by rw [marks_length]; omega) (Ev.some _)
def szT : List (List Int) → Nat
  | [] => 0
  | r :: T => r.length + szT T
def marksT (m : Int) : List (List Int) → List (List Int)
  | [] => []
  | r :: T => marks m r.length :: marksT (m + (r.length : Int)) T
theorem szT_le {T : List (List Int)} {b : Nat} (hr : ∀ r ∈ T, r.length ≤ b) : szT T ≤ T.length * b := by
  induction T with
  | nil => simp [szT]
  | cons r T ih =>
    have h1 := hr r (by simp)
    have h2 := ih (fun s hs => hr s (by simp [hs]))
    rw [List.length_cons, Nat.succ_mul]
    show r.length + szT T ≤ _
    omega
theorem rd_mid (D R : List (List Int)) (r : List Int) : rd_L1 (D ++ r :: R) (D.length : Int) = r := by
  simp [rd_L1]
theorem markSS_l (R : List (List Int)) : ∀ (D : List (List Int)) (m : Int), 0 ≤ m → m + (szT R : Int) ≤ 4611686018427387904 → D.length + R.length ≤ 1048576 → (∀ r ∈ R, r.length ≤ 1048576) →
    Ev (fun k => laws_markIntSS.l0 k (D ++ R) m (D.length : Int)) (m + (szT R : Int), D ++ marksT m R) := by
  induction R with
  | nil =>
    intro D m h0 h1 h2 h3
    refine Ev.step (fun k => by simp only [laws_markIntSS.l0]; exact rfl) ?_
    refine Ev.neg (by simp) (Ev.const ?_)
    simp [szT, marksT]
  | cons r R ih =>
    intro D m h0 h1 h2 h3
    have hr := h3 r (by simp)
    have hs : szT (r :: R) = r.length + szT R := rfl
    have hl : (r :: R).length = R.length + 1 := rfl
    rw [hs] at h1
    rw [hl] at h2
    refine Ev.step (fun k => by simp only [laws_markIntSS.l0]; exact rfl) ?_
    refine Ev.pos (by rw [List.length_append, hl]; omega) (Ev.pos (by omega) ?_)
    rw [rd_mid]
    refine Ev.bind (markIntS_ev r m h0 (by omega) (by omega)) ?_
    have h := ih (D ++ [marks m r.length]) (m + (r.length : Int)) (by omega) (by omega) (by rw [List.length_append, List.length_singleton]; omega) (fun s hs => h3 s (by simp [hs]))
    have e1 : (D ++ r :: R).set ((D.length : Int)).toNat (marks m r.length) = (D ++ [marks m r.length]) ++ R := by
      rw [Int.toNat_natCast, List.set_append_right _ _ (Nat.le_refl _), Nat.sub_self]
      simp
    have e2 : wrap64 ((D.length : Int) + 1) = ((D ++ [marks m r.length]).length : Int) := by
      rw [List.length_append, List.length_singleton, w64 (by omega) (by omega)]
      omega
    have e3 : (m + (szT (r :: R) : Int), D ++ marksT m (r :: R)) = (m + (r.length : Int) + (szT R : Int), (D ++ [marks m r.length]) ++ marksT (m + (r.length : Int)) R) := by
      rw [hs]
      refine Prod.ext ?_ ?_
      · show m + ((r.length + szT R : Nat) : Int) = _
        omega
      · show D ++ (marks m r.length :: marksT _ R) = _
        simp
    rw [e3]
    show Ev (fun k => laws_markIntSS.l0 k ((D ++ r :: R).set ((D.length : Int)).toNat (marks m r.length)) (m + (r.length : Int)) (wrap64 ((D.length : Int) + 1))) _
    rw [e1, e2]
    exact h
theorem heldSS_l (R : List (List Int)) : ∀ (D : List (List Int)) (m : Int), 0 ≤ m → m + (szT R : Int) ≤ 4611686018427387904 → D.length + R.length ≤ 1048576 → (∀ r ∈ R, r.length ≤ 1048576) →
    Ev (fun k => laws_heldIntSS.l0 k (D ++ marksT m R) m (D.length : Int)) (m + (szT R : Int)) := by
  induction R with
  | nil =>
    intro D m h0 h1 h2 h3
    refine Ev.step (fun k => by simp only [laws_heldIntSS.l0]; exact rfl) ?_
    refine Ev.neg (by simp [marksT]) (Ev.const ?_)
    simp [szT]
  | cons r R ih =>
    intro D m h0 h1 h2 h3
    have hr := h3 r (by simp)
    have hs : szT (r :: R) = r.length + szT R := rfl
    have hl : (r :: R).length = R.length + 1 := rfl
    rw [hs] at h1
    rw [hl] at h2
    refine Ev.step (fun k => by simp only [laws_heldIntSS.l0]; exact rfl) ?_
    have hm : marksT m (r :: R) = marks m r.length :: marksT (m + (r.length : Int)) R := rfl
    rw [hm]
    refine Ev.pos (by rw [List.length_append, List.length_cons]; omega) (Ev.pos (by omega) ?_)
    rw [rd_mid]
    refine Ev.bind (heldIntS_ev m r.length h0 (by omega) (by omega)) (Ev.neg (by omega) ?_)
    have h := ih (D ++ [marks m r.length]) (m + (r.length : Int)) (by omega) (by omega) (by rw [List.length_append, List.length_singleton]; omega) (fun s hs => h3 s (by simp [hs]))
    have e2 : wrap64 ((D.length : Int) + 1) = ((D ++ [marks m r.length]).length : Int) := by
      rw [List.length_append, List.length_singleton, w64 (by omega) (by omega)]
      omega
    have e1 : D ++ marks m r.length :: marksT (m + (r.length : Int)) R = (D ++ [marks m r.length]) ++ marksT (m + (r.length : Int)) R := by simp
    rw [e1, e2, hs]
    have e3 : m + ((r.length + szT R : Nat) : Int) = m + (r.length : Int) + (szT R : Int) := by omega
    rw [e3]
    exact h
theorem markAlg_ev {up : List Int} {T : List (List Int)} (h : Sm up T) : ∃ (q : Int) (U' : List Int) (T' : List (List Int)), 0 ≤ q ∧ Ev (fun k => laws_markAlgebra.f k up T 1) (q, U', T') ∧ Ev (fun k => laws_heldAlgebra.f k U' T' 1) q := by
  obtain ⟨h1, h2, h3⟩ := h
  have hz := szT_le h3
  have hz2 : szT T ≤ 1048576 * 1048576 := Nat.le_trans hz (Nat.mul_le_mul_right _ h2)
  refine ⟨1 + (up.length : Int) + (szT T : Int), marks 1 up.length, marksT (1 + (up.length : Int)) T, by omega, ?_, ?_⟩
  · unfold laws_markAlgebra.f
    refine Ev.bind (markIntS_ev up 1 (by decide) (by decide) (by omega)) ?_
    refine Ev.bind (markSS_l T [] (1 + (up.length : Int)) (by omega) (by omega) (by simp; omega) h3) (Ev.some _)
  · unfold laws_heldAlgebra.f
    refine Ev.bind (heldIntS_ev 1 up.length (by decide) (by decide) (by omega)) (Ev.neg (by omega) ?_)
    refine Ev.bind (heldSS_l T [] (1 + (up.length : Int)) (by omega) (by omega) (by simp; omega) h3) (Ev.neg (by omega) (Ev.some _))
theorem Sm.nil : Sm [] [] := ⟨by simp, by simp, by simp⟩
end Go.Proofs.Ytjidbgmkhapklaa.M
