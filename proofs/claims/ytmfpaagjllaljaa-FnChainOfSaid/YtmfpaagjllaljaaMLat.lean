/- Lattices by numbers: what is below, meets and joins, as the program and the reference find them. -/
import Derived.Test.YtmfpaagjllaljaaP1
import Derived.Test.YtmfpaagjllaljaaP10
import Derived.Test.YtmfpaagjllaljaaP2
import Derived.Test.YtmfpaagjllaljaaP3
import Derived.Test.YtmfpaagjllaljaaP8
import Derived.Test.YtmfpaagjllaljaaP9
import Derived.Test.YtmfpaagjllaljaaMPow
namespace Go.Proofs.Ytmfpaagjllaljaa.M
set_option linter.unusedVariables false
open Go.RowKit Go.Proofs.YtmfpaagjllaljaaW.PrintWords Go.Proofs.YtmfpaagjllaljaaW.PrintLast Go.Proofs.YtmfpaagjllaljaaW.PrintMore Go.Proofs.Ytmfpaagjllaljaa.P

/-- The element y is at least x. -/
def le (up : List Int) (x y : Nat) : Bool := (rd up (x : Int)).toNat.testBit y
/-- All numbers are sums of 2 to some of the elements. -/
def OkR (up : List Int) : Prop := up.length ≤ 6 ∧ ∀ x, x < up.length → 0 ≤ rd up (x : Int) ∧ rd up (x : Int) < ((2 ^ up.length : Nat) : Int)
theorem OkR.lt {up : List Int} (h : OkR up) {x : Nat} (hx : x < up.length) : 0 ≤ rd up (x : Int) ∧ (rd up (x : Int)).toNat < 64 := by
  obtain ⟨h0, h1⟩ := h.2 x hx
  have : 2 ^ up.length ≤ 2 ^ 6 := Nat.pow_le_pow_right (by decide) h.1
  omega
theorem OkR.big {up : List Int} (h : OkR up) {x y : Nat} (hx : x < up.length) (hy : le up x y = true) : y < up.length := by
  obtain ⟨h0, h1⟩ := h.2 x hx
  refine Classical.byContradiction fun hc => ?_
  have hlt : (rd up (x : Int)).toNat < 2 ^ up.length := by omega
  have : (rd up (x : Int)).toNat.testBit y = false := Nat.testBit_lt_two_pow (Nat.lt_of_lt_of_le hlt (Nat.pow_le_pow_right (by decide) (by omega)))
  rw [le, this] at hy
  cases hy
theorem spec_below_ev {up : List Int} (h : OkR up) {x y : Nat} (hx : x < up.length) (hy : y ≤ 62) : Ev (fun k => spec_below.f k up (x : Int) (y : Int)) (le up x y) := by
  unfold spec_below.f
  obtain ⟨h0, h1⟩ := h.lt hx
  refine Ev.pos (by omega) (Ev.pos (by omega) ?_)
  have e : rd up (x : Int) = (((rd up (x : Int)).toNat : Nat) : Int) := by omega
  have hb := bit_ev (rd up (x : Int)).toNat y (by omega) hy
  rw [← e] at hb
  refine Ev.bind hb (Ev.const ?_)
  unfold le
  cases (rd up (x : Int)).toNat.testBit y <;> rfl
theorem impl_below_eq {up : List Int} (h : OkR up) {x y : Nat} (hx : x < up.length) : impl_below.f up (x : Int) (y : Int) = some (le up x y) := by
  unfold impl_below.f
  obtain ⟨h0, h1⟩ := h.lt hx
  rw [if_pos (by omega), if_pos (by omega), if_pos (by omega)]
  have e : rd up (x : Int) = (((rd up (x : Int)).toNat : Nat) : Int) := by omega
  rw [e, bit_ask _ y (by omega)]
  rfl
/-- The first element of which p holds, -1 if there is none. -/
def firstN (n : Nat) (p : Nat → Bool) : Int := runL (fun z => if p z then some (z : Int) else none) (-1) n 0
def isMeet (up : List Int) (x y z : Nat) : Bool := le up z x && le up z y && (List.range up.length).all fun w => !(le up w x) || !(le up w y) || le up w z
def isJoin (up : List Int) (x y z : Nat) : Bool := le up x z && le up y z && (List.range up.length).all fun w => !(le up x w) || !(le up y w) || le up z w
def meetM (up : List Int) (x y : Nat) : Int := firstN up.length (isMeet up x y)
def joinM (up : List Int) (x y : Nat) : Int := firstN up.length (isJoin up x y)
theorem all_from (n : Nat) (p : Nat → Bool) (i d : Nat) (h : i + d = n) : ((List.range n).all p) = (((List.range i).all p) && ((List.range d).all fun j => p (i + j))) := by
  subst h
  rw [List.range_add, List.all_append, List.all_map]
  rfl
theorem all_step (p : Nat → Bool) (i d : Nat) : ((List.range (d + 1)).all fun j => p (i + j)) = (p i && (List.range d).all fun j => p (i + 1 + j)) := by
  rw [List.range_succ_eq_map, List.all_cons, List.all_map]
  simp [Function.comp_def, Nat.add_assoc, Nat.add_comm 1]
theorem spec_meet_l1 {up : List Int} (h : OkR up) {x y z : Nat} (hx : x < up.length) (hy : y < up.length) (hz : z < up.length) (r : Int) :
    ∀ d w ok, w + d = up.length →
      ((ok && (List.range d).all fun j => !(le up (w + j) x) || !(le up (w + j) y) || le up (w + j) z) = true → r = (z : Int)) →
      ((ok && (List.range d).all fun j => !(le up (w + j) x) || !(le up (w + j) y) || le up (w + j) z) = false → Ev (fun k => spec_meet.l0 k up (x : Int) (y : Int) ((z + 1 : Nat) : Int)) r) →
      Ev (fun k => spec_meet.l1 k up (x : Int) (y : Int) (z : Int) ok (w : Int)) r := by
  have h6 := h.1
  intro d
  induction d with
  | zero =>
    intro w ok hw h1 h2
    refine Ev.step (fun k => by simp only [spec_meet.l1]; exact rfl) ?_
    refine Ev.neg (by omega) ?_
    refine Ev.step (fun k => by simp only [spec_meet.j3]; exact rfl) ?_
    refine Ev.neg (by decide) ?_
    cases ok with
    | true =>
      refine Ev.pos rfl ?_
      have := h1 (by simp)
      subst this
      exact Ev.some _
    | false =>
      refine Ev.neg (by decide) ?_
      rw [w64s hz (by omega)]
      exact h2 (by simp)
  | succ d ih =>
    intro w ok hw h1 h2
    rw [all_step (fun j => !(le up j x) || !(le up j y) || le up j z)] at h1 h2
    refine Ev.step (fun k => by simp only [spec_meet.l1]; exact rfl) ?_
    refine Ev.pos (by omega) ?_
    refine Ev.step (fun k => by simp only [spec_meet.j3]; exact rfl) ?_
    cases ok with
    | false =>
      refine Ev.neg (by decide) (Ev.neg (by decide) ?_)
      rw [w64s hz (by omega)]
      exact h2 (by simp)
    | true =>
      refine Ev.pos rfl ?_
      have hw' : w < up.length := by omega
      have hs := fun b (hb : b = (!(le up w x) || !(le up w y) || le up w z)) => ih (w + 1) b (by omega) (by rw [hb]; simpa using h1) (by rw [hb]; simpa using h2)
      refine Ev.bind (spec_below_ev h hw' (by omega)) ?_
      cases hA : le up w x with
      | false =>
        refine Ev.neg (by decide) ?_
        rw [w64s hw' (by omega)]
        exact hs true (by rw [hA]; rfl)
      | true =>
        refine Ev.pos rfl (Ev.bind (spec_below_ev h hw' (by omega)) ?_)
        cases hB : le up w y with
        | false =>
          refine Ev.neg (by decide) ?_
          rw [w64s hw' (by omega)]
          exact hs true (by rw [hA, hB]; rfl)
        | true =>
          refine Ev.pos rfl (Ev.bind (spec_below_ev h hw' (by omega)) ?_)
          rw [w64s hw' (by omega)]
          exact hs _ (by rw [hA, hB]; rfl)
theorem spec_meet_ev {up : List Int} (h : OkR up) {x y : Nat} (hx : x < up.length) (hy : y < up.length) : Ev (fun k => spec_meet.f k up (x : Int) (y : Int)) (meetM up x y) := by
  have h6 := h.1
  unfold spec_meet.f meetM firstN
  refine ev_run (fun k i => spec_meet.l0 k up (x : Int) (y : Int) i) up.length _ (-1) ?_ ?_ up.length 0 (by omega)
  · intro z hz
    have key : ∀ r, (isMeet up x y z = true → r = (z : Int)) → (isMeet up x y z = false → Ev (fun k => spec_meet.l0 k up (x : Int) (y : Int) ((z + 1 : Nat) : Int)) r) → Ev (fun k => spec_meet.l0 k up (x : Int) (y : Int) (z : Int)) r := by
      intro r h1 h2
      refine Ev.step (fun k => by simp only [spec_meet.l0]; exact rfl) ?_
      refine Ev.pos (by omega) ?_
      have hl := fun ok (hb : ok = (le up z x && le up z y)) => spec_meet_l1 h hx hy hz r up.length 0 ok (by omega) (by rw [hb]; simpa [isMeet] using h1) (by rw [hb]; simpa [isMeet] using h2)
      refine Ev.bind (spec_below_ev h hz (by omega)) ?_
      cases hA : le up z x with
      | false =>
        refine Ev.neg (by decide) (Ev.step (fun k => by simp only [spec_meet.j1]; exact rfl) ?_)
        exact hl false (by rw [hA]; rfl)
      | true =>
        refine Ev.pos rfl (Ev.bind (spec_below_ev h hz (by omega)) (Ev.step (fun k => by simp only [spec_meet.j1]; exact rfl) ?_))
        exact hl _ (by rw [hA]; rfl)
    cases hm : isMeet up x y z with
    | true =>
      refine ⟨fun a ha => ?_, fun ha => by simp at ha⟩
      obtain rfl : (z : Int) = a := by simpa using ha
      exact key _ (fun _ => rfl) (fun e => by rw [hm] at e; cases e)
    | false =>
      refine ⟨fun a ha => by simp at ha, fun _ r hr => key r (fun e => by rw [hm] at e; cases e) (fun _ => hr)⟩
  · refine Ev.step (fun k => by simp only [spec_meet.l0]; exact rfl) ?_
    exact Ev.neg (by omega) (Ev.some _)
theorem spec_join_l1 {up : List Int} (h : OkR up) {x y z : Nat} (hx : x < up.length) (hy : y < up.length) (hz : z < up.length) (r : Int) :
    ∀ d w ok, w + d = up.length →
      ((ok && (List.range d).all fun j => !(le up x (w + j)) || !(le up y (w + j)) || le up z (w + j)) = true → r = (z : Int)) →
      ((ok && (List.range d).all fun j => !(le up x (w + j)) || !(le up y (w + j)) || le up z (w + j)) = false → Ev (fun k => spec_join.l0 k up (x : Int) (y : Int) ((z + 1 : Nat) : Int)) r) →
      Ev (fun k => spec_join.l1 k up (x : Int) (y : Int) (z : Int) ok (w : Int)) r := by
  have h6 := h.1
  intro d
  induction d with
  | zero =>
    intro w ok hw h1 h2
    refine Ev.step (fun k => by simp only [spec_join.l1]; exact rfl) ?_
    refine Ev.neg (by omega) ?_
    refine Ev.step (fun k => by simp only [spec_join.j3]; exact rfl) ?_
    refine Ev.neg (by decide) ?_
    cases ok with
    | true =>
      refine Ev.pos rfl ?_
      have := h1 (by simp)
      subst this
      exact Ev.some _
    | false =>
      refine Ev.neg (by decide) ?_
      rw [w64s hz (by omega)]
      exact h2 (by simp)
  | succ d ih =>
    intro w ok hw h1 h2
    rw [all_step (fun j => !(le up x j) || !(le up y j) || le up z j)] at h1 h2
    refine Ev.step (fun k => by simp only [spec_join.l1]; exact rfl) ?_
    refine Ev.pos (by omega) ?_
    refine Ev.step (fun k => by simp only [spec_join.j3]; exact rfl) ?_
    cases ok with
    | false =>
      refine Ev.neg (by decide) (Ev.neg (by decide) ?_)
      rw [w64s hz (by omega)]
      exact h2 (by simp)
    | true =>
      refine Ev.pos rfl ?_
      have hw' : w < up.length := by omega
      have hs := fun b (hb : b = (!(le up x w) || !(le up y w) || le up z w)) => ih (w + 1) b (by omega) (by rw [hb]; simpa using h1) (by rw [hb]; simpa using h2)
      refine Ev.bind (spec_below_ev h hx (by omega)) ?_
      cases hA : le up x w with
      | false =>
        refine Ev.neg (by decide) ?_
        rw [w64s hw' (by omega)]
        exact hs true (by rw [hA]; rfl)
      | true =>
        refine Ev.pos rfl (Ev.bind (spec_below_ev h hy (by omega)) ?_)
        cases hB : le up y w with
        | false =>
          refine Ev.neg (by decide) ?_
          rw [w64s hw' (by omega)]
          exact hs true (by rw [hA, hB]; rfl)
        | true =>
          refine Ev.pos rfl (Ev.bind (spec_below_ev h hz (by omega)) ?_)
          rw [w64s hw' (by omega)]
          exact hs _ (by rw [hA, hB]; rfl)
theorem spec_join_ev {up : List Int} (h : OkR up) {x y : Nat} (hx : x < up.length) (hy : y < up.length) : Ev (fun k => spec_join.f k up (x : Int) (y : Int)) (joinM up x y) := by
  have h6 := h.1
  unfold spec_join.f joinM firstN
  refine ev_run (fun k i => spec_join.l0 k up (x : Int) (y : Int) i) up.length _ (-1) ?_ ?_ up.length 0 (by omega)
  · intro z hz
    have key : ∀ r, (isJoin up x y z = true → r = (z : Int)) → (isJoin up x y z = false → Ev (fun k => spec_join.l0 k up (x : Int) (y : Int) ((z + 1 : Nat) : Int)) r) → Ev (fun k => spec_join.l0 k up (x : Int) (y : Int) (z : Int)) r := by
      intro r h1 h2
      refine Ev.step (fun k => by simp only [spec_join.l0]; exact rfl) ?_
      refine Ev.pos (by omega) ?_
      have hl := fun ok (hb : ok = (le up x z && le up y z)) => spec_join_l1 h hx hy hz r up.length 0 ok (by omega) (by rw [hb]; simpa [isJoin] using h1) (by rw [hb]; simpa [isJoin] using h2)
      refine Ev.bind (spec_below_ev h hx (by omega)) ?_
      cases hA : le up x z with
      | false =>
        refine Ev.neg (by decide) (Ev.step (fun k => by simp only [spec_join.j1]; exact rfl) ?_)
        exact hl false (by rw [hA]; rfl)
      | true =>
        refine Ev.pos rfl (Ev.bind (spec_below_ev h hy (by omega)) (Ev.step (fun k => by simp only [spec_join.j1]; exact rfl) ?_))
        exact hl _ (by rw [hA]; rfl)
    cases hm : isJoin up x y z with
    | true =>
      refine ⟨fun a ha => ?_, fun ha => by simp at ha⟩
      obtain rfl : (z : Int) = a := by simpa using ha
      exact key _ (fun _ => rfl) (fun e => by rw [hm] at e; cases e)
    | false =>
      refine ⟨fun a ha => by simp at ha, fun _ r hr => key r (fun e => by rw [hm] at e; cases e) (fun _ => hr)⟩
  · refine Ev.step (fun k => by simp only [spec_join.l0]; exact rfl) ?_
    exact Ev.neg (by omega) (Ev.some _)
theorem impl_meet_l1 {up : List Int} (h : OkR up) {x y z : Nat} (hx : x < up.length) (hy : y < up.length) (hz : z < up.length) (r : Int) :
    ∀ d w ok, w + d = up.length →
      ((ok && (List.range d).all fun j => !(le up (w + j) x) || !(le up (w + j) y) || le up (w + j) z) = true → r = (z : Int)) →
      ((ok && (List.range d).all fun j => !(le up (w + j) x) || !(le up (w + j) y) || le up (w + j) z) = false → Ev (fun k => impl_meet.l0 k up (x : Int) (y : Int) (up.length : Int) ((z + 1 : Nat) : Int)) r) →
      Ev (fun k => impl_meet.l1 k up (x : Int) (y : Int) (z : Int) ok (up.length : Int) (z : Int) (up.length : Int) (w : Int)) r := by
  have h6 := h.1
  intro d
  induction d with
  | zero =>
    intro w ok hw h1 h2
    refine Ev.step (fun k => by simp only [impl_meet.l1]; exact rfl) ?_
    refine Ev.neg (by omega) ?_
    cases ok with
    | true =>
      refine Ev.pos rfl ?_
      have := h1 (by simp)
      subst this
      exact Ev.some _
    | false =>
      refine Ev.neg (by decide) ?_
      rw [w64s hz (by omega)]
      exact h2 (by simp)
  | succ d ih =>
    intro w ok hw h1 h2
    rw [all_step (fun j => !(le up j x) || !(le up j y) || le up j z)] at h1 h2
    refine Ev.step (fun k => by simp only [impl_meet.l1]; exact rfl) ?_
    refine Ev.pos (by omega) ?_
    have hw' : w < up.length := by omega
    have hs := fun b (hb : b = (ok && (!(le up w x) || !(le up w y) || le up w z))) => ih (w + 1) b (by omega) (by rw [hb, Bool.and_assoc]; exact h1) (by rw [hb, Bool.and_assoc]; exact h2)
    cases ok with
    | false =>
      refine Ev.neg (by decide) ?_
      rw [w64s hw' (by omega)]
      exact hs false rfl
    | true =>
      refine Ev.pos rfl ?_
      refine Ev.bindc (impl_below_eq h hw') ?_
      cases hA : le up w x with
      | false =>
        refine Ev.neg (by decide) ?_
        rw [w64s hw' (by omega)]
        exact hs true (by rw [hA]; rfl)
      | true =>
        refine Ev.pos rfl (Ev.bindc (impl_below_eq h hw') ?_)
        cases hB : le up w y with
        | false =>
          refine Ev.neg (by decide) ?_
          rw [w64s hw' (by omega)]
          exact hs true (by rw [hA, hB]; rfl)
        | true =>
          refine Ev.pos rfl (Ev.bindc (impl_below_eq h hw') ?_)
          rw [w64s hw' (by omega)]
          exact hs _ (by rw [hA, hB]; rfl)
theorem impl_meet_ev {up : List Int} (h : OkR up) {x y : Nat} (hx : x < up.length) (hy : y < up.length) : Ev (fun k => impl_meet.f k up (x : Int) (y : Int)) (meetM up x y) := by
  have h6 := h.1
  unfold impl_meet.f meetM firstN
  refine ev_run (fun k i => impl_meet.l0 k up (x : Int) (y : Int) (up.length : Int) i) up.length _ (-1) ?_ ?_ up.length 0 (by omega)
  · intro z hz
    have key : ∀ r, (isMeet up x y z = true → r = (z : Int)) → (isMeet up x y z = false → Ev (fun k => impl_meet.l0 k up (x : Int) (y : Int) (up.length : Int) ((z + 1 : Nat) : Int)) r) → Ev (fun k => impl_meet.l0 k up (x : Int) (y : Int) (up.length : Int) (z : Int)) r := by
      intro r h1 h2
      refine Ev.step (fun k => by simp only [impl_meet.l0]; exact rfl) ?_
      refine Ev.pos (by omega) ?_
      have hno : (le up z x && le up z y) = false → Ev (fun k => impl_meet.j1 k up (x : Int) (y : Int) (z : Int) (up.length : Int) (z : Int) true) r := by
        intro e
        refine Ev.step (fun k => by simp only [impl_meet.j1]; exact rfl) ?_
        refine Ev.pos trivial ?_
        rw [w64s hz (by omega)]
        exact h2 (by rw [isMeet, e]; rfl)
      refine Ev.bindc (impl_below_eq h hz) ?_
      cases hA : le up z x with
      | false =>
        refine Ev.neg (by decide) ?_
        exact hno (by rw [hA]; rfl)
      | true =>
        refine Ev.pos rfl (Ev.bindc (impl_below_eq h hz) ?_)
        cases hB : le up z y with
        | false => exact hno (by rw [hA, hB]; rfl)
        | true =>
          refine Ev.step (fun k => by simp only [impl_meet.j1]; exact rfl) ?_
          refine Ev.neg (by decide) ?_
          exact impl_meet_l1 h hx hy hz r up.length 0 true (by omega) (by simpa [isMeet, hA, hB] using h1) (by simpa [isMeet, hA, hB] using h2)
    cases hm : isMeet up x y z with
    | true =>
      refine ⟨fun a ha => ?_, fun ha => by simp at ha⟩
      obtain rfl : (z : Int) = a := by simpa using ha
      exact key _ (fun _ => rfl) (fun e => by rw [hm] at e; cases e)
    | false =>
      refine ⟨fun a ha => by simp at ha, fun _ r hr => key r (fun e => by rw [hm] at e; cases e) (fun _ => hr)⟩
  · refine Ev.step (fun k => by simp only [impl_meet.l0]; exact rfl) ?_
    exact Ev.neg (by omega) (Ev.some _)
theorem impl_join_ev {up : List Int} (h : OkR up) {x y : Nat} (hx : x < up.length) (hy : y < up.length) : Ev (fun k => impl_join.f k up (x : Int) (y : Int)) (joinM up x y) := by
  have h6 := h.1
  unfold impl_join.f joinM firstN
  refine Ev.pos (by omega) (Ev.pos (by omega) (Ev.pos (by omega) (Ev.pos (by omega) ?_)))
  obtain ⟨hx0, hx1⟩ := h.lt hx
  obtain ⟨hy0, hy1⟩ := h.lt hy
  have eb : bits .and .i64 (rd up (x : Int)) (rd up (y : Int)) = (((rd up (x : Int)).toNat &&& (rd up (y : Int)).toNat : Nat) : Int) := by
    have := bitsAnd (rd up (x : Int)).toNat (rd up (y : Int)).toNat (by omega) (by omega)
    rwa [Int.toNat_of_nonneg hx0, Int.toNat_of_nonneg hy0] at this
  rw [eb]
  have hb : ((rd up (x : Int)).toNat &&& (rd up (y : Int)).toNat) < 64 := Nat.lt_of_le_of_lt Nat.and_le_left hx1
  have hbit : ∀ z, ((rd up (x : Int)).toNat &&& (rd up (y : Int)).toNat).testBit z = (le up x z && le up y z) := fun z => by rw [Nat.testBit_and]; rfl
  generalize (rd up (x : Int)).toNat &&& (rd up (y : Int)).toNat = both at hb hbit
  refine ev_run (fun k i => impl_join.l0 k up (both : Int) (up.length : Int) i) up.length _ (-1) ?_ ?_ up.length 0 (by omega)
  · intro z hz
    have key : ∀ r, (isJoin up x y z = true → r = (z : Int)) → (isJoin up x y z = false → Ev (fun k => impl_join.l0 k up (both : Int) (up.length : Int) ((z + 1 : Nat) : Int)) r) → Ev (fun k => impl_join.l0 k up (both : Int) (up.length : Int) (z : Int)) r := by
      intro r h1 h2
      refine Ev.step (fun k => by simp only [impl_join.l0]; exact rfl) ?_
      refine Ev.pos (by omega) (Ev.pos (by omega) ?_)
      obtain ⟨hz0, hz1⟩ := h.lt hz
      have ez : rd up (z : Int) = (((rd up (z : Int)).toNat : Nat) : Int) := by omega
      by_cases c1 : both.testBit z = true
      · refine Ev.pos ((bit_ask' both z (by omega)).2 c1) (Ev.pos (by omega) ?_)
        have c0 : (le up x z && le up y z) = true := by rw [← hbit]; exact c1
        have hall : bits .andNot .i64 (both : Int) (rd up (z : Int)) = 0 ↔ ((List.range up.length).all fun w => !(le up x w) || !(le up y w) || le up z w) = true := by
          rw [ez, andNot0 both _ (by omega) (by omega), List.all_eq_true]
          constructor
          · intro k w _
            cases e1 : le up x w with
            | false => rfl
            | true =>
              cases e2 : le up y w with
              | false => rfl
              | true =>
                have : le up z w = true := k w (by rw [hbit, e1, e2]; rfl)
                rw [this]; rfl
          · intro k w hw
            rw [hbit, Bool.and_eq_true] at hw
            have := k w (List.mem_range.2 (h.big hx hw.1))
            rw [hw.1, hw.2] at this
            show le up z w = true
            simpa using this
        by_cases c2 : bits .andNot .i64 (both : Int) (rd up (z : Int)) = 0
        · refine Ev.pos c2 ?_
          rw [h1 (by rw [isJoin, c0, hall.1 c2]; rfl)]
          exact Ev.some _
        · refine Ev.neg c2 ?_
          rw [w64s hz (by omega)]
          refine h2 ?_
          rw [isJoin, c0, Bool.true_and]
          cases e : ((List.range up.length).all fun w => !(le up x w) || !(le up y w) || le up z w) with
          | false => rfl
          | true => exact absurd (hall.2 e) c2
      · refine Ev.neg (fun e => c1 ((bit_ask' both z (by omega)).1 e)) ?_
        rw [w64s hz (by omega)]
        refine h2 ?_
        rw [isJoin]
        have : (le up x z && le up y z) = false := by rw [← hbit]; simpa using c1
        rw [this]; rfl
    cases hm : isJoin up x y z with
    | true =>
      refine ⟨fun a ha => ?_, fun ha => by simp at ha⟩
      obtain rfl : (z : Int) = a := by simpa using ha
      exact key _ (fun _ => rfl) (fun e => by rw [hm] at e; cases e)
    | false =>
      refine ⟨fun a ha => by simp at ha, fun _ r hr => key r (fun e => by rw [hm] at e; cases e) (fun _ => hr)⟩
  · refine Ev.step (fun k => by simp only [impl_join.l0]; exact rfl) ?_
    exact Ev.neg (by omega) (Ev.some _)
end Go.Proofs.Ytmfpaagjllaljaa.M
