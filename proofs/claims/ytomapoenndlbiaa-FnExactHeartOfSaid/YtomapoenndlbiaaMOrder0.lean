/- Lattices by their order: what the numbers of a lattice obey, and that what obeys it is a lattice. -/
import Derived.Test.YtomapoenndlbiaaMDistr0
namespace Go.Proofs.Ytomapoenndlbiaa.M
set_option linter.unusedVariables false
open Go.RowKit Go.Proofs.YtomapoenndlbiaaW.PrintWords Go.Proofs.YtomapoenndlbiaaW.PrintLast Go.Proofs.YtomapoenndlbiaaW.PrintMore Go.Proofs.Ytomapoenndlbiaa.P

structure Lat (up : List Int) : Prop where
  ok : OkR up
  pos : 1 ≤ up.length
  refl : ∀ x, x < up.length → le up x x = true
  bot : ∀ x, x < up.length → le up 0 x = true
  top : ∀ x, x < up.length → le up x (up.length - 1) = true
  anti : ∀ x y, x < up.length → y < up.length → le up x y = true → le up y x = true → x = y
  trans : ∀ x y z, x < up.length → y < up.length → z < up.length → le up x y = true → le up y z = true → le up x z = true
theorem isMeet_iff {up : List Int} {x y z : Nat} : isMeet up x y z = true ↔ le up z x = true ∧ le up z y = true ∧ ∀ w, w < up.length → le up w x = true → le up w y = true → le up w z = true := by
  unfold isMeet
  rw [Bool.and_eq_true, Bool.and_eq_true, List.all_eq_true]
  constructor
  · rintro ⟨⟨h1, h2⟩, h3⟩
    refine ⟨h1, h2, fun w hw a b => ?_⟩
    have := h3 w (List.mem_range.2 hw)
    simpa [a, b] using this
  · rintro ⟨h1, h2, h3⟩
    refine ⟨⟨h1, h2⟩, fun w hw => ?_⟩
    cases a : le up w x with
    | false => rfl
    | true =>
      cases b : le up w y with
      | false => rfl
      | true => simpa using h3 w (List.mem_range.1 hw) a b
theorem isJoin_iff {up : List Int} {x y z : Nat} : isJoin up x y z = true ↔ le up x z = true ∧ le up y z = true ∧ ∀ w, w < up.length → le up x w = true → le up y w = true → le up z w = true := by
  unfold isJoin
  rw [Bool.and_eq_true, Bool.and_eq_true, List.all_eq_true]
  constructor
  · rintro ⟨⟨h1, h2⟩, h3⟩
    refine ⟨h1, h2, fun w hw a b => ?_⟩
    have := h3 w (List.mem_range.2 hw)
    simpa [a, b] using this
  · rintro ⟨h1, h2, h3⟩
    refine ⟨⟨h1, h2⟩, fun w hw => ?_⟩
    cases a : le up x w with
    | false => rfl
    | true =>
      cases b : le up y w with
      | false => rfl
      | true => simpa using h3 w (List.mem_range.1 hw) a b
theorem ordB_iff {up : List Int} : ordB up = true ↔ ∀ x, x < up.length → (le up x x = true ∧ le up 0 x = true ∧ le up x (up.length - 1) = true) ∧ ∀ y, y < up.length → ¬ (x ≠ y ∧ le up x y = true ∧ le up y x = true) ∧ ∀ z, z < up.length → le up x y = true → le up y z = true → le up x z = true := by
  unfold ordB
  rw [allN_iff]
  refine forall_congr' fun x => forall_congr' fun hx => ?_
  rw [Bool.and_eq_true, Bool.and_eq_true, Bool.and_eq_true, allN_iff]
  refine and_congr and_assoc (forall_congr' fun y => forall_congr' fun hy => ?_)
  rw [Bool.and_eq_true, allN_iff]
  refine and_congr ?_ (forall_congr' fun z => forall_congr' fun hz => ?_)
  · rw [Bool.not_eq_true', Bool.and_eq_false_imp]
    by_cases e : x = y <;> cases a : le up x y <;> cases b : le up y x <;> simp [e]
  · cases a : le up x y <;> cases b : le up y z <;> cases c : le up x z <;> simp
theorem Lat.of {up : List Int} (hb : latB up = true) : Lat up := by
  obtain ⟨h, h1⟩ := latB_ok hb
  have ho : ordB up = true := by
    unfold latB at hb
    rw [Bool.and_eq_true, Bool.and_eq_true] at hb
    exact hb.1.2
  have ho := ordB_iff.1 ho
  exact ⟨h, h1, fun x hx => (ho x hx).1.1, fun x hx => (ho x hx).1.2.1, fun x hx => (ho x hx).1.2.2, fun x y hx hy a b => Decidable.byContradiction fun e => ((ho x hx).2 y hy).1 ⟨e, a, b⟩, fun x y z hx hy hz a b => ((ho x hx).2 y hy).2 z hz a b⟩
theorem firstN_some {n : Nat} {p : Nat → Bool} {z : Nat} (hz : z < n) (hp : p z = true) : 0 ≤ firstN n p := by
  rcases firstN_spec n p with ⟨w, _, _, h, _⟩ | ⟨_, h⟩
  · rw [h]; exact Int.natCast_nonneg _
  · rw [h z hz] at hp; cases hp
/-- What obeys the laws of an order and has meets and joins is a lattice. -/
theorem latB_of {up : List Int} (h : Lat up) (hm : ∀ x y, x < up.length → y < up.length → ∃ z, z < up.length ∧ isMeet up x y z = true) (hj : ∀ x y, x < up.length → y < up.length → ∃ z, z < up.length ∧ isJoin up x y z = true) : latB up = true := by
  unfold latB
  rw [Bool.and_eq_true, Bool.and_eq_true, Bool.and_eq_true]
  refine ⟨⟨⟨decide_eq_true ⟨h.pos, h.ok.1⟩, (okB_iff h.ok.1).2 h.ok⟩, ordB_iff.2 ?_⟩, ?_⟩
  · intro x hx
    refine ⟨⟨h.refl x hx, h.bot x hx, h.top x hx⟩, fun y hy => ⟨fun e => e.1 (h.anti x y hx hy e.2.1 e.2.2), fun z hz a b => h.trans x y z hx hy hz a b⟩⟩
  · unfold bothB
    rw [allN_iff]
    intro x hx
    rw [allN_iff]
    intro y hy
    obtain ⟨z, hz, h1⟩ := hm x y hx hy
    obtain ⟨w, hw, h2⟩ := hj x y hx hy
    rw [Bool.and_eq_true, decide_eq_true_eq, decide_eq_true_eq]
    exact ⟨firstN_some hz h1, firstN_some hw h2⟩
section
variable {up : List Int} (hb : latB up = true)
include hb
theorem mlt {x y : Nat} (hx : x < up.length) (hy : y < up.length) : meetN up x y < up.length := (meetN_spec hb hx hy).2.1
theorem jlt {x y : Nat} (hx : x < up.length) (hy : y < up.length) : joinN up x y < up.length := (joinN_spec hb hx hy).2.1
theorem m_l {x y : Nat} (hx : x < up.length) (hy : y < up.length) : le up (meetN up x y) x = true := (isMeet_iff.1 (meetN_spec hb hx hy).2.2).1
theorem m_r {x y : Nat} (hx : x < up.length) (hy : y < up.length) : le up (meetN up x y) y = true := (isMeet_iff.1 (meetN_spec hb hx hy).2.2).2.1
theorem m_g {x y w : Nat} (hx : x < up.length) (hy : y < up.length) (hw : w < up.length) (a : le up w x = true) (b : le up w y = true) : le up w (meetN up x y) = true := (isMeet_iff.1 (meetN_spec hb hx hy).2.2).2.2 w hw a b
theorem j_l {x y : Nat} (hx : x < up.length) (hy : y < up.length) : le up x (joinN up x y) = true := (isJoin_iff.1 (joinN_spec hb hx hy).2.2).1
theorem j_r {x y : Nat} (hx : x < up.length) (hy : y < up.length) : le up y (joinN up x y) = true := (isJoin_iff.1 (joinN_spec hb hx hy).2.2).2.1
theorem j_g {x y w : Nat} (hx : x < up.length) (hy : y < up.length) (hw : w < up.length) (a : le up x w = true) (b : le up y w = true) : le up (joinN up x y) w = true := (isJoin_iff.1 (joinN_spec hb hx hy).2.2).2.2 w hw a b
theorem m_eq {x y z : Nat} (hx : x < up.length) (hy : y < up.length) (hz : z < up.length) (h : isMeet up x y z = true) : meetN up x y = z := by
  have i := isMeet_iff.1 h
  exact (Lat.of hb).anti _ _ (mlt hb hx hy) hz (i.2.2 _ (mlt hb hx hy) (m_l hb hx hy) (m_r hb hx hy)) (m_g hb hx hy hz i.1 i.2.1)
theorem j_eq {x y z : Nat} (hx : x < up.length) (hy : y < up.length) (hz : z < up.length) (h : isJoin up x y z = true) : joinN up x y = z := by
  have i := isJoin_iff.1 h
  exact (Lat.of hb).anti _ _ (jlt hb hx hy) hz (j_g hb hx hy hz i.1 i.2.1) (i.2.2 _ (jlt hb hx hy) (j_l hb hx hy) (j_r hb hx hy))
theorem m_comm {x y : Nat} (hx : x < up.length) (hy : y < up.length) : meetN up x y = meetN up y x :=
  m_eq hb hx hy (mlt hb hy hx) (isMeet_iff.2 ⟨m_r hb hy hx, m_l hb hy hx, fun w hw a b => m_g hb hy hx hw b a⟩)
theorem j_comm {x y : Nat} (hx : x < up.length) (hy : y < up.length) : joinN up x y = joinN up y x :=
  j_eq hb hx hy (jlt hb hy hx) (isJoin_iff.2 ⟨j_r hb hy hx, j_l hb hy hx, fun w hw a b => j_g hb hy hx hw b a⟩)
theorem le_meet {x y : Nat} (hx : x < up.length) (hy : y < up.length) : le up x y = true ↔ meetN up x y = x := by
  constructor
  · intro h
    exact m_eq hb hx hy hx (isMeet_iff.2 ⟨(Lat.of hb).refl x hx, h, fun w _ a _ => a⟩)
  · intro h
    have := m_r hb hx hy
    rwa [h] at this
theorem le_join {x y : Nat} (hx : x < up.length) (hy : y < up.length) : le up x y = true ↔ joinN up x y = y := by
  constructor
  · intro h
    exact j_eq hb hx hy hy (isJoin_iff.2 ⟨h, (Lat.of hb).refl y hy, fun w _ _ b => b⟩)
  · intro h
    have := j_l hb hx hy
    rwa [h] at this
theorem meetN_int {x y : Nat} (hx : x < up.length) (hy : y < up.length) : meetM up x y = (meetN up x y : Int) := (meetN_spec hb hx hy).1
theorem joinN_int {x y : Nat} (hx : x < up.length) (hy : y < up.length) : joinM up x y = (joinN up x y : Int) := (joinN_spec hb hx hy).1
end
end Go.Proofs.Ytomapoenndlbiaa.M
