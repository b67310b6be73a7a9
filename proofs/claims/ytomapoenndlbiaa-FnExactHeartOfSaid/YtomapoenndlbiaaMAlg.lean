/- Algebras by tables: when a list of numbers and a table are one, and what holds of its products. -/
import Derived.Test.YtomapoenndlbiaaP19
import Derived.Test.YtomapoenndlbiaaP9
import Derived.Test.YtomapoenndlbiaaMOrder0
namespace Go.Proofs.Ytomapoenndlbiaa.M
set_option linter.unusedVariables false
open Go.RowKit Go.Proofs.YtomapoenndlbiaaW.PrintWords Go.Proofs.YtomapoenndlbiaaW.PrintLast Go.Proofs.YtomapoenndlbiaaW.PrintMore Go.Proofs.Ytomapoenndlbiaa.P

/-- The row of an element. -/
def rowT (T : List (List Int)) (x : Nat) : List Int := rd_L1 T (x : Int)
theorem rowT_lt {T : List (List Int)} {x : Nat} (h : x < T.length) : rowT T x = T[x] := by simp [rowT, rd_L1, h]
theorem rowT_mem {T : List (List Int)} {x : Nat} (h : x < T.length) : rowT T x ∈ T := by rw [rowT_lt h]; exact List.getElem_mem h
/-- The product of two elements. -/
def tN (T : List (List Int)) (x y : Nat) : Nat := (rd (rowT T x) (y : Int)).toNat
def valAt (up : List Int) (T : List (List Int)) (x y : Nat) : Bool := decide (0 ≤ rd (rowT T x) (y : Int) ∧ rd (rowT T x) (y : Int) ≤ (up.length : Int) - 1)
def rowB (up : List Int) (T : List (List Int)) (x : Nat) : Bool := decide ((rowT T x).length = up.length) && allN up.length (valAt up T x)
def shapeB (up : List Int) (T : List (List Int)) : Bool := decide (T.length = up.length) && allN up.length (rowB up T)
def lawAt (up : List Int) (T : List (List Int)) (x y z : Nat) : Bool := decide (tN T (tN T x y) z = tN T x (tN T y z)) && decide (tN T x (joinN up y z) = joinN up (tN T x y) (tN T x z))
def lawY (up : List Int) (T : List (List Int)) (x y : Nat) : Bool := decide (tN T x y = tN T y x) && allN up.length (lawAt up T x y)
def lawX (up : List Int) (T : List (List Int)) (x : Nat) : Bool := (decide (tN T x (up.length - 1) = x) && decide (tN T x 0 = 0)) && allN up.length (lawY up T x)
def lawB (up : List Int) (T : List (List Int)) : Bool := allN up.length (lawX up T)
def algB (up : List Int) (T : List (List Int)) : Bool := latB up && (shapeB up T && lawB up T)
/-- A table of elements. -/
structure Tab (up : List Int) (T : List (List Int)) : Prop where
  len : T.length = up.length
  row : ∀ x, x < up.length → (rowT T x).length = up.length
  val : ∀ x y, x < up.length → y < up.length → rd (rowT T x) (y : Int) = (tN T x y : Int)
  lt : ∀ x y, x < up.length → y < up.length → tN T x y < up.length
theorem Tab.of {up : List Int} {T : List (List Int)} (h : shapeB up T = true) : Tab up T := by
  unfold shapeB at h
  rw [Bool.and_eq_true, decide_eq_true_eq] at h
  obtain ⟨h1, h2⟩ := h
  have hr : ∀ x, x < up.length → (rowT T x).length = up.length ∧ ∀ y, y < up.length → 0 ≤ rd (rowT T x) (y : Int) ∧ rd (rowT T x) (y : Int) ≤ (up.length : Int) - 1 := by
    intro x hx
    have := allN_iff.1 h2 x hx
    unfold rowB at this
    rw [Bool.and_eq_true, decide_eq_true_eq] at this
    refine ⟨this.1, fun y hy => ?_⟩
    have h3 := allN_iff.1 this.2 y hy
    unfold valAt at h3
    exact of_decide_eq_true h3
  refine ⟨h1, fun x hx => (hr x hx).1, fun x y hx hy => ?_, fun x y hx hy => ?_⟩
  · have := (hr x hx).2 y hy
    unfold tN
    omega
  · have := (hr x hx).2 y hy
    unfold tN
    omega
theorem Tab.shape {up : List Int} {T : List (List Int)} (h : Tab up T) : shapeB up T = true := by
  unfold shapeB
  rw [Bool.and_eq_true, decide_eq_true_eq]
  refine ⟨h.len, allN_iff.2 fun x hx => ?_⟩
  unfold rowB
  rw [Bool.and_eq_true, decide_eq_true_eq]
  refine ⟨h.row x hx, allN_iff.2 fun y hy => ?_⟩
  unfold valAt
  rw [decide_eq_true_eq, h.val x y hx hy]
  have := h.lt x y hx hy
  omega
structure Alg (up : List Int) (T : List (List Int)) : Prop extends Tab up T where
  lat : latB up = true
  one : ∀ x, x < up.length → tN T x (up.length - 1) = x
  zero : ∀ x, x < up.length → tN T x 0 = 0
  comm : ∀ x y, x < up.length → y < up.length → tN T x y = tN T y x
  assoc : ∀ x y z, x < up.length → y < up.length → z < up.length → tN T (tN T x y) z = tN T x (tN T y z)
  dist : ∀ x y z, x < up.length → y < up.length → z < up.length → tN T x (joinN up y z) = joinN up (tN T x y) (tN T x z)
theorem Alg.of {up : List Int} {T : List (List Int)} (h : algB up T = true) : Alg up T := by
  unfold algB at h
  rw [Bool.and_eq_true, Bool.and_eq_true] at h
  obtain ⟨h0, h1, h2⟩ := h
  have hx : ∀ x, x < up.length → (tN T x (up.length - 1) = x ∧ tN T x 0 = 0) ∧ ∀ y, y < up.length → tN T x y = tN T y x ∧ ∀ z, z < up.length → tN T (tN T x y) z = tN T x (tN T y z) ∧ tN T x (joinN up y z) = joinN up (tN T x y) (tN T x z) := by
    intro x hx
    have a := allN_iff.1 h2 x hx
    unfold lawX at a
    rw [Bool.and_eq_true, Bool.and_eq_true, decide_eq_true_eq, decide_eq_true_eq] at a
    refine ⟨a.1, fun y hy => ?_⟩
    have b := allN_iff.1 a.2 y hy
    unfold lawY at b
    rw [Bool.and_eq_true, decide_eq_true_eq] at b
    refine ⟨b.1, fun z hz => ?_⟩
    have c := allN_iff.1 b.2 z hz
    unfold lawAt at c
    rw [Bool.and_eq_true, decide_eq_true_eq, decide_eq_true_eq] at c
    exact c
  exact { Tab.of h1 with lat := h0, one := fun x h => (hx x h).1.1, zero := fun x h => (hx x h).1.2, comm := fun x y h h' => ((hx x h).2 y h').1, assoc := fun x y z h h' h'' => (((hx x h).2 y h').2 z h'').1, dist := fun x y z h h' h'' => (((hx x h).2 y h').2 z h'').2 }
theorem Alg.alg {up : List Int} {T : List (List Int)} (h : Alg up T) : algB up T = true := by
  unfold algB
  rw [Bool.and_eq_true, Bool.and_eq_true]
  refine ⟨h.lat, h.toTab.shape, allN_iff.2 fun x hx => ?_⟩
  unfold lawX
  rw [Bool.and_eq_true, Bool.and_eq_true, decide_eq_true_eq, decide_eq_true_eq]
  refine ⟨⟨h.one x hx, h.zero x hx⟩, allN_iff.2 fun y hy => ?_⟩
  unfold lawY
  rw [Bool.and_eq_true, decide_eq_true_eq]
  refine ⟨h.comm x y hx hy, allN_iff.2 fun z hz => ?_⟩
  unfold lawAt
  rw [Bool.and_eq_true, decide_eq_true_eq, decide_eq_true_eq]
  exact ⟨h.assoc x y z hx hy hz, h.dist x y z hx hy hz⟩
theorem algB_lat {up : List Int} {T : List (List Int)} (h : algB up T = true) : latB up = true := (Alg.of h).lat
section
variable {up : List Int} {T : List (List Int)} (A : Alg up T)
include A
theorem Alg.pos : 1 ≤ up.length := (latB_ok A.lat).2
theorem Alg.ok : OkR up := (latB_ok A.lat).1
theorem Alg.L : Lat up := Lat.of A.lat
theorem Alg.mono {x y z : Nat} (hx : x < up.length) (hy : y < up.length) (hz : z < up.length) (h : le up y z = true) : le up (tN T x y) (tN T x z) = true := by
  rw [le_join A.lat (A.lt x y hx hy) (A.lt x z hx hz), ← A.dist x y z hx hy hz, (le_join A.lat hy hz).1 h]
theorem Alg.below {x y : Nat} (hx : x < up.length) (hy : y < up.length) : le up (tN T x y) x = true := by
  have p := A.pos
  have h := A.mono hx hy (z := up.length - 1) (by omega) (A.L.top y hy)
  rwa [A.one x hx] at h
end
theorem foldL_last {σ : Type} (f : Nat → σ → σ) : ∀ d i s, foldL f (d + 1) i s = f (i + d) (foldL f d i s) := by
  intro d
  induction d with
  | zero => intro i s; rfl
  | succ d ih =>
    intro i s
    show foldL f (d + 1) (i + 1) (f i s) = _
    rw [ih, show i + 1 + d = i + (d + 1) by omega]
    rfl
/-- The greatest element whose product with x is at most y, as both programs reckon it. -/
def impS (up : List Int) (T : List (List Int)) (x y z s : Nat) : Nat := if le up (tN T x z) y = true then joinN up s z else s
def implyN (up : List Int) (T : List (List Int)) (x y : Nat) : Nat := foldL (impS up T x y) up.length 0 0
theorem fold_lt {up : List Int} {T : List (List Int)} (A : Alg up T) (x y : Nat) : ∀ d i s, i + d ≤ up.length → s < up.length → foldL (impS up T x y) d i s < up.length := by
  intro d
  induction d with
  | zero => intro i s _ h; exact h
  | succ d ih =>
    intro i s hi hs
    show foldL _ d (i + 1) _ < _
    refine ih (i + 1) _ (by omega) ?_
    unfold impS
    split
    · exact jlt A.lat hs (by omega)
    · exact hs
theorem imply_lt {up : List Int} {T : List (List Int)} (A : Alg up T) (x y : Nat) : implyN up T x y < up.length := fold_lt A x y up.length 0 0 (by omega) A.pos
theorem imply_self {up : List Int} {T : List (List Int)} (A : Alg up T) {x : Nat} (hx : x < up.length) : implyN up T x x = up.length - 1 := by
  have p := A.pos
  unfold implyN
  obtain ⟨n, hn⟩ : ∃ n, up.length = n + 1 := ⟨up.length - 1, by omega⟩
  have hs := fold_lt A x x n 0 0 (by omega) A.pos
  have e := foldL_last (impS up T x x) n 0 0
  rw [Nat.zero_add] at e
  have e1 : foldL (impS up T x x) up.length 0 0 = impS up T x x n (foldL (impS up T x x) n 0 0) := by rw [← e, ← hn]
  rw [e1]
  have hn' : n = up.length - 1 := by omega
  unfold impS
  rw [hn', A.one x hx, if_pos (A.L.refl x hx)]
  rw [← hn']
  have ht := A.L.top _ hs
  rw [← hn'] at ht
  exact (le_join A.lat hs (by omega)).1 ht
/-- Powers. -/
def powN (up : List Int) (T : List (List Int)) (x : Nat) : Nat → Nat
  | 0 => up.length - 1
  | k + 1 => tN T (powN up T x k) x
theorem pow_lt {up : List Int} {T : List (List Int)} (A : Alg up T) {x : Nat} (hx : x < up.length) : ∀ k, powN up T x k < up.length
  | 0 => by have := A.pos; show up.length - 1 < _; omega
  | k + 1 => A.lt _ _ (pow_lt A hx k) hx
def nearN (up : List Int) (T : List (List Int)) (x y : Nat) : Nat := tN T (implyN up T x y) (implyN up T y x)
theorem near_lt {up : List Int} {T : List (List Int)} (A : Alg up T) (x y : Nat) : nearN up T x y < up.length := A.lt _ _ (imply_lt A x y) (imply_lt A y x)
theorem near_self {up : List Int} {T : List (List Int)} (A : Alg up T) {x : Nat} (hx : x < up.length) : nearN up T x x = up.length - 1 := by
  unfold nearN
  rw [imply_self A hx]
  exact A.one _ (by have := A.pos; omega)
end Go.Proofs.Ytomapoenndlbiaa.M
