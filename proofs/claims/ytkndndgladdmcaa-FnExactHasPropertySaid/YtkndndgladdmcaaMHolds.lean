/- Properties of elements by their names, as the program asks them. -/
import Derived.Test.YtkndndgladdmcaaP44
import Derived.Test.YtkndndgladdmcaaMNot
namespace Go.Proofs.Ytkndndgladdmcaa.M
set_option linter.unusedVariables false
open Go.RowKit Go.Proofs.YtkndndgladdmcaaW.PrintWords Go.Proofs.YtkndndgladdmcaaW.PrintLast Go.Proofs.YtkndndgladdmcaaW.PrintMore Go.Proofs.Ytkndndgladdmcaa.P

/-- Which property a name tells. -/
def propN (a : ByteArray) : Nat := if a.toList = ([112, 114, 101, 108, 105, 110, 101, 97, 114] : List UInt8) then 0 else if a.toList = ([100, 105, 118, 105, 115, 105, 98, 108, 101] : List UInt8) then 1 else if a.toList = ([105, 110, 118, 111, 108, 117, 116, 105, 118, 101] : List UInt8) then 2 else if a.toList = ([105, 100, 101, 109, 112, 111, 116, 101, 110, 116] : List UInt8) then 3 else if a.toList = ([98, 111, 111, 108, 101, 97, 110] : List UInt8) then 4 else 5
/-- Property p of two elements. -/
def holdsN (up : List Int) (T : List (List Int)) (x y : Nat) : Nat → Bool
  | 0 => decide (joinN up (implyN up T x y) (implyN up T y x) = up.length - 1)
  | 1 => decide (tN T x (implyN up T x y) = meetN up x y)
  | 2 => decide (implyN up T (implyN up T x 0) 0 = x)
  | 3 => decide (tN T x x = x)
  | 4 => decide (joinN up x (implyN up T x 0) = up.length - 1)
  | _ => false
theorem beq_nat (a b : Nat) : (((a : Nat) : Int) == ((b : Nat) : Int)) = decide (a = b) := by
  rw [Bool.eq_iff_iff, beq_iff_eq, decide_eq_true_eq]
  omega
theorem smeet {up : List Int} (hb : latB up = true) {x y : Nat} (hx : x < up.length) (hy : y < up.length) : Ev (fun k => spec_meet.f k up (x : Int) (y : Int)) (meetN up x y : Int) :=
  Ev.eq (spec_meet_ev (latB_ok hb).1 hx hy) (meetN_int hb hx hy)
theorem imeet {up : List Int} (hb : latB up = true) {x y : Nat} (hx : x < up.length) (hy : y < up.length) : Ev (fun k => impl_meet.f k up (x : Int) (y : Int)) (meetN up x y : Int) :=
  Ev.eq (impl_meet_ev (latB_ok hb).1 hx hy) (meetN_int hb hx hy)
theorem impl_holds_ev {up : List Int} {T : List (List Int)} (A : Alg up T) (a : ByteArray) {x y : Nat} (hx : x < up.length) (hy : y < up.length) : Ev (fun k => impl_holds.f k a up T (x : Int) (y : Int)) (holdsN up T x y (propN a)) := by
  have h6 := A.ok.1
  have pos := A.pos
  have hl := A.len
  have rx : (rd_L1 T (x : Int)).length = up.length := A.row x hx
  have a1 := imply_lt A x y
  have a2 := imply_lt A y x
  have a3 := imply_lt A x 0
  unfold impl_holds.f propN
  rw [last_eq pos h6]
  by_cases c0 : a.toList = ([112, 114, 101, 108, 105, 110, 101, 97, 114] : List UInt8)
  · rw [if_pos c0]
    exact Ev.pos c0 (Ev.bind (impl_imply_ev A hx hy) (Ev.bind (impl_imply_ev A hy hx) (Ev.bind (ijoin A.lat a1 a2) (Ev.eq (Ev.some _) (beq_nat _ _)))))
  rw [if_neg c0]
  refine Ev.neg c0 ?_
  by_cases c1 : a.toList = ([100, 105, 118, 105, 115, 105, 98, 108, 101] : List UInt8)
  · rw [if_pos c1]
    refine Ev.pos c1 (Ev.pos (by omega) (Ev.pos (by omega) (Ev.bind (impl_imply_ev A hx hy) ?_)))
    rw [show rd (rd_L1 T (x : Int)) (implyN up T x y : Int) = (tN T x (implyN up T x y) : Int) from A.val _ _ hx a1]
    exact Ev.pos (by omega) (Ev.pos (by omega) (Ev.bind (imeet A.lat hx hy) (Ev.eq (Ev.some _) (beq_nat _ _))))
  rw [if_neg c1]
  refine Ev.neg c1 ?_
  by_cases c2 : a.toList = ([105, 110, 118, 111, 108, 117, 116, 105, 118, 101] : List UInt8)
  · rw [if_pos c2]
    exact Ev.pos c2 (Ev.bind (impl_not_ev A hx) (Ev.bind (impl_not_ev A a3) (Ev.eq (Ev.some _) (beq_nat _ _))))
  rw [if_neg c2]
  refine Ev.neg c2 ?_
  by_cases c3 : a.toList = ([105, 100, 101, 109, 112, 111, 116, 101, 110, 116] : List UInt8)
  · rw [if_pos c3]
    rw [show rd (rd_L1 T (x : Int)) (x : Int) = (tN T x x : Int) from A.val _ _ hx hx]
    exact Ev.pos c3 (Ev.pos (by omega) (Ev.pos (by omega) (Ev.pos (by omega) (Ev.eq (Ev.some _) (beq_nat _ _)))))
  rw [if_neg c3]
  refine Ev.neg c3 ?_
  by_cases c4 : a.toList = ([98, 111, 111, 108, 101, 97, 110] : List UInt8)
  · rw [if_pos c4]
    exact Ev.pos c4 (Ev.bind (impl_not_ev A hx) (Ev.bind (ijoin A.lat hx a3) (Ev.eq (Ev.some _) (beq_nat _ _))))
  rw [if_neg c4]
  refine Ev.neg c4 ?_
  exact Ev.some _
end Go.Proofs.Ytkndndgladdmcaa.M
