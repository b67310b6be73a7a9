-- Printed by this session's wip/print2.py (the kit's print.py, widened) out of the translation. Lean checks it.
import Derived.Test.YtjijfflifonjoaaProg
import Derived.Below
import Derived.Lib.SliceRun
import Derived.Deep.Draws
import Derived.Deep.AppendLies
import Derived.Maps.AppendAt
import Derived.OwnWalk
import Derived.Laws.BytesArg
import Derived.Laws.MakeOwn
import Derived.Laws.OwnMore
import Derived.Deep.OwnRows
import Derived.Tactics
import Derived.Lib.ConvBytes
import Derived.Laws.Slices
import Derived.WalkKit
import Derived.KernelRfl
import Derived.RowKit3
import Derived.Deep.LoopGhost
import Derived.Deep.QuietTactic
import Derived.BigQuiet
import Derived.WideLaws
import Derived.Deep.DeepCutAuto
import Derived.Deep.CutBlock
import Derived.Deep.RegionHeld3
import Derived.Laws.Rows
import Derived.Lib.AppendStr
import Derived.ArgAppend
import Derived.Laws.IdiomCopy
import Derived.OrdersHeld
import Derived.Laws.BitsLemmas
import Derived.RowKit
import Derived.Shelf.Abstract
import Derived.Laws.EntriesVeiled
import Derived.Test.YtjijfflifonjoaaV0
namespace Go.Proofs.Ytjijfflifonjoaa.P
open Go.RowKit Go.Proofs.YtjijfflifonjoaaW.PrintWords Go.Proofs.YtjijfflifonjoaaW.PrintLast Go.Proofs.YtjijfflifonjoaaW.PrintMore
attribute [local go_sem] max2_int min2_int max_two min_two max_three min_three max_four min_four   -- for this text's walks alone
set_option linter.unusedVariables false
set_option linter.unusedSimpArgs false



def errW : Option Int → Value
 | none => .nilIface
 | some c => .iface 0 (.int .i64 c)
theorem errW_none : errW none = .nilIface := rfl
theorem errW_some (c : Int) : errW (some c) = .iface 0 (.int .i64 c) := rfl

theorem info3 : (Try.prog.info? 3).map (fun i => (i.zero, i.size, i.bytes)) = some (some (.int .i64 0), 1, 8) := by kernel_rfl
theorem info5 : (Try.prog.info? 5).map (fun i => (i.zero, i.size, i.bytes)) = some (some (.int .u8 0), 1, 1) := by kernel_rfl
theorem info30 : (Try.prog.info? 30).map (fun i => (i.zero, i.size, i.bytes)) = some (some (.slice none 0 0), 1, 24) := by kernel_rfl
-- the values' own types
def rd_L1 (xs : List (List Int)) (i : Int) : (List Int) := xs.getD i.toNat ([] : List Int)
theorem at_L1 {w : World} {A : Option Addr} {n : Nat} {xs : List (List Int)} (h : Kd.C (Kd.slice 3 (Kd.int .i64)) w A n xs) (i : Int) (h0 : 0 ≤ i) (h1 : i < n) : ∃ ad A0 c0, A = some ad ∧ w.cell? (ad.add i.toNat) = some (.slice A0 (rd_L1 xs i).length c0) ∧ (rd_L1 xs i).length ≤ c0 ∧ (Kd.int .i64).C w A0 (rd_L1 xs i).length (rd_L1 xs i) := by
 obtain ⟨ad, c, e, _, hK, hc0⟩ := Kd.C_get h ([] : List Int) i h0 h1
 have hc : ∀ j u, c[j]? = some u → w.cell? (ad.add (i.toNat * 1 + j)) = some u := hc0
 obtain ⟨A0, c0, rfl, l0, g0⟩ := hK
 exact ⟨ad, A0, c0, e, by have hq := hc 0 _ rfl; rwa [Nat.mul_one, Nat.add_zero] at hq, l0, g0⟩

/-! ### squeeze -/
/-- Worlds whose heap keeps what is in it. -/
inductive KeepW : World → World → Prop
  | refl (w : World) : KeepW w w
  | alloc {w w1 : World} (o : Obj) (h : KeepW w w1) : KeepW w (w1.alloc o)
  | drew {w w1 : World} (h : KeepW w w1) : KeepW w w1.drew
  | drewN {w w1 : World} (n : Nat) (h : KeepW w w1) : KeepW w (w1.drewN n)
theorem nil_ne (l : List UInt8) : (l != []) = !l.isEmpty := by cases l <;> rfl
theorem ak {p : Prop} (h : p) : Aside0 p := ⟨h⟩
theorem oi {α : Type} {c : Prop} [Decidable c] {a : Option α} {r : α} (h : (if c then a else none) = some r) : c ∧ a = some r := by
  by_cases hc : c
  · rw [if_pos hc] at h
    exact ⟨hc, h⟩
  · rw [if_neg hc] at h
    exact absurd h (by simp)
theorem bi {α β : Type} {o : Option α} {f : α → Option β} {b : β} (h : o.bind f = some b) : ∃ a, o = some a ∧ f a = some b := Option.bind_eq_some_iff.mp h
section
variable {α : Type} {d : Kd α} {e base : Nat} {w w1 : World} {ok : Nat → Prop} {v : Value} {xs : List α}
theorem kR (h : d.R e w base ok v xs) (k : KeepW w w1 := by repeat (with_reducible first | exact KeepW.refl _ | apply KeepW.drew | apply KeepW.drewN | apply KeepW.alloc)) : d.R e w1 base ok v xs := by
  induction k with
  | refl => exact h
  | alloc o _ ih => exact Kd.R_alloc ih o
  | drew _ ih => exact Kd.R_drew ih
  | drewN n _ ih => exact Kd.R_drewN ih n
theorem kS (h : Kd.S d e w base ok v xs) (k : KeepW w w1 := by repeat (with_reducible first | exact KeepW.refl _ | apply KeepW.drew | apply KeepW.drewN | apply KeepW.alloc)) : Kd.S d e w1 base ok v xs := by
  induction k with
  | refl => exact h
  | alloc o _ ih => exact Kd.S_alloc ih o
  | drew _ ih => exact Kd.S_drew ih
  | drewN n _ ih => exact Kd.S_drewN ih n
theorem kC {A : Option Addr} {n : Nat} (h : d.C w A n xs) (k : KeepW w w1 := by repeat (with_reducible first | exact KeepW.refl _ | apply KeepW.drew | apply KeepW.drewN | apply KeepW.alloc)) : d.C w1 A n xs := by
  induction k with
  | refl => exact h
  | alloc o _ ih => exact Kd.C_alloc ih o
  | drew _ ih => exact Kd.C_drew ih
  | drewN n _ ih => exact Kd.C_drewN ih n
theorem kK {g : Nat} {o : Obj} (h : w.heap[g]? = some o) (k : KeepW w w1 := by repeat (with_reducible first | exact KeepW.refl _ | apply KeepW.drew | apply KeepW.drewN | apply KeepW.alloc)) : w1.heap[g]? = some o := by
  induction k with
  | refl => exact h
  | alloc o' _ ih => exact blk_alloc ih o'
  | drew _ ih => exact blk_drew ih
  | drewN n _ ih => exact blk_drewN ih n
theorem kB {w0 : World} (h : Below w0.heap.size w0 w) (k : KeepW w w1 := by repeat (with_reducible first | exact KeepW.refl _ | apply KeepW.drew | apply KeepW.drewN | apply KeepW.alloc)) : Below w0.heap.size w0 w1 := by
  induction k with
  | refl => exact h
  | alloc o' _ ih => exact below_alloc ih o'
  | drew _ ih => exact below_drew1 ih
  | drewN n _ ih => exact pw_below_drewN ih n
theorem bB {w0 : World} (h : Below w0.heap.size w0 w) (k : Below w0.heap.size w0 w → Below w0.heap.size w0 w1 := by intro h_; repeat (first | (with_reducible first | exact h_ | apply below_alloc | apply pw_below_drewN | apply below_drew1 | refine below_set ?_ (Aside0.out (by assumption))) | exact h_)) : Below w0.heap.size w0 w1 := k h
theorem ge_box {w0 : World} {g : Nat} (hg : g = w.heap.size) (h : Below w0.heap.size w0 w) : w0.heap.size ≤ g := by rw [hg]; exact below_size h
theorem ne_box {g g' : Nat} {o : Obj} (hg : g = w.heap.size) (h : w.heap[g']? = some o) : g' ≠ g := by rw [hg]; exact Nat.ne_of_lt (blk_lt h)
theorem ne_box' {g g' : Nat} {o : Obj} (hg : g = w.heap.size) (h : w.heap[g']? = some o) : g ≠ g' := by rw [hg]; exact Nat.ne_of_gt (blk_lt h)
theorem s1R {g t : Nat} {cells : Array Value} {i0 : Nat} {u0 : Value} (h : d.R e w base ok v xs) (hb : w.heap[g]? = some (.cells cells t (0, 0))) (ht : ∀ q, q ∈ e :: d.E → q ≠ t := by decide) : d.R e (w.setCell ⟨g, i0, none⟩ u0) base ok v xs := Kd.R_mono (Kd.R_far (p := ⟨g, i0, none⟩) (Kd.R_types h hb ht) (fun _ hk => hk.2) u0) (fun _ h_ => h_.1)
theorem s2R {g t : Nat} {cells : Array Value} {i0 i1 : Nat} {u0 u1 : Value} (h : d.R e w base ok v xs) (hb : w.heap[g]? = some (.cells cells t (0, 0))) (ht : ∀ q, q ∈ e :: d.E → q ≠ t := by decide) : d.R e ((w.setCell ⟨g, i0, none⟩ u0).setCell ⟨g, i1, none⟩ u1) base ok v xs := Kd.R_mono (Kd.R_far (p := ⟨g, i1, none⟩) (Kd.R_far (p := ⟨g, i0, none⟩) (Kd.R_types h hb ht) (fun _ hk => hk.2) u0) (fun _ hk => hk.2) u1) (fun _ h_ => h_.1)
theorem s3R {g t : Nat} {cells : Array Value} {i0 i1 i2 : Nat} {u0 u1 u2 : Value} (h : d.R e w base ok v xs) (hb : w.heap[g]? = some (.cells cells t (0, 0))) (ht : ∀ q, q ∈ e :: d.E → q ≠ t := by decide) : d.R e (((w.setCell ⟨g, i0, none⟩ u0).setCell ⟨g, i1, none⟩ u1).setCell ⟨g, i2, none⟩ u2) base ok v xs := Kd.R_mono (Kd.R_far (p := ⟨g, i2, none⟩) (Kd.R_far (p := ⟨g, i1, none⟩) (Kd.R_far (p := ⟨g, i0, none⟩) (Kd.R_types h hb ht) (fun _ hk => hk.2) u0) (fun _ hk => hk.2) u1) (fun _ hk => hk.2) u2) (fun _ h_ => h_.1)
theorem s4R {g t : Nat} {cells : Array Value} {i0 i1 i2 i3 : Nat} {u0 u1 u2 u3 : Value} (h : d.R e w base ok v xs) (hb : w.heap[g]? = some (.cells cells t (0, 0))) (ht : ∀ q, q ∈ e :: d.E → q ≠ t := by decide) : d.R e ((((w.setCell ⟨g, i0, none⟩ u0).setCell ⟨g, i1, none⟩ u1).setCell ⟨g, i2, none⟩ u2).setCell ⟨g, i3, none⟩ u3) base ok v xs := Kd.R_mono (Kd.R_far (p := ⟨g, i3, none⟩) (Kd.R_far (p := ⟨g, i2, none⟩) (Kd.R_far (p := ⟨g, i1, none⟩) (Kd.R_far (p := ⟨g, i0, none⟩) (Kd.R_types h hb ht) (fun _ hk => hk.2) u0) (fun _ hk => hk.2) u1) (fun _ hk => hk.2) u2) (fun _ hk => hk.2) u3) (fun _ h_ => h_.1)
theorem s1S {g t : Nat} {cells : Array Value} {i0 : Nat} {u0 : Value} (h : Kd.S d e w base ok v xs) (hb : w.heap[g]? = some (.cells cells t (0, 0))) (ht : ∀ q, q ∈ e :: d.E → q ≠ t := by decide) : Kd.S d e (w.setCell ⟨g, i0, none⟩ u0) base ok v xs := Kd.S_mono (Kd.S_far (p := ⟨g, i0, none⟩) (Kd.S_types h hb ht) (fun _ hk => hk.2) u0) (fun _ h_ => h_.1)
theorem s2S {g t : Nat} {cells : Array Value} {i0 i1 : Nat} {u0 u1 : Value} (h : Kd.S d e w base ok v xs) (hb : w.heap[g]? = some (.cells cells t (0, 0))) (ht : ∀ q, q ∈ e :: d.E → q ≠ t := by decide) : Kd.S d e ((w.setCell ⟨g, i0, none⟩ u0).setCell ⟨g, i1, none⟩ u1) base ok v xs := Kd.S_mono (Kd.S_far (p := ⟨g, i1, none⟩) (Kd.S_far (p := ⟨g, i0, none⟩) (Kd.S_types h hb ht) (fun _ hk => hk.2) u0) (fun _ hk => hk.2) u1) (fun _ h_ => h_.1)
theorem s3S {g t : Nat} {cells : Array Value} {i0 i1 i2 : Nat} {u0 u1 u2 : Value} (h : Kd.S d e w base ok v xs) (hb : w.heap[g]? = some (.cells cells t (0, 0))) (ht : ∀ q, q ∈ e :: d.E → q ≠ t := by decide) : Kd.S d e (((w.setCell ⟨g, i0, none⟩ u0).setCell ⟨g, i1, none⟩ u1).setCell ⟨g, i2, none⟩ u2) base ok v xs := Kd.S_mono (Kd.S_far (p := ⟨g, i2, none⟩) (Kd.S_far (p := ⟨g, i1, none⟩) (Kd.S_far (p := ⟨g, i0, none⟩) (Kd.S_types h hb ht) (fun _ hk => hk.2) u0) (fun _ hk => hk.2) u1) (fun _ hk => hk.2) u2) (fun _ h_ => h_.1)
theorem s4S {g t : Nat} {cells : Array Value} {i0 i1 i2 i3 : Nat} {u0 u1 u2 u3 : Value} (h : Kd.S d e w base ok v xs) (hb : w.heap[g]? = some (.cells cells t (0, 0))) (ht : ∀ q, q ∈ e :: d.E → q ≠ t := by decide) : Kd.S d e ((((w.setCell ⟨g, i0, none⟩ u0).setCell ⟨g, i1, none⟩ u1).setCell ⟨g, i2, none⟩ u2).setCell ⟨g, i3, none⟩ u3) base ok v xs := Kd.S_mono (Kd.S_far (p := ⟨g, i3, none⟩) (Kd.S_far (p := ⟨g, i2, none⟩) (Kd.S_far (p := ⟨g, i1, none⟩) (Kd.S_far (p := ⟨g, i0, none⟩) (Kd.S_types h hb ht) (fun _ hk => hk.2) u0) (fun _ hk => hk.2) u1) (fun _ hk => hk.2) u2) (fun _ hk => hk.2) u3) (fun _ h_ => h_.1)
end
section
variable {P : Program} {ops : Array Oper} {Q : Exit → Act → World → Prop} {md : Region.Mode} {S : World → Prop} {ds : List Nat} {T : Bool × List (List Nat × List Nat)} {Bs : List Nat}
def mk (m n : Nat) : Array Bool := ((List.range n).map m.testBit).toArray
theorem pu (i t m n : Nat) {oi : Oper} {v : Value} {fuel : Nat} {l : Array Bool} {a a' : Act} {w : World} (h : wpAnyLast P md ops Q S ds fuel (mk m n) a' w)
    (hi : ops[i]? = some oi := by rfl) (hN : oi.dst = some t := by rfl) (hT : rtab md ops = T := by exact HT_.out) (hc : anyT T l.toList (mk m n).toList i = true := by kernel_rfl)
    (hQ : ∀ c a w, Q (.panic c) (a.put oi.dst v) w → Q (.panic c) a w := by exact fun _ _ _ h => h) (hw : Region.wanted oi (yielded ops a.tmps) = true := by rfl) (hy : ∀ w, (execOp a.eval oi).run P w = .ok (.value v) w := by intro w'; go_simp; with_reducible rfl)
    (ha : a.put (some t) v = a' := by simp only [Act.put, List.setIfInBounds_toArray, List.set_cons_zero, List.set_cons_succ, i64_w, i32_w]; rfl) : wpAnyLast P md ops Q S ds (fuel + 1) l a w := by
  refine pure_ (mk m n) hi hN (any_of hT hc) hQ (Or.inl ⟨hw, hy⟩) ha h
theorem pd (i t m n : Nat) {oi : Oper} {fuel : Nat} {l : Array Bool} {a a' : Act} {w : World} (h : wpAnyLast P md ops Q S ds fuel (mk m n) a' w)
    (hi : ops[i]? = some oi := by rfl) (hN : oi.dst = some t := by rfl) (hT : rtab md ops = T := by exact HT_.out) (hc : anyT T l.toList (mk m n).toList i = true := by kernel_rfl)
    (hQ : ∀ c a w, Q (.panic c) (a.put oi.dst undef) w → Q (.panic c) a w := by exact fun _ _ _ h => h) (hw : Region.wanted oi (yielded ops a.tmps) = false := by rfl)
    (ha : a.put (some t) undef = a' := by simp only [Act.put, List.setIfInBounds_toArray, List.set_cons_zero, List.set_cons_succ, i64_w, i32_w]; rfl) : wpAnyLast P md ops Q S ds (fuel + 1) l a w := by
  refine pure_ (v := undef) (mk m n) hi hN (any_of hT hc) hQ (Or.inr ⟨hw, rfl⟩) ha h
theorem tk (i t m n : Nat) {oi : Oper} {v : Value} {fuel : Nat} {l : Array Bool} {a a' : Act} {w : World} (h : wpAnyLast P md ops Q S ds fuel (mk m n) a' w)
    (hi : ops[i]? = some oi := by rfl) (hN : oi.dst = some t := by rfl) (hT : rtab md ops = T := by exact HT_.out) (hB : waitsOk T.2 Bs = true := by exact HW_.out) (hc : takeW T Bs ds l.toList (mk m n).toList i = true := by kernel_rfl)
    (hQ : ∀ c a w, Q (.panic c) (a.put oi.dst v) w → Q (.panic c) a w := by exact fun _ _ _ h => h) (hw : Region.wanted oi (yielded ops a.tmps) = true := by rfl)
    (hy : ∀ w, S w → (execOp a.eval oi).run P w = .ok (.value v) w := by intro w' hs_; (repeat (refine And.elim (fun s_ hs_ => ?_) hs_; clear hs_; rename_i hs_)); go_simp; with_reducible rfl) (hS : S w := by exact hHeld)
    (ha : a.put (some t) v = a' := by simp only [Act.put, List.setIfInBounds_toArray, List.set_cons_zero, List.set_cons_succ, i64_w, i32_w]; rfl) : wpAnyLast P md ops Q S ds (fuel + 1) l a w := by
  refine take_ (mk m n) hi hN (take_ofW hT hB hc) hQ (Or.inl ⟨hw, hy⟩) hS ha h
end

end Go.Proofs.Ytjijfflifonjoaa.P

-- shrunk
