-- Printed by this session's wip/print2.py (the kit's print.py, widened) out of the translation. Lean checks it.
import Derived.Test.YtdcohlllbbcjoaaP0
import Derived.Test.YtdcohlllbbcjoaaP9
import Derived.Test.YtdcohlllbbcjoaaP21
namespace Go.Proofs.Ytdcohlllbbcjoaa.P
open Go.RowKit Go.Proofs.YtdcohlllbbcjoaaW.PrintWords Go.Proofs.YtdcohlllbbcjoaaW.PrintLast Go.Proofs.YtdcohlllbbcjoaaW.PrintMore
attribute [local go_sem] max2_int min2_int max_two min_two max_three min_three max_four min_four   -- for this text's walks alone
set_option linter.unusedVariables false
set_option linter.unusedSimpArgs false

/-! ### impl_read: by hand -/
/-- The sign whose text is one byte; 0 for none. -/
def sig (b : Int) : Int := if b = 38 then 13 else if b = 124 then 14 else if b = 42 then 15 else if b = 62 then 16 else 0
/-- A term read from the beginning of a text: its numbers, the rest, whether there is one. -/
def impl_read.f : Nat → ByteArray → Int → Option (List Int × ByteArray × Bool)
 | 0, _, _ => none
 | k + 1, a0, a1 => if a0.size = 0 then some ([], (⟨#[]⟩ : ByteArray), false) else if 15 < a1 then some ([], (⟨#[]⟩ : ByteArray), false) else if 120 ≤ bt a0 0 ∧ bt a0 0 ≤ 122 then some ([bt a0 0 - 120], a0.extract 1 a0.size, true) else if bt a0 0 = 48 then some ([10], a0.extract 1 a0.size, true) else if bt a0 0 = 49 then some ([11], a0.extract 1 a0.size, true) else if bt a0 0 = 45 then ((impl_read.f k (a0.extract 1 a0.size) (wrap64 (a1 + 1))).bind fun p => if p.1.length < 1000000 then some (12 :: p.1, p.2.1, p.2.2) else none) else if bt a0 0 = 40 then ((impl_read.f k (a0.extract 1 a0.size) (wrap64 (a1 + 1))).bind fun p => if p.2.2 = false then some ([], (⟨#[]⟩ : ByteArray), false) else if p.2.1.size = 0 then some ([], (⟨#[]⟩ : ByteArray), false) else ((impl_read.f k (p.2.1.extract 1 p.2.1.size) (wrap64 (a1 + 1))).bind fun q => if q.2.2 = false then some ([], (⟨#[]⟩ : ByteArray), false) else if sig (bt p.2.1 0) = 0 then some ([], (⟨#[]⟩ : ByteArray), false) else ((strings_CutPrefix.f q.2.1 (⟨#[41]⟩ : ByteArray)).bind fun z => if p.1.length < 1000000 then (if q.1.length < 1000000 then some (sig (bt p.2.1 0) :: (p.1 ++ q.1), z.1, z.2) else none) else none))) else some ([], (⟨#[]⟩ : ByteArray), false)
theorem lit1 {P : Program} {ops : Array Oper} {rest : List Oper} {o : Oper} {a : Act} {Q : Exit → Act → World → Prop} {W : World} (hgd : o.guard = none) {N : Tmp} (hd : o.dst = some N) (x : Int)
  (hrun : (execOp a.eval o).run P W = .ok (.value (.slice (some ⟨W.heap.size, 0, none⟩) 1 1)) (W.alloc (.cells #[.int .i64 x] 3)))
  (h : ∀ v1 w1, Kd.R (Kd.int .i64) 3 w1 W.heap.size (fun _ => True) v1 [x] → Below W.heap.size W w1 → wpList P ops Q rest (a.put o.dst v1) w1) : wpList P ops Q (o :: rest) a W :=
 Kd.R_lit (Kd.int .i64) W.heap.size 3 hgd (N := N) hd (xs := [x]) (inner := [.int .i64 x]) (ok := fun _ => True) (okp := fun _ => True) hrun (Reps.one (show Kd.M (Kd.int .i64) _ _ _ x [.int .i64 x] from rfl) (Reps.none _ _)) (fun _ hk => hk) trivial (Below.refl _ _) (Nat.le_refl _) (by simp) (fun v1 w1 h1 h2 _ _ => h v1 w1 h1 h2)
theorem size_nil {s : ByteArray} (h : s.size = 0) : s = ⟨#[]⟩ := by
 apply ByteArray.ext
 exact Array.eq_empty_of_size_eq_zero h
theorem toList_ne {s : ByteArray} (h : ¬ s.size = 0) : (s.toList == ([] : List UInt8)) = false := by
 rw [beq_eq_false_iff_ne]
 intro e
 rw [ByteArray.toList_eq] at e
 refine h ?_
 show s.data.size = 0
 rw [← Array.length_toList, e]
 rfl
theorem bt_byte (s : ByteArray) (i : Int) : 0 ≤ bt s i ∧ bt s i ≤ 255 := by
 unfold bt
 split
 ·rename_i h
  have := (s[i.toNat]'h).toNat_lt
  omega
 ·omega
theorem signs_at2 (x : Int) (h : ¬ (13 ≤ x ∧ x ≤ 16)) (zd : DataW Unit) : SIGNS.atKey (.int .i64 x) zd = zd := by
 unfold SIGNS
 have g1 : (Lit.int .i64 13).sameKey (.int .i64 x) = false := decide_eq_false (fun e => h (by have h2 := e.2.symm; omega))
 have g2 : (Lit.int .i64 14).sameKey (.int .i64 x) = false := decide_eq_false (fun e => h (by have h2 := e.2.symm; omega))
 have g3 : (Lit.int .i64 15).sameKey (.int .i64 x) = false := decide_eq_false (fun e => h (by have h2 := e.2.symm; omega))
 have g4 : (Lit.int .i64 16).sameKey (.int .i64 x) = false := decide_eq_false (fun e => h (by have h2 := e.2.symm; omega))
 show (DataW.map [(Lit.int .i64 13, (DataW.lit (.string [38]) : DataW Unit)), (.int .i64 14, .lit (.string [124])), (.int .i64 15, .lit (.string [42])), (.int .i64 16, .lit (.string [62]))]).atKey (.int .i64 x) zd = zd
 simp only [DataW.atKey, List.find?, g1, g2, g3, g4]
theorem plain_str_inv {v : Value} {y : DataW Unit × List MemPlace} (h : plainElem Try.prog 9 v = some y) : ∃ c : ByteArray, v = .string c ∧ y = (.lit (.string c.data.toList), []) := by
 have hu := Try.underlying9
 unfold plainElem at h
 rw [hu] at h
 cases v with
 | string s =>
  simp only at h
  split at h
  ·exact ⟨s, rfl, (Option.some.inj h).symm⟩
  ·cases h
 | _ => simp at h
theorem wpList_next_signs (w : World) {ops : Array Oper} {rest : List Oper} {o : Oper} {a : Act} {Q : Exit → Act → World → Prop} (hg : o.guard = none) (it : Operand) (hop : o.op = Op.next it false) (b r n : Nat) (left : Lit → Bool) (cnt : Nat)
  (hit : a.eval it = .pointer (some ⟨r, 0, none⟩)) (h : w.ranges Try.prog 3 (plainElem (H := Unit) Try.prog 9) b r n SIGNS left cnt)
  (hDone : (∀ kl, left kl = false) → wpList Try.prog ops Q rest (a.put o.dst (.tuple #[.bool false])) w)
  (hMore : ∀ (x : Int) (w' : World) (cnt' : Nat), 13 ≤ x ∧ x ≤ 16 → w'.ranges Try.prog 3 (plainElem (H := Unit) Try.prog 9) b r n SIGNS (fun z => left z && !z.sameKey (.int .i64 x)) cnt' → cnt' < cnt → w.grownBy w' (some r) →
   (Instr.entry (.pointer (some ⟨r, 0, none⟩))).run Try.prog w' = .ok (.tuple #[.int .i64 x, .string (sgn x)]) w' → wpList Try.prog ops Q rest (a.put o.dst (.tuple #[.bool true, .int .i64 x, .string (sgn x)])) w') :
  wpList Try.prog ops Q (o :: rest) a w :=
 wpList_next_ranges w hg it hop 3 (Maps.int_keyed Try.underlying3) (plainElem Try.prog 9) (Value.int .i64) Value.string (fun key kl hkey => by obtain ⟨x, rfl, _⟩ := Maps.keyOf_int_inv Try.underlying3 hkey; exact ⟨x, rfl⟩) (fun v y hv => by obtain ⟨c, rfl, _⟩ := plain_str_inv hv; exact ⟨c, rfl⟩)
  b r n SIGNS left cnt hit h (fun _ hl => hDone hl) (fun x c kl y w' cnt' hkey hlk hv hat hrg hlt hgr hsz hen => by
   obtain ⟨x', ex, rfl, hwx⟩ := Maps.keyOf_int_inv Try.underlying3 hkey
   cases ex
   obtain ⟨c', ec, rfl⟩ := plain_str_inv hv
   cases ec
   have hx : 13 ≤ x ∧ x ≤ 16 := by
    by_cases hx : 13 ≤ x ∧ x ≤ 16
    ·exact hx
    ·have h1 := (signs_at2 x hx (.lit (.bool true))).symm.trans (hat (.lit (.bool true)))
     injection h1 with h1
     cases h1
   have hc : c = sgn x := by
    have h1 := (signs_at x).symm.trans (hat (.lit (.string [])))
    injection h1 with h1
    injection h1 with h1
    apply ByteArray.ext
    apply Array.ext'
    exact h1.symm
   subst hc
   exact hMore x w' cnt' hx hrg hlt hgr hen)
theorem bt_zero {s : ByteArray} (h : 0 < s.size) : bt s 0 = ((s[0]'h).toNat : Int) := by
 unfold bt
 rw [dif_pos (show (0 : Int).toNat < s.size from h)]
 rfl
theorem head_list {s : ByteArray} (h : 0 < s.size) : (s.extract 0 1).toList = [s[0]'h] := by
 rw [ByteArray.toList_eq]
 obtain ⟨⟨l⟩⟩ := s
 cases l with
 | nil => cases h
 | cons c l => simp [ByteArray.data_extract]; rfl
theorem sig_iff (x : Int) (hx : 13 ≤ x ∧ x ≤ 16) {s : ByteArray} (h : 0 < s.size) : ((sgn x).toList == (s.extract 0 1).toList) = decide (sig (bt s 0) = x) := by
 rw [head_list h, bt_zero h, ByteArray.toList_eq]
 generalize s[0]'h = c
 have e : x = 13 ∨ x = 14 ∨ x = 15 ∨ x = 16 := by omega
 have hc : ∀ q : UInt8, ((([q] : List UInt8) == [c]) = true ↔ (c.toNat : Int) = (q.toNat : Int)) := by
  intro q
  rw [beq_iff_eq]
  constructor
  ·intro h
   injection h with h
   rw [h]
  ·intro h
   have h2 : c = q := UInt8.toNat_inj.mp (by omega)
   rw [h2]
 rcases e with e | e | e | e <;> subst e <;> rw [Bool.eq_iff_iff, decide_eq_true_eq]
 ·refine (hc 38).trans ?_
  unfold sig
  show (c.toNat : Int) = 38 ↔ _
  repeat' split
  all_goals omega
 ·refine (hc 124).trans ?_
  unfold sig
  show (c.toNat : Int) = 124 ↔ _
  repeat' split
  all_goals omega
 ·refine (hc 42).trans ?_
  unfold sig
  show (c.toNat : Int) = 42 ↔ _
  repeat' split
  all_goals omega
 ·refine (hc 62).trans ?_
  unfold sig
  show (c.toNat : Int) = 62 ↔ _
  repeat' split
  all_goals omega
/-- What the loop over the signs has found so far. -/
def SG (b : Int) (left : Lit → Bool) (s : Int) : Prop := (s = 0 ∧ (sig b ≠ 0 → left (.int .i64 (sig b)) = true)) ∨ s = sig b
theorem sig_range (b : Int) : sig b = 0 ∨ (13 ≤ sig b ∧ sig b ≤ 16) := by
 unfold sig
 repeat' split
 all_goals omega
theorem SG.start (b : Int) : SG b (Maps.has SIGNS) 0 := by
 refine .inl ⟨rfl, fun h => ?_⟩
 rcases sig_range b with e | e
 ·exact absurd e h
 ·have e : sig b = 13 ∨ sig b = 14 ∨ sig b = 15 ∨ sig b = 16 := by omega
  rcases e with e | e | e | e <;> rw [e] <;> rfl
theorem SG.done {b s : Int} {left : Lit → Bool} (h : SG b left s) (hl : ∀ kl, left kl = false) : s = sig b := by
 rcases h with ⟨h1, h2⟩ | h
 ·by_cases h0 : sig b = 0
  ·rw [h0]; exact h1
  ·rw [hl] at h2
   exact absurd (h2 h0) (by decide)
 ·exact h
theorem SG.miss {b s x : Int} {left : Lit → Bool} (h : SG b left s) (hx : ¬ sig b = x) : SG b (fun z => left z && !z.sameKey (.int .i64 x)) s := by
 rcases h with ⟨h1, h2⟩ | h
 ·refine .inl ⟨h1, fun h0 => ?_⟩
  have g : (Lit.int .i64 (sig b)).sameKey (.int .i64 x) = false := decide_eq_false (fun e => hx e.2)
  simp only [h2 h0, g]
  rfl
 ·exact .inr h
set_option maxHeartbeats 4000000 in
set_option maxRecDepth 100000 in
theorem impl_read.paren (k : Nat) (IH : Aside0 (∀ (a0 : ByteArray) (a1 : Int) (r1 : List Int) (r2 : ByteArray) (r3 : Bool) (w : World) (h : impl_read.f k a0 a1 = some (r1, r2, r3)), Calls Try.prog 29 #[.string a0, .int .i64 a1] w fun e w' => ∃ v0_ : Value, e = .returned (.tuple #[v0_, .string r2, .bool r3]) ∧ Kd.R (Kd.int .i64) 3 w' w.heap.size (fun _ => True) v0_ r1 ∧ Below w.heap.size w w'))
  (a0 : ByteArray) (a1 : Int) (r1 : List Int) (r2 : ByteArray) (r3 : Bool) (w : World) (c0 : ¬ a0.size = 0) (c1 : ¬ 15 < a1) (hb : bt a0 0 = 40)
  (h : ((impl_read.f k (a0.extract 1 a0.size) (wrap64 (a1 + 1))).bind fun p => if p.2.2 = false then some ([], (⟨#[]⟩ : ByteArray), false) else if p.2.1.size = 0 then some ([], (⟨#[]⟩ : ByteArray), false) else ((impl_read.f k (p.2.1.extract 1 p.2.1.size) (wrap64 (a1 + 1))).bind fun q => if q.2.2 = false then some ([], (⟨#[]⟩ : ByteArray), false) else if sig (bt p.2.1 0) = 0 then some ([], (⟨#[]⟩ : ByteArray), false) else ((strings_CutPrefix.f q.2.1 (⟨#[41]⟩ : ByteArray)).bind fun z => if p.1.length < 1000000 then (if q.1.length < 1000000 then some (sig (bt p.2.1 0) :: (p.1 ++ q.1), z.1, z.2) else none) else none))) = some (r1, r2, r3)) :
  Calls Try.prog 29 #[.string a0, .int .i64 a1] w fun e w' => ∃ v0_ : Value, e = .returned (.tuple #[v0_, .string r2, .bool r3]) ∧ Kd.R (Kd.int .i64) 3 w' w.heap.size (fun _ => True) v0_ r1 ∧ Below w.heap.size w w' := by
 have d0 := toList_ne c0
 have d1 : (1 : Int) ≤ (a0.size : Int) := by omega
 have d2 : (0 : Int) < (a0.size : Int) := by omega
 have d1n : 1 ≤ a0.size := by omega
 have hx0 : ∀ h : 0 < a0.size, ((a0[0]'h).toNat : Int) = 40 := fun h => (bt_at a0 0 h).trans hb
 clear hb c0
 obtain ⟨⟨p1, p2, p3⟩, A0, h⟩ := Option.bind_eq_some_iff.mp h
 have A := Aside0.mk A0
 clear A0
 simp only at h
 cases p3 with
 | false =>
  rw [if_pos rfl] at h
  simp only [Option.some.injEq, Prod.mk.injEq] at h
  obtain ⟨rfl, rfl, rfl⟩ := h
  go_enter Try.func29, Try.ntmps29
  go_wp2_with (first | (go_at_call 29; (with_reducible refine (IH.out _ _ _ _ _ _ A.out).mono ?_); rintro e w1 ⟨v1, rfl, ho1, hb1⟩; have HB1 := Aside0.mk (below_step (kB (Below.refl _ _)) hb1); clear ho1 hb1))
  go_ret3
  exact ⟨_, rfl, Kd.R_nil _ _ _ _ _, kB HB1.out⟩
 | true =>
  rw [if_neg (by decide)] at h
  by_cases cz : p2.size = 0
  ·rw [if_pos cz] at h
   obtain rfl := size_nil cz
   simp only [Option.some.injEq, Prod.mk.injEq] at h
   obtain ⟨rfl, rfl, rfl⟩ := h
   clear cz
   go_enter Try.func29, Try.ntmps29
   go_wp2_with (first | (go_at_call 29; (with_reducible refine (IH.out _ _ _ _ _ _ A.out).mono ?_); rintro e w1 ⟨v1, rfl, ho1, hb1⟩; have HB1 := Aside0.mk (below_step (kB (Below.refl _ _)) hb1); clear ho1 hb1))
   go_ret3
   exact ⟨_, rfl, Kd.R_nil _ _ _ _ _, kB HB1.out⟩
  rw [if_neg cz] at h
  obtain ⟨⟨q1, q2, q3⟩, A0, h⟩ := Option.bind_eq_some_iff.mp h
  have A2 := Aside0.mk A0
  clear A0
  simp only at h
  have t0 := toList_ne cz
  have t1 : (1 : Int) ≤ (p2.size : Int) := by omega
  have t1n : 1 ≤ p2.size := by omega
  have HZ := Aside0.mk (Nat.pos_of_ne_zero cz)
  have H := Aside0.mk h
  clear h cz
  go_enter Try.func29, Try.ntmps29
  go_wp2_with (first | (go_at_call 29; (with_reducible refine (IH.out _ _ _ _ _ _ A.out).mono ?_); rintro e w1 ⟨v1, rfl, ho1, hb1⟩; have HB1 := Aside0.mk (below_step (kB (Below.refl _ _)) hb1); obtain ⟨Ap, cp, rfl⟩ := Kd.R_slice ho1; have HO1 := Aside0.mk ho1; clear ho1 hb1) | (go_at_call 36; refine (impl_signs.calls _).mono ?_; rintro e w2 ⟨rfl, hown, hb2⟩) | (at_range; refine wpList_range_own _ rfl _ 48 rfl 3 9 (Maps.int_keyed Try.underlying3) Try.underlying48 _ _ 4 SIGNS rfl hown ?_; intro w3 hrg hg3 hs3))
  go_frame
  have hr2 : ∀ j, some w2.heap.size = some j → w1.heap.size ≤ j := fun j e => by have := below_size hb2; have := Option.some.inj e; omega
  have hb3 := hb2.grown hg3 (below_size hb2) (fun j e => by cases e)
  go_loopw [14] (fun v14 wr => ∃ (s : Int) (left : Lit → Bool) (cnt : Nat), v14 = .int .i64 s ∧ Aside0 (wr.ranges Try.prog 3 (plainElem (H := Unit) Try.prog 9) w1.heap.size w2.heap.size 4 SIGNS left cnt) ∧ Aside0 (SG (bt p2 0) left s) ∧ Aside0 (Below w1.heap.size w1 wr)) (fun _ wr => wr.rangeLeft w1.heap.size w2.heap.size)
  case atStart => exact ⟨0, _, _, rfl, ⟨hrg⟩, ⟨SG.start _⟩, ⟨hb3⟩⟩
  case round =>
   have HR2 := Aside0.mk hr2
   clear hb3 hrg hg3 hs3 hown hr2
   obtain ⟨s, left, cnt, rfl, hrg, hsg, hbw⟩ := hrel
   go_wp2_with (first | (at_next; refine wpList_next_signs _ rfl _ rfl w1.heap.size w2.heap.size 4 left cnt rfl hrg.out ?_ ?_))
   ·intro hl0
    obtain rfl := hsg.out.done hl0
    cases q3 with
    | false =>
     have h := H.out
     rw [if_pos rfl] at h
     simp only [Option.some.injEq, Prod.mk.injEq] at h
     obtain ⟨rfl, rfl, rfl⟩ := h
     go_wp2_with (first | (go_at_call 29; (with_reducible refine (IH.out _ _ _ _ _ _ A2.out).mono ?_); rintro e w5 ⟨v5, rfl, ho5, hb5⟩))
     go_ret3
     exact ⟨_, rfl, Kd.R_nil _ _ _ _ _, kB (below_step (below_step HB1.out hbw.out) hb5)⟩
    | true =>
     have h := H.out
     rw [if_neg (by decide)] at h
     have HC := Aside0.mk ((Kd.C_below (Kd.R_reads' HO1.out).2.2 hbw.out))
     have HB2 := Aside0.mk (below_step HB1.out hbw.out)
     by_cases cs : sig (bt p2 0) = 0
     ·rw [if_pos cs] at h
      simp only [Option.some.injEq, Prod.mk.injEq] at h
      obtain ⟨rfl, rfl, rfl⟩ := h
      rw [cs]
      go_wp2_with (first | (go_at_call 29; (with_reducible refine (IH.out _ _ _ _ _ _ A2.out).mono ?_); rintro e w5 ⟨v5, rfl, ho5, hb5⟩; clear ho5))
      go_ret3
      exact ⟨_, rfl, Kd.R_nil _ _ _ _ _, kB (below_step HB2.out hb5)⟩
     rw [if_neg cs] at h
     obtain ⟨⟨z1, z2⟩, A0, h⟩ := Option.bind_eq_some_iff.mp h
     have A3 := Aside0.mk A0
     clear A0
     simp only at h
     by_cases l1 : p1.length < 1000000
     case neg => rw [if_neg l1] at h; exact absurd h (by simp)
     rw [if_pos l1] at h
     by_cases l2 : q1.length < 1000000
     case neg => rw [if_neg l2] at h; exact absurd h (by simp)
     rw [if_pos l2] at h
     simp only [Option.some.injEq, Prod.mk.injEq] at h
     obtain ⟨rfl, rfl, rfl⟩ := h
     have cs1 : (sig (bt p2 0) == 0) = false := beq_eq_false_iff_ne.mpr cs
     have L1 := Aside0.mk l1
     have L2 := Aside0.mk l2
     clear l1 l2 cs
     generalize hsg0 : sig (bt p2 0) = sg at cs1 ⊢
     have HSG := Aside0.mk hsg0
     clear hsg0
     go_wp2_with (first | (go_at_call 29; (with_reducible refine (IH.out _ _ _ _ _ _ A2.out).mono ?_); rintro e w5 ⟨v5, rfl, ho5, hb5⟩; have HB3 := Aside0.mk (below_step HB2.out hb5); have HC3 := Aside0.mk (Kd.C_below HC.out hb5); obtain ⟨Aq, cq, rfl⟩ := Kd.R_slice ho5; have HQ3 := Aside0.mk (Kd.R_reads' ho5).2.2; clear ho5 hb5) | (go_at_call 39; (with_reducible refine (strings_CutPrefix.calls _ _ z1 z2 _ A3.out).mono ?_); rintro e w' ⟨rfl, ⟨nd, rfl⟩⟩) | ((with_reducible refine gate_dst (N := 110) rfl ?_); refine lit1 rfl (N := 110) rfl sg (by first | (go_simp; done) | (go_simp; rfl)) ?_; intro v6 w6 ho6 hb6; have HB4 := Aside0.mk (below_step (kB HB3.out) hb6); have HC4 := Aside0.mk (Kd.C_below (kC HC3.out) hb6); have HQ4 := Aside0.mk (Kd.C_below (kC HQ3.out) hb6); obtain ⟨As, cs, rfl⟩ := Kd.R_slice ho6; have HS4 := Aside0.mk (Kd.R_reads' ho6).2.2; clear ho6 hb6) | (go_at_call 40; (refine (slices_Concat_int_int.calls3 w6.heap.size As Ap Aq cs cp cq [sg] p1 q1 _ (MapKept.heap_alloc w6 _).1 ?q0 ?q1 ?q2 ?qp ?ql).mono ?_); (case q0 => exact kC HS4.out); (case q1 => exact kC HC4.out); (case q2 => exact kC HQ4.out); (case qp => simp only [List.length_cons, List.length_nil]; omega); (case ql => have := L1.out; have := L2.out; simp only [List.length_cons, List.length_nil]; omega); rintro e w7 ⟨v7, rfl, ho7, hb7⟩; have HB7 := Aside0.mk (below_step (kB HB4.out) hb7); have HO7 := Aside0.mk (Kd.R_lower ho7 (below_size (kB HB4.out))); clear ho7 hb7))
     go_ret3
     exact ⟨_, rfl, by rw [HSG.out]; exact kR HO7.out, kB HB7.out⟩
   ·intro x w4 cnt4 hx1 hx2 hrg4 hlt4 hg4 hen4
    have hE := sig_iff x ⟨hx1, hx2⟩ HZ.out
    have hb4 := hbw.out.grown hg4 (below_size hbw.out) HR2.out
    have hB4 := Aside0.mk hb4
    have hR4 := Aside0.mk hrg4
    have hme : wr.rangeLeft w1.heap.size w2.heap.size = cnt := hrg.out.left_eq
    have hme4 : w4.rangeLeft w1.heap.size w2.heap.size = cnt4 := hrg4.left_eq
    clear hb4 hrg4 hg4
    by_cases hs : sig (bt p2 0) = x
    ·rw [decide_eq_true hs] at hE
     go_wp2
     go_roundw
     case rel => exact ⟨x, _, cnt4, rfl, hR4, ⟨.inr hs.symm⟩, hB4⟩
     case measure => omega
    ·rw [decide_eq_false hs] at hE
     go_wp2
     go_roundw
     case rel => exact ⟨s, _, cnt4, rfl, hR4, ⟨hsg.out.miss hs⟩, hB4⟩
     case measure => omega
set_option maxHeartbeats 4000000 in
set_option maxRecDepth 100000 in
theorem impl_read.calls : ∀ (k : Nat) (a0 : ByteArray) (a1 : Int) (r1 : List Int) (r2 : ByteArray) (r3 : Bool) (w : World) (h : impl_read.f k a0 a1 = some (r1, r2, r3)),
  Calls Try.prog 29 #[.string a0, .int .i64 a1] w fun e w' => ∃ v0_ : Value, e = .returned (.tuple #[v0_, .string r2, .bool r3]) ∧ Kd.R (Kd.int .i64) 3 w' w.heap.size (fun _ => True) v0_ r1 ∧ Below w.heap.size w w'
 | 0, _, _, _, _, _, _, h => by simp [impl_read.f] at h
 | k + 1, a0, a1, r1, r2, r3, w, h => by
  have IH := Aside0.mk (@impl_read.calls k)
  simp only [impl_read.f] at h
  by_cases c0 : a0.size = 0
  ·rw [if_pos c0] at h
   obtain rfl := size_nil c0
   simp only [Option.some.injEq, Prod.mk.injEq] at h
   obtain ⟨rfl, rfl, rfl⟩ := h
   clear c0
   go_enter Try.func29, Try.ntmps29
   go_wp2
   go_ret3
   exact ⟨_, rfl, Kd.R_nil _ _ _ _ _, kB (Below.refl _ _)⟩
  have d0 := toList_ne c0
  have d1 : (1 : Int) ≤ (a0.size : Int) := by omega
  have d2 : (0 : Int) < (a0.size : Int) := by omega
  have d1n : 1 ≤ a0.size := by omega
  rw [if_neg c0] at h
  have C0 := Aside0.mk c0
  clear c0
  by_cases c1 : 15 < a1
  ·rw [if_pos c1] at h
   simp only [Option.some.injEq, Prod.mk.injEq] at h
   obtain ⟨rfl, rfl, rfl⟩ := h
   go_enter Try.func29, Try.ntmps29
   go_wp2
   go_ret3
   exact ⟨_, rfl, Kd.R_nil _ _ _ _ _, kB (Below.refl _ _)⟩
  rw [if_neg c1] at h
  have hx0 : ∀ h : 0 < a0.size, ((a0[0]'h).toNat : Int) = bt a0 0 := bt_at a0 0
  have hb0 : 0 ≤ bt a0 0 ∧ bt a0 0 ≤ 255 := bt_byte a0 0
  generalize hb : bt a0 0 = b at h hx0 hb0
  by_cases cx : 120 ≤ b ∧ b ≤ 122
  ·rw [if_pos cx] at h
   have e : b = 120 ∨ b = 121 ∨ b = 122 := by omega
   rcases e with e | e | e <;> subst e <;>
   ·simp only [Option.some.injEq, Prod.mk.injEq] at h
    obtain ⟨rfl, rfl, rfl⟩ := h
    go_enter Try.func29, Try.ntmps29
    go_wp2_with (first | ((with_reducible refine gate_dst (N := 36) rfl ?_); refine lit1 rfl (N := 36) rfl _ (by first | (go_simp; done) | (go_simp; rfl)) ?_; intro v w1 ho hb; have HO := Aside0.mk ho; have HB := Aside0.mk (below_step (kB (Below.refl _ _)) hb); clear ho hb))
    go_ret3
    exact ⟨_, rfl, Kd.R_lower HO.out (below_size (kB (Below.refl _ _))), HB.out⟩
  rw [if_neg cx] at h
  have g1 : (b == 120) = false := beq_eq_false_iff_ne.mpr (by omega)
  have g2 : (b == 121) = false := beq_eq_false_iff_ne.mpr (by omega)
  have g3 : (b == 122) = false := beq_eq_false_iff_ne.mpr (by omega)
  by_cases c48 : b = 48
  ·rw [if_pos c48] at h
   subst c48
   simp only [Option.some.injEq, Prod.mk.injEq] at h
   obtain ⟨rfl, rfl, rfl⟩ := h
   go_enter Try.func29, Try.ntmps29
   go_wp2_with (first | ((with_reducible refine gate_dst (N := 40) rfl ?_); refine lit1 rfl (N := 40) rfl (10) (by first | (go_simp; done) | (go_simp; rfl)) ?_; intro v w1 ho hb; have HO := Aside0.mk ho; have HB := Aside0.mk (below_step (kB (Below.refl _ _)) hb); clear ho hb))
   go_ret3
   exact ⟨_, rfl, Kd.R_lower HO.out (below_size (kB (Below.refl _ _))), HB.out⟩
  rw [if_neg c48] at h
  have g4 : (b == 48) = false := beq_eq_false_iff_ne.mpr c48
  by_cases c49 : b = 49
  ·rw [if_pos c49] at h
   subst c49
   simp only [Option.some.injEq, Prod.mk.injEq] at h
   obtain ⟨rfl, rfl, rfl⟩ := h
   go_enter Try.func29, Try.ntmps29
   go_wp2_with (first | ((with_reducible refine gate_dst (N := 44) rfl ?_); refine lit1 rfl (N := 44) rfl (11) (by first | (go_simp; done) | (go_simp; rfl)) ?_; intro v w1 ho hb; have HO := Aside0.mk ho; have HB := Aside0.mk (below_step (kB (Below.refl _ _)) hb); clear ho hb))
   go_ret3
   exact ⟨_, rfl, Kd.R_lower HO.out (below_size (kB (Below.refl _ _))), HB.out⟩
  rw [if_neg c49] at h
  have g5 : (b == 49) = false := beq_eq_false_iff_ne.mpr c49
  by_cases c45 : b = 45
  ·rw [if_pos c45] at h
   subst c45
   obtain ⟨⟨p1, p2, p3⟩, A0, h⟩ := Option.bind_eq_some_iff.mp h
   have A := Aside0.mk A0
   clear A0
   simp only at h
   by_cases cl : p1.length < 1000000
   case neg => rw [if_neg cl] at h; exact absurd h (by simp)
   rw [if_pos cl] at h
   simp only [Option.some.injEq, Prod.mk.injEq] at h
   obtain ⟨rfl, rfl, rfl⟩ := h
   go_enter Try.func29, Try.ntmps29
   go_wp2_with (first | (go_at_call 29; (with_reducible refine (IH.out _ _ _ _ _ _ A.out).mono ?_); rintro e w1 ⟨v1, rfl, ho1, hb1⟩; have HB1 := Aside0.mk (below_step (kB (Below.refl _ _)) hb1); obtain ⟨Ap, cp, rfl⟩ := Kd.R_slice ho1; have HP := Aside0.mk (Kd.R_reads' ho1).2.2; clear ho1 hb1) | ((with_reducible refine gate_dst (N := 56) rfl ?_); refine lit1 rfl (N := 56) rfl 12 (by first | (go_simp; done) | (go_simp; rfl)) ?_; intro v2 w2 ho2 hb2; have HB2 := Aside0.mk (below_step (kB HB1.out) hb2); have HO2 := Aside0.mk (Kd.R_lower ho2 (below_size (kB HB1.out))); replace HP := Aside0.mk (Kd.C_below (kC HP.out) hb2); clear ho2 hb2) | (at_builtin; refine Kd.R_append_rows (Kd.int .i64) (w0 := w) w.heap.size rfl (.tmp 56) (.tmp 57) 22 3 (.int .i64 0) 8 rfl Try.underlying22 info3 rfl (by decide) (by omega) v2 [12] p1 _ _ _ (fun _ => True) (fun _ => False) rfl rfl (kR HO2.out) ?aR (fun _ _ h => h) (fun _ h => h.elim) (fun _ _ => trivial) (kB HB2.out) (below_size (kB HB2.out)) (by simp only [List.length_cons, List.length_nil]; omega) ?_; (case aR => exact kC HP.out); intro v3 w3 ho3 hb3 hg3 hat3; have HO3 := Aside0.mk ho3; have HB3 := Aside0.mk hb3; clear ho3 hb3 hg3 hat3))
   go_ret3
   exact ⟨_, rfl, kR HO3.out, kB HB3.out⟩
  rw [if_neg c45] at h
  have g6 : (b == 45) = false := beq_eq_false_iff_ne.mpr c45
  by_cases c40 : b = 40
  case neg =>
   rw [if_neg c40] at h
   have g7 : (b == 40) = false := beq_eq_false_iff_ne.mpr c40
   simp only [Option.some.injEq, Prod.mk.injEq] at h
   obtain ⟨rfl, rfl, rfl⟩ := h
   go_enter Try.func29, Try.ntmps29
   go_wp2
   go_ret3
   exact ⟨_, rfl, Kd.R_nil _ _ _ _ _, kB (Below.refl _ _)⟩
  rw [if_pos c40] at h
  subst c40
  exact impl_read.paren k IH a0 a1 r1 r2 r3 w C0.out c1 hb h
end Go.Proofs.Ytdcohlllbbcjoaa.P

-- shrunk
