/- What a row asks of all functions that a law reaches, shown function by function. -/
import GoSem.ClaimFn
import GoSem.Claim
import Derived.JoinedOf
import GoSem.ClaimOpenFrom
namespace Go.Proofs.Ytjijfflifonjoaa.MFacts
open Go
variable (P : Program)

def next (g : FuncId) : List FuncId := (P.funcs[g]?).elim [] P.leadsTo
theorem closureVia_sub (S : FuncId → Prop) (hS : ∀ g, S g → ∀ h ∈ next P g, S h) : ∀ (n : Nat) (todo seen : List FuncId), (∀ g ∈ todo, S g) → (∀ g ∈ seen, S g) → ∀ g ∈ P.closureVia n todo seen, S g := by
  intro n
  induction n with
  | zero => intro todo seen _ h2 g hg; unfold Program.closureVia at hg; exact h2 g (List.mem_reverse.1 hg)
  | succ n ih =>
    intro todo seen h1 h2 g hg
    cases todo with
    | nil => unfold Program.closureVia at hg; exact h2 g (List.mem_reverse.1 hg)
    | cons f todo =>
      unfold Program.closureVia at hg
      split at hg
      · exact ih todo seen (fun x hx => h1 x (List.mem_cons_of_mem _ hx)) h2 g hg
      · refine ih _ _ (fun x hx => ?_) (fun x hx => ?_) g hg
        · rcases List.mem_append.1 hx with hx | hx
          · exact hS f (h1 f List.mem_cons_self) x hx
          · exact h1 x (List.mem_cons_of_mem _ hx)
        · rcases List.mem_cons.1 hx with rfl | hx
          · exact h1 _ List.mem_cons_self
          · exact h2 x hx
theorem closure_sub (S : FuncId → Prop) (hS : ∀ g, S g → ∀ h ∈ next P g, S h) (f : FuncId) (hf : S f) : ∀ g ∈ P.closure f, S g := by
  unfold Program.closure
  exact closureVia_sub P S hS _ _ _ (fun g hg => by rw [List.mem_singleton.1 hg]; exact hf) (fun g hg => by cases hg)
theorem seen_stays : ∀ (n : Nat) (todo seen : List FuncId) (g : FuncId), g ∈ seen → g ∈ P.closureVia n todo seen := by
  intro n
  induction n with
  | zero => intro todo seen g hg; unfold Program.closureVia; exact List.mem_reverse.2 hg
  | succ n ih =>
    intro todo seen g hg
    cases todo with
    | nil => unfold Program.closureVia; exact List.mem_reverse.2 hg
    | cons f todo =>
      unfold Program.closureVia
      split
      · exact ih _ _ g hg
      · exact ih _ _ g (List.mem_cons_of_mem _ hg)
theorem more_fuel : ∀ (n m : Nat) (todo seen : List FuncId) (g : FuncId), n ≤ m → g ∈ P.closureVia n todo seen → g ∈ P.closureVia m todo seen := by
  intro n
  induction n with
  | zero => intro m todo seen g _ hg; unfold Program.closureVia at hg; exact seen_stays P m todo seen g (List.mem_reverse.1 hg)
  | succ n ih =>
    intro m todo seen g hm hg
    obtain ⟨m, rfl⟩ : ∃ q, m = q + 1 := ⟨m - 1, by omega⟩
    cases todo with
    | nil => unfold Program.closureVia at hg ⊢; exact hg
    | cons f todo =>
      unfold Program.closureVia at hg ⊢
      split at hg
      · rename_i h; rw [if_pos h]; exact ih m _ _ g (by omega) hg
      · rename_i h; rw [if_neg h]; exact ih m _ _ g (by omega) hg
theorem sum_ge (l : List Func) : l.length ≤ (l.map fun g => (P.leadsTo g).length + 1).sum := by
  induction l with
  | nil => simp
  | cons a l ih => simp only [List.map_cons, List.sum_cons, List.length_cons]; omega
/-- What few rounds find, the closure holds. -/
theorem closure_has (f g : FuncId) (n : Nat) (hn : n ≤ P.funcs.size) (h : g ∈ P.closureVia n [f] []) : g ∈ P.closure f := by
  unfold Program.closure
  refine more_fuel P n _ _ _ g ?_ h
  have := sum_ge P P.funcs.toList
  rw [Array.length_toList] at this
  omega
theorem self_in (f : FuncId) : f ∈ P.closure f := by
  unfold Program.closure
  rw [Nat.add_comm]
  unfold Program.closureVia
  rw [if_neg (by simp)]
  exact seen_stays P _ _ _ f List.mem_cons_self

/-- One function: it leads to what is listed alone; its body is Go's own text and names no variable. -/
def fnOk (L : List FuncId) (fn : Func) : Bool :=
  (P.leadsTo fn).all (L.contains ·) && !(fn.ours || fn.body.isNone || fn.name == "runtime.NumGoroutine") && (fn.body.elim false fun c => c.globalsNamed.isEmpty)
theorem fnOk_next {L : List FuncId} {fn : Func} {g : FuncId} (hg : P.funcs[g]? = some fn) (h : fnOk P L fn = true) : ∀ x ∈ next P g, x ∈ L := by
  intro x hx
  unfold next at hx
  rw [hg] at hx
  unfold fnOk at h
  rw [Bool.and_eq_true, Bool.and_eq_true, List.all_eq_true] at h
  simpa using h.1.1 x hx
/-- All functions of a list are so. -/
structure AllOk (L : List FuncId) : Prop where
  ok : ∀ g ∈ L, ∃ fn, P.funcs[g]? = some fn ∧ fnOk P L fn = true
variable {P} {L : List FuncId}
theorem AllOk.sub (h : AllOk P L) {f : FuncId} (hf : f ∈ L) : ∀ g ∈ P.closure f, g ∈ L :=
  closure_sub P (· ∈ L) (fun g hg => by obtain ⟨fn, h1, h2⟩ := h.ok g hg; exact fnOk_next P h1 h2) f hf
theorem AllOk.inPlace (h : AllOk P L) {f : FuncId} (hf : f ∈ L) : P.inPlace f = [] := by
  unfold Program.inPlace
  rw [List.filterMap_eq_nil_iff]
  intro g hg
  obtain ⟨fn, h1, h2⟩ := h.ok g (h.sub hf g hg)
  rw [h1]
  unfold fnOk at h2
  rw [Bool.and_eq_true, Bool.and_eq_true, Bool.not_eq_true'] at h2
  show (if _ then _ else _) = none
  rw [if_neg (by rw [h2.1.2]; decide)]
theorem AllOk.varsNamed (h : AllOk P L) {f : FuncId} (hf : f ∈ L) : P.varsNamed f = [] := by
  have e1 : ((P.closure f).flatMap fun g => ((P.funcs[g]?).bind (·.body)).elim [] Code.globalsNamed) = [] := by
    rw [List.flatMap_eq_nil_iff]
    intro g hg
    obtain ⟨fn, h1, h2⟩ := h.ok g (h.sub hf g hg)
    unfold fnOk at h2
    rw [Bool.and_eq_true] at h2
    rw [h1]
    show (fn.body).elim [] Code.globalsNamed = []
    cases hb : fn.body with
    | none => rfl
    | some c => rw [hb] at h2; simpa using h2.2
  have e2 : ((P.closure f).filterMap fun g => (P.funcs[g]?).bind fun fn => if fn.body.isNone then entryReads.lookup fn.name else none) = [] := by
    rw [List.filterMap_eq_nil_iff]
    intro g hg
    obtain ⟨fn, h1, h2⟩ := h.ok g (h.sub hf g hg)
    unfold fnOk at h2
    rw [Bool.and_eq_true, Bool.and_eq_true, Bool.not_eq_true', Bool.or_eq_false_iff, Bool.or_eq_false_iff] at h2
    rw [h1]
    show (if _ then _ else _) = none
    rw [if_neg (by rw [h2.1.2.1.2]; decide)]
  unfold Program.varsNamed
  rw [e1, e2]
  rfl
/-- No function calls a value. -/
def fnFollowed (fn : Func) : Bool := fn.body.elim false fun c => !c.unfollowed
theorem AllOk.unfollowed_no (h : AllOk P L) {f : FuncId} (hf : f ∈ L) (hu : ∀ g ∈ L, ∃ fn, P.funcs[g]? = some fn ∧ fnFollowed fn = true) : P.unfollowed f = false := by
  unfold Program.unfollowed
  rw [List.any_eq_false]
  intro g hg
  obtain ⟨fn, h1, h2⟩ := hu g (h.sub hf g hg)
  rw [h1]
  unfold fnFollowed at h2
  cases hb : fn.body with
  | none => rw [hb] at h2; cases h2
  | some c => rw [hb] at h2; simp [hb]; simpa using h2
theorem unfollowed_yes {f g : FuncId} {fn : Func} {c : Code} (hg : g ∈ P.closure f) (h1 : P.funcs[g]? = some fn) (hb : fn.body = some c) (hc : c.unfollowed = true) : P.unfollowed f = true := by
  unfold Program.unfollowed
  rw [List.any_eq_true]
  exact ⟨g, hg, by rw [h1]; simp [hb, hc]⟩
/-- Nothing leads back: a rank falls with each call. -/
theorem AllOk.recurses_no (h : AllOk P L) {f : FuncId} (hf : f ∈ L) (r : FuncId → Nat) (hr : ∀ g ∈ L, ∀ x ∈ next P g, r x < r g) (hu : P.unfollowed f = false) : P.recurses f = false := by
  unfold Program.recurses
  rw [hu, Bool.false_or, List.any_eq_false]
  intro g hg
  rw [Bool.not_eq_true, List.any_eq_false]
  intro x hx
  rw [Bool.not_eq_true]
  have hgL := h.sub hf g hg
  have hxL : x ∈ L := by obtain ⟨fn, h1, h2⟩ := h.ok g hgL; exact fnOk_next P h1 h2 x hx
  have hlt := hr g hgL x hx
  have hsub := closure_sub P (fun y => y ∈ L ∧ r y ≤ r x) (fun y hy z hz => by
    obtain ⟨fn, h1, h2⟩ := h.ok y hy.1
    exact ⟨fnOk_next P h1 h2 z hz, by have := hr y hy.1 z hz; omega⟩) x ⟨hxL, Nat.le_refl _⟩
  cases hc : (P.closure x).contains g with
  | false => rfl
  | true =>
    have := hsub g (by simpa using hc)
    omega
theorem recurses_un {f : FuncId} (hu : P.unfollowed f = true) : P.recurses f = true := by
  unfold Program.recurses
  rw [hu]; rfl
theorem recurses_self {f g : FuncId} (hg : g ∈ P.closure f) (hx : g ∈ next P g) : P.recurses f = true := by
  unfold Program.recurses
  rw [Bool.or_eq_true]
  right
  rw [List.any_eq_true]
  refine ⟨g, hg, ?_⟩
  rw [List.any_eq_true]
  exact ⟨g, hx, by simpa using self_in P g⟩
section
def chs (l : List Nat) : List Char := l.map Char.ofNat
def sp : Char := Char.ofNat 32
theorem ws_word (w r : List Char) (h : ∀ c ∈ w, c ≠ sp) : wordsSigns (w ++ sp :: r) = w :: wordsSigns r := by
  induction w with
  | nil => rfl
  | cons c w ih =>
    have ih := ih (fun x hx => h x (List.mem_cons_of_mem _ hx))
    have hc := h c List.mem_cons_self
    show wordsSigns (c :: (w ++ sp :: r)) = _
    rw [wordsSigns.eq_3 c (w ++ sp :: r) hc, ih]
def cutW : List Char := chs [99, 117, 116]
theorem tl_finals : ("finals" : String).toList = chs [102, 105, 110, 97, 108, 115] := (congrArg String.toList (show ("finals" : String) = String.ofList (chs [102, 105, 110, 97, 108, 115]) from rfl)).trans String.toList_ofList
theorem tl_reflectrows : ("reflectrows" : String).toList = chs [114, 101, 102, 108, 101, 99, 116, 114, 111, 119, 115] := (congrArg String.toList (show ("reflectrows" : String) = String.ofList (chs [114, 101, 102, 108, 101, 99, 116, 114, 111, 119, 115]) from rfl)).trans String.toList_ofList
theorem tl_leanrows : ("leanrows" : String).toList = chs [108, 101, 97, 110, 114, 111, 119, 115] := (congrArg String.toList (show ("leanrows" : String) = String.ofList (chs [108, 101, 97, 110, 114, 111, 119, 115]) from rfl)).trans String.toList_ofList
theorem tl_onebuild : ("onebuild" : String).toList = chs [111, 110, 101, 98, 117, 105, 108, 100] := (congrArg String.toList (show ("onebuild" : String) = String.ofList (chs [111, 110, 101, 98, 117, 105, 108, 100]) from rfl)).trans String.toList_ofList
theorem tl_publicsums : ("publicsums" : String).toList = chs [112, 117, 98, 108, 105, 99, 115, 117, 109, 115] := (congrArg String.toList (show ("publicsums" : String) = String.ofList (chs [112, 117, 98, 108, 105, 99, 115, 117, 109, 115]) from rfl)).trans String.toList_ofList
theorem tl_eqguard : ("eqguard" : String).toList = chs [101, 113, 103, 117, 97, 114, 100] := (congrArg String.toList (show ("eqguard" : String) = String.ofList (chs [101, 113, 103, 117, 97, 114, 100]) from rfl)).trans String.toList_ofList
theorem tl_ownunsafe : ("ownunsafe" : String).toList = chs [111, 119, 110, 117, 110, 115, 97, 102, 101] := (congrArg String.toList (show ("ownunsafe" : String) = String.ofList (chs [111, 119, 110, 117, 110, 115, 97, 102, 101]) from rfl)).trans String.toList_ofList
theorem tl_libbeside : ("libbeside" : String).toList = chs [108, 105, 98, 98, 101, 115, 105, 100, 101] := (congrArg String.toList (show ("libbeside" : String) = String.ofList (chs [108, 105, 98, 98, 101, 115, 105, 100, 101]) from rfl)).trans String.toList_ofList
theorem tl_ownbeside : ("ownbeside" : String).toList = chs [111, 119, 110, 98, 101, 115, 105, 100, 101] := (congrArg String.toList (show ("ownbeside" : String) = String.ofList (chs [111, 119, 110, 98, 101, 115, 105, 100, 101]) from rfl)).trans String.toList_ofList
theorem tl_reflbeside : ("reflbeside" : String).toList = chs [114, 101, 102, 108, 98, 101, 115, 105, 100, 101] := (congrArg String.toList (show ("reflbeside" : String) = String.ofList (chs [114, 101, 102, 108, 98, 101, 115, 105, 100, 101]) from rfl)).trans String.toList_ofList
theorem tl_aliases : ("aliases" : String).toList = chs [97, 108, 105, 97, 115, 101, 115] := (congrArg String.toList (show ("aliases" : String) = String.ofList (chs [97, 108, 105, 97, 115, 101, 115]) from rfl)).trans String.toList_ofList
theorem tl_afterinit : ("afterinit" : String).toList = chs [97, 102, 116, 101, 114, 105, 110, 105, 116] := (congrArg String.toList (show ("afterinit" : String) = String.ofList (chs [97, 102, 116, 101, 114, 105, 110, 105, 116]) from rfl)).trans String.toList_ofList
theorem tl_crcplain : ("crcplain" : String).toList = chs [99, 114, 99, 112, 108, 97, 105, 110] := (congrArg String.toList (show ("crcplain" : String) = String.ofList (chs [99, 114, 99, 112, 108, 97, 105, 110]) from rfl)).trans String.toList_ofList
theorem tl_roadunsafe : ("roadunsafe" : String).toList = chs [114, 111, 97, 100, 117, 110, 115, 97, 102, 101] := (congrArg String.toList (show ("roadunsafe" : String) = String.ofList (chs [114, 111, 97, 100, 117, 110, 115, 97, 102, 101]) from rfl)).trans String.toList_ofList
theorem tl_fmthandon : ("fmthandon" : String).toList = chs [102, 109, 116, 104, 97, 110, 100, 111, 110] := (congrArg String.toList (show ("fmthandon" : String) = String.ofList (chs [102, 109, 116, 104, 97, 110, 100, 111, 110]) from rfl)).trans String.toList_ofList
theorem tl_harness : ("harness" : String).toList = chs [104, 97, 114, 110, 101, 115, 115] := (congrArg String.toList (show ("harness" : String) = String.ofList (chs [104, 97, 114, 110, 101, 115, 115]) from rfl)).trans String.toList_ofList
theorem tl_ownmain : ("ownmain" : String).toList = chs [111, 119, 110, 109, 97, 105, 110] := (congrArg String.toList (show ("ownmain" : String) = String.ofList (chs [111, 119, 110, 109, 97, 105, 110]) from rfl)).trans String.toList_ofList
theorem tl_gc : ("gc" : String).toList = chs [103, 99] := (congrArg String.toList (show ("gc" : String) = String.ofList (chs [103, 99]) from rfl)).trans String.toList_ofList
theorem tl_spec : ("spec" : String).toList = chs [115, 112, 101, 99] := (congrArg String.toList (show ("spec" : String) = String.ofList (chs [115, 112, 101, 99]) from rfl)).trans String.toList_ofList
theorem tl_stop : ("stop" : String).toList = chs [115, 116, 111, 112] := (congrArg String.toList (show ("stop" : String) = String.ofList (chs [115, 116, 111, 112]) from rfl)).trans String.toList_ofList
theorem tl_carried : ("carried" : String).toList = chs [99, 97, 114, 114, 105, 101, 100] := (congrArg String.toList (show ("carried" : String) = String.ofList (chs [99, 97, 114, 114, 105, 101, 100]) from rfl)).trans String.toList_ofList
theorem tl_cut : ("cut" : String).toList = chs [99, 117, 116] := (congrArg String.toList (show ("cut" : String) = String.ofList (chs [99, 117, 116]) from rfl)).trans String.toList_ofList
theorem tl_final : ("final" : String).toList = chs [102, 105, 110, 97, 108] := (congrArg String.toList (show ("final" : String) = String.ofList (chs [102, 105, 110, 97, 108]) from rfl)).trans String.toList_ofList
theorem behind_of (w1 w2 : List Char) (R : List (List Char)) (e : ((w1 == chs [104, 97, 114, 110, 101, 115, 115] || w1 == chs [111, 119, 110, 109, 97, 105, 110]) && isSumSigns w2) = true) : behindMainWord (w1 :: w2 :: cutW :: R) = cutW :: R := by
  unfold behindMainWord
  simp only [tl_harness, tl_ownmain]
  rw [if_pos e]
theorem strip_step (o : String) (os : List String) (l : List Nat) (R : List (List Char)) (h : o.toList = chs l) (hn : (cutW == chs l) = false) : stripLifts (o :: os) (cutW :: R) = stripLifts os (cutW :: R) := by
  rw [stripLifts, h, if_neg (by rw [hn]; decide)]
theorem strip (R : List (List Char)) : stripLifts liftWords (cutW :: R) = ([], cutW :: R) := by
  unfold liftWords
  rw [strip_step _ _ _ _ tl_finals (by decide), strip_step _ _ _ _ tl_reflectrows (by decide), strip_step _ _ _ _ tl_leanrows (by decide), strip_step _ _ _ _ tl_onebuild (by decide), strip_step _ _ _ _ tl_publicsums (by decide), strip_step _ _ _ _ tl_eqguard (by decide), strip_step _ _ _ _ tl_ownunsafe (by decide), strip_step _ _ _ _ tl_libbeside (by decide), strip_step _ _ _ _ tl_ownbeside (by decide), strip_step _ _ _ _ tl_reflbeside (by decide), strip_step _ _ _ _ tl_aliases (by decide), strip_step _ _ _ _ tl_afterinit (by decide), strip_step _ _ _ _ tl_crcplain (by decide), strip_step _ _ _ _ tl_roadunsafe (by decide), strip_step _ _ _ _ tl_fmthandon (by decide)]
  rfl
theorem mayEnter_of (P : Program) (R : List (List Char)) (beh : behindMainWord (wordsSigns P.initOrder.toList) = cutW :: R) (h1 : P.laysLater = false) (h2 : P.bearsReflect = false) (h3 : P.doorFits [] = true) : P.mayEnter = true := by
  unfold Program.mayEnter
  rw [beh]
  have h4 : ((cutW :: R).head? == some (chs [99, 117, 116])) = true := by rw [List.head?_cons]; decide
  simp only [strip, h1, h2, h3, tl_cut, h4]
  simp
theorem headLifts_of (P : Program) (R : List (List Char)) (beh : behindMainWord (wordsSigns P.initOrder.toList) = cutW :: R) : P.headLifts = [] := by
  unfold Program.headLifts
  rw [beh]
  simp only [strip]
  split <;> rfl
theorem liftsFinal_of (P : Program) (R : List (List Char)) (beh : behindMainWord (wordsSigns P.initOrder.toList) = cutW :: R) : P.liftsFinal = false := by
  unfold Program.liftsFinal
  rw [headLifts_of P R beh, beh]
  have h4 : ((cutW :: R).head? == some (chs [99, 97, 114, 114, 105, 101, 100])) = false := by rw [List.head?_cons]; decide
  simp only [tl_carried, h4]
  simp
theorem make_of (P : Program) (R : List (List Char)) (beh : behindMainWord (wordsSigns P.initOrder.toList) = cutW :: R) : P.make = some .cut := by
  unfold Program.make
  rw [beh]
  have h1 : (cutW == chs [103, 99] || cutW == chs [115, 112, 101, 99]) = false := by decide
  have h2 : (cutW == chs [99, 117, 116]) = true := by decide
  simp only [tl_gc, tl_spec, tl_cut, h1, h2]
  simp
end
end Go.Proofs.Ytjijfflifonjoaa.MFacts
