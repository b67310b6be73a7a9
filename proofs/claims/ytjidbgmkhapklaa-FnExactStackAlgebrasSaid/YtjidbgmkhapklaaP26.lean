-- Printed by this session's wip/print2.py (the kit's print.py, widened) out of the translation. Lean checks it.
import Derived.Test.YtjidbgmkhapklaaP0
import Derived.Test.YtjidbgmkhapklaaP23
namespace Go.Proofs.Ytjidbgmkhapklaa.P
open Go.RowKit Go.Proofs.YtjidbgmkhapklaaW.PrintWords Go.Proofs.YtjidbgmkhapklaaW.PrintLast Go.Proofs.YtjidbgmkhapklaaW.PrintMore
attribute [local go_sem] max2_int min2_int max_two min_two max_three min_three max_four min_four   -- for this text's walks alone
set_option linter.unusedVariables false
set_option linter.unusedSimpArgs false

/-! ### bu_stack_1: by hand -/
/-! ### impl_build: by hand -/
/-- What is asked of a closure of two numbers: called wherever all that lay in w lies as it was, it answers t's value; it may draw. -/
def Answers2 (g : Nat) (lb : Array Value) (t : Int → Int → Option Int) (w : World) : Prop :=
 ∀ (W : World) (x y r : Int), Below w.heap.size w W → t x y = some r → Calls Try.prog g (#[.int .i64 x, .int .i64 y] ++ lb) W fun e w' => e = .returned (.int .i64 r) ∧ ∃ q, w' = W.drewN q
mutual
def impl_build.l0 (t : Int → Int → Option Int) : Nat → List Int → Int → Int → List Int → List (List Int) → Option (List Int × (List (List Int)))
 | 0, _, _, _, _, _ => none
 | k + 1, x0, x13, x14, x249000, x249001 => if x14 < x13 then (impl_build.l1 t k x0 x14 (([] : List Int)) x13 x14 (x0.length : Int) 0 x249000 x249001) else (some (x249000, x249001))
def impl_build.l1 (t : Int → Int → Option Int) : Nat → List Int → Int → List Int → Int → Int → Int → Int → List Int → List (List Int) → Option (List Int × (List (List Int)))
 | 0, _, _, _, _, _, _, _, _, _ => none
 | k + 1, x0, x6, x7, x13, x14, x19, x20, x249000, x249001 => if x20 < x19 then ((t x6 x20).bind fun t252 => (if x7.length < 17592186044416 then (impl_build.l1 t k x0 x6 (x7 ++ [t252]) x13 x14 x19 (wrap64 (x20 + 1)) x249000 x249001) else (none))) else (if x249001.length < 5864062014805 then (impl_build.l0 t k x0 x13 (wrap64 (x14 + 1)) x249000 (x249001 ++ [x7])) else (none))
end
def impl_build.f (t : Int → Int → Option Int) (k : Nat) (l0 : List Int) : Option (List Int × (List (List Int))) := (slices_Clone_int_int.f l0).bind fun t245 => (impl_build.l0 t k l0 (l0.length : Int) 0 t245 ([] : List (List Int)))
set_option maxHeartbeats 8000000 in
set_option maxRecDepth 100000 in
theorem impl_build.calls (k : Nat) (t : Int → Int → Option Int) (g : Nat) (lb : Array Value) (eg : ∀ args w, (callFunc g args).run Try.prog w = .ok (.enter g args) w) (A0 : Option Addr) (c0 : Nat) (l0 : List Int) (r1 : List Int) (r2 : List (List Int)) (w : World) (hr0 : Kd.C (Kd.int .i64) w A0 l0.length l0) (hc0 : l0.length ≤ c0) (ht : Answers2 g lb t w) (h : impl_build.f t k l0 = some (r1, r2)) :
  Calls Try.prog 60 #[.slice A0 l0.length c0, .func (.func g) #[] lb] w fun e w' => ∃ v0_ v1_ : Value, e = .returned (.agg #[v0_, v1_]) ∧ Kd.R (Kd.int .i64) 3 w' w.heap.size (fun _ => True) v0_ r1 ∧ Kd.S (Kd.slice 3 (Kd.int .i64)) 22 w' w.heap.size (fun k_ => some k_ ≠ (v0_ : Value).ownBlock) v1_ r2 ∧ Below w.heap.size w w' := by
 have hu25 := Try.underlying25
 have HT := ak ht
 clear ht
 have HR0 := ak hr0
 have HC0 := ak hc0
 clear hr0 hc0
 have HB := ak (Below.refl w.heap.size w)
 have H : ((slices_Clone_int_int.f l0).bind fun t245 => (impl_build.l0 t k l0 (l0.length : Int) 0 t245 ([] : List (List Int)))) = some (r1, r2) := h
 clear h
 replace H := bi H
 obtain ⟨t245, A20, H⟩ := H
 try dsimp only at H
 have A2 := ak A20
 clear A20
 have H' := ak H
 clear H
 go_enter Try.func60, Try.ntmps60
 go_wp2_with (first | ((with_reducible refine gate_dst (N := 4) rfl ?_); refine box_event ?hg (N := 4) ?hd (cs := #[.slice none 0 0, .slice none 0 0]) (t := 25) ?hr ?_; (case hd => rfl); (case hg => rfl); (case hr => first | (go_simp; done) | (go_simp; rfl)); intro gb244 hg w3 hbox hb; have BK244 := ak (hbox); have GW244 := ak ((by rw [hg]; exact (below_size (bB HB.out)) : w.heap.size ≤ gb244)); have GE244 := ak ((by rw [hg]; exact (below_size (bB HB.out)) : w.heap.size ≤ gb244)); replace HB := ak (below_step (bB HB.out) hb); clear hb hbox hg) | ((with_reducible refine gate_callee (f := 90) rfl ?_); refine goesL_ (some 10) rfl rfl Try.func90 (by kernel_rfl) rfl #[.slice A0 l0.length c0] rfl (by (try simp only [List.map_toArray, List.map_cons, List.map_nil]); first | done | rfl | (simp only [List.length_drop, List.length_take]; rfl)) ?_; (with_reducible refine (slices_Clone_int_int.calls _ _ l0 t245 _ ?side1 ?side2 A2.out).mono ?_); (case side1 => exact kC (Kd.C_below HR0.out HB.out)); (case side2 => exact HC0.out); rintro e w4 ⟨v246, rfl, ho0, hb⟩; refine ⟨_, rfl, ?_⟩; have HO247 := ak (Kd.R_lower ho0 (below_size (bB HB.out))); replace BK244 := ak (blk_below (kK BK244.out) hb); replace HB := ak (below_step (bB HB.out) hb); (try clear hb); (try clear hb2); (try clear hk); (try clear hi); (try clear ho0); obtain ⟨Ao5, co5, eo5⟩ := Kd.R_slice HO247.out; subst eo5) | ((with_reducible refine gate_dst (N := 5) rfl ?_); refine box_event ?hg (N := 5) ?hd (cs := #[.slice none 0 0, .slice none 0 0]) (t := 25) ?hr ?_; (case hd => rfl); (case hg => rfl); (case hr => first | (go_simp; done) | (go_simp; rfl)); intro gb248 hg w6 hbox hb; replace HO247 := ak (Kd.R_below (kR HO247.out) hb); have BK248 := ak (hbox); have GW248 := ak ((by rw [hg]; exact (below_size (bB HB.out)) : w.heap.size ≤ gb248)); have GE248 := ak ((by rw [hg]; exact (below_size (bB HB.out)) : w.heap.size ≤ gb248)); replace HB := ak (below_step (bB HB.out) hb); have NB244_248 := ak ((ne_box hg (kK BK244.out))); have NB248_244 := ak ((ne_box' hg (kK BK244.out))); replace BK244 := ak (blk_below (kK BK244.out) hb); clear hb hbox hg; have hnb7 := NB248_244.out; have hnc7 := NB244_248.out; have hcz8_0 : w6.cell? ⟨gb248, 0, none⟩ = some (.slice none 0 0) := (blk_cell BK248.out 0).trans rfl; have hcz8_1 : w6.cell? ⟨gb248, 1, none⟩ = some (.slice none 0 0) := (blk_cell BK248.out 1).trans rfl; have hfz8_0 := blk_frozen BK248.out 0; have hfz8_1 := blk_frozen BK248.out 1))
 go_loopg [14] k (fun kq v14 w' => ∃ (x14_1 : Int) (x249001_1 : List (List Int)) (u249001 : Value), v14 = .int .i64 x14_1 ∧ Aside0 (impl_build.l0 t kq l0 (l0.length : Int) x14_1 t245 x249001_1 = some (r1, r2)) ∧ Aside0 (kq ≤ k) ∧ Aside0 (Kd.R (Kd.int .i64) 3 w' w.heap.size (fun _ => True) (.slice Ao5 t245.length co5) t245) ∧ Aside0 (Kd.S (Kd.slice 3 (Kd.int .i64)) 22 w' w.heap.size (fun k_ => some k_ ≠ ((.slice Ao5 t245.length co5) : Value).ownBlock) u249001 x249001_1) ∧ Aside0 (w'.heap[gb244]? = some (.cells #[(.slice none 0 0), (.slice none 0 0)] 25 (0, 0))) ∧ Aside0 (w'.heap[gb248]? = some (.cells #[(.slice Ao5 t245.length co5), u249001] 25 (0, 0))) ∧ Aside0 (Below w.heap.size w w'))
 case atStart => exact ⟨(0), (([] : List (List Int))), (.slice none 0 0), (by first | rfl | (simp; done) | (simp [*]; done)), H', ⟨Nat.le_refl _⟩, ⟨by (with_reducible repeat (first | apply Kd.R_alloc | apply Kd.R_drewN | apply Kd.R_drew)); exact Kd.R_mono (Kd.R_far (p := ⟨gb248, 1, none⟩) (Kd.R_far (p := ⟨gb248, 0, none⟩) (Kd.R_types HO247.out BK248.out (by decide)) (fun _ hk => hk.2) (.slice Ao5 t245.length co5)) (fun _ hk => hk.2) (.slice none 0 0)) (fun _ hk => trivial)⟩, ⟨by first | exact Kd.S_nil _ _ _ _ _ | exact Kd.N_nil _ _ _ _ _ | exact Kd.V_nil _ _ _ _ _ | exact Kd.Q_nil _ _ _ _ _ | exact Kd.R_nil _ _ _ _ _⟩, ⟨by (with_reducible repeat (first | refine blk_drewN ?_ _ | refine blk_drew ?_ | refine blk_alloc ?_ _)); refine blk_far ?_ NB244_248.out _; (with_reducible repeat (first | refine blk_drewN ?_ _ | refine blk_drew ?_ | refine blk_alloc ?_ _)); refine blk_far ?_ NB244_248.out _; (with_reducible repeat (first | refine blk_drewN ?_ _ | refine blk_drew ?_ | refine blk_alloc ?_ _)); exact BK244.out⟩, ⟨by (with_reducible repeat (first | refine blk_drewN ?_ _ | refine blk_drew ?_ | refine blk_alloc ?_ _)); refine blk_put (cs := #[.slice Ao5 t245.length co5, .slice none 0 0]) ?_ 1 _ rfl; (with_reducible repeat (first | refine blk_drewN ?_ _ | refine blk_drew ?_ | refine blk_alloc ?_ _)); refine blk_put (cs := #[.slice none 0 0, .slice none 0 0]) ?_ 0 _ rfl; (with_reducible repeat (first | refine blk_drewN ?_ _ | refine blk_drew ?_ | refine blk_alloc ?_ _)); exact BK248.out⟩, ⟨by repeat (first | (with_reducible first | exact HB.out | apply below_alloc | apply pw_below_drewN | apply below_drew1 | refine below_set ?_ GE244.out | refine below_set ?_ GE248.out) | exact HB.out)⟩⟩
 case round =>
  clear H'
  try clear p2
  try clear c6
  try clear c7
  try clear hcz8_0
  try clear hcz8_1
  try clear hfz8_0
  try clear hfz8_1
  obtain ⟨x14_1, x249001_1, u249001, rfl, HA, HK1, HO_249000, HO_249001, BK244, BK248, HB⟩ := hrel
  cases gk with
  | zero => exact absurd HA.out (by simp [impl_build.l0])
  | succ k1 =>
   have H := HA.out
   clear HA
   simp only [impl_build.l0] at H
   by_cases c9 : x14_1 < (l0.length : Int)
   rotate_left
   ·rw [if_neg c9] at H
    have c9b0 : decide (x14_1 < (l0.length : Int)) = false := decide_eq_false c9
    clear c9
    simp only [Option.some.injEq, Prod.mk.injEq] at H
    obtain ⟨rfl, rfl⟩ := H
    have hnb23 := NB248_244.out
    have hnc23 := NB244_248.out
    have hcz24_0 : wr.cell? ⟨gb248, 0, none⟩ = some (.slice Ao5 t245.length co5) := (blk_cell BK248.out 0).trans rfl
    have hcz24_1 : wr.cell? ⟨gb248, 1, none⟩ = some (u249001) := (blk_cell BK248.out 1).trans rfl
    have hfz24_0 := blk_frozen BK248.out 0
    have hfz24_1 := blk_frozen BK248.out 1
    have hcz25_0 : wr.cell? ⟨gb244, 0, none⟩ = some (.slice none 0 0) := (blk_cell BK244.out 0).trans rfl
    have hcz25_1 : wr.cell? ⟨gb244, 1, none⟩ = some (.slice none 0 0) := (blk_cell BK244.out 1).trans rfl
    have hfz25_0 := blk_frozen BK244.out 0
    have hfz25_1 := blk_frozen BK244.out 1
    obtain ⟨Ao26, co26, eo26⟩ := Kd.S_slice HO_249001.out
    subst eo26
    go_wp2
    refine bodyPost_ret (results_cell_row rfl _ _ gb244 25 #[.slice Ao5 t245.length co5, .slice Ao26 x249001_1.length co26] (0, 0) _ rfl (by (with_reducible repeat (first | refine blk_drewN ?_ _ | refine blk_drew ?_ | refine blk_alloc ?_ _)); refine blk_put (cs := #[.slice Ao5 t245.length co5, .slice none 0 0]) ?_ 1 _ rfl; (with_reducible repeat (first | refine blk_drewN ?_ _ | refine blk_drew ?_ | refine blk_alloc ?_ _)); refine blk_put (cs := #[.slice none 0 0, .slice none 0 0]) ?_ 0 _ rfl; (with_reducible repeat (first | refine blk_drewN ?_ _ | refine blk_drew ?_ | refine blk_alloc ?_ _)); exact BK244.out) Try.underlying25 rfl (by kernel_rfl)) rfl ?_
    exact ⟨_, _, by first | rfl | (simp [errW_none, errW_some] <;> rfl) | (simp [*, errW_none, errW_some] <;> rfl), by (with_reducible repeat (first | apply Kd.R_alloc | apply Kd.R_drewN | apply Kd.R_drew)); exact Kd.R_mono (Kd.R_far (p := ⟨gb244, 1, none⟩) (Kd.R_far (p := ⟨gb244, 0, none⟩) (Kd.R_types HO_249000.out BK244.out (by decide)) (fun _ hk => hk.2) (.slice Ao5 t245.length co5)) (fun _ hk => hk.2) (.slice Ao26 x249001_1.length co26)) (fun _ hk => trivial), by (with_reducible repeat (first | apply Kd.S_alloc | apply Kd.S_drewN | apply Kd.S_drew)); exact Kd.S_mono (Kd.S_far (p := ⟨gb244, 1, none⟩) (Kd.S_far (p := ⟨gb244, 0, none⟩) (Kd.S_types HO_249001.out BK244.out (by decide)) (fun _ hk => hk.2) (.slice Ao5 t245.length co5)) (fun _ hk => hk.2) (.slice Ao26 x249001_1.length co26)) (fun _ hk => hk.1), by repeat (first | (with_reducible first | exact HB.out | apply below_alloc | apply pw_below_drewN | apply below_drew1 | refine below_set ?_ GE244.out | refine below_set ?_ GE248.out) | exact HB.out)⟩
   rw [if_pos c9] at H
   have c9b0 : decide (x14_1 < (l0.length : Int)) = true := decide_eq_true c9
   clear c9
   obtain ⟨y249, hy249⟩ : ∃ y_ : List Int, y_ = (([] : List Int)) := ⟨_, rfl⟩
   replace H : (impl_build.l1 t k1 l0 x14_1 y249 (l0.length : Int) x14_1 (l0.length : Int) 0 t245 x249001_1) = some (r1, r2) := by first | (rw [hy249]; with_reducible exact H) | (have H2_ := (Option.bind_some _ _).symm.trans H; rw [hy249]; with_reducible exact H2_) | (have H2_ := (Option.bind_some _ _).symm.trans H; with_reducible exact H2_) | with_reducible exact H | (rw [hy249]; exact H) | exact H
   have Ny249 := ak hy249
   clear hy249
   have H' := ak H
   clear H
   go_wp2_with (first | ((with_reducible refine gate_dst (N := 17) rfl ?_); refine Kd.R_lit (Kd.int .i64) _ 3 ?hg (N := 17) ?hd (xs := ([] : List Int)) (inner := []) (ok := fun _ => True) (okp := fun _ => True) ?hr ?hp (fun _ hk => hk) trivial (Below.refl _ _) (Nat.le_refl _) (by simp) ?_; (case hd => rfl); (case hg => rfl); (case hr => first | (go_simp; done) | (go_simp; rfl)); (case hp => exact (Reps.none _ _)); intro v250 w10 ho11 hb hg_ hnew_; clear hg_ hnew_; (first | rw [← Ny249.out] at ho11 | (simp only [Int.reduceToNat] at ho11; rw [← Ny249.out] at ho11)); replace HO_249001 := ak (Kd.S_elder' (kS HO_249001.out) (Kd.R_base ho11) hb); have HO251 := ak (Kd.R_lower (Kd.R_new' ho11 (Kd.R_lt (kR HO_249000.out))) (below_size (bB HB.out))); replace HO_249000 := ak (Kd.R_elder' (kR HO_249000.out) (Kd.R_base ho11) hb); replace BK244 := ak (blk_below (kK BK244.out) hb); replace BK248 := ak (blk_below (kK BK248.out) hb); replace HB := ak (below_step (bB HB.out) hb); clear hb ho11))
   go_loopg [7, 20] k1 (fun kq v7 v20 w' => ∃ (x7_2 : List Int) (x20_2 : Int), v20 = .int .i64 x20_2 ∧ Aside0 (impl_build.l1 t kq l0 x14_1 x7_2 (l0.length : Int) x14_1 (l0.length : Int) x20_2 t245 x249001_1 = some (r1, r2)) ∧ Aside0 (kq ≤ k1) ∧ Aside0 (Kd.R (Kd.int .i64) 3 w' w.heap.size (fun k_ => some k_ ≠ ((.slice Ao5 t245.length co5) : Value).ownBlock) v7 x7_2) ∧ Aside0 (Kd.R (Kd.int .i64) 3 w' w.heap.size (fun k_ => some k_ ≠ (v7 : Value).ownBlock) (.slice Ao5 t245.length co5) t245) ∧ Aside0 (Kd.S (Kd.slice 3 (Kd.int .i64)) 22 w' w.heap.size (fun k_ => some k_ ≠ (v7 : Value).ownBlock ∧ some k_ ≠ ((.slice Ao5 t245.length co5) : Value).ownBlock) u249001 x249001_1) ∧ Aside0 (w'.heap[gb244]? = some (.cells #[(.slice none 0 0), (.slice none 0 0)] 25 (0, 0))) ∧ Aside0 (w'.heap[gb248]? = some (.cells #[(.slice Ao5 t245.length co5), u249001] 25 (0, 0))) ∧ Aside0 (Below w.heap.size w w'))
   case atStart => exact ⟨(y249), (0), (by first | rfl | (simp; done) | (simp [*]; done)), H', ⟨Nat.le_refl _⟩, ⟨by (with_reducible repeat (first | apply Kd.R_alloc | apply Kd.R_drewN | apply Kd.R_drew)); exact Kd.R_mono HO251.out (fun _ hk => hk.2)⟩, ⟨by (with_reducible repeat (first | apply Kd.R_alloc | apply Kd.R_drewN | apply Kd.R_drew)); exact Kd.R_mono HO_249000.out (fun _ hk => hk.2)⟩, ⟨by (with_reducible repeat (first | apply Kd.S_alloc | apply Kd.S_drewN | apply Kd.S_drew)); exact Kd.S_mono HO_249001.out (fun _ hk => ⟨hk.2, hk.1⟩)⟩, ⟨by (with_reducible repeat (first | refine blk_drewN ?_ _ | refine blk_drew ?_ | refine blk_alloc ?_ _)); exact BK244.out⟩, ⟨by (with_reducible repeat (first | refine blk_drewN ?_ _ | refine blk_drew ?_ | refine blk_alloc ?_ _)); exact BK248.out⟩, ⟨by repeat (first | (with_reducible first | exact HB.out | apply below_alloc | apply pw_below_drewN | apply below_drew1 | refine below_set ?_ GE244.out | refine below_set ?_ GE248.out) | exact HB.out)⟩⟩
   case round =>
    clear H'
    try clear p2
    try clear c6
    try clear c7
    try clear c9
    try clear c9b0
    try clear hcz8_0
    try clear hcz8_1
    try clear hfz8_0
    try clear hfz8_1
    try clear p2
    obtain ⟨x7_2, x20_2, rfl, HA, HK2, HO_7, HO_249000, HO_249001, BK244, BK248, HB⟩ := hrel
    cases gk with
    | zero => exact absurd HA.out (by simp [impl_build.l1])
    | succ k2 =>
     have H := HA.out
     clear HA
     simp only [impl_build.l1] at H
     by_cases c12 : x20_2 < (l0.length : Int)
     ·rw [if_pos c12] at H
      have c12b0 : decide (x20_2 < (l0.length : Int)) = true := decide_eq_true c12
      clear c12
      replace H := bi H
      obtain ⟨t252, A130, H⟩ := H
      try dsimp only at H
      have A13 := ak A130
      clear A130
      replace H := oi H
      obtain ⟨c14, H⟩ := H
      have LMc14 := ak c14
      clear c14
      obtain ⟨y253, hy253⟩ : ∃ y_ : List Int, y_ = (x7_2 ++ [t252]) := ⟨_, rfl⟩
      replace H : (impl_build.l1 t k2 l0 x14_1 y253 (l0.length : Int) x14_1 (l0.length : Int) (wrap64 (x20_2 + 1)) t245 x249001_1) = some (r1, r2) := by first | (rw [hy253]; with_reducible exact H) | (have H2_ := (Option.bind_some _ _).symm.trans H; rw [hy253]; with_reducible exact H2_) | (have H2_ := (Option.bind_some _ _).symm.trans H; with_reducible exact H2_) | with_reducible exact H | (rw [hy253]; exact H) | exact H
      have Ny253 := ak hy253
      clear hy253
      have H' := ak H
      clear H
      go_wp2_with (first | (go_at_fn g; refine (HT.out _ x14_1 x20_2 t252 (bB HB.out) A13.out).mono ?_; rintro e w' ⟨rfl, nd, rfl⟩) | ((with_reducible refine gate_builtin (b := .append) (xs := #[.tmp 23, .tmp 28]) rfl ?_); at_builtin; refine Kd.R_append (Kd.int .i64) (w0 := w) w.heap.size rfl (.tmp 23) (.tmp 28) 22 3 (.int .i64 0) 8 rfl Try.underlying22 info3 rfl (by decide) (by omega) u7 x7_2 t252 [.int .i64 t252] (fun k_ => some k_ ≠ (.slice Ao5 t245.length co5 : Value).ownBlock) (fun _ => False) rfl rfl ?aP (fun _ hk => hk.elim) ?aF ?aO ?aB ?aS ?aL ?_; (case aP => exact rfl); (case aB => exact (bB HB.out)); (case aF => exact (fun k_ hk => Kd.fresh' (Kd.R_lt (kR HO_249000.out)) k_ hk)); (case aO => exact (kR HO_7.out)); (case aS => exact (below_size (bB HB.out))); (case aL => have := LMc14.out; omega); intro v254 w15 ho hb hg hat; rw [← Ny253.out] at ho; replace HO_249000 := ak (Kd.R_after (ok := (fun _ => True)) (kR (Kd.R_mono HO_249000.out (fun _ hk => ⟨trivial, hk⟩))) hg hat); replace HO_249001 := ak (Kd.S_after (ok := (fun k_ => some k_ ≠ (.slice Ao5 t245.length co5 : Value).ownBlock)) (kS (Kd.S_mono HO_249001.out (fun _ hk => ⟨hk.2, hk.1⟩))) hg hat); replace BK244 := ak (blk_grown (g := gb244) (o := .cells #[.slice none 0 0, .slice none 0 0] 25 (0, 0)) (kK BK244.out) hg (Kd.R_ne HO_7.out BK244.out (by decide))); replace BK248 := ak (blk_grown (g := gb248) (o := .cells #[.slice Ao5 t245.length co5, u249001] 25 (0, 0)) (kK BK248.out) hg (Kd.R_ne HO_7.out BK248.out (by decide))); replace HB := ak (hb); have HO255 := ak (ho); clear HO_7; clear ho hb hg hat))
      go_roundg k2
      case measure => have := HK1.out; have := HK2.out; omega
      case rel => exact ⟨(y253), (wrap64 (x20_2 + 1)), (by first | rfl | (simp; done) | (simp [*]; done)), H', ⟨by have := HK1.out; have := HK2.out; omega⟩, ⟨by (with_reducible repeat (first | apply Kd.R_alloc | apply Kd.R_drewN | apply Kd.R_drew)); exact HO255.out⟩, ⟨by (with_reducible repeat (first | apply Kd.R_alloc | apply Kd.R_drewN | apply Kd.R_drew)); exact Kd.R_mono HO_249000.out (fun _ hk => hk.2)⟩, ⟨by (with_reducible repeat (first | apply Kd.S_alloc | apply Kd.S_drewN | apply Kd.S_drew)); exact Kd.S_mono HO_249001.out (fun _ hk => ⟨hk.2, hk.1⟩)⟩, ⟨by (with_reducible repeat (first | refine blk_drewN ?_ _ | refine blk_drew ?_ | refine blk_alloc ?_ _)); exact BK244.out⟩, ⟨by (with_reducible repeat (first | refine blk_drewN ?_ _ | refine blk_drew ?_ | refine blk_alloc ?_ _)); exact BK248.out⟩, ⟨by repeat (first | (with_reducible first | exact HB.out | apply below_alloc | apply pw_below_drewN | apply below_drew1 | refine below_set ?_ GE244.out | refine below_set ?_ GE248.out) | exact HB.out)⟩⟩
     rw [if_neg c12] at H
     have c12b0 : decide (x20_2 < (l0.length : Int)) = false := decide_eq_false c12
     clear c12
     replace H := oi H
     obtain ⟨c16, H⟩ := H
     have LMc16 := ak c16
     clear c16
     obtain ⟨y256, hy256⟩ : ∃ y_ : List (List Int), y_ = (x249001_1 ++ [x7_2]) := ⟨_, rfl⟩
     replace H : (impl_build.l0 t k2 l0 (l0.length : Int) (wrap64 (x14_1 + 1)) t245 y256) = some (r1, r2) := by first | (rw [hy256]; with_reducible exact H) | (have H2_ := (Option.bind_some _ _).symm.trans H; rw [hy256]; with_reducible exact H2_) | (have H2_ := (Option.bind_some _ _).symm.trans H; with_reducible exact H2_) | with_reducible exact H | (rw [hy256]; exact H) | exact H
     have Ny256 := ak hy256
     clear hy256
     have H' := ak H
     clear H
     have hnb17 := NB248_244.out
     have hnc17 := NB244_248.out
     have hcz18_0 : wr.cell? ⟨gb248, 0, none⟩ = some (.slice Ao5 t245.length co5) := (blk_cell BK248.out 0).trans rfl
     have hcz18_1 : wr.cell? ⟨gb248, 1, none⟩ = some (u249001) := (blk_cell BK248.out 1).trans rfl
     have hfz18_0 := blk_frozen BK248.out 0
     have hfz18_1 := blk_frozen BK248.out 1
     obtain ⟨Ao20, co20, eo20⟩ := Kd.R_slice HO_7.out
     subst eo20
     go_wp2_with (first | ((with_reducible refine gate_builtin (b := .append) (xs := #[.tmp 32, .tmp 34]) rfl ?_); at_builtin; refine Kd.S_append (Kd.slice 3 (Kd.int .i64)) (w0 := w) w.heap.size rfl (.tmp 32) (.tmp 34) 23 22 (.slice none 0 0) 24 rfl Try.underlying23 info22 rfl (by decide) (by omega) u249001 x249001_1 x7_2 [.slice Ao20 x7_2.length co20] (fun k_ => some k_ ≠ (.slice Ao5 t245.length co5 : Value).ownBlock) (fun k_ => some k_ = (.slice Ao20 x7_2.length co20 : Value).ownBlock) rfl rfl ?aP (fun k_ hk_ => ((Kd.R_mono (ok' := fun k_ => ((fun k_ => some k_ ≠ (.slice Ao5 t245.length co5 : Value).ownBlock)) k_ ∧ some k_ ≠ (u249001 : Value).ownBlock) (Kd.R_apart' (HO_7.out) (Kd.S_typed HO_249001.out) (by decide)) (fun k_ hk => ⟨hk.1, hk.2⟩))).1 k_ hk_.symm) ?aF ?aO ?aB ?aS ?aL ?_; (case aP => exact Kd.M_row (Kd.R_mono (Kd.R_tight rfl (Kd.R_mono (ok' := fun k_ => ((fun k_ => some k_ ≠ (.slice Ao5 t245.length co5 : Value).ownBlock)) k_ ∧ some k_ ≠ (u249001 : Value).ownBlock) (Kd.R_apart' (HO_7.out) (Kd.S_typed HO_249001.out) (by decide)) (fun k_ hk => ⟨hk.1, hk.2⟩))) (fun _ h_ => h_))); (case aB => exact (bB HB.out)); (case aF => exact (fun k_ hk => Kd.fresh' (Kd.R_lt (kR HO_249000.out)) k_ hk)); (case aO => exact (kS (Kd.S_mono HO_249001.out (fun k_ hk => ⟨hk.2, fun e_ => hk.1 e_⟩)))); (case aS => exact (below_size (bB HB.out))); (case aL => have := LMc16.out; omega); intro v257 w19 ho hb hg hat; rw [← Ny256.out] at ho; replace HO_249000 := ak (Kd.R_over' (kR HO_249000.out) (Kd.S_typed (kS HO_249001.out)) (by decide) hg); replace BK244 := ak (blk_grown (g := gb244) (o := .cells #[.slice none 0 0, .slice none 0 0] 25 (0, 0)) (kK BK244.out) hg (Kd.S_ne HO_249001.out BK244.out (by decide))); replace BK248 := ak (blk_grown (g := gb248) (o := .cells #[.slice Ao5 t245.length co5, u249001] 25 (0, 0)) (kK BK248.out) hg (Kd.S_ne HO_249001.out BK248.out (by decide))); replace HB := ak (hb); have HO258 := ak (ho); clear HO_249001 HO_7; clear ho hb hg hat; obtain ⟨Ao21, co21, eo21⟩ := Kd.S_slice HO258.out; subst eo21; have hcz22_0 : w19.cell? ⟨gb248, 0, none⟩ = some (.slice Ao5 t245.length co5) := (blk_cell BK248.out 0).trans rfl; have hcz22_1 : w19.cell? ⟨gb248, 1, none⟩ = some (u249001) := (blk_cell BK248.out 1).trans rfl; have hfz22_0 := blk_frozen BK248.out 0; have hfz22_1 := blk_frozen BK248.out 1))
     go_roundg k2
     case measure => have := HK1.out; have := HK2.out; omega
     case rel => exact ⟨(wrap64 (x14_1 + 1)), (y256), (.slice Ao21 y256.length co21), (by first | rfl | (simp; done) | (simp [*]; done)), H', ⟨by have := HK1.out; have := HK2.out; omega⟩, ⟨by (with_reducible repeat (first | apply Kd.R_alloc | apply Kd.R_drewN | apply Kd.R_drew)); exact Kd.R_mono (Kd.R_far (p := ⟨gb248, 1, none⟩) (Kd.R_types HO_249000.out BK248.out (by decide)) (fun _ hk => hk.2) (.slice Ao21 y256.length co21)) (fun _ hk => trivial)⟩, ⟨by (with_reducible repeat (first | apply Kd.S_alloc | apply Kd.S_drewN | apply Kd.S_drew)); exact Kd.S_mono (Kd.S_far (p := ⟨gb248, 1, none⟩) (Kd.S_types HO258.out BK248.out (by decide)) (fun _ hk => hk.2) (.slice Ao21 y256.length co21)) (fun _ hk => hk.1)⟩, ⟨by (with_reducible repeat (first | refine blk_drewN ?_ _ | refine blk_drew ?_ | refine blk_alloc ?_ _)); refine blk_far ?_ NB244_248.out _; (with_reducible repeat (first | refine blk_drewN ?_ _ | refine blk_drew ?_ | refine blk_alloc ?_ _)); exact BK244.out⟩, ⟨by (with_reducible repeat (first | refine blk_drewN ?_ _ | refine blk_drew ?_ | refine blk_alloc ?_ _)); refine blk_put (cs := #[.slice Ao5 t245.length co5, u249001]) ?_ 1 _ rfl; (with_reducible repeat (first | refine blk_drewN ?_ _ | refine blk_drew ?_ | refine blk_alloc ?_ _)); exact BK248.out⟩, ⟨by repeat (first | (with_reducible first | exact HB.out | apply below_alloc | apply pw_below_drewN | apply below_drew1 | refine below_set ?_ GE244.out | refine below_set ?_ GE248.out) | exact HB.out)⟩⟩
/-- The number at a place of a table of rows. -/
def rdT (T : List (List Int)) (i j : Int) : Option Int := if 0 ≤ i ∧ i < (T.length : Int) ∧ 0 ≤ j ∧ j < ((rd_L1 T i).length : Int) then some (rd (rd_L1 T i) j) else none
theorem rdT_some {T : List (List Int)} {i j v : Int} (h : rdT T i j = some v) : 0 ≤ i ∧ i < (T.length : Int) ∧ 0 ≤ j ∧ j < ((rd_L1 T i).length : Int) ∧ rd (rd_L1 T i) j = v := by
 unfold rdT at h
 by_cases c : 0 ≤ i ∧ i < (T.length : Int) ∧ 0 ≤ j ∧ j < ((rd_L1 T i).length : Int)
 ·rw [if_pos c] at h
  exact ⟨c.1, c.2.1, c.2.2.1, c.2.2.2, Option.some.inj h⟩
 ·rw [if_neg c] at h
  exact absurd h (by simp)
def bu_stack_1.t (a1 : Int) (T2 T3 : List (List Int)) (x y : Int) : Option Int := if a1 ≤ x then (if a1 ≤ y then (rdT T2 (wrap64 (x - a1)) (wrap64 (y - a1))).bind fun p => some (wrap64 (p + a1)) else some (mn x y)) else (if a1 ≤ y then some (mn x y) else rdT T3 x y)
set_option maxHeartbeats 4000000 in
set_option maxRecDepth 100000 in
theorem bu_stack_1.answers (g1 : Nat) (a1 : Int) (g2 : Nat) (A2_0 : Option Addr) (c2_0 : Nat) (l2_0 : List Int) (A2_1 : Option Addr) (c2_1 : Nat) (l2_1 : List (List Int)) (g3 : Nat) (A3_0 : Option Addr) (c3_0 : Nat) (l3_0 : List Int) (A3_1 : Option Addr) (c3_1 : Nat) (l3_1 : List (List Int)) (w : World)
  (hr2_1 : Kd.C (Kd.slice 3 (Kd.int .i64)) w A2_1 l2_1.length l2_1) (hr3_1 : Kd.C (Kd.slice 3 (Kd.int .i64)) w A3_1 l3_1.length l3_1)
  (hb1 : w.heap[g1]? = some (.cells #[.int .i64 a1] 3 (0, 0))) (hb2 : w.heap[g2]? = some (.cells #[.slice A2_0 l2_0.length c2_0, .slice A2_1 l2_1.length c2_1] 25 (0, 0))) (hb3 : w.heap[g3]? = some (.cells #[.slice A3_0 l3_0.length c3_0, .slice A3_1 l3_1.length c3_1] 25 (0, 0))) :
  Answers2 105 #[.pointer (some ⟨g1, 0, none⟩), .pointer (some ⟨g2, 0, none⟩), .pointer (some ⟨g3, 0, none⟩)] (bu_stack_1.t a1 l2_1 l3_1) w := fun W x y r hb' h => by
 have hu25 := Try.underlying25
 have H : (if a1 ≤ x then (if a1 ≤ y then (rdT l2_1 (wrap64 (x - a1)) (wrap64 (y - a1))).bind fun p => some (wrap64 (p + a1)) else some (mn x y)) else (if a1 ≤ y then some (mn x y) else rdT l3_1 x y)) = some r := h
 have HB := Aside0.mk hb'
 have BK1 := Aside0.mk (blk_below hb1 hb')
 have BK2 := Aside0.mk (blk_below hb2 hb')
 have BK3 := Aside0.mk (blk_below hb3 hb')
 have HR2_1 := Aside0.mk hr2_1
 have HR3_1 := Aside0.mk hr3_1
 clear hb1 hb2 hb3 hb' h hr2_1 hr3_1
 have hcz26_0 : W.cell? ⟨g1, 0, none⟩ = some (.int .i64 a1) := (blk_cell BK1.out 0).trans rfl
 have hcz24_0 : W.cell? ⟨g2, 0, none⟩ = some (.slice A2_0 l2_0.length c2_0) := (blk_cell BK2.out 0).trans rfl
 have hcz24_1 : W.cell? ⟨g2, 1, none⟩ = some (.slice A2_1 l2_1.length c2_1) := (blk_cell BK2.out 1).trans rfl
 have hcz27_0 : W.cell? ⟨g3, 0, none⟩ = some (.slice A3_0 l3_0.length c3_0) := (blk_cell BK3.out 0).trans rfl
 have hcz27_1 : W.cell? ⟨g3, 1, none⟩ = some (.slice A3_1 l3_1.length c3_1) := (blk_cell BK3.out 1).trans rfl
 show Calls Try.prog 105 #[.int .i64 x, .int .i64 y, .pointer (some ⟨g1, 0, none⟩), .pointer (some ⟨g2, 0, none⟩), .pointer (some ⟨g3, 0, none⟩)] W _
 by_cases cx : a1 ≤ x
 ·rw [if_pos cx] at H
  have cxb : decide (a1 ≤ x) = true := decide_eq_true cx
  have cxl : decide (x < a1) = false := decide_eq_false (by omega)
  clear cx
  by_cases cy : a1 ≤ y
  ·rw [if_pos cy] at H
   have cyb : decide (a1 ≤ y) = true := decide_eq_true cy
   have cyl : decide (y < a1) = false := decide_eq_false (by omega)
   clear cy
   obtain ⟨p, hp, H⟩ := Option.bind_eq_some_iff.mp H
   obtain ⟨ji18, hji18⟩ : ∃ j_ : Int, (wrap64 (x - a1)) = j_ := ⟨_, rfl⟩
   obtain ⟨ji21, hji21⟩ : ∃ j_ : Int, (wrap64 (y - a1)) = j_ := ⟨_, rfl⟩
   rw [hji18, hji21] at hp
   have hji18w : (IntKind.i64.wrap (x - a1)) = ji18 := (i64_w _).trans hji18
   have hji21w : (IntKind.i64.wrap (y - a1)) = ji21 := (i64_w _).trans hji21
   obtain ⟨p1, p2, p3, p4, rfl⟩ := rdT_some hp
   clear hp
   obtain rfl := Option.some.inj H
   clear H
   have c19b0 : decide (0 ≤ ji18) = true := decide_eq_true p1
   have c20b0 : decide (ji18 < (l2_1.length : Int)) = true := decide_eq_true p2
   have c22b0 : decide (0 ≤ ji21) = true := decide_eq_true p3
   have c23b0 : decide (ji21 < ((rd_L1 l2_1 ji18).length : Int)) = true := decide_eq_true p4
   obtain ⟨ad528, A528_0, c528_0, e528, hx528_0, hl528_0, hi528_0⟩ := at_L1 HR2_1.out ji18 p1 p2
   cases e528
   replace hx528_0 := (HB.out.cell (World.block_lt_of_cell? w _ hx528_0)).trans hx528_0
   have HR528_0 := Aside0.mk hi528_0
   have HC528_0 := Aside0.mk hl528_0
   clear hi528_0 hl528_0
   obtain ⟨ad529, e529, hx529_0⟩ := Kd.at_int HR528_0.out ji21 p3 p4
   cases e529
   replace hx529_0 := (HB.out.cell (World.block_lt_of_cell? w _ hx529_0)).trans hx529_0
   replace p1 := eq_true p1
   replace p2 := eq_true p2
   replace p3 := eq_true p3
   replace p4 := eq_true p4
   go_enter Try.func105, Try.ntmps105
   go_wp2
   repeat (go_quiet (fail); try go_wp2)
   go_ret
   exact ⟨by first | rfl | (simp only [← hji18, ← hji21]; first | rfl | (simp <;> rfl)) | (simp [*] <;> rfl), _, rfl⟩
  ·rw [if_neg cy] at H
   have cyb : decide (a1 ≤ y) = false := decide_eq_false cy
   have cyl : decide (y < a1) = true := decide_eq_true (by omega)
   clear cy
   obtain ⟨ji40, hji40⟩ : ∃ j_ : Int, (mn x y) = j_ := ⟨_, rfl⟩
   rw [hji40] at H
   have hji40_ : (if y < x then y else x) = ji40 := hji40
   obtain rfl := Option.some.inj H
   go_enter Try.func105, Try.ntmps105
   go_wp2
   repeat (go_quiet (fail); try go_wp2)
   go_ret
   exact ⟨by first | rfl | (simp only [← hji40]; first | rfl | (simp <;> rfl)) | (simp [*] <;> rfl), 0, rfl⟩
 ·rw [if_neg cx] at H
  have cxb : decide (a1 ≤ x) = false := decide_eq_false cx
  have cxl : decide (x < a1) = true := decide_eq_true (by omega)
  clear cx
  by_cases cy : a1 ≤ y
  ·rw [if_pos cy] at H
   have cyb : decide (a1 ≤ y) = true := decide_eq_true cy
   have cyl : decide (y < a1) = false := decide_eq_false (by omega)
   clear cy
   obtain ⟨ji40, hji40⟩ : ∃ j_ : Int, (mn x y) = j_ := ⟨_, rfl⟩
   rw [hji40] at H
   have hji40_ : (if y < x then y else x) = ji40 := hji40
   obtain rfl := Option.some.inj H
   go_enter Try.func105, Try.ntmps105
   go_wp2
   repeat (go_quiet (fail); try go_wp2)
   go_ret
   exact ⟨by first | rfl | (simp only [← hji40]; first | rfl | (simp <;> rfl)) | (simp [*] <;> rfl), 0, rfl⟩
  ·rw [if_neg cy] at H
   have cyb : decide (a1 ≤ y) = false := decide_eq_false cy
   have cyl : decide (y < a1) = true := decide_eq_true (by omega)
   clear cy
   obtain ⟨p1, p2, p3, p4, rfl⟩ := rdT_some H
   clear H
   have c19b0 : decide (0 ≤ x) = true := decide_eq_true p1
   have c20b0 : decide (x < (l3_1.length : Int)) = true := decide_eq_true p2
   have c22b0 : decide (0 ≤ y) = true := decide_eq_true p3
   have c23b0 : decide (y < ((rd_L1 l3_1 x).length : Int)) = true := decide_eq_true p4
   obtain ⟨ad528, A528_0, c528_0, e528, hx528_0, hl528_0, hi528_0⟩ := at_L1 HR3_1.out x p1 p2
   cases e528
   replace hx528_0 := (HB.out.cell (World.block_lt_of_cell? w _ hx528_0)).trans hx528_0
   have HR528_0 := Aside0.mk hi528_0
   have HC528_0 := Aside0.mk hl528_0
   clear hi528_0 hl528_0
   obtain ⟨ad529, e529, hx529_0⟩ := Kd.at_int HR528_0.out y p3 p4
   cases e529
   replace hx529_0 := (HB.out.cell (World.block_lt_of_cell? w _ hx529_0)).trans hx529_0
   replace p1 := eq_true p1
   replace p2 := eq_true p2
   replace p3 := eq_true p3
   replace p4 := eq_true p4
   go_enter Try.func105, Try.ntmps105
   go_wp2
   repeat (go_quiet (fail); try go_wp2)
   go_ret
   exact ⟨by first | rfl | (simp [*] <;> rfl), 0, rfl⟩
def bu_stack_1.f (k : Nat) (l0 : List Int) (a1 : Int) (l2_0 : List Int) (l2_1 : List (List Int)) (l3_0 : List Int) (l3_1 : List (List Int)) : Option (List Int × (List (List Int))) := impl_build.f (bu_stack_1.t a1 l2_1 l3_1) k l0
theorem bu_stack_1.calls (k : Nat) (A0 : Option Addr) (c0 : Nat) (l0 : List Int) (g1 : Nat) (a1 : Int) (g2 : Nat) (A2_0 : Option Addr) (c2_0 : Nat) (l2_0 : List Int) (A2_1 : Option Addr) (c2_1 : Nat) (l2_1 : List (List Int)) (g3 : Nat) (A3_0 : Option Addr) (c3_0 : Nat) (l3_0 : List Int) (A3_1 : Option Addr) (c3_1 : Nat) (l3_1 : List (List Int)) (r1 : List Int) (r2 : List (List Int)) (w : World) (hr0 : Kd.C (Kd.int .i64) w A0 l0.length l0) (hc0 : l0.length ≤ c0)
  (hr2_0 : Kd.C (Kd.int .i64) w A2_0 l2_0.length l2_0) (hc2_0 : l2_0.length ≤ c2_0) (hr2_1 : Kd.C (Kd.slice 3 (Kd.int .i64)) w A2_1 l2_1.length l2_1) (hc2_1 : l2_1.length ≤ c2_1) (hr3_0 : Kd.C (Kd.int .i64) w A3_0 l3_0.length l3_0) (hc3_0 : l3_0.length ≤ c3_0) (hr3_1 : Kd.C (Kd.slice 3 (Kd.int .i64)) w A3_1 l3_1.length l3_1) (hc3_1 : l3_1.length ≤ c3_1)
  (hb1 : w.heap[g1]? = some (.cells #[.int .i64 a1] 3 (0, 0))) (hb2 : w.heap[g2]? = some (.cells #[.slice A2_0 l2_0.length c2_0, .slice A2_1 l2_1.length c2_1] 25 (0, 0))) (hb3 : w.heap[g3]? = some (.cells #[.slice A3_0 l3_0.length c3_0, .slice A3_1 l3_1.length c3_1] 25 (0, 0))) (h : bu_stack_1.f k l0 a1 l2_0 l2_1 l3_0 l3_1 = some (r1, r2)) :
  Calls Try.prog 60 #[.slice A0 l0.length c0, .func (.func 105) #[] #[.pointer (some ⟨g1, 0, none⟩), .pointer (some ⟨g2, 0, none⟩), .pointer (some ⟨g3, 0, none⟩)]] w fun e w' => ∃ v0_ v1_ : Value, e = .returned (.agg #[v0_, v1_]) ∧ Kd.R (Kd.int .i64) 3 w' w.heap.size (fun _ => True) v0_ r1 ∧ Kd.S (Kd.slice 3 (Kd.int .i64)) 22 w' w.heap.size (fun k_ => some k_ ≠ (v0_ : Value).ownBlock) v1_ r2 ∧ Below w.heap.size w w' :=
 impl_build.calls k _ 105 _ (enters_of Try.func105 (by kernel_rfl) rfl) A0 c0 l0 r1 r2 w hr0 hc0 (bu_stack_1.answers g1 a1 g2 A2_0 c2_0 l2_0 A2_1 c2_1 l2_1 g3 A3_0 c3_0 l3_0 A3_1 c3_1 l3_1 w hr2_1 hr3_1 hb1 hb2 hb3) h
end Go.Proofs.Ytjidbgmkhapklaa.P

-- shrunk
