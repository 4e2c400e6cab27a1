/- Functions as Lean functions, with their contracts: written by a program of this claim over the translation; some contracts are proved by hand. -/
import Derived.Test.YtlppkilencpmeaaQFnHeavyPathsx0
import Derived.Test.YtlppkilencpmeaaQFnHeavyPathsx1
namespace Go.Proofs.Ytlppkilencpmeaa.QFnHeavyPaths
open Go.RowKit Go.Proofs.Ytlppkilencpmeaa.Gl Go.Proofs.Ytlppkilencpmeaa.Sz Go.Proofs.YtlppkilencpmeaaW.PrintWords Go.Proofs.YtlppkilencpmeaaW.PrintLast Go.Proofs.YtlppkilencpmeaaW.PrintMore
attribute [local go_sem] max2_int min2_int max_two min_two max_three min_three max_four min_four   -- for this text's walks alone
set_option linter.unusedVariables false
set_option linter.unusedSimpArgs false
theorem q6_0 {P : Prop} (h : P := by first | (with_reducible assumption) | assumption) : P := h
theorem q6_1 {P : Prop} (h : P := by first | rfl | (simp; done) | (simp [*]; done)) : P := h

/-! ### spec_l01End: function 51 -/
def spec_l01End.l0 : Nat → Int → Int → List Int → Option (Int)
 | 0, _, _, _ => none
 | k + 1, x1, x5, x355000 => if x5 > 0 then (if 0 ≤ x1 then (if x1 < (x355000.length : Int) then (spec_l01End.l0 k (wrap64 (x1 + 1)) (wrap64 ((wrap64 (x5 - 1)) + (rd x355000 x1))) x355000) else (none)) else (none)) else (some x1)
def spec_l01End.f (k : Nat) (l0_0 : List Int) (a1 : Int) : Option (Int) := spec_l01End.l0 k a1 1 l0_0
theorem spec_l01End.mono_l : ∀ k, (∀ y0 y1 y2, LeO (spec_l01End.l0 k y0 y1 y2) (spec_l01End.l0 (k + 1) y0 y1 y2))
 | 0 => fun _ _ _ r h => by simp [spec_l01End.l0] at h
 | k + 1 => by
  have ih0 := spec_l01End.mono_l k
  ·intro y0 y1 y2
   unfold spec_l01End.l0
   repeat' first
   | (with_reducible exact ih0 _ _ _)
   | (with_reducible exact LeO.refl _)
   | (with_reducible exact LeO.none _)
   | (with_reducible refine LeO.ite ?_ ?_)
   | (with_reducible refine LeO.bind ?_ (fun _ => ?_))
   | exact ih0 _ _ _
   | exact LeO.none _
   | refine LeO.ite ?_ ?_
   | refine LeO.bind ?_ (fun _ => ?_)
theorem spec_l01End.mono : ∀ a0 a1 k, LeO (spec_l01End.f k a0 a1) (spec_l01End.f (k + 1) a0 a1) := by
 intro a0 a1 k
 have ih0 := spec_l01End.mono_l k
 unfold spec_l01End.f
 repeat' first
   | (with_reducible exact ih0 _ _ _)
   | (with_reducible exact LeO.refl _)
   | (with_reducible exact LeO.none _)
   | (with_reducible refine LeO.ite ?_ ?_)
   | (with_reducible refine LeO.bind ?_ (fun _ => ?_))
   | exact ih0 _ _ _
   | exact LeO.none _
   | refine LeO.ite ?_ ?_
   | refine LeO.bind ?_ (fun _ => ?_)
set_option maxHeartbeats 8000000 in
set_option maxRecDepth 100000 in
theorem spec_l01End.calls (k : Nat) (A0_0 : Option Addr) (c0_0 : Nat) (l0_0 : List Int) (a1 : Int) (r : Int) (w : World) (hr0_0 : Kd.C (Kd.int .i64) w A0_0 l0_0.length l0_0) (hc0_0 : l0_0.length ≤ c0_0) (h : spec_l01End.f k l0_0 a1 = some r) :
  Calls Try.prog 51 #[.agg #[.slice A0_0 l0_0.length c0_0], .int .i64 a1] w fun e w' => e = .returned (.int .i64 r) ∧ Below w.heap.size w w' := by
 have hu26 := Try.underlying26
 have HR0_0 := Aside0.mk hr0_0
 have HC0_0 := Aside0.mk hc0_0
 clear hr0_0 hc0_0
 have HB := Aside0.mk (Below.refl w.heap.size w)
 have H : (spec_l01End.l0 k a1 1 l0_0) = some r := h
 clear h
 have H' := Aside0.mk H
 clear H
 go_enter Try.func51, Try.ntmps51
 go_wp2_with (first | ((with_reducible refine gate_dst (N := 2) rfl ?_); refine box_event ?hg (N := 2) ?hd (cs := #[.slice A0_0 l0_0.length c0_0]) (t := 26) ?hr ?_; (case hd => rfl); (case hg => rfl); (case hr => exact gs); intro gb354 hg w3 hbox hb; have BK354 := Aside0.mk (hbox); have GW354 := Aside0.mk (geb hg hq : w.heap.size ≤ gb354); have GE354 := Aside0.mk (geb hg hq : w.heap.size ≤ gb354); replace HB := Aside0.mk (below_step hq hb); clear hb hbox hg))
 go_loopg [1, 5] k (fun kq v1 v5 w' => ∃ (x1_1 : Int) (x5_1 : Int), v1 = .int .i64 x1_1 ∧ v5 = .int .i64 x5_1 ∧ Aside0 (spec_l01End.l0 kq x1_1 x5_1 l0_0 = some r) ∧ Aside0 (kq ≤ k) ∧ Aside0 (w'.heap[gb354]? = some (.cells #[(.slice A0_0 l0_0.length c0_0)] 26 (0, 0))) ∧ Aside0 (Below w.heap.size w w'))
 case atStart => exact ⟨(a1), (1), q6_1, q6_1, H', ⟨Nat.le_refl _⟩, ⟨pb BK354.out⟩, ⟨hq⟩⟩
 case round =>
  clear H'
  try clear p2
  obtain ⟨x1_1, x5_1, rfl, rfl, HA, HK1, BK354, HB⟩ := hrel
  cases gk with | zero => exact absurd HA.out (by simp [spec_l01End.l0]) | succ k1 => ?_
  have H := HA.out
  clear HA
  simp only [spec_l01End.l0] at H
  by_cases c4 : x5_1 > 0
  rotate_left
  ·rw [if_neg c4] at H
   have c4b0 : decide (0 < x5_1) = false := decide_eq_false c4
   clear c4
   obtain rfl := Option.some.inj H
   go_wp2
   go_ret
   exact ⟨ew, hq⟩
  rw [if_pos c4] at H
  have c4b0 : decide (0 < x5_1) = true := decide_eq_true c4
  clear c4
  by_cases c5 : 0 ≤ x1_1
  rotate_left
  ·rw [if_neg c5] at H
   exact absurd H (by simp)
  rw [if_pos c5] at H
  have c5b0 : decide (0 ≤ x1_1) = true := decide_eq_true c5
  clear c5
  by_cases c6 : x1_1 < (l0_0.length : Int)
  rotate_left
  ·rw [if_neg c6] at H
   exact absurd H (by simp)
  rw [if_pos c6] at H
  have c6b0 : decide (x1_1 < (l0_0.length : Int)) = true := decide_eq_true c6
  clear c6
  have H' := Aside0.mk H
  clear H
  have hcz7_0 : wr.cell? ⟨gb354, 0, none⟩ = some (.slice A0_0 l0_0.length c0_0) := (blk_cell BK354.out 0).trans rfl
  have hfz7_0 := blk_frozen BK354.out 0
  have p355 : 0 ≤ (x1_1 : Int) := of_decide_eq_true q6_0
  have q355 : x1_1 < (l0_0.length : Int) := of_decide_eq_true q6_0
  obtain ⟨ad355, e355, hx355_0⟩ := Kd.at_int HR0_0.out x1_1 p355 q355
  cases e355
  replace hx355_0 := (HB.out.cell (World.block_lt_of_cell? w _ hx355_0)).trans hx355_0
  replace p355 := eq_true p355
  replace q355 := eq_true q355
  go_wp2
  go_roundg k1
  case measure => have := HK1.out; omega
  case rel => exact ⟨(wrap64 (x1_1 + 1)), (wrap64 ((wrap64 (x5_1 - 1)) + (rd l0_0 x1_1))), q6_1, q6_1, H', ⟨by have := HK1.out; omega⟩, ⟨pb BK354.out⟩, ⟨hq⟩⟩

/-! ### spec_l01Children: function 80 -/
def spec_l01Children.l0 : Nat → List Int → Int → Int → List Int → Option (List Int)
 | 0, _, _, _, _ => none
 | k + 1, x5, x6, x7, x357000 => if x7 > 0 then (if x5.length < 17592186044416 then ((spec_l01End.f k x357000 x6).bind fun t364 => (spec_l01Children.l0 k (x5 ++ [x6]) t364 (wrap64 (x7 - 1)) x357000)) else (none)) else (some x5)
def spec_l01Children.f (k : Nat) (l0_0 : List Int) (a1 : Int) : Option (List Int) := if 0 ≤ a1 then (if a1 < (l0_0.length : Int) then (spec_l01Children.l0 k ([] : List Int) (wrap64 (a1 + 1)) (rd l0_0 a1) l0_0) else (none)) else (none)
theorem spec_l01Children.mono_l : ∀ k, (∀ y0 y1 y2 y3, LeO (spec_l01Children.l0 k y0 y1 y2 y3) (spec_l01Children.l0 (k + 1) y0 y1 y2 y3))
 | 0 => fun _ _ _ _ r h => by simp [spec_l01Children.l0] at h
 | k + 1 => by
  have ih0 := spec_l01Children.mono_l k
  ·intro y0 y1 y2 y3
   unfold spec_l01Children.l0
   repeat' first
   | (with_reducible exact ih0 _ _ _ _)
   | (with_reducible exact spec_l01End.mono _ _ _)
   | (with_reducible exact LeO.refl _)
   | (with_reducible exact LeO.none _)
   | (with_reducible refine LeO.ite ?_ ?_)
   | (with_reducible refine LeO.bind ?_ (fun _ => ?_))
   | exact ih0 _ _ _ _
   | exact spec_l01End.mono _ _ _
   | exact LeO.none _
   | refine LeO.ite ?_ ?_
   | refine LeO.bind ?_ (fun _ => ?_)
theorem spec_l01Children.mono : ∀ a0 a1 k, LeO (spec_l01Children.f k a0 a1) (spec_l01Children.f (k + 1) a0 a1) := by
 intro a0 a1 k
 have ih0 := spec_l01Children.mono_l k
 unfold spec_l01Children.f
 repeat' first
   | (with_reducible exact ih0 _ _ _ _)
   | (with_reducible exact spec_l01End.mono _ _ _)
   | (with_reducible exact LeO.refl _)
   | (with_reducible exact LeO.none _)
   | (with_reducible refine LeO.ite ?_ ?_)
   | (with_reducible refine LeO.bind ?_ (fun _ => ?_))
   | exact ih0 _ _ _ _
   | exact spec_l01End.mono _ _ _
   | exact LeO.none _
   | refine LeO.ite ?_ ?_
   | refine LeO.bind ?_ (fun _ => ?_)
set_option maxHeartbeats 8000000 in
set_option maxRecDepth 100000 in
theorem spec_l01Children.calls (k : Nat) (A0_0 : Option Addr) (c0_0 : Nat) (l0_0 : List Int) (a1 : Int) (r : List Int) (w : World) (hr0_0 : Kd.C (Kd.int .i64) w A0_0 l0_0.length l0_0) (hc0_0 : l0_0.length ≤ c0_0) (h : spec_l01Children.f k l0_0 a1 = some r) :
  Calls Try.prog 80 #[.agg #[.slice A0_0 l0_0.length c0_0], .int .i64 a1] w fun e w' => ∃ v0_ : Value, e = .returned (v0_) ∧ Kd.R (Kd.int .i64) 2 w' w.heap.size (fun _ => True) v0_ r ∧ Below w.heap.size w w' := by
 have hu26 := Try.underlying26
 have HR0_0 := Aside0.mk hr0_0
 have HC0_0 := Aside0.mk hc0_0
 clear hr0_0 hc0_0
 have HB := Aside0.mk (Below.refl w.heap.size w)
 have H : (if 0 ≤ a1 then (if a1 < (l0_0.length : Int) then (spec_l01Children.l0 k ([] : List Int) (wrap64 (a1 + 1)) (rd l0_0 a1) l0_0) else (none)) else (none)) = some r := h
 clear h
 obtain ⟨y357, hy357⟩ : ∃ y_ : List Int, y_ = ([] : List Int) := ⟨_, rfl⟩
 replace H : (if 0 ≤ a1 then (if a1 < (l0_0.length : Int) then (spec_l01Children.l0 k y357 (wrap64 (a1 + 1)) (rd l0_0 a1) l0_0) else (none)) else (none)) = some r := by first | (rw [hy357]; with_reducible exact H) | (have H2_ := (Option.bind_some _ _).symm.trans H; rw [hy357]; with_reducible exact H2_) | (have H2_ := (Option.bind_some _ _).symm.trans H; with_reducible exact H2_) | with_reducible exact H | (rw [hy357]; exact H) | exact H
 have Ny357 := Aside0.mk hy357
 clear hy357
 by_cases c3 : 0 ≤ a1
 rotate_left
 ·rw [if_neg c3] at H
  exact absurd H (by simp)
 rw [if_pos c3] at H
 have c3b0 : decide (0 ≤ a1) = true := decide_eq_true c3
 clear c3
 by_cases c4 : a1 < (l0_0.length : Int)
 rotate_left
 ·rw [if_neg c4] at H
  exact absurd H (by simp)
 rw [if_pos c4] at H
 have c4b0 : decide (a1 < (l0_0.length : Int)) = true := decide_eq_true c4
 clear c4
 have H' := Aside0.mk H
 clear H
 go_enter Try.func80, Try.ntmps80
 go_wp2_with (first | ((with_reducible refine gate_dst (N := 2) rfl ?_); refine box_event ?hg (N := 2) ?hd (cs := #[.slice A0_0 l0_0.length c0_0]) (t := 26) ?hr ?_; (case hd => rfl); (case hg => rfl); (case hr => exact gs); intro gb356 hg w5 hbox hb; have BK356 := Aside0.mk (hbox); have GW356 := Aside0.mk (geb hg hq : w.heap.size ≤ gb356); have GE356 := Aside0.mk (geb hg hq : w.heap.size ≤ gb356); replace HB := Aside0.mk (below_step hq hb); clear hb hbox hg) | ((with_reducible refine gate_dst (N := 8) rfl ?_); refine Kd.R_lit (Kd.int .i64) _ 2 ?hg (N := 8) ?hd (xs := ([] : List Int)) (inner := []) (ok := fun _ => True) (okp := fun _ => True) ?hr ?hp (fun _ hk => hk) trivial (Below.refl _ _) (Nat.le_refl _) (by simp) ?_; (case hd => rfl); (case hg => rfl); (case hr => exact gs); (case hp => exact (Reps.none _ _)); intro v358 w6 ho7 hb hg_ hnew_; clear hg_ hnew_; (first | rw [← Ny357.out] at ho7 | (simp only [Int.reduceToNat] at ho7; rw [← Ny357.out] at ho7)); have HO359 := Aside0.mk (Kd.R_lower ho7 (below_size hq)); replace BK356 := bb BK356 hb; replace HB := Aside0.mk (below_step hq hb); clear hb ho7; have hcz8_0 : w6.cell? ⟨gb356, 0, none⟩ = some (.slice A0_0 l0_0.length c0_0) := (blk_cell BK356.out 0).trans rfl; have hfz8_0 := blk_frozen BK356.out 0; have p360 : 0 ≤ (a1 : Int) := of_decide_eq_true q6_0; have q360 : a1 < (l0_0.length : Int) := of_decide_eq_true q6_0; obtain ⟨ad360, e360, hx360_0⟩ := Kd.at_int HR0_0.out a1 p360 q360; cases e360; replace hx360_0 := (HB.out.cell (World.block_lt_of_cell? w _ hx360_0)).trans hx360_0; replace p360 := eq_true p360; replace q360 := eq_true q360))
 go_loopg [5, 6, 7] k (fun kq v5 v6 v7 w' => ∃ (x5_1 : List Int) (x6_1 : Int) (x7_1 : Int), v6 = .int .i64 x6_1 ∧ v7 = .int .i64 x7_1 ∧ Aside0 (spec_l01Children.l0 kq x5_1 x6_1 x7_1 l0_0 = some r) ∧ Aside0 (kq ≤ k) ∧ Aside0 (Kd.R (Kd.int .i64) 2 w' w.heap.size (fun _ => True) v5 x5_1) ∧ Aside0 (w'.heap[gb356]? = some (.cells #[(.slice (some ad360) l0_0.length c0_0)] 26 (0, 0))) ∧ Aside0 (Below w.heap.size w w'))
 case atStart => exact ⟨(y357), (wrap64 (a1 + 1)), (rd l0_0 a1), q6_1, q6_1, H', ⟨Nat.le_refl _⟩, ⟨pe HO359.out⟩, ⟨pb BK356.out⟩, ⟨hq⟩⟩
 case round =>
  clear H'
  try clear p2
  try clear c3
  try clear c3b0
  try clear p3
  try clear q3
  try clear hx3
  try clear c4
  try clear c4b0
  try clear p6
  try clear c8
  try clear hcz8_0
  try clear hfz8_0
  try clear hx360_0
  try clear p360
  try clear q360
  obtain ⟨x5_1, x6_1, x7_1, rfl, rfl, HA, HK1, HO_5, BK356, HB⟩ := hrel
  cases gk with | zero => exact absurd HA.out (by simp [spec_l01Children.l0]) | succ k1 => ?_
  have H := HA.out
  clear HA
  simp only [spec_l01Children.l0] at H
  by_cases c9 : x7_1 > 0
  rotate_left
  ·rw [if_neg c9] at H
   have c9b0 : decide (0 < x7_1) = false := decide_eq_false c9
   clear c9
   obtain rfl := Option.some.inj H
   go_wp2
   go_ret
   exact ⟨_, ew, pe HO_5.out, hq⟩
  rw [if_pos c9] at H
  have c9b0 : decide (0 < x7_1) = true := decide_eq_true c9
  clear c9
  by_cases c10 : x5_1.length < 17592186044416
  rotate_left
  ·rw [if_neg c10] at H
   exact absurd H (by simp)
  rw [if_pos c10] at H
  have LMc10 := Aside0.mk c10
  clear c10
  obtain ⟨y361, hy361⟩ : ∃ y_ : List Int, y_ = (x5_1 ++ [x6_1]) := ⟨_, rfl⟩
  replace H : ((spec_l01End.f k1 l0_0 x6_1).bind fun t364 => (spec_l01Children.l0 k1 y361 t364 (wrap64 (x7_1 - 1)) l0_0)) = some r := by first | (rw [hy361]; with_reducible exact H) | (have H2_ := (Option.bind_some _ _).symm.trans H; rw [hy361]; with_reducible exact H2_) | (have H2_ := (Option.bind_some _ _).symm.trans H; with_reducible exact H2_) | with_reducible exact H | (rw [hy361]; exact H) | exact H
  have Ny361 := Aside0.mk hy361
  clear hy361
  replace H := Option.bind_eq_some_iff.mp H
  obtain ⟨t364, A110, H⟩ := H
  replace H : (spec_l01Children.l0 k1 y361 t364 (wrap64 (x7_1 - 1)) l0_0) = some r := H
  have A11 := Aside0.mk A110
  clear A110
  have H' := Aside0.mk H
  clear H
  go_wp2_with (first | ((with_reducible refine gate_builtin (b := .append) (xs := #[.tmp 20, .tmp 22]) rfl ?_); at_builtin; refine Kd.R_append (Kd.int .i64) (w0 := w) w.heap.size rfl (.tmp 20) (.tmp 22) 24 2 (.int .i64 0) 8 rfl Try.underlying24 info2 rfl (by decide) (by omega) u5 x5_1 x6_1 [.int .i64 x6_1] (fun _ => True) (fun _ => False) rfl rfl ?aP (fun _ hk => hk.elim) ?aF ?aO ?aB ?aS ?aL ?_; (case aP => exact rfl); (case aB => exact hq); (case aF => exact (fun _ _ => trivial)); (case aO => exact (pe HO_5.out)); (case aS => exact (below_size hq)); (case aL => have := LMc10.out; omega); intro v362 w12 ho hb hg hat; rw [← Ny361.out] at ho; replace BK356 := Aside0.mk (blk_grown (g := gb356) (o := .cells #[.slice (some ad360) l0_0.length c0_0] 26 (0, 0)) (pb BK356.out) hg (Kd.R_ne HO_5.out BK356.out (by decide))); replace HB := Aside0.mk (hb); have HO363 := Aside0.mk (ho); clear HO_5; clear ho hb hg hat; have hcz13_0 : w12.cell? ⟨gb356, 0, none⟩ = some (.slice (some ad360) l0_0.length c0_0) := (blk_cell BK356.out 0).trans rfl; have hfz13_0 := blk_frozen BK356.out 0) | ((with_reducible refine gate_callee (f := 51) rfl ?_); refine goesL_ (some 26) rfl rfl Try.func51 (by kernel_rfl) rfl #[.agg #[.slice (some ad360) l0_0.length c0_0], .int .i64 x6_1] rfl am ?_; (with_reducible refine (spec_l01End.calls k1 _ _ l0_0 x6_1 t364 _ ?side1 ?side2 A11.out).mono ?_); (case side1 => exact pc (Kd.C_below HR0_0.out HB.out)); (case side2 => exact HC0_0.out); rintro e w14 ⟨rfl, hb⟩; refine ⟨_, rfl, ?_⟩; replace HO363 := rb HO363 hb; replace BK356 := bb BK356 hb; replace HB := Aside0.mk (below_step hq hb); (try clear hb); (try clear hb2); (try clear hk); (try clear hi)))
  go_roundg k1
  case measure => have := HK1.out; omega
  case rel => exact ⟨(y361), (t364), (wrap64 (x7_1 - 1)), q6_1, q6_1, H', ⟨by have := HK1.out; omega⟩, ⟨pe HO363.out⟩, ⟨pb BK356.out⟩, ⟨hq⟩⟩

/-! ### spec_l01Parents: function 42 -/
mutual
def spec_l01Parents.l0 : Nat → List Int → Int → List Int → Option (List Int)
 | 0, _, _, _ => none
 | k + 1, x3, x4, x366000 => (spec_l01N.f x366000).bind fun t371 => (if x4 < t371 then ((spec_l01Children.f k x366000 x4).bind fun t372 => (spec_l01Parents.l1 k x3 x4 t372 0 x366000)) else (some x3))
def spec_l01Parents.l1 : Nat → List Int → Int → List Int → Int → List Int → Option (List Int)
 | 0, _, _, _, _, _ => none
 | k + 1, x3, x4, x5, x6, x366000 => if x6 < (x5.length : Int) then (if 0 ≤ x6 then (if 0 ≤ (rd x5 x6) then (if (rd x5 x6) < (x3.length : Int) then (spec_l01Parents.l1 k (x3.set ((rd x5 x6) : Int).toNat x4) x4 x5 (wrap64 (x6 + 1)) x366000) else (none)) else (none)) else (none)) else (spec_l01Parents.l0 k x3 (wrap64 (x4 + 1)) x366000)
end
def spec_l01Parents.f (k : Nat) (l0_0 : List Int) : Option (List Int) := (spec_l01N.f l0_0).bind fun t366 => (if 0 ≤ t366 then (if (t366 : Int).toNat ≤ 35184372088832 then ((some (List.replicate (t366 : Int).toNat 0 : List Int)).bind fun y367 => (if 0 < (y367.length : Int) then (spec_l01Parents.l0 k (y367.set (0 : Int).toNat (-1)) 0 l0_0) else (none))) else (none)) else (none))
theorem spec_l01Parents.mo0 {P : Prop} (h : P := by repeat' first  | (with_reducible exact ih0 _ _ _) | (with_reducible exact ih1 _ _ _ _ _) | (with_reducible exact spec_l01Children.mono _ _ _) | (with_reducible exact LeO.refl _) | (with_reducible exact LeO.none _) | (with_reducible refine LeO.ite ?_ ?_) | (with_reducible refine LeO.bind ?_ (fun _ => ?_)) | exact ih0 _ _ _ | exact ih1 _ _ _ _ _ | exact spec_l01Children.mono _ _ _ | exact LeO.none _ | refine LeO.ite ?_ ?_ | refine LeO.bind ?_ (fun _ => ?_)) : P := h
theorem spec_l01Parents.mono_l : ∀ k, (∀ y0 y1 y2, LeO (spec_l01Parents.l0 k y0 y1 y2) (spec_l01Parents.l0 (k + 1) y0 y1 y2)) ∧ (∀ y0 y1 y2 y3 y4, LeO (spec_l01Parents.l1 k y0 y1 y2 y3 y4) (spec_l01Parents.l1 (k + 1) y0 y1 y2 y3 y4))
 | 0 => ⟨fun _ _ _ r h => by simp [spec_l01Parents.l0] at h, fun _ _ _ _ _ r h => by simp [spec_l01Parents.l1] at h⟩
 | k + 1 => by
  obtain ⟨ih0, ih1⟩ := spec_l01Parents.mono_l k
  refine ⟨?_, ?_⟩
  ·intro y0 y1 y2
   unfold spec_l01Parents.l0
   exact spec_l01Parents.mo0
  ·intro y0 y1 y2 y3 y4
   unfold spec_l01Parents.l1
   exact spec_l01Parents.mo0
theorem spec_l01Parents.mono : ∀ a0 k, LeO (spec_l01Parents.f k a0) (spec_l01Parents.f (k + 1) a0) := by
 intro a0 k
 obtain ⟨ih0, ih1⟩ := spec_l01Parents.mono_l k
 unfold spec_l01Parents.f
 repeat' first
   | (with_reducible exact ih0 _ _ _)
   | (with_reducible exact ih1 _ _ _ _ _)
   | (with_reducible exact spec_l01Children.mono _ _ _)
   | (with_reducible exact LeO.refl _)
   | (with_reducible exact LeO.none _)
   | (with_reducible refine LeO.ite ?_ ?_)
   | (with_reducible refine LeO.bind ?_ (fun _ => ?_))
   | exact ih0 _ _ _
   | exact ih1 _ _ _ _ _
   | exact spec_l01Children.mono _ _ _
   | exact LeO.none _
   | refine LeO.ite ?_ ?_
   | refine LeO.bind ?_ (fun _ => ?_)
set_option maxHeartbeats 8000000 in
set_option maxRecDepth 100000 in
theorem spec_l01Parents.calls (k : Nat) (A0_0 : Option Addr) (c0_0 : Nat) (l0_0 : List Int) (r : List Int) (w : World) (hr0_0 : Kd.C (Kd.int .i64) w A0_0 l0_0.length l0_0) (hc0_0 : l0_0.length ≤ c0_0) (h : spec_l01Parents.f k l0_0 = some r) :
  Calls Try.prog 42 #[.agg #[.slice A0_0 l0_0.length c0_0]] w fun e w' => ∃ v0_ : Value, e = .returned (v0_) ∧ Kd.R (Kd.int .i64) 2 w' w.heap.size (fun _ => True) v0_ r ∧ Below w.heap.size w w' := by
 have hu26 := Try.underlying26
 have HR0_0 := Aside0.mk hr0_0
 have HC0_0 := Aside0.mk hc0_0
 clear hr0_0 hc0_0
 have HB := Aside0.mk (Below.refl w.heap.size w)
 have H : ((spec_l01N.f l0_0).bind fun t366 => (if 0 ≤ t366 then (if (t366 : Int).toNat ≤ 35184372088832 then ((some (List.replicate (t366 : Int).toNat 0 : List Int)).bind fun y367 => (if 0 < (y367.length : Int) then (spec_l01Parents.l0 k (y367.set (0 : Int).toNat (-1)) 0 l0_0) else (none))) else (none)) else (none))) = some r := h
 clear h
 replace H := Option.bind_eq_some_iff.mp H
 obtain ⟨t366, A20, H⟩ := H
 replace H : (if 0 ≤ t366 then (if (t366 : Int).toNat ≤ 35184372088832 then ((some (List.replicate (t366 : Int).toNat 0 : List Int)).bind fun y367 => (if 0 < (y367.length : Int) then (spec_l01Parents.l0 k (y367.set (0 : Int).toNat (-1)) 0 l0_0) else (none))) else (none)) else (none)) = some r := H
 have A2 := Aside0.mk A20
 clear A20
 by_cases c3 : 0 ≤ t366
 rotate_left
 ·rw [if_neg c3] at H
  exact absurd H (by simp)
 rw [if_pos c3] at H
 have c3b0 := eq_true c3
 have c3b1 : decide (0 ≤ t366) = true := decide_eq_true c3
 clear c3
 by_cases c4 : (t366 : Int).toNat ≤ 35184372088832
 rotate_left
 ·rw [if_neg c4] at H
  exact absurd H (by simp)
 rw [if_pos c4] at H
 have c4b0 := eq_true c4
 have c4b1 : decide ((t366 : Int).toNat ≤ 35184372088832) = true := decide_eq_true c4
 clear c4
 obtain ⟨y367, hy367⟩ : ∃ y_ : List Int, y_ = (List.replicate (t366 : Int).toNat 0) := ⟨_, rfl⟩
 replace H : (if 0 < (y367.length : Int) then (spec_l01Parents.l0 k (y367.set (0 : Int).toNat (-1)) 0 l0_0) else (none)) = some r := by first | (rw [hy367]; with_reducible exact H) | (have H2_ := (Option.bind_some _ _).symm.trans H; rw [hy367]; with_reducible exact H2_) | (have H2_ := (Option.bind_some _ _).symm.trans H; with_reducible exact H2_) | with_reducible exact H | (rw [hy367]; exact H) | exact H
 have Ny367 := Aside0.mk hy367
 clear hy367
 by_cases c5 : 0 < (y367.length : Int)
 rotate_left
 ·rw [if_neg c5] at H
  exact absurd H (by simp)
 rw [if_pos c5] at H
 have c5b0 : decide (0 < (y367.length : Int)) = true := decide_eq_true c5
 have c5b1 : decide (0 < y367.length) = true := decide_eq_true (by omega)
 clear c5
 obtain ⟨y370, hy370⟩ : ∃ y_ : List Int, y_ = (y367.set (0 : Int).toNat (-1)) := ⟨_, rfl⟩
 replace H : (spec_l01Parents.l0 k y370 0 l0_0) = some r := by first | (rw [hy370]; with_reducible exact H) | (have H2_ := (Option.bind_some _ _).symm.trans H; rw [hy370]; with_reducible exact H2_) | (have H2_ := (Option.bind_some _ _).symm.trans H; with_reducible exact H2_) | with_reducible exact H | (rw [hy370]; exact H) | exact H
 have Ny370 := Aside0.mk hy370
 clear hy370
 have H' := Aside0.mk H
 clear H
 go_enter Try.func42, Try.ntmps42
 go_wp2_with (first | ((with_reducible refine gate_dst (N := 1) rfl ?_); refine box_event ?hg (N := 1) ?hd (cs := #[.slice A0_0 l0_0.length c0_0]) (t := 26) ?hr ?_; (case hd => rfl); (case hg => rfl); (case hr => exact gs); intro gb365 hg w7 hbox hb; have BK365 := Aside0.mk (hbox); have GW365 := Aside0.mk (geb hg hq : w.heap.size ≤ gb365); have GE365 := Aside0.mk (geb hg hq : w.heap.size ≤ gb365); replace HB := Aside0.mk (below_step hq hb); clear hb hbox hg; have hcz8_0 : w7.cell? ⟨gb365, 0, none⟩ = some (.slice A0_0 l0_0.length c0_0) := (blk_cell BK365.out 0).trans rfl; have hfz8_0 := blk_frozen BK365.out 0) | ((with_reducible refine gate_callee (f := 44) rfl ?_); refine goesL_ (some 8) rfl rfl Try.func44 (by kernel_rfl) rfl #[.agg #[.slice A0_0 l0_0.length c0_0]] rfl am ?_; (with_reducible refine (spec_l01N.calls _ _ l0_0 t366 _ ?side1 ?side2 A2.out).mono ?_); (case side1 => exact pc (Kd.C_below HR0_0.out HB.out)); (case side2 => exact HC0_0.out); rintro e w9 ⟨rfl, hb⟩; refine ⟨_, rfl, ?_⟩; replace BK365 := bb BK365 hb; replace HB := Aside0.mk (below_step hq hb); (try clear hb); (try clear hb2); (try clear hk); (try clear hi)) | ((with_reducible refine gate_dst (N := 9) rfl ?_); refine Kd.R_make (Kd.int .i64) _ 2 rfl (N := 9) rfl 24 _ _ rfl t366 rfl rfl Try.underlying24 (.int .i64 0) 8 info2 rfl (by decide) (by omega) 0 (ok := fun _ => True) (okp := fun _ => True) rfl (fun _ hk => hk) trivial (of_decide_eq_true q6_0) (Nat.le_trans (Nat.mul_le_mul_right _ (of_decide_eq_true q6_0 : t366.toNat ≤ 35184372088832)) (by omega)) (Below.refl _ _) (Nat.le_refl _) ?_; intro v368 w10 ho11 hb hg_ hnew_; clear hg_ hnew_; (first | rw [← Ny367.out] at ho11 | (simp only [Int.reduceToNat] at ho11; rw [← Ny367.out] at ho11)); have HO369 := Aside0.mk (Kd.R_lower ho11 (below_size hq)); replace BK365 := bb BK365 hb; replace HB := Aside0.mk (below_step hq hb); clear hb ho11; have p6 : 0 ≤ (0 : Int) := (by omega); have q6 : (0 : Int) < ((y367.length : Int) : Int) := of_decide_eq_true q6_0; have qi6 : (0 < y367.length) = True := eq_true (by omega); obtain ⟨go6, co6, eo6, gb6, gl6, cl6, HG6⟩ := Kd.R_form HO369.out (by omega); (first | cases eo6 | (injection eo6 with ea_ en_ ec_; (first | subst ea_ | (injection ea_ with ea_; subst ea_)); subst ec_; clear en_)); have GB6 := Aside0.mk gb6; have GG6 := Aside0.mk HG6; clear gb6 gl6 HG6; obtain ⟨hx6_0, hf6_0⟩ := Kd.R_celln 0 HO369.out (0 : Int) p6 q6; (try rw [show (0 : Int).toNat = 0 from rfl] at hx6_0); (try simp only [Nat.reduceMul, Nat.zero_mul, Nat.zero_add, Nat.reduceAdd] at hx6_0); (try rw [show (0 : Int).toNat = 0 from rfl] at hf6_0); (try simp only [Nat.reduceMul, Nat.zero_mul, Nat.zero_add, Nat.reduceAdd] at hf6_0); replace p6 := eq_true p6; replace q6 := eq_true q6; obtain ⟨hy12_, hz12_⟩ := Kd.R_celln 0 HO369.out (0 : Int) (by omega) (of_decide_eq_true q6_0); (try simp only [Int.reduceToNat, Int.toNat_zero, Int.toNat_ofNat, Nat.reduceMul, Nat.zero_mul, Nat.zero_add] at hy12_ hz12_); (try rw [show (0 : Int).toNat = 0 from rfl] at hy12_); (try rw [show (0 : Int).toNat = 0 from rfl] at hz12_); have HP12 := Kd.R_putg HO369.out (0 : Int) (-1)) | ((with_reducible refine gate_store (t := 2) (p := 11) rfl ?_); refine store_event (t := 2) (p := 11) (v := ?vo_w13) (w1 := (w10.setCell ⟨go6, (0 : Int).toNat, none⟩ (.int .i64 (-1)))) ?hg ?ho ?hn ?hr ?_; (case ho => rfl); (case hg => rfl); (case hn => rfl); (case hr => exact gs); intro w13 hw; have hg : w10.grownBy w13 (some go6) := (by rw [hw]; exact HP12.2); have hp_ : Kd.R (Kd.int .i64) 2 w13 w.heap.size (fun _ => True) (.slice (some ⟨go6, 0, none⟩) y367.length co6) y370 := (by rw [hw, Ny370.out]; exact HP12.1); clear HP12; replace BK365 := Aside0.mk (blk_grown (g := gb365) (o := .cells #[.slice A0_0 l0_0.length c0_0] 26 (0, 0)) (pb BK365.out) hg (Kd.R_ne HO369.out BK365.out (by decide))); replace HO369 := Aside0.mk (hp_); replace HB := Aside0.mk (by rw [hw]; exact below_set (HB.out) GB6.out : Below w.heap.size w w13); clear hg hw hp_))
 go_loopg [4] k (fun kq v4 w' => ∃ (x3_1 : List Int) (x4_1 : Int), v4 = .int .i64 x4_1 ∧ Aside0 (spec_l01Parents.l0 kq x3_1 x4_1 l0_0 = some r) ∧ Aside0 (kq ≤ k) ∧ Aside0 (Kd.R (Kd.int .i64) 2 w' w.heap.size (fun _ => True) (.slice (some ⟨go6, 0, none⟩) y367.length co6) x3_1) ∧ Aside0 (w'.heap[gb365]? = some (.cells #[(.slice A0_0 l0_0.length c0_0)] 26 (0, 0))) ∧ Aside0 (Below w.heap.size w w'))
 case atStart => exact ⟨(y370), (0), q6_1, H', ⟨Nat.le_refl _⟩, ⟨pe HO369.out⟩, ⟨pb BK365.out⟩, ⟨hq⟩⟩
 case round =>
  clear H'
  try clear p2
  try clear c3
  try clear c3b0
  try clear c3b1
  try clear c4
  try clear c4b0
  try clear c4b1
  try clear c5
  try clear c5b0
  try clear c5b1
  try clear p6
  try clear q6
  try clear hx6
  try clear qi6
  try clear hf6
  try clear hcz8_0
  try clear hfz8_0
  try clear hx6_0
  try clear p6
  try clear q6
  obtain ⟨x3_1, x4_1, rfl, HA, HK1, HO_3, BK365, HB⟩ := hrel
  have hl3_1 := (Kd.R_reads' HO_3.out).1
  rw [hl3_1] at HO_3
  (try simp only [hl3_1])
  (try simp only [hl3_1] at BK365)
  cases gk with | zero => exact absurd HA.out (by simp [spec_l01Parents.l0]) | succ k1 => ?_
  have H := HA.out
  clear HA
  simp only [spec_l01Parents.l0] at H
  replace H := Option.bind_eq_some_iff.mp H
  obtain ⟨t371, A140, H⟩ := H
  replace H : (if x4_1 < t371 then ((spec_l01Children.f k1 l0_0 x4_1).bind fun t372 => (spec_l01Parents.l1 k1 x3_1 x4_1 t372 0 l0_0)) else (some x3_1)) = some r := H
  have A14 := Aside0.mk A140
  clear A140
  by_cases c15 : x4_1 < t371
  rotate_left
  ·rw [if_neg c15] at H
   have c15b0 : decide (x4_1 < t371) = false := decide_eq_false c15
   clear c15
   obtain rfl := Option.some.inj H
   have hcz30_0 : wr.cell? ⟨gb365, 0, none⟩ = some (.slice A0_0 l0_0.length c0_0) := (blk_cell BK365.out 0).trans rfl
   have hfz30_0 := blk_frozen BK365.out 0
   go_wp2_with (first | ((with_reducible refine gate_callee (f := 44) rfl ?_); refine goesL_ (some 14) rfl rfl Try.func44 (by kernel_rfl) rfl #[.agg #[.slice A0_0 l0_0.length c0_0]] rfl am ?_; (with_reducible refine (spec_l01N.calls _ _ l0_0 t371 _ ?side1 ?side2 A14.out).mono ?_); (case side1 => exact pc (Kd.C_below HR0_0.out HB.out)); (case side2 => exact HC0_0.out); rintro e w31 ⟨rfl, hb⟩; refine ⟨_, rfl, ?_⟩; replace HO_3 := rb HO_3 hb; replace BK365 := bb BK365 hb; replace HB := Aside0.mk (below_step hq hb); (try clear hb); (try clear hb2); (try clear hk); (try clear hi)))
   go_ret
   exact ⟨_, ew, pe HO_3.out, hq⟩
  rw [if_pos c15] at H
  have c15b0 : decide (x4_1 < t371) = true := decide_eq_true c15
  clear c15
  replace H := Option.bind_eq_some_iff.mp H
  obtain ⟨t372, A160, H⟩ := H
  replace H : (spec_l01Parents.l1 k1 x3_1 x4_1 t372 0 l0_0) = some r := H
  have A16 := Aside0.mk A160
  clear A160
  have H' := Aside0.mk H
  clear H
  have hcz17_0 : wr.cell? ⟨gb365, 0, none⟩ = some (.slice A0_0 l0_0.length c0_0) := (blk_cell BK365.out 0).trans rfl
  have hfz17_0 := blk_frozen BK365.out 0
  go_wp2_with (first | ((with_reducible refine gate_callee (f := 44) rfl ?_); refine goesL_ (some 14) rfl rfl Try.func44 (by kernel_rfl) rfl #[.agg #[.slice A0_0 l0_0.length c0_0]] rfl am ?_; (with_reducible refine (spec_l01N.calls _ _ l0_0 t371 _ ?side1 ?side2 A14.out).mono ?_); (case side1 => exact pc (Kd.C_below HR0_0.out HB.out)); (case side2 => exact HC0_0.out); rintro e w18 ⟨rfl, hb⟩; refine ⟨_, rfl, ?_⟩; replace HO_3 := rb HO_3 hb; replace BK365 := bb BK365 hb; replace HB := Aside0.mk (below_step hq hb); (try clear hb); (try clear hb2); (try clear hk); (try clear hi); have hcz19_0 : w18.cell? ⟨gb365, 0, none⟩ = some (.slice A0_0 l0_0.length c0_0) := (blk_cell BK365.out 0).trans rfl; have hfz19_0 := blk_frozen BK365.out 0) | ((with_reducible refine gate_callee (f := 80) rfl ?_); refine goesL_ (some 20) rfl rfl Try.func80 (by kernel_rfl) rfl #[.agg #[.slice A0_0 l0_0.length c0_0], .int .i64 x4_1] rfl am ?_; (with_reducible refine (spec_l01Children.calls k1 _ _ l0_0 x4_1 t372 _ ?side1 ?side2 A16.out).mono ?_); (case side1 => exact pc (Kd.C_below HR0_0.out HB.out)); (case side2 => exact HC0_0.out); rintro e w20 ⟨v373, rfl, ho0, hb⟩; refine ⟨_, rfl, ?_⟩; have HO374 := Aside0.mk (Kd.R_lower (Kd.R_new' ho0 (Kd.R_lt (pe HO_3.out))) (below_size hq)); replace HO_3 := rn HO_3 ho0 hb; replace BK365 := bb BK365 hb; replace HB := Aside0.mk (below_step hq hb); (try clear hb); (try clear hb2); (try clear hk); (try clear hi); (try clear ho0)))
  go_loopg [6] k1 (fun kq v6 w' => ∃ (x3_2 : List Int) (x6_2 : Int), v6 = .int .i64 x6_2 ∧ Aside0 (spec_l01Parents.l1 kq x3_2 x4_1 t372 x6_2 l0_0 = some r) ∧ Aside0 (kq ≤ k1) ∧ Aside0 (Kd.R (Kd.int .i64) 2 w' w.heap.size (fun k_ => some k_ ≠ (v373 : Value).ownBlock) (.slice (some ⟨go6, 0, none⟩) x3_1.length co6) x3_2) ∧ Aside0 (Kd.R (Kd.int .i64) 2 w' w.heap.size (fun k_ => some k_ ≠ ((.slice (some ⟨go6, 0, none⟩) x3_1.length co6) : Value).ownBlock) v373 t372) ∧ Aside0 (w'.heap[gb365]? = some (.cells #[(.slice A0_0 l0_0.length c0_0)] 26 (0, 0))) ∧ Aside0 (Below w.heap.size w w'))
  case atStart => exact ⟨(x3_1), (0), q6_1, H', ⟨Nat.le_refl _⟩, ⟨by (try simp only [hl3_1]); exact pe (Kd.R_mono HO_3.out (fun _ hk => hk.2))⟩, ⟨by (try simp only [hl3_1]); exact pe (Kd.R_mono HO374.out (fun _ hk => hk.2))⟩, ⟨by (try simp only [hl3_1]); exact pb BK365.out⟩, ⟨hq⟩⟩
  case round =>
   clear H'
   try clear c1
   try clear p2
   try clear c3
   try clear c3b0
   try clear c3b1
   try clear c4
   try clear c4b0
   try clear c4b1
   try clear c5
   try clear c5b0
   try clear c5b1
   try clear p6
   try clear q6
   try clear hx6
   try clear qi6
   try clear hf6
   try clear c8
   try clear c15
   try clear c15b0
   try clear hcz17_0
   try clear hcz19_0
   try clear hcz8_0
   try clear hfz17_0
   try clear hfz19_0
   try clear hfz8_0
   try clear hx6_0
   try clear p2
   try clear p6
   try clear q6
   obtain ⟨x3_2, x6_2, rfl, HA, HK2, HO_3, HO_5, BK365, HB⟩ := hrel
   have hl3_2 := (Kd.R_reads' HO_3.out).1
   rw [hl3_2] at HO_3
   (try simp only [hl3_2])
   (try simp only [hl3_2] at BK365)
   (try simp only [hl3_2] at HO_5)
   cases gk with | zero => exact absurd HA.out (by simp [spec_l01Parents.l1]) | succ k2 => ?_
   have H := HA.out
   clear HA
   simp only [spec_l01Parents.l1] at H
   by_cases c21 : x6_2 < (t372.length : Int)
   rotate_left
   ·rw [if_neg c21] at H
    have c21b0 : decide (x6_2 < (t372.length : Int)) = false := decide_eq_false c21
    clear c21
    have H' := Aside0.mk H
    clear H
    obtain ⟨Ao29, co29, eo29⟩ := Kd.R_slice HO_5.out
    subst eo29
    go_wp2
    (try simp only [← hl3_1, ← hl3_2])
    go_roundg k2
    case measure => have := HK1.out; have := HK2.out; omega
    case rel => exact ⟨(x3_2), (wrap64 (x4_1 + 1)), q6_1, H', ⟨by have := HK1.out; have := HK2.out; omega⟩, ⟨by (try simp only [hl3_1]); (try simp only [hl3_2]); exact pe (Kd.R_mono HO_3.out (fun _ hk => trivial))⟩, ⟨by (try simp only [hl3_1]); (try simp only [hl3_2]); exact pb BK365.out⟩, ⟨hq⟩⟩
   rw [if_pos c21] at H
   have c21b0 : decide (x6_2 < (t372.length : Int)) = true := decide_eq_true c21
   clear c21
   by_cases c22 : 0 ≤ x6_2
   rotate_left
   ·rw [if_neg c22] at H
    exact absurd H (by simp)
   rw [if_pos c22] at H
   have c22b0 : decide (0 ≤ x6_2) = true := decide_eq_true c22
   clear c22
   by_cases c23 : 0 ≤ (rd t372 x6_2)
   rotate_left
   ·rw [if_neg c23] at H
    exact absurd H (by simp)
   rw [if_pos c23] at H
   have c23b0 : decide (0 ≤ (rd t372 x6_2)) = true := decide_eq_true c23
   clear c23
   by_cases c24 : (rd t372 x6_2) < (x3_2.length : Int)
   rotate_left
   ·rw [if_neg c24] at H
    exact absurd H (by simp)
   rw [if_pos c24] at H
   have c24b0 : decide ((rd t372 x6_2) < (x3_2.length : Int)) = true := decide_eq_true c24
   clear c24
   obtain ⟨y376, hy376⟩ : ∃ y_ : List Int, y_ = (x3_2.set ((rd t372 x6_2) : Int).toNat x4_1) := ⟨_, rfl⟩
   replace H : (spec_l01Parents.l1 k2 y376 x4_1 t372 (wrap64 (x6_2 + 1)) l0_0) = some r := by first | (rw [hy376]; with_reducible exact H) | (have H2_ := (Option.bind_some _ _).symm.trans H; rw [hy376]; with_reducible exact H2_) | (have H2_ := (Option.bind_some _ _).symm.trans H; with_reducible exact H2_) | with_reducible exact H | (rw [hy376]; exact H) | exact H
   have Ny376 := Aside0.mk hy376
   clear hy376
   have H' := Aside0.mk H
   clear H
   obtain ⟨Ao26, co26, eo26⟩ := Kd.R_slice HO_5.out
   subst eo26
   have p375 : 0 ≤ (x6_2 : Int) := of_decide_eq_true q6_0
   have q375 : x6_2 < (t372.length : Int) := of_decide_eq_true q6_0
   (try (obtain ⟨Aop_, cop_, eop_⟩ := Kd.R_slice HO_5.out; subst eop_))
   obtain ⟨ad375, e375, hx375_0⟩ := Kd.at_int (Kd.R_reads' HO_5.out).2.2 x6_2 p375 q375
   cases e375
   replace p375 := eq_true p375
   replace q375 := eq_true q375
   have p25 : 0 ≤ ((rd t372 x6_2) : Int) := of_decide_eq_true q6_0
   have q25 : ((rd t372 x6_2) : Int) < ((x3_2.length : Int) : Int) := of_decide_eq_true q6_0
   obtain ⟨hx25_0, hf25_0⟩ := Kd.R_celln 0 HO_3.out ((rd t372 x6_2) : Int) p25 q25
   replace p25 := eq_true p25
   replace q25 := eq_true q25
   have HP27 := Kd.R_putg HO_3.out ((rd t372 x6_2) : Int) x4_1
   go_wp2_with (first | ((with_reducible refine gate_store (t := 2) (p := 33) rfl ?_); refine store_event (t := 2) (p := 33) (v := ?vo_w28) (w1 := (wr.setCell ⟨go6, ((rd t372 x6_2) : Int).toNat, none⟩ (.int .i64 x4_1))) ?hg ?ho ?hn ?hr ?_; (case ho => rfl); (case hg => rfl); (case hn => rfl); (case hr => exact gs); intro w28 hw; have hg : wr.grownBy w28 (some go6) := (by rw [hw]; exact HP27.2); have hp_ : Kd.R (Kd.int .i64) 2 w28 w.heap.size (fun k_ => some k_ ≠ (.slice (some ad375) t372.length co26 : Value).ownBlock) (.slice (some ⟨go6, 0, none⟩) x3_2.length co6) y376 := (by rw [hw, Ny376.out]; exact HP27.1); clear HP27; replace HO_5 := Aside0.mk (Kd.R_after (v := (.slice (some ⟨go6, 0, none⟩) x3_2.length co6)) (v1 := (.slice (some ⟨go6, 0, none⟩) x3_2.length co6)) (ok := (fun _ => True)) (pe (Kd.R_mono HO_5.out (fun _ hk => ⟨trivial, hk⟩))) hg (.inl rfl)); replace BK365 := Aside0.mk (blk_grown (g := gb365) (o := .cells #[.slice A0_0 l0_0.length c0_0] 26 (0, 0)) (pb BK365.out) hg (Kd.R_ne HO_3.out BK365.out (by decide))); replace HO_3 := Aside0.mk (hp_); replace HB := Aside0.mk (by rw [hw]; exact below_set (HB.out) GB6.out : Below w.heap.size w w28); clear hg hw hp_))
   (try simp only [← hl3_2])
   go_roundg k2
   case measure => have := HK1.out; have := HK2.out; omega
   case rel => exact ⟨(y376), (wrap64 (x6_2 + 1)), q6_1, H', ⟨by have := HK1.out; have := HK2.out; omega⟩, ⟨by (try simp only [hl3_1]); (try simp only [hl3_2]); exact pe HO_3.out⟩, ⟨by (try simp only [hl3_1]); (try simp only [hl3_2]); exact pe (Kd.R_mono HO_5.out (fun _ hk => hk.2))⟩, ⟨by (try simp only [hl3_1]); (try simp only [hl3_2]); exact pb BK365.out⟩, ⟨hq⟩⟩

end Go.Proofs.Ytlppkilencpmeaa.QFnHeavyPaths
