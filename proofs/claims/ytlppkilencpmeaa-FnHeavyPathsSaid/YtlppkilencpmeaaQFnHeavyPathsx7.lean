/- Functions as Lean functions, with their contracts: written by a program of this claim over the translation; some contracts are proved by hand. -/
import Derived.Test.YtlppkilencpmeaaQFnHeavyPathsx0
import Derived.Test.YtlppkilencpmeaaQFnHeavyPathsx1
import Derived.Test.YtlppkilencpmeaaQFnHeavyPathsx6
namespace Go.Proofs.Ytlppkilencpmeaa.QFnHeavyPaths
open Go.RowKit Go.Proofs.Ytlppkilencpmeaa.Gl Go.Proofs.Ytlppkilencpmeaa.Sz Go.Proofs.YtlppkilencpmeaaW.PrintWords Go.Proofs.YtlppkilencpmeaaW.PrintLast Go.Proofs.YtlppkilencpmeaaW.PrintMore
attribute [local go_sem] max2_int min2_int max_two min_two max_three min_three max_four min_four   -- for this text's walks alone
set_option linter.unusedVariables false
set_option linter.unusedSimpArgs false
theorem q7_0 {P : Prop} (h : P := by first | (with_reducible assumption) | assumption) : P := h
theorem q7_1 {P : Prop} (h : P := by first | rfl | (simp; done) | (simp [*]; done)) : P := h

/-! ### spec_l08Heavy: function 43 -/
mutual
def spec_l08Heavy.l0 : Nat → List Int → Int → List Int → Option (List Int)
 | 0, _, _, _ => none
 | k + 1, x3, x4, x378000 => (spec_l01N.f x378000).bind fun t381 => (if x4 < t381 then ((spec_l01Children.f k x378000 x4).bind fun t382 => (spec_l08Heavy.l1 k x3 x4 t382 (-1) 0 0 x378000)) else (some x3))
def spec_l08Heavy.l1 : Nat → List Int → Int → List Int → Int → Int → Int → List Int → Option (List Int)
 | 0, _, _, _, _, _, _, _ => none
 | k + 1, x3, x4, x5, x6, x7, x8, x378000 => if x8 < (x5.length : Int) then (if 0 ≤ x8 then ((spec_l01End.f k x378000 (rd x5 x8)).bind fun t386 => (if (wrap64 (t386 - (rd x5 x8))) > x7 then (spec_l08Heavy.l1 k x3 x4 x5 (rd x5 x8) (wrap64 (t386 - (rd x5 x8))) (wrap64 (x8 + 1)) x378000) else (spec_l08Heavy.l1 k x3 x4 x5 x6 x7 (wrap64 (x8 + 1)) x378000))) else (none)) else (if x3.length < 17592186044416 then (spec_l08Heavy.l0 k (x3 ++ [x6]) (wrap64 (x4 + 1)) x378000) else (none))
end
def spec_l08Heavy.f (k : Nat) (l0_0 : List Int) : Option (List Int) := spec_l08Heavy.l0 k ([] : List Int) 0 l0_0
theorem spec_l08Heavy.mo0 {P : Prop} (h : P := by repeat' first  | (with_reducible exact ih0 _ _ _) | (with_reducible exact ih1 _ _ _ _ _ _ _) | (with_reducible exact spec_l01Children.mono _ _ _) | (with_reducible exact spec_l01End.mono _ _ _) | (with_reducible exact LeO.refl _) | (with_reducible exact LeO.none _) | (with_reducible refine LeO.ite ?_ ?_) | (with_reducible refine LeO.bind ?_ (fun _ => ?_)) | exact ih0 _ _ _ | exact ih1 _ _ _ _ _ _ _ | exact spec_l01Children.mono _ _ _ | exact spec_l01End.mono _ _ _ | exact LeO.none _ | refine LeO.ite ?_ ?_ | refine LeO.bind ?_ (fun _ => ?_)) : P := h
theorem spec_l08Heavy.mono_l : ∀ k, (∀ y0 y1 y2, LeO (spec_l08Heavy.l0 k y0 y1 y2) (spec_l08Heavy.l0 (k + 1) y0 y1 y2)) ∧ (∀ y0 y1 y2 y3 y4 y5 y6, LeO (spec_l08Heavy.l1 k y0 y1 y2 y3 y4 y5 y6) (spec_l08Heavy.l1 (k + 1) y0 y1 y2 y3 y4 y5 y6))
 | 0 => ⟨fun _ _ _ r h => by simp [spec_l08Heavy.l0] at h, fun _ _ _ _ _ _ _ r h => by simp [spec_l08Heavy.l1] at h⟩
 | k + 1 => by
  obtain ⟨ih0, ih1⟩ := spec_l08Heavy.mono_l k
  refine ⟨?_, ?_⟩
  ·intro y0 y1 y2
   unfold spec_l08Heavy.l0
   exact spec_l08Heavy.mo0
  ·intro y0 y1 y2 y3 y4 y5 y6
   unfold spec_l08Heavy.l1
   exact spec_l08Heavy.mo0
theorem spec_l08Heavy.mono : ∀ a0 k, LeO (spec_l08Heavy.f k a0) (spec_l08Heavy.f (k + 1) a0) := by
 intro a0 k
 obtain ⟨ih0, ih1⟩ := spec_l08Heavy.mono_l k
 unfold spec_l08Heavy.f
 repeat' first
   | (with_reducible exact ih0 _ _ _)
   | (with_reducible exact ih1 _ _ _ _ _ _ _)
   | (with_reducible exact spec_l01Children.mono _ _ _)
   | (with_reducible exact spec_l01End.mono _ _ _)
   | (with_reducible exact LeO.refl _)
   | (with_reducible exact LeO.none _)
   | (with_reducible refine LeO.ite ?_ ?_)
   | (with_reducible refine LeO.bind ?_ (fun _ => ?_))
   | exact ih0 _ _ _
   | exact ih1 _ _ _ _ _ _ _
   | exact spec_l01Children.mono _ _ _
   | exact spec_l01End.mono _ _ _
   | exact LeO.none _
   | refine LeO.ite ?_ ?_
   | refine LeO.bind ?_ (fun _ => ?_)
def spec_l08Heavy.T9 : Bool × List (List Nat × List Nat) := (true, [([], []), ([], []), ([], []), ([1, 2], [1, 2]), ([3], [3]), ([0, 4], [0, 4]), ([], []), ([], []), ([6, 7], [6, 7]), ([8], [8]), ([5, 9], [5, 9]), ([10, 5, 0, 1, 2, 3, 4, 5, 6, 7, 8, 9, 10], [10])])
def spec_l08Heavy.B9 : List Nat := [0, 0, 0, 6, 14, 31, 0, 0, 192, 448, 1023, 2047]
theorem spec_l08Heavy.tab9 : rtab .any (opsOf Try.f43 9) = spec_l08Heavy.T9 := by kernel_rfl
theorem spec_l08Heavy.bits9 : waitsOk spec_l08Heavy.T9.2 spec_l08Heavy.B9 = true := by kernel_rfl
set_option maxHeartbeats 8000000 in
set_option maxRecDepth 100000 in
theorem spec_l08Heavy.calls (k : Nat) (A0_0 : Option Addr) (c0_0 : Nat) (l0_0 : List Int) (r : List Int) (w : World) (hr0_0 : Kd.C (Kd.int .i64) w A0_0 l0_0.length l0_0) (hc0_0 : l0_0.length ≤ c0_0) (h : spec_l08Heavy.f k l0_0 = some r) :
  Calls Try.prog 43 #[.agg #[.slice A0_0 l0_0.length c0_0]] w fun e w' => ∃ v0_ : Value, e = .returned (v0_) ∧ Kd.R (Kd.int .i64) 2 w' w.heap.size (fun _ => True) v0_ r ∧ Below w.heap.size w w' := by
 have hu26 := Try.underlying26
 have HR0_0 := Aside0.mk hr0_0
 have HC0_0 := Aside0.mk hc0_0
 clear hr0_0 hc0_0
 have HB := Aside0.mk (Below.refl w.heap.size w)
 have H : (spec_l08Heavy.l0 k ([] : List Int) 0 l0_0) = some r := h
 clear h
 obtain ⟨y378, hy378⟩ : ∃ y_ : List Int, y_ = ([] : List Int) := ⟨_, rfl⟩
 replace H : (spec_l08Heavy.l0 k y378 0 l0_0) = some r := by first | (rw [hy378]; with_reducible exact H) | (have H2_ := (Option.bind_some _ _).symm.trans H; rw [hy378]; with_reducible exact H2_) | (have H2_ := (Option.bind_some _ _).symm.trans H; with_reducible exact H2_) | with_reducible exact H | (rw [hy378]; exact H) | exact H
 have Ny378 := Aside0.mk hy378
 clear hy378
 have H' := Aside0.mk H
 clear H
 go_enter Try.func43, Try.ntmps43
 go_wp2_with (first | ((with_reducible refine gate_dst (N := 1) rfl ?_); refine box_event ?hg (N := 1) ?hd (cs := #[.slice A0_0 l0_0.length c0_0]) (t := 26) ?hr ?_; (case hd => rfl); (case hg => rfl); (case hr => exact gs); intro gb377 hg w2 hbox hb; have BK377 := Aside0.mk (hbox); have GW377 := Aside0.mk (geb hg hq : w.heap.size ≤ gb377); have GE377 := Aside0.mk (geb hg hq : w.heap.size ≤ gb377); replace HB := Aside0.mk (below_step hq hb); clear hb hbox hg) | ((with_reducible refine gate_dst (N := 10) rfl ?_); refine Kd.R_lit (Kd.int .i64) _ 2 ?hg (N := 10) ?hd (xs := ([] : List Int)) (inner := []) (ok := fun _ => True) (okp := fun _ => True) ?hr ?hp (fun _ hk => hk) trivial (Below.refl _ _) (Nat.le_refl _) (by simp) ?_; (case hd => rfl); (case hg => rfl); (case hr => exact gs); (case hp => exact (Reps.none _ _)); intro v379 w3 ho4 hb hg_ hnew_; clear hg_ hnew_; (first | rw [← Ny378.out] at ho4 | (simp only [Int.reduceToNat] at ho4; rw [← Ny378.out] at ho4)); have HO380 := Aside0.mk (Kd.R_lower ho4 (below_size hq)); replace BK377 := bb BK377 hb; replace HB := Aside0.mk (below_step hq hb); clear hb ho4))
 go_loopg [3, 4] k (fun kq v3 v4 w' => ∃ (x3_1 : List Int) (x4_1 : Int), v4 = .int .i64 x4_1 ∧ Aside0 (spec_l08Heavy.l0 kq x3_1 x4_1 l0_0 = some r) ∧ Aside0 (kq ≤ k) ∧ Aside0 (Kd.R (Kd.int .i64) 2 w' w.heap.size (fun _ => True) v3 x3_1) ∧ Aside0 (w'.heap[gb377]? = some (.cells #[(.slice A0_0 l0_0.length c0_0)] 26 (0, 0))) ∧ Aside0 (Below w.heap.size w w'))
 case atStart => exact ⟨(y378), (0), q7_1, H', ⟨Nat.le_refl _⟩, ⟨pe HO380.out⟩, ⟨pb BK377.out⟩, ⟨hq⟩⟩
 case round =>
  clear H'
  try clear p2
  try clear c4
  obtain ⟨x3_1, x4_1, rfl, HA, HK1, HO_3, BK377, HB⟩ := hrel
  cases gk with | zero => exact absurd HA.out (by simp [spec_l08Heavy.l0]) | succ k1 => ?_
  have H := HA.out
  clear HA
  simp only [spec_l08Heavy.l0] at H
  replace H := Option.bind_eq_some_iff.mp H
  obtain ⟨t381, A50, H⟩ := H
  replace H : (if x4_1 < t381 then ((spec_l01Children.f k1 l0_0 x4_1).bind fun t382 => (spec_l08Heavy.l1 k1 x3_1 x4_1 t382 (-1) 0 0 l0_0)) else (some x3_1)) = some r := H
  have A5 := Aside0.mk A50
  clear A50
  by_cases c6 : x4_1 < t381
  rotate_left
  ·rw [if_neg c6] at H
   have c6b0 : decide (x4_1 < t381) = false := decide_eq_false c6
   clear c6
   obtain rfl := Option.some.inj H
   have hcz25_0 : wr.cell? ⟨gb377, 0, none⟩ = some (.slice A0_0 l0_0.length c0_0) := (blk_cell BK377.out 0).trans rfl
   have hfz25_0 := blk_frozen BK377.out 0
   go_wp2_with (first | ((with_reducible refine gate_callee (f := 44) rfl ?_); refine goesL_ (some 13) rfl rfl Try.func44 (by kernel_rfl) rfl #[.agg #[.slice A0_0 l0_0.length c0_0]] rfl am ?_; (with_reducible refine (spec_l01N.calls _ _ l0_0 t381 _ ?side1 ?side2 A5.out).mono ?_); (case side1 => exact pc (Kd.C_below HR0_0.out HB.out)); (case side2 => exact HC0_0.out); rintro e w26 ⟨rfl, hb⟩; refine ⟨_, rfl, ?_⟩; replace HO_3 := rb HO_3 hb; replace BK377 := bb BK377 hb; replace HB := Aside0.mk (below_step hq hb); (try clear hb); (try clear hb2); (try clear hk); (try clear hi)))
   go_ret
   exact ⟨_, ew, pe HO_3.out, hq⟩
  rw [if_pos c6] at H
  have c6b0 : decide (x4_1 < t381) = true := decide_eq_true c6
  clear c6
  replace H := Option.bind_eq_some_iff.mp H
  obtain ⟨t382, A70, H⟩ := H
  replace H : (spec_l08Heavy.l1 k1 x3_1 x4_1 t382 (-1) 0 0 l0_0) = some r := H
  have A7 := Aside0.mk A70
  clear A70
  have H' := Aside0.mk H
  clear H
  have hcz8_0 : wr.cell? ⟨gb377, 0, none⟩ = some (.slice A0_0 l0_0.length c0_0) := (blk_cell BK377.out 0).trans rfl
  have hfz8_0 := blk_frozen BK377.out 0
  go_wp2_with (first | ((with_reducible refine gate_callee (f := 44) rfl ?_); refine goesL_ (some 13) rfl rfl Try.func44 (by kernel_rfl) rfl #[.agg #[.slice A0_0 l0_0.length c0_0]] rfl am ?_; (with_reducible refine (spec_l01N.calls _ _ l0_0 t381 _ ?side1 ?side2 A5.out).mono ?_); (case side1 => exact pc (Kd.C_below HR0_0.out HB.out)); (case side2 => exact HC0_0.out); rintro e w9 ⟨rfl, hb⟩; refine ⟨_, rfl, ?_⟩; replace HO_3 := rb HO_3 hb; replace BK377 := bb BK377 hb; replace HB := Aside0.mk (below_step hq hb); (try clear hb); (try clear hb2); (try clear hk); (try clear hi); have hcz10_0 : w9.cell? ⟨gb377, 0, none⟩ = some (.slice A0_0 l0_0.length c0_0) := (blk_cell BK377.out 0).trans rfl; have hfz10_0 := blk_frozen BK377.out 0) | ((with_reducible refine gate_callee (f := 80) rfl ?_); refine goesL_ (some 19) rfl rfl Try.func80 (by kernel_rfl) rfl #[.agg #[.slice A0_0 l0_0.length c0_0], .int .i64 x4_1] rfl am ?_; (with_reducible refine (spec_l01Children.calls k1 _ _ l0_0 x4_1 t382 _ ?side1 ?side2 A7.out).mono ?_); (case side1 => exact pc (Kd.C_below HR0_0.out HB.out)); (case side2 => exact HC0_0.out); rintro e w11 ⟨v383, rfl, ho0, hb⟩; refine ⟨_, rfl, ?_⟩; have HO384 := Aside0.mk (Kd.R_lower (Kd.R_new' ho0 (Kd.R_lt (pe HO_3.out))) (below_size hq)); replace HO_3 := rn HO_3 ho0 hb; replace BK377 := bb BK377 hb; replace HB := Aside0.mk (below_step hq hb); (try clear hb); (try clear hb2); (try clear hk); (try clear hi); (try clear ho0)))
  go_loopg [6, 7, 8] k1 (fun kq v6 v7 v8 w' => ∃ (x6_2 : Int) (x7_2 : Int) (x8_2 : Int), v6 = .int .i64 x6_2 ∧ v7 = .int .i64 x7_2 ∧ v8 = .int .i64 x8_2 ∧ Aside0 (spec_l08Heavy.l1 kq x3_1 x4_1 t382 x6_2 x7_2 x8_2 l0_0 = some r) ∧ Aside0 (kq ≤ k1) ∧ Aside0 (Kd.R (Kd.int .i64) 2 w' w.heap.size (fun k_ => some k_ ≠ (v383 : Value).ownBlock) u3 x3_1) ∧ Aside0 (Kd.R (Kd.int .i64) 2 w' w.heap.size (fun k_ => some k_ ≠ (u3 : Value).ownBlock) v383 t382) ∧ Aside0 (w'.heap[gb377]? = some (.cells #[(.slice A0_0 l0_0.length c0_0)] 26 (0, 0))) ∧ Aside0 (Below w.heap.size w w'))
  case atStart => exact ⟨(-1), (0), (0), q7_1, q7_1, q7_1, H', ⟨Nat.le_refl _⟩, ⟨pe (Kd.R_mono HO_3.out (fun _ hk => hk.2))⟩, ⟨pe (Kd.R_mono HO384.out (fun _ hk => hk.2))⟩, ⟨pb BK377.out⟩, ⟨hq⟩⟩
  case round =>
   clear H'
   try clear p2
   try clear c4
   try clear c6
   try clear c6b0
   try clear c8
   try clear hcz10_0
   try clear hcz8_0
   try clear hfz10_0
   try clear hfz8_0
   try clear p2
   obtain ⟨x6_2, x7_2, x8_2, rfl, rfl, rfl, HA, HK2, HO_3, HO_5, BK377, HB⟩ := hrel
   cases gk with | zero => exact absurd HA.out (by simp [spec_l08Heavy.l1]) | succ k2 => ?_
   have H := HA.out
   clear HA
   simp only [spec_l08Heavy.l1] at H
   by_cases c12 : x8_2 < (t382.length : Int)
   rotate_left
   ·rw [if_neg c12] at H
    have c12b0 : decide (x8_2 < (t382.length : Int)) = false := decide_eq_false c12
    clear c12
    by_cases c22 : x3_1.length < 17592186044416
    rotate_left
    ·rw [if_neg c22] at H
     exact absurd H (by simp)
    rw [if_pos c22] at H
    have LMc22 := Aside0.mk c22
    clear c22
    obtain ⟨y389, hy389⟩ : ∃ y_ : List Int, y_ = (x3_1 ++ [x6_2]) := ⟨_, rfl⟩
    replace H : (spec_l08Heavy.l0 k2 y389 (wrap64 (x4_1 + 1)) l0_0) = some r := by first | (rw [hy389]; with_reducible exact H) | (have H2_ := (Option.bind_some _ _).symm.trans H; rw [hy389]; with_reducible exact H2_) | (have H2_ := (Option.bind_some _ _).symm.trans H; with_reducible exact H2_) | with_reducible exact H | (rw [hy389]; exact H) | exact H
    have Ny389 := Aside0.mk hy389
    clear hy389
    have H' := Aside0.mk H
    clear H
    obtain ⟨Ao23, co23, eo23⟩ := Kd.R_slice HO_5.out
    subst eo23
    go_wp2_with (first | ((with_reducible refine gate_builtin (b := .append) (xs := #[.tmp 45, .tmp 47]) rfl ?_); at_builtin; refine Kd.R_append (Kd.int .i64) (w0 := w) w.heap.size rfl (.tmp 45) (.tmp 47) 24 2 (.int .i64 0) 8 rfl Try.underlying24 info2 rfl (by decide) (by omega) u3 x3_1 x6_2 [.int .i64 x6_2] (fun k_ => some k_ ≠ (.slice Ao23 t382.length co23 : Value).ownBlock) (fun _ => False) rfl rfl ?aP (fun _ hk => hk.elim) ?aF ?aO ?aB ?aS ?aL ?_; (case aP => exact rfl); (case aB => exact hq); (case aF => exact (fun k_ hk => Kd.fresh' (Kd.R_lt (pe HO_5.out)) k_ hk)); (case aO => exact (pe HO_3.out)); (case aS => exact (below_size hq)); (case aL => have := LMc22.out; omega); intro v390 w24 ho hb hg hat; rw [← Ny389.out] at ho; replace HO_5 := Aside0.mk (Kd.R_after (ok := (fun _ => True)) (pe (Kd.R_mono HO_5.out (fun _ hk => ⟨trivial, hk⟩))) hg hat); replace BK377 := Aside0.mk (blk_grown (g := gb377) (o := .cells #[.slice A0_0 l0_0.length c0_0] 26 (0, 0)) (pb BK377.out) hg (Kd.R_ne HO_3.out BK377.out (by decide))); replace HB := Aside0.mk (hb); have HO391 := Aside0.mk (ho); clear HO_3; clear ho hb hg hat))
    go_roundg k2
    case measure => have := HK1.out; have := HK2.out; omega
    case rel => exact ⟨(y389), (wrap64 (x4_1 + 1)), q7_1, H', ⟨by have := HK1.out; have := HK2.out; omega⟩, ⟨pe (Kd.R_mono HO391.out (fun _ hk => trivial))⟩, ⟨pb BK377.out⟩, ⟨hq⟩⟩
   rw [if_pos c12] at H
   have c12b0 : decide (x8_2 < (t382.length : Int)) = true := decide_eq_true c12
   clear c12
   by_cases c13 : 0 ≤ x8_2
   rotate_left
   ·rw [if_neg c13] at H
    exact absurd H (by simp)
   rw [if_pos c13] at H
   have c13b0 : decide (0 ≤ x8_2) = true := decide_eq_true c13
   clear c13
   replace H := Option.bind_eq_some_iff.mp H
   obtain ⟨t386, A140, H⟩ := H
   replace H : (if (wrap64 (t386 - (rd t382 x8_2))) > x7_2 then (spec_l08Heavy.l1 k2 x3_1 x4_1 t382 (rd t382 x8_2) (wrap64 (t386 - (rd t382 x8_2))) (wrap64 (x8_2 + 1)) l0_0) else (spec_l08Heavy.l1 k2 x3_1 x4_1 t382 x6_2 x7_2 (wrap64 (x8_2 + 1)) l0_0)) = some r := H
   have A14 := Aside0.mk A140
   clear A140
   by_cases c15 : (wrap64 (t386 - (rd t382 x8_2))) > x7_2
   rotate_left
   ·rw [if_neg c15] at H
    have c15b0 : decide (x7_2 < (wrap64 (t386 - (rd t382 x8_2)))) = false := decide_eq_false c15
    clear c15
    have H' := Aside0.mk H
    clear H
    obtain ⟨Ao19, co19, eo19⟩ := Kd.R_slice HO_5.out
    subst eo19
    try go_wp2
    have n0_ := Aside0.mk (Kd.R_drew HO_3.out)
    have n1_ := Aside0.mk (Kd.R_drew HO_5.out)
    have n2_ := Aside0.mk (blk_drew BK377.out)
    have n3_ := Aside0.mk (below_drew1 HB.out)
    clear HO_3
    clear HO_5
    clear BK377
    clear HB
    have HO_3 := n0_
    have HO_5 := n1_
    have BK377 := n2_
    have HB := n3_
    clear n0_ n1_ n2_ n3_
    have p385 : 0 ≤ (x8_2 : Int) := of_decide_eq_true q7_0
    have q385 : x8_2 < (t382.length : Int) := of_decide_eq_true q7_0
    (try (obtain ⟨Aop_, cop_, eop_⟩ := Kd.R_slice HO_5.out; subst eop_))
    obtain ⟨ad385, e385, hx385_0⟩ := Kd.at_int (Kd.R_reads' HO_5.out).2.2 x8_2 p385 q385
    cases e385
    replace p385 := eq_true p385
    replace q385 := eq_true q385
    have p387 : 0 ≤ (x8_2 : Int) := of_decide_eq_true q7_0
    have q387 : x8_2 < (t382.length : Int) := of_decide_eq_true q7_0
    (try (obtain ⟨Aop_, cop_, eop_⟩ := Kd.R_slice HO_5.out; subst eop_))
    obtain ⟨ad387, e387, hx387_0⟩ := Kd.at_int (Kd.R_reads' HO_5.out).2.2 x8_2 p387 q387
    obtain rfl : ad385 = ad387 := (by injection e387)
    replace p387 := eq_true p387
    replace q387 := eq_true q387
    refine start_ (n := 12) (S := fun w' => w'.cell? ⟨gb377, 0, none⟩ = some (.slice A0_0 l0_0.length c0_0) ∧ w'.cell? (ad385.add (x8_2).toNat) = some (.int .i64 (rd t382 x8_2)) ∧ w'.cell? (ad385.add (x8_2).toNat) = some (.int .i64 (rd t382 x8_2))) (ds := []) #[false, false, false, false, false, false, false, false, false, false, false, false] (by kernel_rfl) rfl rfl ⟨(blk_cell BK377.out 0).trans rfl, hx385_0, hx387_0⟩ (fun hHeld => ?_); refine with_tabW spec_l08Heavy.tab9 spec_l08Heavy.bits9 (fun HT_ HW_ => ?_)
    generalize wr.drew = w20 at HO_3 HO_5 BK377 HB hx385_0 hx387_0 hHeld ⊢
    refine pure_ (i := 1) (N := some 27) (v := ?_) (a' := ?_) #[false, true, false, false, false, false, false, false, false, false, false, false] rfl rfl (any_of HT_.out (by kernel_rfl)) (fun _ _ _ h => h) (Or.inl ⟨by rfl, ?_⟩) ?_ ?_
    rotate_left
    ·intro w'
     go_simp
     with_reducible rfl
    rotate_left
    ·simp only [Act.put, sIB, sc0, scs, i64_w, i32_w]
     rfl
    refine pure_ (i := 2) (N := some 28) (v := ?_) (a' := ?_) #[false, true, true, false, false, false, false, false, false, false, false, false] rfl rfl (any_of HT_.out (by kernel_rfl)) (fun _ _ _ h => h) (Or.inl ⟨by rfl, ?_⟩) ?_ ?_
    rotate_left
    ·intro w'
     go_simp
     with_reducible rfl
    rotate_left
    ·simp only [Act.put, sIB, sc0, scs, i64_w, i32_w]
     rfl
    refine pure_ (i := 3) (N := some 29) (v := ?_) (a' := ?_) #[false, true, true, true, false, false, false, false, false, false, false, false] rfl rfl (any_of HT_.out (by kernel_rfl)) (fun _ _ _ h => h) (Or.inl ⟨by rfl, ?_⟩) ?_ ?_
    rotate_left
    ·intro w'
     go_simp
     with_reducible rfl
    rotate_left
    ·simp only [Act.put, sIB, sc0, scs, i64_w, i32_w]
     rfl
    refine pure_ (i := 6) (N := some 32) (v := ?_) (a' := ?_) #[false, true, true, true, false, false, true, false, false, false, false, false] rfl rfl (any_of HT_.out (by kernel_rfl)) (fun _ _ _ h => h) (Or.inl ⟨by rfl, ?_⟩) ?_ ?_
    rotate_left
    ·intro w'
     go_simp
     with_reducible rfl
    rotate_left
    ·simp only [Act.put, sIB, sc0, scs, i64_w, i32_w]
     rfl
    refine pure_ (i := 7) (N := some 33) (v := ?_) (a' := ?_) #[false, true, true, true, false, false, true, true, false, false, false, false] rfl rfl (any_of HT_.out (by kernel_rfl)) (fun _ _ _ h => h) (Or.inl ⟨by rfl, ?_⟩) ?_ ?_
    rotate_left
    ·intro w'
     go_simp
     with_reducible rfl
    rotate_left
    ·simp only [Act.put, sIB, sc0, scs, i64_w, i32_w]
     rfl
    refine pure_ (i := 8) (N := some 34) (v := ?_) (a' := ?_) #[false, true, true, true, false, false, true, true, true, false, false, false] rfl rfl (any_of HT_.out (by kernel_rfl)) (fun _ _ _ h => h) (Or.inl ⟨by rfl, ?_⟩) ?_ ?_
    rotate_left
    ·intro w'
     go_simp
     with_reducible rfl
    rotate_left
    ·simp only [Act.put, sIB, sc0, scs, i64_w, i32_w]
     rfl
    refine take_ (i := 0) (N := some 26) (v := ?_) (a' := ?_) #[true, true, true, true, false, false, true, true, true, false, false, false] rfl rfl (take_ofW HT_.out HW_.out (by kernel_rfl)) (fun _ _ _ h => h) (Or.inl ⟨by rfl, ?_⟩) hHeld ?_ ?_
    rotate_left
    ·rintro w' ⟨s0, s1, s2⟩
     go_simp
     with_reducible rfl
    rotate_left
    ·simp only [Act.put, sIB, sc0, scs, i64_w, i32_w]
     rfl
    refine take_ (i := 4) (N := some 30) (v := ?_) (a' := ?_) #[true, true, true, true, true, false, true, true, true, false, false, false] rfl rfl (take_ofW HT_.out HW_.out (by kernel_rfl)) (fun _ _ _ h => h) (Or.inl ⟨by rfl, ?_⟩) hHeld ?_ ?_
    rotate_left
    ·rintro w' ⟨s0, s1, s2⟩
     go_simp
     with_reducible rfl
    rotate_left
    ·simp only [Act.put, sIB, sc0, scs, i64_w, i32_w]
     rfl
    refine take_ (i := 9) (N := some 35) (v := ?_) (a' := ?_) #[true, true, true, true, true, false, true, true, true, true, false, false] rfl rfl (take_ofW HT_.out HW_.out (by kernel_rfl)) (fun _ _ _ h => h) (Or.inl ⟨by rfl, ?_⟩) hHeld ?_ ?_
    rotate_left
    ·rintro w' ⟨s0, s1, s2⟩
     go_simp
     with_reducible rfl
    rotate_left
    ·simp only [Act.put, sIB, sc0, scs, i64_w, i32_w]
     rfl
    refine one_ (i := 5) (N := some 31) (tf 10 2) rfl rfl (one_of HT_.out (by kernel_rfl)) (by decide) (fun K hK => ?_)
    refine goes_ Try.func51 (by kernel_rfl) rfl #[.agg #[.slice A0_0 l0_0.length c0_0], .int .i64 (rd t382 x8_2)] (by rfl) rfl rfl am ?_
    with_reducible refine (spec_l01End.calls k2 _ _ l0_0 (rd t382 x8_2) t386 _ ?side1 ?side2 A14.out).mono ?_
    (case side1 => exact pc (Kd.C_below HR0_0.out HB.out))
    (case side2 => exact HC0_0.out)
    rintro e w21 ⟨rfl, hb⟩
    have HS1_ := (hb.cell (World.block_lt_of_cell? _ _ (hHeld.2.1))).trans (hHeld.2.1)
    have HS2_ := (hb.cell (World.block_lt_of_cell? _ _ (hHeld.2.2))).trans (hHeld.2.2)
    refine ⟨_, rfl, ?_⟩
    have n0_ := rb HO_3 hb
    have n1_ := rb HO_5 hb
    have n2_ := bb BK377 hb
    have n3_ := Aside0.mk (below_step hq hb)
    clear HO_3
    clear HO_5
    clear BK377
    clear HB
    have HO_3 := n0_
    have HO_5 := n1_
    have BK377 := n2_
    have HB := n3_
    clear n0_ n1_ n2_ n3_
    (try clear hb)
    (try clear hb2)
    (try clear hk)
    (try clear hi)
    refine hK.out _ _ ⟨(blk_cell BK377.out 0).trans rfl, HS1_, HS2_⟩ (fun hHeld => ?_)
    clear hK K
    refine norm_ (a' := ?_) ?_ ?_
    rotate_left
    ·show Act.put _ (some 31) _ = _
     simp only [Act.put, sIB, sc0, scs, i64_w, i32_w]
     rfl
    refine pure_ (i := 10) (N := some 36) (v := ?_) (a' := ?_) (tf 11 1) rfl rfl (any_of HT_.out (by kernel_rfl)) (fun _ _ _ h => h) (Or.inl ⟨by rfl, ?_⟩) ?_ ?_
    rotate_left
    ·intro w'
     go_simp
     with_reducible rfl
    rotate_left
    ·simp only [Act.put, sIB, sc0, scs, i64_w, i32_w]
     rfl
    refine pure_ (i := 11) (N := some 9) (v := ?_) (a' := ?_) (tf 12 0) rfl rfl (any_of HT_.out (by kernel_rfl)) (fun _ _ _ h => h) (Or.inl ⟨by rfl, ?_⟩) ?_ ?_
    rotate_left
    ·intro w'
     go_simp
     with_reducible rfl
    rotate_left
    ·simp only [Act.put, sIB, sc0, scs, i64_w, i32_w]
     rfl
    refine done_ (done_of HT_.out (by kernel_rfl)) ?_
    try go_wp2
    go_roundg k2
    case measure => have := HK1.out; have := HK2.out; omega
    case rel => exact ⟨(x6_2), (x7_2), (wrap64 (x8_2 + 1)), q7_1, q7_1, q7_1, H', ⟨by have := HK1.out; have := HK2.out; omega⟩, ⟨pe HO_3.out⟩, ⟨pe HO_5.out⟩, ⟨pb BK377.out⟩, ⟨hq⟩⟩
   rw [if_pos c15] at H
   have c15b0 : decide (x7_2 < (wrap64 (t386 - (rd t382 x8_2)))) = true := decide_eq_true c15
   clear c15
   have H' := Aside0.mk H
   clear H
   obtain ⟨Ao16, co16, eo16⟩ := Kd.R_slice HO_5.out
   subst eo16
   try go_wp2
   have n0_ := Aside0.mk (Kd.R_drew HO_3.out)
   have n1_ := Aside0.mk (Kd.R_drew HO_5.out)
   have n2_ := Aside0.mk (blk_drew BK377.out)
   have n3_ := Aside0.mk (below_drew1 HB.out)
   clear HO_3
   clear HO_5
   clear BK377
   clear HB
   have HO_3 := n0_
   have HO_5 := n1_
   have BK377 := n2_
   have HB := n3_
   clear n0_ n1_ n2_ n3_
   have p385 : 0 ≤ (x8_2 : Int) := of_decide_eq_true q7_0
   have q385 : x8_2 < (t382.length : Int) := of_decide_eq_true q7_0
   (try (obtain ⟨Aop_, cop_, eop_⟩ := Kd.R_slice HO_5.out; subst eop_))
   obtain ⟨ad385, e385, hx385_0⟩ := Kd.at_int (Kd.R_reads' HO_5.out).2.2 x8_2 p385 q385
   cases e385
   replace p385 := eq_true p385
   replace q385 := eq_true q385
   have p387 : 0 ≤ (x8_2 : Int) := of_decide_eq_true q7_0
   have q387 : x8_2 < (t382.length : Int) := of_decide_eq_true q7_0
   (try (obtain ⟨Aop_, cop_, eop_⟩ := Kd.R_slice HO_5.out; subst eop_))
   obtain ⟨ad387, e387, hx387_0⟩ := Kd.at_int (Kd.R_reads' HO_5.out).2.2 x8_2 p387 q387
   obtain rfl : ad385 = ad387 := (by injection e387)
   replace p387 := eq_true p387
   replace q387 := eq_true q387
   refine start_ (n := 12) (S := fun w' => w'.cell? ⟨gb377, 0, none⟩ = some (.slice A0_0 l0_0.length c0_0) ∧ w'.cell? (ad385.add (x8_2).toNat) = some (.int .i64 (rd t382 x8_2)) ∧ w'.cell? (ad385.add (x8_2).toNat) = some (.int .i64 (rd t382 x8_2))) (ds := []) #[false, false, false, false, false, false, false, false, false, false, false, false] (by kernel_rfl) rfl rfl ⟨(blk_cell BK377.out 0).trans rfl, hx385_0, hx387_0⟩ (fun hHeld => ?_); refine with_tabW spec_l08Heavy.tab9 spec_l08Heavy.bits9 (fun HT_ HW_ => ?_)
   generalize wr.drew = w17 at HO_3 HO_5 BK377 HB hx385_0 hx387_0 hHeld ⊢
   refine pure_ (i := 1) (N := some 27) (v := ?_) (a' := ?_) #[false, true, false, false, false, false, false, false, false, false, false, false] rfl rfl (any_of HT_.out (by kernel_rfl)) (fun _ _ _ h => h) (Or.inl ⟨by rfl, ?_⟩) ?_ ?_
   rotate_left
   ·intro w'
    go_simp
    with_reducible rfl
   rotate_left
   ·simp only [Act.put, sIB, sc0, scs, i64_w, i32_w]
    rfl
   refine pure_ (i := 2) (N := some 28) (v := ?_) (a' := ?_) #[false, true, true, false, false, false, false, false, false, false, false, false] rfl rfl (any_of HT_.out (by kernel_rfl)) (fun _ _ _ h => h) (Or.inl ⟨by rfl, ?_⟩) ?_ ?_
   rotate_left
   ·intro w'
    go_simp
    with_reducible rfl
   rotate_left
   ·simp only [Act.put, sIB, sc0, scs, i64_w, i32_w]
    rfl
   refine pure_ (i := 3) (N := some 29) (v := ?_) (a' := ?_) #[false, true, true, true, false, false, false, false, false, false, false, false] rfl rfl (any_of HT_.out (by kernel_rfl)) (fun _ _ _ h => h) (Or.inl ⟨by rfl, ?_⟩) ?_ ?_
   rotate_left
   ·intro w'
    go_simp
    with_reducible rfl
   rotate_left
   ·simp only [Act.put, sIB, sc0, scs, i64_w, i32_w]
    rfl
   refine pure_ (i := 6) (N := some 32) (v := ?_) (a' := ?_) #[false, true, true, true, false, false, true, false, false, false, false, false] rfl rfl (any_of HT_.out (by kernel_rfl)) (fun _ _ _ h => h) (Or.inl ⟨by rfl, ?_⟩) ?_ ?_
   rotate_left
   ·intro w'
    go_simp
    with_reducible rfl
   rotate_left
   ·simp only [Act.put, sIB, sc0, scs, i64_w, i32_w]
    rfl
   refine pure_ (i := 7) (N := some 33) (v := ?_) (a' := ?_) #[false, true, true, true, false, false, true, true, false, false, false, false] rfl rfl (any_of HT_.out (by kernel_rfl)) (fun _ _ _ h => h) (Or.inl ⟨by rfl, ?_⟩) ?_ ?_
   rotate_left
   ·intro w'
    go_simp
    with_reducible rfl
   rotate_left
   ·simp only [Act.put, sIB, sc0, scs, i64_w, i32_w]
    rfl
   refine pure_ (i := 8) (N := some 34) (v := ?_) (a' := ?_) #[false, true, true, true, false, false, true, true, true, false, false, false] rfl rfl (any_of HT_.out (by kernel_rfl)) (fun _ _ _ h => h) (Or.inl ⟨by rfl, ?_⟩) ?_ ?_
   rotate_left
   ·intro w'
    go_simp
    with_reducible rfl
   rotate_left
   ·simp only [Act.put, sIB, sc0, scs, i64_w, i32_w]
    rfl
   refine take_ (i := 0) (N := some 26) (v := ?_) (a' := ?_) #[true, true, true, true, false, false, true, true, true, false, false, false] rfl rfl (take_ofW HT_.out HW_.out (by kernel_rfl)) (fun _ _ _ h => h) (Or.inl ⟨by rfl, ?_⟩) hHeld ?_ ?_
   rotate_left
   ·rintro w' ⟨s0, s1, s2⟩
    go_simp
    with_reducible rfl
   rotate_left
   ·simp only [Act.put, sIB, sc0, scs, i64_w, i32_w]
    rfl
   refine take_ (i := 4) (N := some 30) (v := ?_) (a' := ?_) #[true, true, true, true, true, false, true, true, true, false, false, false] rfl rfl (take_ofW HT_.out HW_.out (by kernel_rfl)) (fun _ _ _ h => h) (Or.inl ⟨by rfl, ?_⟩) hHeld ?_ ?_
   rotate_left
   ·rintro w' ⟨s0, s1, s2⟩
    go_simp
    with_reducible rfl
   rotate_left
   ·simp only [Act.put, sIB, sc0, scs, i64_w, i32_w]
    rfl
   refine take_ (i := 9) (N := some 35) (v := ?_) (a' := ?_) #[true, true, true, true, true, false, true, true, true, true, false, false] rfl rfl (take_ofW HT_.out HW_.out (by kernel_rfl)) (fun _ _ _ h => h) (Or.inl ⟨by rfl, ?_⟩) hHeld ?_ ?_
   rotate_left
   ·rintro w' ⟨s0, s1, s2⟩
    go_simp
    with_reducible rfl
   rotate_left
   ·simp only [Act.put, sIB, sc0, scs, i64_w, i32_w]
    rfl
   refine one_ (i := 5) (N := some 31) (tf 10 2) rfl rfl (one_of HT_.out (by kernel_rfl)) (by decide) (fun K hK => ?_)
   refine goes_ Try.func51 (by kernel_rfl) rfl #[.agg #[.slice A0_0 l0_0.length c0_0], .int .i64 (rd t382 x8_2)] (by rfl) rfl rfl am ?_
   with_reducible refine (spec_l01End.calls k2 _ _ l0_0 (rd t382 x8_2) t386 _ ?side1 ?side2 A14.out).mono ?_
   (case side1 => exact pc (Kd.C_below HR0_0.out HB.out))
   (case side2 => exact HC0_0.out)
   rintro e w18 ⟨rfl, hb⟩
   have HS1_ := (hb.cell (World.block_lt_of_cell? _ _ (hHeld.2.1))).trans (hHeld.2.1)
   have HS2_ := (hb.cell (World.block_lt_of_cell? _ _ (hHeld.2.2))).trans (hHeld.2.2)
   refine ⟨_, rfl, ?_⟩
   have n0_ := rb HO_3 hb
   have n1_ := rb HO_5 hb
   have n2_ := bb BK377 hb
   have n3_ := Aside0.mk (below_step hq hb)
   clear HO_3
   clear HO_5
   clear BK377
   clear HB
   have HO_3 := n0_
   have HO_5 := n1_
   have BK377 := n2_
   have HB := n3_
   clear n0_ n1_ n2_ n3_
   (try clear hb)
   (try clear hb2)
   (try clear hk)
   (try clear hi)
   refine hK.out _ _ ⟨(blk_cell BK377.out 0).trans rfl, HS1_, HS2_⟩ (fun hHeld => ?_)
   clear hK K
   refine norm_ (a' := ?_) ?_ ?_
   rotate_left
   ·show Act.put _ (some 31) _ = _
    simp only [Act.put, sIB, sc0, scs, i64_w, i32_w]
    rfl
   refine pure_ (i := 10) (N := some 36) (v := ?_) (a' := ?_) (tf 11 1) rfl rfl (any_of HT_.out (by kernel_rfl)) (fun _ _ _ h => h) (Or.inl ⟨by rfl, ?_⟩) ?_ ?_
   rotate_left
   ·intro w'
    go_simp
    with_reducible rfl
   rotate_left
   ·simp only [Act.put, sIB, sc0, scs, i64_w, i32_w]
    rfl
   refine pure_ (i := 11) (N := some 9) (v := ?_) (a' := ?_) (tf 12 0) rfl rfl (any_of HT_.out (by kernel_rfl)) (fun _ _ _ h => h) (Or.inl ⟨by rfl, ?_⟩) ?_ ?_
   rotate_left
   ·intro w'
    go_simp
    with_reducible rfl
   rotate_left
   ·simp only [Act.put, sIB, sc0, scs, i64_w, i32_w]
    rfl
   refine done_ (done_of HT_.out (by kernel_rfl)) ?_
   have p388 : 0 ≤ (x8_2 : Int) := of_decide_eq_true q7_0
   have q388 : x8_2 < (t382.length : Int) := of_decide_eq_true q7_0
   (try (obtain ⟨Aop_, cop_, eop_⟩ := Kd.R_slice HO_5.out; subst eop_))
   obtain ⟨ad388, e388, hx388_0⟩ := Kd.at_int (Kd.R_reads' HO_5.out).2.2 x8_2 p388 q388
   obtain rfl : ad385 = ad388 := (by injection e388)
   replace p388 := eq_true p388
   replace q388 := eq_true q388
   try go_wp2
   go_roundg k2
   case measure => have := HK1.out; have := HK2.out; omega
   case rel => exact ⟨(rd t382 x8_2), (wrap64 (t386 - (rd t382 x8_2))), (wrap64 (x8_2 + 1)), q7_1, q7_1, q7_1, H', ⟨by have := HK1.out; have := HK2.out; omega⟩, ⟨pe HO_3.out⟩, ⟨pe HO_5.out⟩, ⟨pb BK377.out⟩, ⟨hq⟩⟩

/-! ### spec_l08Light: function 45 -/
def spec_l08Light.f (l0 : List Int) (l1 : List Int) (a2 : Int) : Option (Bool) := if a2 = 0 then (some true) else (if 0 ≤ a2 then (if a2 < (l0.length : Int) then (if 0 ≤ (rd l0 a2) then (if (rd l0 a2) < (l1.length : Int) then (some ((rd l1 (rd l0 a2)) != a2)) else (none)) else (none)) else (none)) else (none))
set_option maxHeartbeats 8000000 in
set_option maxRecDepth 100000 in
theorem spec_l08Light.calls (A0 : Option Addr) (c0 : Nat) (l0 : List Int) (A1 : Option Addr) (c1 : Nat) (l1 : List Int) (a2 : Int) (r : Bool) (w : World) (hr0 : Kd.C (Kd.int .i64) w A0 l0.length l0) (hc0 : l0.length ≤ c0) (hr1 : Kd.C (Kd.int .i64) w A1 l1.length l1) (hc1 : l1.length ≤ c1) (h : spec_l08Light.f l0 l1 a2 = some r) :
  Calls Try.prog 45 #[.slice A0 l0.length c0, .slice A1 l1.length c1, .int .i64 a2] w fun e w' => e = .returned (.bool r) ∧ Drawn0 w w' := by
 have HR0 := Aside0.mk hr0
 have HC0 := Aside0.mk hc0
 clear hr0 hc0
 have HR1 := Aside0.mk hr1
 have HC1 := Aside0.mk hc1
 clear hr1 hc1
 have H : (if a2 = 0 then (some true) else (if 0 ≤ a2 then (if a2 < (l0.length : Int) then (if 0 ≤ (rd l0 a2) then (if (rd l0 a2) < (l1.length : Int) then (some ((rd l1 (rd l0 a2)) != a2)) else (none)) else (none)) else (none)) else (none))) = some r := h
 clear h
 by_cases c4 : a2 = 0
 ·rw [if_pos c4] at H
  have c4b0 : (a2 == 0) = true := beq_iff_eq.mpr c4
  have c4b1 : (a2 != 0) = false := bne_eq_false_iff_eq.mpr c4
  clear c4
  obtain rfl := Option.some.inj H
  go_enter Try.func45, Try.ntmps45
  go_wp2
  go_ret
  exact ⟨q7_1, by repeat (first | exact Drawn0.refl _ | apply Drawn0.step)⟩
 rw [if_neg c4] at H
 have c4b0 : (a2 == 0) = false := beq_eq_false_iff_ne.mpr c4
 have c4b1 : (a2 != 0) = true := bne_iff_ne.mpr c4
 by_cases c5 : 0 ≤ a2
 rotate_left
 ·rw [if_neg c5] at H
  exact absurd H (by simp)
 rw [if_pos c5] at H
 have c5b0 : decide (0 ≤ a2) = true := decide_eq_true c5
 clear c5
 by_cases c6 : a2 < (l0.length : Int)
 rotate_left
 ·rw [if_neg c6] at H
  exact absurd H (by simp)
 rw [if_pos c6] at H
 have c6b0 : decide (a2 < (l0.length : Int)) = true := decide_eq_true c6
 clear c6
 by_cases c7 : 0 ≤ (rd l0 a2)
 rotate_left
 ·rw [if_neg c7] at H
  exact absurd H (by simp)
 rw [if_pos c7] at H
 have c7b0 : decide (0 ≤ (rd l0 a2)) = true := decide_eq_true c7
 clear c7
 by_cases c8 : (rd l0 a2) < (l1.length : Int)
 rotate_left
 ·rw [if_neg c8] at H
  exact absurd H (by simp)
 rw [if_pos c8] at H
 have c8b0 : decide ((rd l0 a2) < (l1.length : Int)) = true := decide_eq_true c8
 clear c8
 obtain rfl := Option.some.inj H
 have p392 : 0 ≤ (a2 : Int) := of_decide_eq_true q7_0
 have q392 : a2 < (l0.length : Int) := of_decide_eq_true q7_0
 obtain ⟨ad392, e392, hx392_0⟩ := Kd.at_int HR0.out a2 p392 q392
 cases e392
 replace p392 := eq_true p392
 replace q392 := eq_true q392
 have p393 : 0 ≤ ((rd l0 a2) : Int) := of_decide_eq_true q7_0
 have q393 : (rd l0 a2) < (l1.length : Int) := of_decide_eq_true q7_0
 obtain ⟨ad393, e393, hx393_0⟩ := Kd.at_int HR1.out (rd l0 a2) p393 q393
 cases e393
 replace p393 := eq_true p393
 replace q393 := eq_true q393
 go_enter Try.func45, Try.ntmps45
 go_wp2
 go_ret
 exact ⟨q7_1, by repeat (first | exact Drawn0.refl _ | apply Drawn0.step)⟩

end Go.Proofs.Ytlppkilencpmeaa.QFnHeavyPaths
