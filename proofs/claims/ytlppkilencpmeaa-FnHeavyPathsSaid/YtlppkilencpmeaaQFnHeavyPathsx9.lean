/- Functions as Lean functions, with their contracts: written by a program of this claim over the translation; some contracts are proved by hand. -/
import Derived.Test.YtlppkilencpmeaaQFnHeavyPathsx0
import Derived.Test.YtlppkilencpmeaaQFnHeavyPathsx1
import Derived.Test.YtlppkilencpmeaaQFnHeavyPathsx2
import Derived.Test.YtlppkilencpmeaaQFnHeavyPathsx3
import Derived.Test.YtlppkilencpmeaaQFnHeavyPathsx4
import Derived.Test.YtlppkilencpmeaaQFnHeavyPathsx5
import Derived.Test.YtlppkilencpmeaaQFnHeavyPathsx7
namespace Go.Proofs.Ytlppkilencpmeaa.QFnHeavyPaths
open Go.RowKit Go.Proofs.Ytlppkilencpmeaa.Gl Go.Proofs.Ytlppkilencpmeaa.Sz Go.Proofs.YtlppkilencpmeaaW.PrintWords Go.Proofs.YtlppkilencpmeaaW.PrintLast Go.Proofs.YtlppkilencpmeaaW.PrintMore
attribute [local go_sem] max2_int min2_int max_two min_two max_three min_three max_four min_four   -- for this text's walks alone
set_option linter.unusedVariables false
set_option linter.unusedSimpArgs false
theorem q9_0 {P : Prop} (h : P := by repeat (first | (with_reducible first | exact HK.out | apply KeepBut.set_ | apply keep_drewN | apply keep_drew | apply keep_alloc) | exact HK.out)) : P := h
theorem q9_1 {P : Prop} (h : P := by repeat (first | (with_reducible first | exact HI448.out | apply IsS97.alloc | apply IsS97.drewN | apply IsS97.drew | apply IsS97.set_1 | apply IsS97.set_2 | refine IsS97.far ?_ NB448_444.out _ | refine IsS97.far ?_ NB448_454.out _) | exact HI448.out)) : P := h
theorem q9_2 {P : Prop} (h : P := by repeat (first | (with_reducible first | exact HB.out | apply below_alloc | apply pw_below_drewN | apply below_drew1 | refine below_set ?_ (IsS97.ge HI448.out) | refine below_set ?_ GE444.out | refine below_set ?_ GE454.out) | exact HB.out)) : P := h
theorem q9_3 {P : Prop} (h : P := by repeat (first | (with_reducible first | exact HB.out | apply below_alloc | apply pw_below_drewN | apply below_drew1 | refine below_set ?_ (IsS97.ge HI448.out) | refine below_set ?_ GE444.out) | exact HB.out)) : P := h
theorem q9_4 {P : Prop} (h : P := by repeat (first | (with_reducible first | exact HI0.out | apply IsS97.alloc | apply IsS97.drewN | apply IsS97.drew | apply IsS97.set_1 | apply IsS97.set_2) | exact HI0.out)) : P := h
theorem q9_5 {P : Prop} (h : P := by repeat (first | (with_reducible first | exact HI448.out | apply IsS97.alloc | apply IsS97.drewN | apply IsS97.drew | apply IsS97.set_1 | apply IsS97.set_2 | refine IsS97.far ?_ NB448_444.out _) | exact HI448.out)) : P := h
theorem q9_6 {P : Prop} (h : P := by repeat (first | (with_reducible first | exact HB.out | apply below_alloc | apply pw_below_drewN | apply below_drew1 | refine below_set ?_ (IsS97.ge HI0.out)) | exact HB.out)) : P := h
theorem q9_7 {P : Prop} (h : P := by first | (with_reducible assumption) | assumption) : P := h
theorem q9_8 {P : Prop} (h : P := by first | rfl | (simp; done) | (simp [*]; done)) : P := h

/-! ### spec_HeavyChildren: function 11 -/
def spec_HeavyChildren.f (k : Nat) (l0_0 : List Int) : Option (List Int × Int) := (spec_l01Is.f k l0_0).bind fun t428 => (if t428 = true then ((spec_l08Heavy.f k l0_0).bind fun t429 => (some (t429, 0))) else (some (([] : List Int), 1)))
theorem spec_HeavyChildren.mono : ∀ a0 k, LeO (spec_HeavyChildren.f k a0) (spec_HeavyChildren.f (k + 1) a0) := by
 intro a0 k
 unfold spec_HeavyChildren.f
 repeat' first
   | (with_reducible exact spec_l01Is.mono _ _)
   | (with_reducible exact spec_l08Heavy.mono _ _)
   | (with_reducible exact LeO.refl _)
   | (with_reducible exact LeO.none _)
   | (with_reducible refine LeO.ite ?_ ?_)
   | (with_reducible refine LeO.bind ?_ (fun _ => ?_))
   | exact spec_l01Is.mono _ _
   | exact spec_l08Heavy.mono _ _
   | exact LeO.none _
   | refine LeO.ite ?_ ?_
   | refine LeO.bind ?_ (fun _ => ?_)
set_option maxHeartbeats 8000000 in
set_option maxRecDepth 100000 in
theorem spec_HeavyChildren.calls (k : Nat) (A0_0 : Option Addr) (c0_0 : Nat) (l0_0 : List Int) (r1 : List Int) (r2 : Int) (w : World) (hr0_0 : Kd.C (Kd.int .i64) w A0_0 l0_0.length l0_0) (hc0_0 : l0_0.length ≤ c0_0) (h : spec_HeavyChildren.f k l0_0 = some (r1, r2)) :
  Calls Try.prog 11 #[.agg #[.slice A0_0 l0_0.length c0_0]] w fun e w' => ∃ v0_ : Value, e = .returned (.tuple #[v0_, .int .i64 r2]) ∧ Kd.R (Kd.int .i64) 2 w' w.heap.size (fun _ => True) v0_ r1 ∧ Below w.heap.size w w' := by
 have hu26 := Try.underlying26
 have HR0_0 := Aside0.mk hr0_0
 have HC0_0 := Aside0.mk hc0_0
 clear hr0_0 hc0_0
 have HB := Aside0.mk (Below.refl w.heap.size w)
 have H : ((spec_l01Is.f k l0_0).bind fun t428 => (if t428 = true then ((spec_l08Heavy.f k l0_0).bind fun t429 => (some (t429, 0))) else (some (([] : List Int), 1)))) = some (r1, r2) := h
 clear h
 replace H := Option.bind_eq_some_iff.mp H
 obtain ⟨t428, A20, H⟩ := H
 replace H : (if t428 = true then ((spec_l08Heavy.f k l0_0).bind fun t429 => (some (t429, 0))) else (some (([] : List Int), 1))) = some (r1, r2) := H
 have A2 := Aside0.mk A20
 clear A20
 by_cases c3 : t428 = true
 rotate_left
 ·replace c3 := Bool.eq_false_iff.mpr c3
  subst c3
  have H1 : (some (([] : List Int), 1)) = some (r1, r2) := by rw [if_neg (show ¬ (false = true) by decide)] at H; exact H
  clear H
  have H := H1
  clear H1
  simp only [Option.some.injEq, Prod.mk.injEq] at H
  obtain ⟨rfl, rfl⟩ := H
  go_enter Try.func11, Try.ntmps11
  go_wp2_with (first | ((with_reducible refine gate_dst (N := 1) rfl ?_); refine box_event ?hg (N := 1) ?hd (cs := #[.slice A0_0 l0_0.length c0_0]) (t := 26) ?hr ?_; (case hd => rfl); (case hg => rfl); (case hr => exact gs); intro gb427 hg w10 hbox hb; have BK427 := Aside0.mk (hbox); have GW427 := Aside0.mk (geb hg hq : w.heap.size ≤ gb427); have GE427 := Aside0.mk (geb hg hq : w.heap.size ≤ gb427); replace HB := Aside0.mk (below_step hq hb); clear hb hbox hg; have hcz11_0 : w10.cell? ⟨gb427, 0, none⟩ = some (.slice A0_0 l0_0.length c0_0) := (blk_cell BK427.out 0).trans rfl; have hfz11_0 := blk_frozen BK427.out 0) | ((with_reducible refine gate_callee (f := 41) rfl ?_); refine goesL_ (some 5) rfl rfl Try.func41 (by kernel_rfl) rfl #[.agg #[.slice A0_0 l0_0.length c0_0]] rfl am ?_; (with_reducible refine (spec_l01Is.calls k _ _ l0_0 false _ ?side1 ?side2 A2.out).mono ?_); (case side1 => exact pc (Kd.C_below HR0_0.out HB.out)); (case side2 => exact HC0_0.out); rintro e w12 ⟨rfl, hb⟩; refine ⟨_, rfl, ?_⟩; replace BK427 := bb BK427 hb; replace HB := Aside0.mk (below_step hq hb); (try clear hb); (try clear hb2); (try clear hk); (try clear hi)))
  go_ret2
  exact ⟨_, ew, by first | exact Kd.R_nil _ _ _ _ _ | exact Kd.N_nil _ _ _ _ _ | exact Kd.V_nil _ _ _ _ _ | exact Kd.Q_nil _ _ _ _ _ | exact Kd.S_nil _ _ _ _ _, hq⟩
 subst c3
 replace H : ((spec_l08Heavy.f k l0_0).bind fun t429 => (some (t429, 0))) = some (r1, r2) := by rw [if_pos rfl] at H; exact H
 replace H := Option.bind_eq_some_iff.mp H
 obtain ⟨t429, A40, H⟩ := H
 replace H : (some (t429, 0)) = some (r1, r2) := H
 have A4 := Aside0.mk A40
 clear A40
 simp only [Option.some.injEq, Prod.mk.injEq] at H
 obtain ⟨rfl, rfl⟩ := H
 go_enter Try.func11, Try.ntmps11
 go_wp2_with (first | ((with_reducible refine gate_dst (N := 1) rfl ?_); refine box_event ?hg (N := 1) ?hd (cs := #[.slice A0_0 l0_0.length c0_0]) (t := 26) ?hr ?_; (case hd => rfl); (case hg => rfl); (case hr => exact gs); intro gb427 hg w5 hbox hb; have BK427 := Aside0.mk (hbox); have GW427 := Aside0.mk (geb hg hq : w.heap.size ≤ gb427); have GE427 := Aside0.mk (geb hg hq : w.heap.size ≤ gb427); replace HB := Aside0.mk (below_step hq hb); clear hb hbox hg; have hcz6_0 : w5.cell? ⟨gb427, 0, none⟩ = some (.slice A0_0 l0_0.length c0_0) := (blk_cell BK427.out 0).trans rfl; have hfz6_0 := blk_frozen BK427.out 0) | ((with_reducible refine gate_callee (f := 41) rfl ?_); refine goesL_ (some 5) rfl rfl Try.func41 (by kernel_rfl) rfl #[.agg #[.slice A0_0 l0_0.length c0_0]] rfl am ?_; (with_reducible refine (spec_l01Is.calls k _ _ l0_0 true _ ?side1 ?side2 A2.out).mono ?_); (case side1 => exact pc (Kd.C_below HR0_0.out HB.out)); (case side2 => exact HC0_0.out); rintro e w7 ⟨rfl, hb⟩; refine ⟨_, rfl, ?_⟩; replace BK427 := bb BK427 hb; replace HB := Aside0.mk (below_step hq hb); (try clear hb); (try clear hb2); (try clear hk); (try clear hi); have hcz8_0 : w7.cell? ⟨gb427, 0, none⟩ = some (.slice A0_0 l0_0.length c0_0) := (blk_cell BK427.out 0).trans rfl; have hfz8_0 := blk_frozen BK427.out 0) | ((with_reducible refine gate_callee (f := 43) rfl ?_); refine goesL_ (some 8) rfl rfl Try.func43 (by kernel_rfl) rfl #[.agg #[.slice A0_0 l0_0.length c0_0]] rfl am ?_; (with_reducible refine (spec_l08Heavy.calls k _ _ l0_0 t429 _ ?side1 ?side2 A4.out).mono ?_); (case side1 => exact pc (Kd.C_below HR0_0.out HB.out)); (case side2 => exact HC0_0.out); rintro e w9 ⟨v430, rfl, ho0, hb⟩; refine ⟨_, rfl, ?_⟩; have HO431 := Aside0.mk (Kd.R_lower ho0 (below_size hq)); replace BK427 := bb BK427 hb; replace HB := Aside0.mk (below_step hq hb); (try clear hb); (try clear hb2); (try clear hk); (try clear hi); (try clear ho0)))
 go_ret2
 exact ⟨_, ew, pe HO431.out, hq⟩

/-! ### spec_l01Near: function 53 -/
def spec_l01Near.f (s0_0 : List Int) (s0_1 : Int) (s0_2 : Int) (a1 : Int) : Option (Int × Int × Int) := (spec_l01Next.f s0_0 s0_1 s0_2 14).bind fun bt432 => (if bt432.1 = 0 then ((spec_l01Pick.f s0_0 bt432.2.1 bt432.2.2 ([(-1), wrap64 (a1 + 1), 1099511627776, (-4611686018427387904)] : List Int)).bind fun bt438 => (some (bt438.1, bt438.2.1, bt438.2.2))) else ((spec_l01Next.f s0_0 bt432.2.1 bt432.2.2 (wrap64 (a1 + 1))).bind fun bt441 => (some (bt441.1, bt441.2.1, bt441.2.2))))
set_option maxHeartbeats 8000000 in
set_option maxRecDepth 100000 in
theorem spec_l01Near.calls (g : Nat) (s0_0 : List Int) (s0_1 : Int) (s0_2 : Int) (a1 : Int) (r1 : Int) (r2 : Int) (r3 : Int) (w0 w : World) (hI : IsS97 w0 w g s0_0 s0_1 s0_2) (hB : Below w0.heap.size w0 w) (h : spec_l01Near.f s0_0 s0_1 s0_2 a1 = some (r1, r2, r3)) :
  Calls Try.prog 53 #[.pointer (some ⟨g, 0, none⟩), .int .i64 a1] w fun e w' => e = .returned (.int .i64 r1) ∧ IsS97 w0 w' g s0_0 r2 r3 ∧ Below w0.heap.size w0 w' ∧ KeepBut w w' g none := by
 have HI0 := Aside0.mk hI
 have HK := Aside0.mk (KeepBut.refl w g none)
 have HL := Aside0.mk hB.size
 clear hI
 have HW0 := Aside0.mk hB.size
 have HB := Aside0.mk hB
 clear hB
 have H : ((spec_l01Next.f s0_0 s0_1 s0_2 14).bind fun bt432 => (if bt432.1 = 0 then ((spec_l01Pick.f s0_0 bt432.2.1 bt432.2.2 ([(-1), wrap64 (a1 + 1), 1099511627776, (-4611686018427387904)] : List Int)).bind fun bt438 => (some (bt438.1, bt438.2.1, bt438.2.2))) else ((spec_l01Next.f s0_0 bt432.2.1 bt432.2.2 (wrap64 (a1 + 1))).bind fun bt441 => (some (bt441.1, bt441.2.1, bt441.2.2))))) = some (r1, r2, r3) := h
 clear h
 replace H := Option.bind_eq_some_iff.mp H
 obtain ⟨⟨t432, t433, t434⟩, A30, H⟩ := H
 replace H : (if t432 = 0 then ((spec_l01Pick.f s0_0 t433 t434 ([(-1), wrap64 (a1 + 1), 1099511627776, (-4611686018427387904)] : List Int)).bind fun bt438 => (some (bt438.1, bt438.2.1, bt438.2.2))) else ((spec_l01Next.f s0_0 t433 t434 (wrap64 (a1 + 1))).bind fun bt441 => (some (bt441.1, bt441.2.1, bt441.2.2)))) = some (r1, r2, r3) := H
 have A3 := Aside0.mk A30
 clear A30
 by_cases c4 : t432 = 0
 rotate_left
 ·rw [if_neg c4] at H
  have c4b0 : (t432 == 0) = false := beq_eq_false_iff_ne.mpr c4
  have c4b1 : (t432 != 0) = true := bne_iff_ne.mpr c4
  replace H := Option.bind_eq_some_iff.mp H
  obtain ⟨⟨t441, t442, t443⟩, A110, H⟩ := H
  replace H : (some (t441, t442, t443)) = some (r1, r2, r3) := H
  have A11 := Aside0.mk A110
  clear A110
  simp only [Option.some.injEq, Prod.mk.injEq] at H
  obtain ⟨rfl, rfl, rfl⟩ := H
  go_enter Try.func53, Try.ntmps53
  go_wp2_with (first | ((with_reducible refine gate_callee (f := 82) rfl ?_); refine goesL_ (some 6) rfl rfl Try.func82 (by kernel_rfl) rfl #[.pointer (some ⟨g, 0, none⟩), .int .i64 14] rfl am ?_; (with_reducible refine (spec_l01Next.calls g s0_0 s0_1 s0_2 14 t432 t433 t434 w0 _ ?side1 ?side2 A3.out).mono ?_); (case side1 => repeat (first | (with_reducible first | exact HI0.out | apply IsS97.alloc | apply IsS97.drewN | apply IsS97.drew | apply IsS97.set_1 | apply IsS97.set_2) | exact HI0.out)); (case side2 => repeat (first | (with_reducible first | exact HB.out | apply below_alloc | apply pw_below_drewN | apply below_drew1 | refine below_set ?_ (IsS97.ge HI0.out)) | exact HB.out)); rintro e w12 ⟨rfl, hi, hb, hk⟩; refine ⟨_, rfl, ?_⟩; replace HK := Aside0.mk (KeepBut.trans q9_0 hk (.inl rfl)); replace HB := Aside0.mk (hb); replace HI0 := Aside0.mk (hi); (try clear hb); (try clear hb2); (try clear hk); (try clear hi)) | ((with_reducible refine gate_callee (f := 82) rfl ?_); refine goesL_ (some 16) rfl rfl Try.func82 (by kernel_rfl) rfl #[.pointer (some ⟨g, 0, none⟩), .int .i64 (wrap64 (a1 + 1))] rfl am ?_; (with_reducible refine (spec_l01Next.calls g s0_0 t433 t434 (wrap64 (a1 + 1)) t441 t442 t443 w0 _ ?side1 ?side2 A11.out).mono ?_); (case side1 => repeat (first | (with_reducible first | exact HI0.out | apply IsS97.alloc | apply IsS97.drewN | apply IsS97.drew | apply IsS97.set_1 | apply IsS97.set_2) | exact HI0.out)); (case side2 => repeat (first | (with_reducible first | exact HB.out | apply below_alloc | apply pw_below_drewN | apply below_drew1 | refine below_set ?_ (IsS97.ge HI0.out)) | exact HB.out)); rintro e w13 ⟨rfl, hi, hb, hk⟩; refine ⟨_, rfl, ?_⟩; replace HK := Aside0.mk (KeepBut.trans q9_0 hk (.inl rfl)); replace HB := Aside0.mk (hb); replace HI0 := Aside0.mk (hi); (try clear hb); (try clear hb2); (try clear hk); (try clear hi)))
  go_ret
  exact ⟨ew, q9_4, q9_6, q9_0⟩
 rw [if_pos c4] at H
 have c4b0 : (t432 == 0) = true := beq_iff_eq.mpr c4
 have c4b1 : (t432 != 0) = false := bne_eq_false_iff_eq.mpr c4
 clear c4
 obtain ⟨y435, hy435⟩ : ∃ y_ : List Int, y_ = ([(-1), wrap64 (a1 + 1), 1099511627776, (-4611686018427387904)] : List Int) := ⟨_, rfl⟩
 replace H : ((spec_l01Pick.f s0_0 t433 t434 y435).bind fun bt438 => (some (bt438.1, bt438.2.1, bt438.2.2))) = some (r1, r2, r3) := by first | (rw [hy435]; with_reducible exact H) | (have H2_ := (Option.bind_some _ _).symm.trans H; rw [hy435]; with_reducible exact H2_) | (have H2_ := (Option.bind_some _ _).symm.trans H; with_reducible exact H2_) | with_reducible exact H | (rw [hy435]; exact H) | exact H
 have Ny435 := Aside0.mk hy435
 clear hy435
 replace H := Option.bind_eq_some_iff.mp H
 obtain ⟨⟨t438, t439, t440⟩, A50, H⟩ := H
 replace H : (some (t438, t439, t440)) = some (r1, r2, r3) := H
 have A5 := Aside0.mk A50
 clear A50
 simp only [Option.some.injEq, Prod.mk.injEq] at H
 obtain ⟨rfl, rfl, rfl⟩ := H
 go_enter Try.func53, Try.ntmps53
 go_wp2_with (first | ((with_reducible refine gate_callee (f := 82) rfl ?_); refine goesL_ (some 6) rfl rfl Try.func82 (by kernel_rfl) rfl #[.pointer (some ⟨g, 0, none⟩), .int .i64 14] rfl am ?_; (with_reducible refine (spec_l01Next.calls g s0_0 s0_1 s0_2 14 t432 t433 t434 w0 _ ?side1 ?side2 A3.out).mono ?_); (case side1 => repeat (first | (with_reducible first | exact HI0.out | apply IsS97.alloc | apply IsS97.drewN | apply IsS97.drew | apply IsS97.set_1 | apply IsS97.set_2) | exact HI0.out)); (case side2 => repeat (first | (with_reducible first | exact HB.out | apply below_alloc | apply pw_below_drewN | apply below_drew1 | refine below_set ?_ (IsS97.ge HI0.out)) | exact HB.out)); rintro e w6 ⟨rfl, hi, hb, hk⟩; refine ⟨_, rfl, ?_⟩; replace HK := Aside0.mk (KeepBut.trans q9_0 hk (.inl rfl)); replace HB := Aside0.mk (hb); replace HI0 := Aside0.mk (hi); (try clear hb); (try clear hb2); (try clear hk); (try clear hi)) | ((with_reducible refine gate_dst (N := 11) rfl ?_); refine Kd.R_lit (Kd.int .i64) _ 2 ?hg (N := 11) ?hd (xs := ([(-1), wrap64 (a1 + 1), 1099511627776, (-4611686018427387904)] : List Int)) (inner := [.int .i64 (-1), .int .i64 (wrap64 (a1 + 1)), .int .i64 1099511627776, .int .i64 (-4611686018427387904)]) (ok := fun _ => True) (okp := fun _ => True) ?hr ?hp (fun _ hk => hk) trivial (Below.refl _ _) (Nat.le_refl _) (by simp) ?_; (case hd => rfl); (case hg => rfl); (case hr => exact gs); (case hp => exact (Reps.one (show Kd.M (Kd.int .i64) _ _ _ (-1) [.int .i64 (-1)] from rfl) (Reps.one (show Kd.M (Kd.int .i64) _ _ _ (wrap64 (a1 + 1)) [.int .i64 (wrap64 (a1 + 1))] from rfl) (Reps.one (show Kd.M (Kd.int .i64) _ _ _ 1099511627776 [.int .i64 1099511627776] from rfl) (Reps.one (show Kd.M (Kd.int .i64) _ _ _ (-4611686018427387904) [.int .i64 (-4611686018427387904)] from rfl) (Reps.none _ _)))))); intro v436 w7 ho8 hb hg_ hnew_; clear hg_ hnew_; (first | rw [← Ny435.out] at ho8 | (simp only [Int.reduceToNat] at ho8; rw [← Ny435.out] at ho8)); have HO437 := Aside0.mk (Kd.R_lower ho8 (keep_size (w := w) (g := g) (row := none) q9_0)); replace HK := Aside0.mk (KeepBut.trans q9_0 (KeepBut.of_below hb g none) (.inl rfl)); replace HB := Aside0.mk (below_step q9_6 hb); replace HI0 := Aside0.mk (IsS97.below q9_4 hb); clear hb ho8; obtain ⟨Ao9, co9, eo9⟩ := Kd.R_slice HO437.out; subst eo9) | ((with_reducible refine gate_callee (f := 54) rfl ?_); refine goesL_ (some 12) rfl rfl Try.func54 (by kernel_rfl) rfl #[.pointer (some ⟨g, 0, none⟩), .slice Ao9 y435.length co9] rfl am ?_; (with_reducible refine (spec_l01Pick.calls g s0_0 t433 t434 _ _ y435 t438 t439 t440 w0 _ ?side1 ?side2 ?side3 ?side4 ?side5 A5.out).mono ?_); (case side1 => repeat (first | (with_reducible first | exact HI0.out | apply IsS97.alloc | apply IsS97.drewN | apply IsS97.drew | apply IsS97.set_1 | apply IsS97.set_2) | exact HI0.out)); (case side2 => repeat (first | (with_reducible first | exact HB.out | apply below_alloc | apply pw_below_drewN | apply below_drew1 | refine below_set ?_ (IsS97.ge HI0.out)) | exact HB.out)); (case side3 => exact pc ((Kd.R_reads' HO437.out).2.2)); (case side4 => exact (Kd.R_reads' HO437.out).2.1); (case side5 => exact far_slice (IsS97.own_ne HI0.out HO437.out (by decide))); rintro e w10 ⟨rfl, hi, hb, hk⟩; refine ⟨_, rfl, ?_⟩; replace HO437 := Aside0.mk (Kd.R_mono (Kd.R_keep (IsS97.apart (show IsS97 w0 _ g s0_0 t433 t434 from q9_4) (pe HO437.out) (by decide)) hk (fun _ h => h.2)) (fun _ h => h.1)); replace HK := Aside0.mk (KeepBut.trans q9_0 hk (.inl rfl)); replace HB := Aside0.mk (hb); replace HI0 := Aside0.mk (hi); (try clear hb); (try clear hb2); (try clear hk); (try clear hi)))
 go_ret
 exact ⟨ew, q9_4, q9_6, q9_0⟩

/-! ### spec_l01With: function 52 -/
def spec_l01With.f (k : Nat) (l0 : List Int) : Option (List Int × Int × Int) := (spec_l01From.f k l0).bind fun bt445 => ((spec_l01Draw.f k bt445.1 bt445.2.1 bt445.2.2).bind fun bt449 => ((spec_l01N.f bt449.1).bind fun t455 => ((spec_l01Near.f bt445.1 bt449.2.1 bt449.2.2 (wrap64 (t455 - 1))).bind fun bt456 => ((spec_l01N.f bt449.1).bind fun t459 => ((spec_l01Near.f bt445.1 bt456.2.1 bt456.2.2 (wrap64 (t459 - 1))).bind fun bt460 => ((spec_l01Bad.f bt445.1 bt460.2.1 bt460.2.2 bt449.1).bind fun bt463 => (some (bt463.1, bt456.1, bt460.1))))))))
theorem spec_l01With.mono : ∀ a0 k, LeO (spec_l01With.f k a0) (spec_l01With.f (k + 1) a0) := by
 intro a0 k
 unfold spec_l01With.f
 repeat' first
   | (with_reducible exact spec_l01Draw.mono _ _ _ _)
   | (with_reducible exact spec_l01From.mono _ _)
   | (with_reducible exact LeO.refl _)
   | (with_reducible exact LeO.none _)
   | (with_reducible refine LeO.ite ?_ ?_)
   | (with_reducible refine LeO.bind ?_ (fun _ => ?_))
   | exact spec_l01Draw.mono _ _ _ _
   | exact spec_l01From.mono _ _
   | exact LeO.none _
   | refine LeO.ite ?_ ?_
   | refine LeO.bind ?_ (fun _ => ?_)
def spec_l01With.T3 : Bool × List (List Nat × List Nat) := (true, [([], []), ([], []), ([1], [1]), ([2], [2]), ([0, 3, 2], [0, 3]), ([], []), ([], []), ([6, 4], [6]), ([7], [7]), ([5, 8, 7], [5, 8]), ([4, 9, 0, 1, 2, 3, 4], [4]), ([9, 10, 0, 1, 2, 3, 4, 5, 6, 7, 8, 9, 10], [9])])
def spec_l01With.B3 : List Nat := [0, 0, 2, 6, 15, 0, 0, 95, 223, 511, 1023, 2047]
theorem spec_l01With.tab3 : rtab .any (opsOf Try.f52 3) = spec_l01With.T3 := by kernel_rfl
theorem spec_l01With.bits3 : waitsOk spec_l01With.T3.2 spec_l01With.B3 = true := by kernel_rfl
set_option maxHeartbeats 8000000 in
set_option maxRecDepth 100000 in
theorem spec_l01With.calls (k : Nat) (A0 : Option Addr) (c0 : Nat) (l0 : List Int) (r1 : List Int) (r2 : Int) (r3 : Int) (w : World) (hr0 : Kd.C (Kd.int .u8) w A0 l0.length l0) (hc0 : l0.length ≤ c0) (h : spec_l01With.f k l0 = some (r1, r2, r3)) :
  Calls Try.prog 52 #[.slice A0 l0.length c0] w fun e w' => ∃ v0_ : Value, e = .returned (.tuple #[.agg #[v0_], .int .i64 r2, .int .i64 r3]) ∧ Kd.R (Kd.int .i64) 2 w' w.heap.size (fun _ => True) v0_ r1 ∧ Below w.heap.size w w' := by
 have hu26 := Try.underlying26
 have HR0 := Aside0.mk hr0
 have HC0 := Aside0.mk hc0
 clear hr0 hc0
 have HB := Aside0.mk (Below.refl w.heap.size w)
 have H : ((spec_l01From.f k l0).bind fun bt445 => ((spec_l01Draw.f k bt445.1 bt445.2.1 bt445.2.2).bind fun bt449 => ((spec_l01N.f bt449.1).bind fun t455 => ((spec_l01Near.f bt445.1 bt449.2.1 bt449.2.2 (wrap64 (t455 - 1))).bind fun bt456 => ((spec_l01N.f bt449.1).bind fun t459 => ((spec_l01Near.f bt445.1 bt456.2.1 bt456.2.2 (wrap64 (t459 - 1))).bind fun bt460 => ((spec_l01Bad.f bt445.1 bt460.2.1 bt460.2.2 bt449.1).bind fun bt463 => (some (bt463.1, bt456.1, bt460.1))))))))) = some (r1, r2, r3) := h
 clear h
 replace H := Option.bind_eq_some_iff.mp H
 obtain ⟨⟨t445, t446, t447⟩, A20, H⟩ := H
 replace H : ((spec_l01Draw.f k t445 t446 t447).bind fun bt449 => ((spec_l01N.f bt449.1).bind fun t455 => ((spec_l01Near.f t445 bt449.2.1 bt449.2.2 (wrap64 (t455 - 1))).bind fun bt456 => ((spec_l01N.f bt449.1).bind fun t459 => ((spec_l01Near.f t445 bt456.2.1 bt456.2.2 (wrap64 (t459 - 1))).bind fun bt460 => ((spec_l01Bad.f t445 bt460.2.1 bt460.2.2 bt449.1).bind fun bt463 => (some (bt463.1, bt456.1, bt460.1)))))))) = some (r1, r2, r3) := H
 have A2 := Aside0.mk A20
 clear A20
 replace H := Option.bind_eq_some_iff.mp H
 obtain ⟨⟨t449, t452, t453⟩, A30, H⟩ := H
 replace H : ((spec_l01N.f t449).bind fun t455 => ((spec_l01Near.f t445 t452 t453 (wrap64 (t455 - 1))).bind fun bt456 => ((spec_l01N.f t449).bind fun t459 => ((spec_l01Near.f t445 bt456.2.1 bt456.2.2 (wrap64 (t459 - 1))).bind fun bt460 => ((spec_l01Bad.f t445 bt460.2.1 bt460.2.2 t449).bind fun bt463 => (some (bt463.1, bt456.1, bt460.1))))))) = some (r1, r2, r3) := H
 have A3 := Aside0.mk A30
 clear A30
 replace H := Option.bind_eq_some_iff.mp H
 obtain ⟨t455, A40, H⟩ := H
 replace H : ((spec_l01Near.f t445 t452 t453 (wrap64 (t455 - 1))).bind fun bt456 => ((spec_l01N.f t449).bind fun t459 => ((spec_l01Near.f t445 bt456.2.1 bt456.2.2 (wrap64 (t459 - 1))).bind fun bt460 => ((spec_l01Bad.f t445 bt460.2.1 bt460.2.2 t449).bind fun bt463 => (some (bt463.1, bt456.1, bt460.1)))))) = some (r1, r2, r3) := H
 have A4 := Aside0.mk A40
 clear A40
 replace H := Option.bind_eq_some_iff.mp H
 obtain ⟨⟨t456, t457, t458⟩, A50, H⟩ := H
 replace H : ((spec_l01N.f t449).bind fun t459 => ((spec_l01Near.f t445 t457 t458 (wrap64 (t459 - 1))).bind fun bt460 => ((spec_l01Bad.f t445 bt460.2.1 bt460.2.2 t449).bind fun bt463 => (some (bt463.1, t456, bt460.1))))) = some (r1, r2, r3) := H
 have A5 := Aside0.mk A50
 clear A50
 replace H := Option.bind_eq_some_iff.mp H
 obtain ⟨t459, A60, H⟩ := H
 replace H : ((spec_l01Near.f t445 t457 t458 (wrap64 (t459 - 1))).bind fun bt460 => ((spec_l01Bad.f t445 bt460.2.1 bt460.2.2 t449).bind fun bt463 => (some (bt463.1, t456, bt460.1)))) = some (r1, r2, r3) := H
 have A6 := Aside0.mk A60
 clear A60
 replace H := Option.bind_eq_some_iff.mp H
 obtain ⟨⟨t460, t461, t462⟩, A70, H⟩ := H
 replace H : ((spec_l01Bad.f t445 t461 t462 t449).bind fun bt463 => (some (bt463.1, t456, t460))) = some (r1, r2, r3) := H
 have A7 := Aside0.mk A70
 clear A70
 replace H := Option.bind_eq_some_iff.mp H
 obtain ⟨⟨t463, t466, t467⟩, A80, H⟩ := H
 replace H : (some (t463, t456, t460)) = some (r1, r2, r3) := H
 have A8 := Aside0.mk A80
 clear A80
 simp only [Option.some.injEq, Prod.mk.injEq] at H
 obtain ⟨rfl, rfl, rfl⟩ := H
 go_enter Try.func52, Try.ntmps52
 try go_wp2_with (first | ((with_reducible refine gate_dst (N := 2) rfl ?_); refine box_event ?hg (N := 2) ?hd (cs := #[.slice none 0 0]) (t := 26) ?hr ?_; (case hd => rfl); (case hg => rfl); (case hr => exact gs); intro gb444 hg w9 hbox hb; have BK444 := Aside0.mk (hbox); have GW444 := Aside0.mk (geb hg hq : w.heap.size ≤ gb444); have GE444 := Aside0.mk (geb hg hq : w.heap.size ≤ gb444); replace HB := Aside0.mk (below_step hq hb); clear hb hbox hg) | ((with_reducible refine gate_callee (f := 37) rfl ?_); refine goesL_ (some 10) rfl rfl Try.func37 (by kernel_rfl) rfl #[.slice A0 l0.length c0] rfl am ?_; (with_reducible refine (spec_l01From.calls k _ _ l0 t445 t446 t447 w _ ?side1 ?side2 ?side3 A2.out).mono ?_); (case side1 => repeat (first | (with_reducible first | exact HB.out | apply below_alloc | apply pw_below_drewN | apply below_drew1 | refine below_set ?_ GE444.out) | exact HB.out)); (case side2 => exact HR0.out); (case side3 => exact HC0.out); rintro e w10 ⟨g448, rfl, hi, hb, hb2⟩; refine ⟨_, rfl, ?_⟩; replace HB := Aside0.mk (hb); have HI448 := Aside0.mk (hi); have NB448_444 := Aside0.mk (IsS97.ne_blk hi (blk_below (pb BK444.out) hb2) (by decide)); have NB444_448 := Aside0.mk (Ne.symm (IsS97.ne_blk hi (blk_below (pb BK444.out) hb2) (by decide))); replace BK444 := Aside0.mk (blk_below (pb BK444.out) hb2); (try clear hb); (try clear hb2); (try clear hk); (try clear hi)) | ((with_reducible refine gate_callee (f := 77) rfl ?_); refine goesL_ (some 12) rfl rfl Try.func77 (by kernel_rfl) rfl #[.pointer (some ⟨g448, 0, none⟩)] rfl am ?_; (with_reducible refine (spec_l01Draw.calls k g448 t445 t446 t447 t449 t452 t453 w _ ?side1 ?side2 A3.out).mono ?_); (case side1 => repeat (first | (with_reducible first | exact HI448.out | apply IsS97.alloc | apply IsS97.drewN | apply IsS97.drew | apply IsS97.set_1 | apply IsS97.set_2 | refine IsS97.far ?_ NB448_444.out _) | exact HI448.out)); (case side2 => repeat (first | (with_reducible first | exact HB.out | apply below_alloc | apply pw_below_drewN | apply below_drew1 | refine below_set ?_ (IsS97.ge HI448.out) | refine below_set ?_ GE444.out) | exact HB.out)); rintro e w11 ⟨v450, rfl, ho0, hi, hb, hk⟩; refine ⟨_, rfl, ?_⟩; replace BK444 := Aside0.mk (KeepBut.blk hk (g' := gb444) (o := .cells #[.slice none 0 0] 26 (0, 0)) (pb BK444.out) NB444_448.out (by simp)); have HO451 := Aside0.mk (Kd.R_lower ho0 (below_size q9_3)); replace HB := Aside0.mk (hb); replace HI448 := Aside0.mk (hi); (try clear hb); (try clear hb2); (try clear hk); (try clear hi); (try clear ho0)) | ((with_reducible refine gate_dst (N := 6) rfl ?_); refine box_event ?hg (N := 6) ?hd (cs := #[.slice none 0 0]) (t := 26) ?hr ?_; (case hd => rfl); (case hg => rfl); (case hr => exact gs); intro gb454 hg w12 hbox hb; replace HO451 := rb HO451 hb; have BK454 := Aside0.mk (hbox); have GW454 := Aside0.mk (by rw [hg]; exact (below_size q9_3) : w.heap.size ≤ gb454); have GE454 := Aside0.mk (by rw [hg]; exact (below_size q9_3) : w.heap.size ≤ gb454); replace HB := Aside0.mk (below_step q9_3 hb); have NB444_454 := Aside0.mk (nel hg (blk_lt (pb BK444.out)) : gb444 ≠ gb454); have NB454_444 := Aside0.mk (neg hg (blk_lt (pb BK444.out)) : gb454 ≠ gb444); replace BK444 := bb BK444 hb; have NB448_454 := Aside0.mk (by rw [hg]; exact Nat.ne_of_lt (IsS97.lt (show IsS97 w _ g448 t445 t452 t453 from q9_5)) : g448 ≠ gb454); have NB454_448 := Aside0.mk (by rw [hg]; exact Nat.ne_of_gt (IsS97.lt (show IsS97 w _ g448 t445 t452 t453 from q9_5)) : gb454 ≠ g448); replace HI448 := Aside0.mk (IsS97.below q9_5 hb); clear hb hbox hg; obtain ⟨Ao13, co13, eo13⟩ := Kd.R_slice HO451.out; subst eo13; have hnb14 := NB454_444.out; have hnc14 := NB444_454.out; have hnb15 := NB454_448.out; have hnc15 := NB448_454.out; have hcz16_0 : w12.cell? ⟨gb454, 0, none⟩ = some (.slice none 0 0) := (blk_cell BK454.out 0).trans rfl; have hfz16_0 := blk_frozen BK454.out 0))
 have n0_ : Aside0 (Kd.R (Kd.int .i64) 2 (w12.setCell ⟨gb454, 0, none⟩ (.slice Ao13 t449.length co13)) w.heap.size (fun _ => True) (.slice Ao13 t449.length co13) t449) := ⟨pe (Kd.R_mono (Kd.R_far (p := ⟨gb454, 0, none⟩) (Kd.R_types HO451.out BK454.out (by decide)) (fun _ hk => hk.2) (.slice Ao13 t449.length co13)) (fun _ hk => trivial))⟩
 have n1_ : Aside0 ((w12.setCell ⟨gb454, 0, none⟩ (.slice Ao13 t449.length co13)).heap[gb444]? = some (.cells #[.slice none 0 0] 26 (0, 0))) := ⟨by (with_reducible repeat (first | refine blk_drewN ?_ _ | refine blk_drew ?_ | refine blk_alloc ?_ _)); refine blk_far ?_ NB444_454.out _; exact pb BK444.out⟩
 have n2_ : Aside0 ((w12.setCell ⟨gb454, 0, none⟩ (.slice Ao13 t449.length co13)).heap[gb454]? = some (.cells #[.slice Ao13 t449.length co13] 26 (0, 0))) := ⟨by (with_reducible repeat (first | refine blk_drewN ?_ _ | refine blk_drew ?_ | refine blk_alloc ?_ _)); refine blk_put (cs := #[.slice none 0 0]) ?_ 0 _ rfl; exact pb BK454.out⟩
 have n3_ : Aside0 (IsS97 w (w12.setCell ⟨gb454, 0, none⟩ (.slice Ao13 t449.length co13)) g448 t445 t452 t453) := ⟨q9_1⟩
 have n4_ : Aside0 (Below w.heap.size w (w12.setCell ⟨gb454, 0, none⟩ (.slice Ao13 t449.length co13))) := ⟨q9_2⟩
 (try clear HO451)
 (try clear BK444)
 (try clear BK454)
 (try clear HI448)
 (try clear HB)
 generalize (w12.setCell ⟨gb454, 0, none⟩ (.slice Ao13 t449.length co13)) = w17 at n0_ n1_ n2_ n3_ n4_ ⊢
 have HO451 := n0_
 have BK444 := n1_
 have BK454 := n2_
 have HI448 := n3_
 have HB := n4_
 clear n0_ n1_ n2_ n3_ n4_
 have n0_ := Aside0.mk (Kd.R_drew HO451.out)
 have n1_ := Aside0.mk (blk_drew BK444.out)
 have n2_ := Aside0.mk (blk_drew BK454.out)
 have n3_ := Aside0.mk (IsS97.drew HI448.out)
 have n4_ := Aside0.mk (below_drew1 HB.out)
 clear HO451
 clear BK444
 clear BK454
 clear HI448
 clear HB
 have HO451 := n0_
 have BK444 := n1_
 have BK454 := n2_
 have HI448 := n3_
 have HB := n4_
 clear n0_ n1_ n2_ n3_ n4_
 refine start_ (n := 12) (S := fun w' => w'.cell? ⟨gb454, 0, none⟩ = some (.slice Ao13 t449.length co13)) (ds := []) #[false, false, false, false, false, false, false, false, false, false, false, false] (by kernel_rfl) rfl rfl ((blk_cell BK454.out 0).trans rfl) (fun hHeld => ?_); refine with_tabW spec_l01With.tab3 spec_l01With.bits3 (fun HT_ HW_ => ?_)
 generalize w17.drew = w18 at HO451 BK444 BK454 HI448 HB hHeld ⊢
 refine pure_ (i := 0) (N := some 13) (v := ?_) (a' := ?_) (tf 1 11) rfl rfl (any_of HT_.out (by kernel_rfl)) (fun _ _ _ h => h) (Or.inl ⟨by rfl, ?_⟩) ?_ ?_
 rotate_left
 ·intro w'
  go_simp
  with_reducible rfl
 rotate_left
 ·simp only [Act.put, sIB, sc0, scs, i64_w, i32_w]
  rfl
 refine pure_ (i := 5) (N := some 18) (v := ?_) (a' := ?_) #[true, false, false, false, false, true, false, false, false, false, false, false] rfl rfl (any_of HT_.out (by kernel_rfl)) (fun _ _ _ h => h) (Or.inl ⟨by rfl, ?_⟩) ?_ ?_
 rotate_left
 ·intro w'
  go_simp
  with_reducible rfl
 rotate_left
 ·simp only [Act.put, sIB, sc0, scs, i64_w, i32_w]
  rfl
 refine take_ (i := 1) (N := some 14) (v := ?_) (a' := ?_) #[true, true, false, false, false, true, false, false, false, false, false, false] rfl rfl (take_ofW HT_.out HW_.out (by kernel_rfl)) (fun _ _ _ h => h) (Or.inl ⟨by rfl, ?_⟩) hHeld ?_ ?_
 rotate_left
 ·intro w' s0
  go_simp
  with_reducible rfl
 rotate_left
 ·simp only [Act.put, sIB, sc0, scs, i64_w, i32_w]
  rfl
 refine take_ (i := 6) (N := some 19) (v := ?_) (a' := ?_) #[true, true, false, false, false, true, true, false, false, false, false, false] rfl rfl (take_ofW HT_.out HW_.out (by kernel_rfl)) (fun _ _ _ h => h) (Or.inl ⟨by rfl, ?_⟩) hHeld ?_ ?_
 rotate_left
 ·intro w' s0
  go_simp
  with_reducible rfl
 rotate_left
 ·simp only [Act.put, sIB, sc0, scs, i64_w, i32_w]
  rfl
 refine one_ (i := 2) (N := some 15) #[true, true, true, false, false, true, true, false, false, false, false, false] rfl rfl (one_of HT_.out (by kernel_rfl)) (by decide) (fun K hK => ?_)
 refine goes_ Try.func44 (by kernel_rfl) rfl #[.agg #[.slice Ao13 t449.length co13]] (by rfl) rfl rfl am ?_
 with_reducible refine (spec_l01N.calls _ _ t449 t455 _ ?side1 ?side2 A4.out).mono ?_
 (case side1 => exact pc ((Kd.R_reads' HO451.out).2.2))
 (case side2 => exact (Kd.R_reads' HO451.out).2.1)
 rintro e w19 ⟨rfl, hb⟩
 refine ⟨_, rfl, ?_⟩
 have n0_ := rb HO451 hb
 have n1_ := bb BK444 hb
 have n2_ := Aside0.mk (IsS97.below q9_1 hb)
 have n3_ := bb BK454 hb
 have n4_ := Aside0.mk (below_step q9_2 hb)
 clear HO451
 clear BK444
 clear HI448
 clear BK454
 clear HB
 have HO451 := n0_
 have BK444 := n1_
 have HI448 := n2_
 have BK454 := n3_
 have HB := n4_
 clear n0_ n1_ n2_ n3_ n4_
 (try clear hb)
 (try clear hb2)
 (try clear hk)
 (try clear hi)
 refine hK.out _ _ ((blk_cell BK454.out 0).trans rfl) (fun hHeld => ?_)
 clear hK K
 refine norm_ (a' := ?_) ?_ ?_
 rotate_left
 ·show Act.put _ (some 15) _ = _
  simp only [Act.put, sIB, sc0, scs, i64_w, i32_w]
  rfl
 refine pure_ (i := 3) (N := some 16) (v := ?_) (a' := ?_) #[true, true, true, true, false, true, true, false, false, false, false, false] rfl rfl (any_of HT_.out (by kernel_rfl)) (fun _ _ _ h => h) (Or.inl ⟨by rfl, ?_⟩) ?_ ?_
 rotate_left
 ·intro w'
  go_simp
  with_reducible rfl
 rotate_left
 ·simp only [Act.put, sIB, sc0, scs, i64_w, i32_w]
  rfl
 refine one_ (i := 4) (N := some 17) (tf 7 5) rfl rfl (one_of HT_.out (by kernel_rfl)) (by decide) (fun K hK => ?_)
 refine goes_ Try.func53 (by kernel_rfl) rfl #[.pointer (some ⟨g448, 0, none⟩), .int .i64 (wrap64 (t455 - 1))] (by rfl) rfl rfl am ?_
 with_reducible refine (spec_l01Near.calls g448 t445 t452 t453 (wrap64 (t455 - 1)) t456 t457 t458 w _ ?side1 ?side2 A5.out).mono ?_
 (case side1 => repeat (first | (with_reducible first | exact HI448.out | apply IsS97.alloc | apply IsS97.drewN | apply IsS97.drew | apply IsS97.set_1 | apply IsS97.set_2 | refine IsS97.far ?_ NB448_444.out _ | refine IsS97.far ?_ NB448_454.out _) | exact HI448.out))
 (case side2 => repeat (first | (with_reducible first | exact HB.out | apply below_alloc | apply pw_below_drewN | apply below_drew1 | refine below_set ?_ (IsS97.ge HI448.out) | refine below_set ?_ GE444.out | refine below_set ?_ GE454.out) | exact HB.out))
 rintro e w20 ⟨rfl, hi, hb, hk⟩
 refine ⟨_, rfl, ?_⟩
 have n0_ := Aside0.mk (KeepBut.blk hk (g' := gb444) (o := .cells #[.slice none 0 0] 26 (0, 0)) (pb BK444.out) NB444_448.out (by simp))
 have n1_ := Aside0.mk (Kd.R_mono (Kd.R_keep (IsS97.apart (show IsS97 w _ g448 t445 t452 t453 from q9_1) (pe HO451.out) (by decide)) hk (fun _ h => h.2)) (fun _ h => h.1))
 have n2_ := Aside0.mk (KeepBut.blk hk (g' := gb454) (o := .cells #[.slice Ao13 t449.length co13] 26 (0, 0)) (pb BK454.out) NB454_448.out (by simp))
 have n3_ := Aside0.mk (hb)
 have n4_ := Aside0.mk (hi)
 clear BK444
 clear HO451
 clear BK454
 clear HB
 clear HI448
 have BK444 := n0_
 have HO451 := n1_
 have BK454 := n2_
 have HB := n3_
 have HI448 := n4_
 clear n0_ n1_ n2_ n3_ n4_
 (try clear hb)
 (try clear hb2)
 (try clear hk)
 (try clear hi)
 refine hK.out _ _ ((blk_cell BK454.out 0).trans rfl) (fun hHeld => ?_)
 clear hK K
 refine norm_ (a' := ?_) ?_ ?_
 rotate_left
 ·show Act.put _ (some 17) _ = _
  simp only [Act.put, sIB, sc0, scs, i64_w, i32_w]
  rfl
 refine one_ (i := 7) (N := some 20) (tf 8 4) rfl rfl (one_of HT_.out (by kernel_rfl)) (by decide) (fun K hK => ?_)
 refine goes_ Try.func44 (by kernel_rfl) rfl #[.agg #[.slice Ao13 t449.length co13]] (by rfl) rfl rfl am ?_
 with_reducible refine (spec_l01N.calls _ _ t449 t459 _ ?side1 ?side2 A6.out).mono ?_
 (case side1 => exact pc ((Kd.R_reads' HO451.out).2.2))
 (case side2 => exact (Kd.R_reads' HO451.out).2.1)
 rintro e w21 ⟨rfl, hb⟩
 refine ⟨_, rfl, ?_⟩
 have n0_ := rb HO451 hb
 have n1_ := bb BK444 hb
 have n2_ := Aside0.mk (IsS97.below q9_1 hb)
 have n3_ := bb BK454 hb
 have n4_ := Aside0.mk (below_step q9_2 hb)
 clear HO451
 clear BK444
 clear HI448
 clear BK454
 clear HB
 have HO451 := n0_
 have BK444 := n1_
 have HI448 := n2_
 have BK454 := n3_
 have HB := n4_
 clear n0_ n1_ n2_ n3_ n4_
 (try clear hb)
 (try clear hb2)
 (try clear hk)
 (try clear hi)
 refine hK.out _ _ ((blk_cell BK454.out 0).trans rfl) (fun hHeld => ?_)
 clear hK K
 refine norm_ (a' := ?_) ?_ ?_
 rotate_left
 ·show Act.put _ (some 20) _ = _
  simp only [Act.put, sIB, sc0, scs, i64_w, i32_w]
  rfl
 refine pure_ (i := 8) (N := some 21) (v := ?_) (a' := ?_) (tf 9 3) rfl rfl (any_of HT_.out (by kernel_rfl)) (fun _ _ _ h => h) (Or.inl ⟨by rfl, ?_⟩) ?_ ?_
 rotate_left
 ·intro w'
  go_simp
  with_reducible rfl
 rotate_left
 ·simp only [Act.put, sIB, sc0, scs, i64_w, i32_w]
  rfl
 refine one_ (i := 9) (N := some 22) (tf 10 2) rfl rfl (one_of HT_.out (by kernel_rfl)) (by decide) (fun K hK => ?_)
 refine goes_ Try.func53 (by kernel_rfl) rfl #[.pointer (some ⟨g448, 0, none⟩), .int .i64 (wrap64 (t459 - 1))] (by rfl) rfl rfl am ?_
 with_reducible refine (spec_l01Near.calls g448 t445 t457 t458 (wrap64 (t459 - 1)) t460 t461 t462 w _ ?side1 ?side2 A7.out).mono ?_
 (case side1 => repeat (first | (with_reducible first | exact HI448.out | apply IsS97.alloc | apply IsS97.drewN | apply IsS97.drew | apply IsS97.set_1 | apply IsS97.set_2 | refine IsS97.far ?_ NB448_444.out _ | refine IsS97.far ?_ NB448_454.out _) | exact HI448.out))
 (case side2 => repeat (first | (with_reducible first | exact HB.out | apply below_alloc | apply pw_below_drewN | apply below_drew1 | refine below_set ?_ (IsS97.ge HI448.out) | refine below_set ?_ GE444.out | refine below_set ?_ GE454.out) | exact HB.out))
 rintro e w22 ⟨rfl, hi, hb, hk⟩
 refine ⟨_, rfl, ?_⟩
 have n0_ := Aside0.mk (KeepBut.blk hk (g' := gb444) (o := .cells #[.slice none 0 0] 26 (0, 0)) (pb BK444.out) NB444_448.out (by simp))
 have n1_ := Aside0.mk (Kd.R_mono (Kd.R_keep (IsS97.apart (show IsS97 w _ g448 t445 t457 t458 from q9_1) (pe HO451.out) (by decide)) hk (fun _ h => h.2)) (fun _ h => h.1))
 have n2_ := Aside0.mk (KeepBut.blk hk (g' := gb454) (o := .cells #[.slice Ao13 t449.length co13] 26 (0, 0)) (pb BK454.out) NB454_448.out (by simp))
 have n3_ := Aside0.mk (hb)
 have n4_ := Aside0.mk (hi)
 clear BK444
 clear HO451
 clear BK454
 clear HB
 clear HI448
 have BK444 := n0_
 have HO451 := n1_
 have BK454 := n2_
 have HB := n3_
 have HI448 := n4_
 clear n0_ n1_ n2_ n3_ n4_
 (try clear hb)
 (try clear hb2)
 (try clear hk)
 (try clear hi)
 refine hK.out _ _ ((blk_cell BK454.out 0).trans rfl) (fun hHeld => ?_)
 clear hK K
 refine norm_ (a' := ?_) ?_ ?_
 rotate_left
 ·show Act.put _ (some 22) _ = _
  simp only [Act.put, sIB, sc0, scs, i64_w, i32_w]
  rfl
 refine pure_ (i := 10) (N := some 7) (v := ?_) (a' := ?_) (tf 11 1) rfl rfl (any_of HT_.out (by kernel_rfl)) (fun _ _ _ h => h) (Or.inl ⟨by rfl, ?_⟩) ?_ ?_
 rotate_left
 ·intro w'
  go_simp
  with_reducible rfl
 rotate_left
 ·simp only [Act.put, sIB, sc0, scs, i64_w, i32_w]
  rfl
 refine pure_ (i := 11) (N := some 8) (v := ?_) (a' := ?_) (tf 12 0) rfl rfl (any_of HT_.out (by kernel_rfl)) (fun _ _ _ h => h) (Or.inl ⟨by rfl, ?_⟩) ?_ ?_
 rotate_left
 ·intro w'
  go_simp
  with_reducible rfl
 rotate_left
 ·simp only [Act.put, sIB, sc0, scs, i64_w, i32_w]
  rfl
 refine done_ (done_of HT_.out (by kernel_rfl)) ?_
 have hcz23_0 : w22.cell? ⟨gb454, 0, none⟩ = some (.slice Ao13 t449.length co13) := (blk_cell BK454.out 0).trans rfl
 have hfz23_0 := blk_frozen BK454.out 0
 try go_wp2_with (first | ((with_reducible refine gate_callee (f := 76) rfl ?_); refine goesL_ (some 25) rfl rfl Try.func76 (by kernel_rfl) rfl #[.pointer (some ⟨g448, 0, none⟩), .agg #[.slice Ao13 t449.length co13]] rfl am ?_; (with_reducible refine (spec_l01Bad.calls g448 t445 t461 t462 (fun k_ => some k_ = (.slice Ao13 t449.length co13 : Value).ownBlock) (.slice Ao13 t449.length co13) t449 t463 t466 t467 w _ ?side1 ?side2 ?side3 A8.out).mono ?_); (case side1 => repeat (first | (with_reducible first | exact HI448.out | apply IsS97.alloc | apply IsS97.drewN | apply IsS97.drew | apply IsS97.set_1 | apply IsS97.set_2 | refine IsS97.far ?_ NB448_444.out _ | refine IsS97.far ?_ NB448_454.out _) | exact HI448.out)); (case side2 => repeat (first | (with_reducible first | exact HB.out | apply below_alloc | apply pw_below_drewN | apply below_drew1 | refine below_set ?_ (IsS97.ge HI448.out) | refine below_set ?_ GE444.out | refine below_set ?_ GE454.out) | exact HB.out)); (case side3 => exact Kd.R_tight rfl HO451.out); rintro e w24 ⟨v464, rfl, ho0, hi, hb, hkp⟩; refine ⟨_, rfl, ?_⟩; replace BK444 := Aside0.mk (blk_kept (pb BK444.out) hkp (fun hs_ => Or.elim hs_ (fun hs_ => (fun e_ => (Kd.R_ne HO451.out BK444.out (by decide)) e_) hs_) (fun e_ => NB444_448.out e_))); replace HI448 := Aside0.mk (hi); replace BK454 := Aside0.mk (blk_kept (pb BK454.out) hkp (fun hs_ => Or.elim hs_ (fun hs_ => (fun e_ => (Kd.R_ne HO451.out BK454.out (by decide)) e_) hs_) (fun e_ => NB454_448.out e_))); have HO465 := Aside0.mk (Kd.R_mono (ok' := fun k_ => True) ho0 (fun k_ hk_ => trivial)); replace HB := Aside0.mk (hb); clear HO451; (try clear hb); (try clear hkp); (try clear ho0); obtain ⟨Ao25, co25, eo25⟩ := Kd.R_slice HO465.out; subst eo25; have hnb26 := NB444_448.out; have hnc26 := NB448_444.out; have hcz27_0 : w24.cell? ⟨gb444, 0, none⟩ = some (.slice none 0 0) := (blk_cell BK444.out 0).trans rfl; have hfz27_0 := blk_frozen BK444.out 0))
 refine bodyPost_ret (results_ctt rfl _ _ gb444 26 #[.slice Ao25 t463.length co25] (0, 0) _ rfl (by (with_reducible repeat (first | refine blk_drewN ?_ _ | refine blk_drew ?_ | refine blk_alloc ?_ _)); refine blk_put (cs := #[.slice none 0 0]) ?_ 0 _ rfl; exact pb BK444.out) Try.underlying26 rfl (by kernel_rfl)) rfl ?_
 exact ⟨_, ew, pe (Kd.R_mono (Kd.R_far (p := ⟨gb444, 0, none⟩) (Kd.R_types HO465.out BK444.out (by decide)) (fun _ hk => hk.2) (.slice Ao25 t463.length co25)) (fun _ hk => trivial)), q9_2⟩

/-! ### spec_DrawIntervalOf: function 46 -/
def spec_DrawIntervalOf.f (k : Nat) (l0 : List Int) : Option (List Int × Int) := (spec_l01With.f k l0).bind fun bt469 => (some (bt469.1, bt469.2.1))
theorem spec_DrawIntervalOf.mono : ∀ a0 k, LeO (spec_DrawIntervalOf.f k a0) (spec_DrawIntervalOf.f (k + 1) a0) := by
 intro a0 k
 unfold spec_DrawIntervalOf.f
 repeat' first
   | (with_reducible exact spec_l01With.mono _ _)
   | (with_reducible exact LeO.refl _)
   | (with_reducible exact LeO.none _)
   | (with_reducible refine LeO.ite ?_ ?_)
   | (with_reducible refine LeO.bind ?_ (fun _ => ?_))
   | exact spec_l01With.mono _ _
   | exact LeO.none _
   | refine LeO.ite ?_ ?_
   | refine LeO.bind ?_ (fun _ => ?_)
set_option maxHeartbeats 8000000 in
set_option maxRecDepth 100000 in
theorem spec_DrawIntervalOf.calls (k : Nat) (A0 : Option Addr) (c0 : Nat) (l0 : List Int) (r1 : List Int) (r2 : Int) (w : World) (hr0 : Kd.C (Kd.int .u8) w A0 l0.length l0) (hc0 : l0.length ≤ c0) (h : spec_DrawIntervalOf.f k l0 = some (r1, r2)) :
  Calls Try.prog 46 #[.slice A0 l0.length c0] w fun e w' => ∃ v0_ : Value, e = .returned (.tuple #[.agg #[v0_], .int .i64 r2]) ∧ Kd.R (Kd.int .i64) 2 w' w.heap.size (fun _ => True) v0_ r1 ∧ Below w.heap.size w w' := by
 have hu26 := Try.underlying26
 have HR0 := Aside0.mk hr0
 have HC0 := Aside0.mk hc0
 clear hr0 hc0
 have HB := Aside0.mk (Below.refl w.heap.size w)
 have H : ((spec_l01With.f k l0).bind fun bt469 => (some (bt469.1, bt469.2.1))) = some (r1, r2) := h
 clear h
 replace H := Option.bind_eq_some_iff.mp H
 obtain ⟨⟨t469, t472, t473⟩, A20, H⟩ := H
 replace H : (some (t469, t472)) = some (r1, r2) := H
 have A2 := Aside0.mk A20
 clear A20
 simp only [Option.some.injEq, Prod.mk.injEq] at H
 obtain ⟨rfl, rfl⟩ := H
 go_enter Try.func46, Try.ntmps46
 go_wp2_with (first | ((with_reducible refine gate_dst (N := 2) rfl ?_); refine box_event ?hg (N := 2) ?hd (cs := #[.slice none 0 0]) (t := 26) ?hr ?_; (case hd => rfl); (case hg => rfl); (case hr => exact gs); intro gb468 hg w3 hbox hb; have BK468 := Aside0.mk (hbox); have GW468 := Aside0.mk (geb hg hq : w.heap.size ≤ gb468); have GE468 := Aside0.mk (geb hg hq : w.heap.size ≤ gb468); replace HB := Aside0.mk (below_step hq hb); clear hb hbox hg) | ((with_reducible refine gate_callee (f := 52) rfl ?_); refine goesL_ (some 9) rfl rfl Try.func52 (by kernel_rfl) rfl #[.slice A0 l0.length c0] rfl am ?_; (with_reducible refine (spec_l01With.calls k _ _ l0 t469 t472 t473 _ ?side1 ?side2 A2.out).mono ?_); (case side1 => exact pc (Kd.C_below HR0.out HB.out)); (case side2 => exact HC0.out); rintro e w4 ⟨v470, rfl, ho0, hb⟩; refine ⟨_, rfl, ?_⟩; have HO471 := Aside0.mk (Kd.R_lower ho0 (below_size hq)); replace BK468 := bb BK468 hb; replace HB := Aside0.mk (below_step hq hb); (try clear hb); (try clear hb2); (try clear hk); (try clear hi); (try clear ho0)) | ((with_reducible refine gate_dst (N := 4) rfl ?_); refine box_event ?hg (N := 4) ?hd (cs := #[.slice none 0 0]) (t := 26) ?hr ?_; (case hd => rfl); (case hg => rfl); (case hr => exact gs); intro gb474 hg w5 hbox hb; replace HO471 := rb HO471 hb; have BK474 := Aside0.mk (hbox); have GW474 := Aside0.mk (geb hg hq : w.heap.size ≤ gb474); have GE474 := Aside0.mk (geb hg hq : w.heap.size ≤ gb474); replace HB := Aside0.mk (below_step hq hb); have NB468_474 := Aside0.mk (nel hg (blk_lt (pb BK468.out)) : gb468 ≠ gb474); have NB474_468 := Aside0.mk (neg hg (blk_lt (pb BK468.out)) : gb474 ≠ gb468); replace BK468 := bb BK468 hb; clear hb hbox hg; obtain ⟨Ao6, co6, eo6⟩ := Kd.R_slice HO471.out; subst eo6; have hnb7 := NB474_468.out; have hnc7 := NB468_474.out; have hcz8_0 : w5.cell? ⟨gb474, 0, none⟩ = some (.slice none 0 0) := (blk_cell BK474.out 0).trans rfl; have hfz8_0 := blk_frozen BK474.out 0; have hcz9_0 : w5.cell? ⟨gb468, 0, none⟩ = some (.slice none 0 0) := (blk_cell BK468.out 0).trans rfl; have hfz9_0 := blk_frozen BK468.out 0))
 refine bodyPost_ret (results_ct rfl _ _ gb468 26 #[.slice Ao6 t469.length co6] (0, 0) _ rfl (by (with_reducible repeat (first | refine blk_drewN ?_ _ | refine blk_drew ?_ | refine blk_alloc ?_ _)); refine blk_put (cs := #[.slice none 0 0]) ?_ 0 _ rfl; (with_reducible repeat (first | refine blk_drewN ?_ _ | refine blk_drew ?_ | refine blk_alloc ?_ _)); refine blk_far ?_ NB468_474.out _; exact pb BK468.out) Try.underlying26 rfl (by kernel_rfl)) rfl ?_
 exact ⟨_, ew, pe (Kd.R_mono (Kd.R_far (p := ⟨gb468, 0, none⟩) (Kd.R_far (p := ⟨gb474, 0, none⟩) (Kd.R_types (Kd.R_types HO471.out BK474.out (by decide)) BK468.out (by decide)) (fun _ hk => hk.1.2) (.slice Ao6 t469.length co6)) (fun _ hk => hk.2) (.slice Ao6 t469.length co6)) (fun _ hk => trivial)), hq⟩

/-! ### spec_DrawLightSteps: function 13 -/
def spec_DrawLightSteps.f (k : Nat) (l0 : List Int) : Option (List Int × Int) := (spec_DrawIntervalOf.f k l0).bind fun bt476 => (some (bt476.1, bt476.2))
theorem spec_DrawLightSteps.mono : ∀ a0 k, LeO (spec_DrawLightSteps.f k a0) (spec_DrawLightSteps.f (k + 1) a0) := by
 intro a0 k
 unfold spec_DrawLightSteps.f
 repeat' first
   | (with_reducible exact spec_DrawIntervalOf.mono _ _)
   | (with_reducible exact LeO.refl _)
   | (with_reducible exact LeO.none _)
   | (with_reducible refine LeO.ite ?_ ?_)
   | (with_reducible refine LeO.bind ?_ (fun _ => ?_))
   | exact spec_DrawIntervalOf.mono _ _
   | exact LeO.none _
   | refine LeO.ite ?_ ?_
   | refine LeO.bind ?_ (fun _ => ?_)
set_option maxHeartbeats 8000000 in
set_option maxRecDepth 100000 in
theorem spec_DrawLightSteps.calls (k : Nat) (A0 : Option Addr) (c0 : Nat) (l0 : List Int) (r1 : List Int) (r2 : Int) (w : World) (hr0 : Kd.C (Kd.int .u8) w A0 l0.length l0) (hc0 : l0.length ≤ c0) (h : spec_DrawLightSteps.f k l0 = some (r1, r2)) :
  Calls Try.prog 13 #[.slice A0 l0.length c0] w fun e w' => ∃ v0_ : Value, e = .returned (.tuple #[.agg #[v0_], .int .i64 r2]) ∧ Kd.R (Kd.int .i64) 2 w' w.heap.size (fun _ => True) v0_ r1 ∧ Below w.heap.size w w' := by
 have hu26 := Try.underlying26
 have HR0 := Aside0.mk hr0
 have HC0 := Aside0.mk hc0
 clear hr0 hc0
 have HB := Aside0.mk (Below.refl w.heap.size w)
 have H : ((spec_DrawIntervalOf.f k l0).bind fun bt476 => (some (bt476.1, bt476.2))) = some (r1, r2) := h
 clear h
 replace H := Option.bind_eq_some_iff.mp H
 obtain ⟨⟨t476, t479⟩, A20, H⟩ := H
 replace H : (some (t476, t479)) = some (r1, r2) := H
 have A2 := Aside0.mk A20
 clear A20
 simp only [Option.some.injEq, Prod.mk.injEq] at H
 obtain ⟨rfl, rfl⟩ := H
 go_enter Try.func13, Try.ntmps13
 go_wp2_with (first | ((with_reducible refine gate_dst (N := 2) rfl ?_); refine box_event ?hg (N := 2) ?hd (cs := #[.slice none 0 0]) (t := 26) ?hr ?_; (case hd => rfl); (case hg => rfl); (case hr => exact gs); intro gb475 hg w3 hbox hb; have BK475 := Aside0.mk (hbox); have GW475 := Aside0.mk (geb hg hq : w.heap.size ≤ gb475); have GE475 := Aside0.mk (geb hg hq : w.heap.size ≤ gb475); replace HB := Aside0.mk (below_step hq hb); clear hb hbox hg) | ((with_reducible refine gate_callee (f := 46) rfl ?_); refine goesL_ (some 5) rfl rfl Try.func46 (by kernel_rfl) rfl #[.slice A0 l0.length c0] rfl am ?_; (with_reducible refine (spec_DrawIntervalOf.calls k _ _ l0 t476 t479 _ ?side1 ?side2 A2.out).mono ?_); (case side1 => exact pc (Kd.C_below HR0.out HB.out)); (case side2 => exact HC0.out); rintro e w4 ⟨v477, rfl, ho0, hb⟩; refine ⟨_, rfl, ?_⟩; have HO478 := Aside0.mk (Kd.R_lower ho0 (below_size hq)); replace BK475 := bb BK475 hb; replace HB := Aside0.mk (below_step hq hb); (try clear hb); (try clear hb2); (try clear hk); (try clear hi); (try clear ho0); obtain ⟨Ao5, co5, eo5⟩ := Kd.R_slice HO478.out; subst eo5; have hcz6_0 : w4.cell? ⟨gb475, 0, none⟩ = some (.slice none 0 0) := (blk_cell BK475.out 0).trans rfl; have hfz6_0 := blk_frozen BK475.out 0))
 refine bodyPost_ret (results_ct rfl _ _ gb475 26 #[.slice Ao5 t476.length co5] (0, 0) _ rfl (by (with_reducible repeat (first | refine blk_drewN ?_ _ | refine blk_drew ?_ | refine blk_alloc ?_ _)); refine blk_put (cs := #[.slice none 0 0]) ?_ 0 _ rfl; exact pb BK475.out) Try.underlying26 rfl (by kernel_rfl)) rfl ?_
 exact ⟨_, ew, pe (Kd.R_mono (Kd.R_far (p := ⟨gb475, 0, none⟩) (Kd.R_types HO478.out BK475.out (by decide)) (fun _ hk => hk.2) (.slice Ao5 t476.length co5)) (fun _ hk => trivial)), hq⟩

/-! ### impl_treeCode: function 47 -/
def impl_treeCode.l0 : Nat → List Int → Int → Int → List Int → Option (Int)
 | 0, _, _, _, _ => none
 | k + 1, x10, x11, x12, x481000 => if x12 < x11 then (if 0 ≤ x12 then (if x12 < (x10.length : Int) then (if (rd x10 x12) < 0 then (some 2) else (if (rd x10 x12) ≥ (x481000.length : Int) then (some 2) else (impl_treeCode.l0 k x10 x11 (wrap64 (x12 + 1)) x481000))) else (none)) else (none)) else (some 0)
def impl_treeCode.f (k : Nat) (l0_0 : List Int) (l1 : List Int) : Option (Int) := (impl_IsTree.f k l0_0).bind fun t481 => (if t481 = true then (impl_treeCode.l0 k l1 (l1.length : Int) 0 l0_0) else (some 1))
theorem impl_treeCode.mono_l : ∀ k, (∀ y0 y1 y2 y3, LeO (impl_treeCode.l0 k y0 y1 y2 y3) (impl_treeCode.l0 (k + 1) y0 y1 y2 y3))
 | 0 => fun _ _ _ _ r h => by simp [impl_treeCode.l0] at h
 | k + 1 => by
  have ih0 := impl_treeCode.mono_l k
  ·intro y0 y1 y2 y3
   unfold impl_treeCode.l0
   repeat' first
   | (with_reducible exact ih0 _ _ _ _)
   | (with_reducible exact impl_IsTree.mono _ _)
   | (with_reducible exact LeO.refl _)
   | (with_reducible exact LeO.none _)
   | (with_reducible refine LeO.ite ?_ ?_)
   | (with_reducible refine LeO.bind ?_ (fun _ => ?_))
   | exact ih0 _ _ _ _
   | exact impl_IsTree.mono _ _
   | exact LeO.none _
   | refine LeO.ite ?_ ?_
   | refine LeO.bind ?_ (fun _ => ?_)
theorem impl_treeCode.mono : ∀ a0 a1 k, LeO (impl_treeCode.f k a0 a1) (impl_treeCode.f (k + 1) a0 a1) := by
 intro a0 a1 k
 have ih0 := impl_treeCode.mono_l k
 unfold impl_treeCode.f
 repeat' first
   | (with_reducible exact ih0 _ _ _ _)
   | (with_reducible exact impl_IsTree.mono _ _)
   | (with_reducible exact LeO.refl _)
   | (with_reducible exact LeO.none _)
   | (with_reducible refine LeO.ite ?_ ?_)
   | (with_reducible refine LeO.bind ?_ (fun _ => ?_))
   | exact ih0 _ _ _ _
   | exact impl_IsTree.mono _ _
   | exact LeO.none _
   | refine LeO.ite ?_ ?_
   | refine LeO.bind ?_ (fun _ => ?_)
set_option maxHeartbeats 8000000 in
set_option maxRecDepth 100000 in
theorem impl_treeCode.calls (k : Nat) (A0_0 : Option Addr) (c0_0 : Nat) (l0_0 : List Int) (A1 : Option Addr) (c1 : Nat) (l1 : List Int) (r : Int) (w : World) (hr0_0 : Kd.C (Kd.int .i64) w A0_0 l0_0.length l0_0) (hc0_0 : l0_0.length ≤ c0_0) (hr1 : Kd.C (Kd.int .i64) w A1 l1.length l1) (hc1 : l1.length ≤ c1) (h : impl_treeCode.f k l0_0 l1 = some r) :
  Calls Try.prog 47 #[.agg #[.slice A0_0 l0_0.length c0_0], .slice A1 l1.length c1] w fun e w' => e = .returned (.int .i64 r) ∧ Below w.heap.size w w' := by
 have hu26 := Try.underlying26
 have HR0_0 := Aside0.mk hr0_0
 have HC0_0 := Aside0.mk hc0_0
 clear hr0_0 hc0_0
 have HR1 := Aside0.mk hr1
 have HC1 := Aside0.mk hc1
 clear hr1 hc1
 have HB := Aside0.mk (Below.refl w.heap.size w)
 have H : ((impl_IsTree.f k l0_0).bind fun t481 => (if t481 = true then (impl_treeCode.l0 k l1 (l1.length : Int) 0 l0_0) else (some 1))) = some r := h
 clear h
 replace H := Option.bind_eq_some_iff.mp H
 obtain ⟨t481, A30, H⟩ := H
 replace H : (if t481 = true then (impl_treeCode.l0 k l1 (l1.length : Int) 0 l0_0) else (some 1)) = some r := H
 have A3 := Aside0.mk A30
 clear A30
 by_cases c4 : t481 = true
 rotate_left
 ·replace c4 := Bool.eq_false_iff.mpr c4
  subst c4
  have H1 : (some 1) = some r := by rw [if_neg (show ¬ (false = true) by decide)] at H; exact H
  clear H
  have H := H1
  clear H1
  obtain rfl := Option.some.inj H
  go_enter Try.func47, Try.ntmps47
  go_wp2_with (first | ((with_reducible refine gate_dst (N := 2) rfl ?_); (try (refine gate_guard (by rfl) ?_; dsimp only)); refine box_event ?hg (N := 2) ?hd (cs := #[.slice A0_0 l0_0.length c0_0]) (t := 26) ?hr ?_; (case hd => rfl); (case hg => rfl); (case hr => exact gs); intro gb480 hg w15 hbox hb; have BK480 := Aside0.mk (hbox); have GW480 := Aside0.mk (geb hg hq : w.heap.size ≤ gb480); have GE480 := Aside0.mk (geb hg hq : w.heap.size ≤ gb480); replace HB := Aside0.mk (below_step hq hb); clear hb hbox hg; have hcz16_0 : w15.cell? ⟨gb480, 0, none⟩ = some (.slice A0_0 l0_0.length c0_0) := (blk_cell BK480.out 0).trans rfl; have hfz16_0 := blk_frozen BK480.out 0) | ((with_reducible refine gate_callee (f := 38) rfl ?_); refine goesL_ (some 8) rfl rfl Try.func38 (by kernel_rfl) rfl #[.agg #[.slice A0_0 l0_0.length c0_0]] rfl am ?_; (with_reducible refine (impl_IsTree.calls k _ _ l0_0 false _ ?side1 ?side2 A3.out).mono ?_); (case side1 => exact pc (Kd.C_below HR0_0.out HB.out)); (case side2 => exact HC0_0.out); rintro e w17 ⟨rfl, hb⟩; refine ⟨_, rfl, ?_⟩; replace BK480 := bb BK480 hb; replace HB := Aside0.mk (below_step hq hb); (try clear hb); (try clear hb2); (try clear hk); (try clear hi)))
  go_ret
  exact ⟨ew, hq⟩
 subst c4
 replace H : (impl_treeCode.l0 k l1 (l1.length : Int) 0 l0_0) = some r := by rw [if_pos rfl] at H; exact H
 have H' := Aside0.mk H
 clear H
 go_enter Try.func47, Try.ntmps47
 go_wp2_with (first | ((with_reducible refine gate_dst (N := 2) rfl ?_); (try (refine gate_guard (by rfl) ?_; dsimp only)); refine box_event ?hg (N := 2) ?hd (cs := #[.slice A0_0 l0_0.length c0_0]) (t := 26) ?hr ?_; (case hd => rfl); (case hg => rfl); (case hr => exact gs); intro gb480 hg w5 hbox hb; have BK480 := Aside0.mk (hbox); have GW480 := Aside0.mk (geb hg hq : w.heap.size ≤ gb480); have GE480 := Aside0.mk (geb hg hq : w.heap.size ≤ gb480); replace HB := Aside0.mk (below_step hq hb); clear hb hbox hg; have hcz6_0 : w5.cell? ⟨gb480, 0, none⟩ = some (.slice A0_0 l0_0.length c0_0) := (blk_cell BK480.out 0).trans rfl; have hfz6_0 := blk_frozen BK480.out 0) | ((with_reducible refine gate_callee (f := 38) rfl ?_); refine goesL_ (some 8) rfl rfl Try.func38 (by kernel_rfl) rfl #[.agg #[.slice A0_0 l0_0.length c0_0]] rfl am ?_; (with_reducible refine (impl_IsTree.calls k _ _ l0_0 true _ ?side1 ?side2 A3.out).mono ?_); (case side1 => exact pc (Kd.C_below HR0_0.out HB.out)); (case side2 => exact HC0_0.out); rintro e w7 ⟨rfl, hb⟩; refine ⟨_, rfl, ?_⟩; replace BK480 := bb BK480 hb; replace HB := Aside0.mk (below_step hq hb); (try clear hb); (try clear hb2); (try clear hk); (try clear hi)))
 go_loopg [12] k (fun kq v12 w' => ∃ (x12_1 : Int), v12 = .int .i64 x12_1 ∧ Aside0 (impl_treeCode.l0 kq l1 (l1.length : Int) x12_1 l0_0 = some r) ∧ Aside0 (kq ≤ k) ∧ Aside0 (w'.heap[gb480]? = some (.cells #[(.slice A0_0 l0_0.length c0_0)] 26 (0, 0))) ∧ Aside0 (Below w.heap.size w w'))
 case atStart => exact ⟨(0), q9_8, H', ⟨Nat.le_refl _⟩, ⟨pb BK480.out⟩, ⟨hq⟩⟩
 case round =>
  clear H'
  try clear c1
  try clear p2
  try clear c3
  try clear c4
  try clear hcz6_0
  try clear hfz6_0
  obtain ⟨x12_1, rfl, HA, HK1, BK480, HB⟩ := hrel
  cases gk with | zero => exact absurd HA.out (by simp [impl_treeCode.l0]) | succ k1 => ?_
  have H := HA.out
  clear HA
  simp only [impl_treeCode.l0] at H
  by_cases c8 : x12_1 < (l1.length : Int)
  rotate_left
  ·rw [if_neg c8] at H
   have c8b0 : decide (x12_1 < (l1.length : Int)) = false := decide_eq_false c8
   clear c8
   obtain rfl := Option.some.inj H
   go_wp2
   go_ret
   exact ⟨ew, hq⟩
  rw [if_pos c8] at H
  have c8b0 : decide (x12_1 < (l1.length : Int)) = true := decide_eq_true c8
  clear c8
  by_cases c9 : 0 ≤ x12_1
  rotate_left
  ·rw [if_neg c9] at H
   exact absurd H (by simp)
  rw [if_pos c9] at H
  have c9b0 : decide (0 ≤ x12_1) = true := decide_eq_true c9
  clear c9
  by_cases c10 : x12_1 < (l1.length : Int)
  rotate_left
  ·rw [if_neg c10] at H
   exact absurd H (by simp)
  rw [if_pos c10] at H
  have c10b0 : decide (x12_1 < (l1.length : Int)) = true := decide_eq_true c10
  clear c10
  by_cases c11 : (rd l1 x12_1) < 0
  ·rw [if_pos c11] at H
   have c11b0 : decide ((rd l1 x12_1) < 0) = true := decide_eq_true c11
   clear c11
   obtain rfl := Option.some.inj H
   have p482 : 0 ≤ (x12_1 : Int) := of_decide_eq_true q9_7
   have q482 : x12_1 < (l1.length : Int) := of_decide_eq_true q9_7
   obtain ⟨ad482, e482, hx482_0⟩ := Kd.at_int HR1.out x12_1 p482 q482
   cases e482
   replace hx482_0 := (HB.out.cell (World.block_lt_of_cell? w _ hx482_0)).trans hx482_0
   replace p482 := eq_true p482
   replace q482 := eq_true q482
   go_wp2
   go_ret
   exact ⟨ew, hq⟩
  rw [if_neg c11] at H
  have c11b0 : decide ((rd l1 x12_1) < 0) = false := decide_eq_false c11
  clear c11
  by_cases c12 : (rd l1 x12_1) ≥ (l0_0.length : Int)
  ·rw [if_pos c12] at H
   have c12b0 : decide ((l0_0.length : Int) ≤ (rd l1 x12_1)) = true := decide_eq_true c12
   clear c12
   obtain rfl := Option.some.inj H
   have p482 : 0 ≤ (x12_1 : Int) := of_decide_eq_true q9_7
   have q482 : x12_1 < (l1.length : Int) := of_decide_eq_true q9_7
   obtain ⟨ad482, e482, hx482_0⟩ := Kd.at_int HR1.out x12_1 p482 q482
   cases e482
   replace hx482_0 := (HB.out.cell (World.block_lt_of_cell? w _ hx482_0)).trans hx482_0
   replace p482 := eq_true p482
   replace q482 := eq_true q482
   have hcz13_0 : wr.cell? ⟨gb480, 0, none⟩ = some (.slice A0_0 l0_0.length c0_0) := (blk_cell BK480.out 0).trans rfl
   have hfz13_0 := blk_frozen BK480.out 0
   go_wp2
   go_ret
   exact ⟨ew, hq⟩
  rw [if_neg c12] at H
  have c12b0 : decide ((l0_0.length : Int) ≤ (rd l1 x12_1)) = false := decide_eq_false c12
  clear c12
  have H' := Aside0.mk H
  clear H
  have p482 : 0 ≤ (x12_1 : Int) := of_decide_eq_true q9_7
  have q482 : x12_1 < (l1.length : Int) := of_decide_eq_true q9_7
  obtain ⟨ad482, e482, hx482_0⟩ := Kd.at_int HR1.out x12_1 p482 q482
  cases e482
  replace hx482_0 := (HB.out.cell (World.block_lt_of_cell? w _ hx482_0)).trans hx482_0
  replace p482 := eq_true p482
  replace q482 := eq_true q482
  have hcz14_0 : wr.cell? ⟨gb480, 0, none⟩ = some (.slice A0_0 l0_0.length c0_0) := (blk_cell BK480.out 0).trans rfl
  have hfz14_0 := blk_frozen BK480.out 0
  go_wp2
  go_roundg k1
  case measure => have := HK1.out; omega
  case rel => exact ⟨(wrap64 (x12_1 + 1)), q9_8, H', ⟨by have := HK1.out; omega⟩, ⟨pb BK480.out⟩, ⟨hq⟩⟩

/-! ### bits_Mul32: function 104 -/
def bits_Mul32.f (a0 : Int) (a1 : Int) : Option (Int × Int) := some (((IntKind.u64.wrap ((IntKind.u64.wrap (a0)) * (IntKind.u64.wrap (a1)))) / 4294967296) % 4294967296, (IntKind.u64.wrap ((IntKind.u64.wrap (a0)) * (IntKind.u64.wrap (a1)))) % 4294967296)
set_option maxHeartbeats 8000000 in
set_option maxRecDepth 100000 in
theorem bits_Mul32.calls (a0 : Int) (a1 : Int) (r1 : Int) (r2 : Int) (w : World) (h : bits_Mul32.f a0 a1 = some (r1, r2)) :
  Calls Try.prog 104 #[.int .u32 a0, .int .u32 a1] w fun e w' => e = .returned (.tuple #[.int .u32 r1, .int .u32 r2]) ∧ Drawn0 w w' := by
 have H : (some (((IntKind.u64.wrap ((IntKind.u64.wrap (a0)) * (IntKind.u64.wrap (a1)))) / 4294967296) % 4294967296, (IntKind.u64.wrap ((IntKind.u64.wrap (a0)) * (IntKind.u64.wrap (a1)))) % 4294967296)) = some (r1, r2) := h
 clear h
 simp only [Option.some.injEq, Prod.mk.injEq] at H
 obtain ⟨rfl, rfl⟩ := H
 go_enter Try.func104, Try.ntmps104
 go_wp2
 go_ret2
 exact ⟨q9_8, by repeat (first | exact Drawn0.refl _ | apply Drawn0.step)⟩

/-! ### bits_Mul64: function 105 -/
def bits_Mul64.f (a0 : Int) (a1 : Int) : Option (Int × Int) := some (IntKind.u64.wrap ((IntKind.u64.wrap ((IntKind.u64.wrap ((a0 / 4294967296) * (a1 / 4294967296))) + ((IntKind.u64.wrap ((IntKind.u64.wrap ((a0 / 4294967296) * (Go.bits .and .u64 a1 4294967295))) + ((IntKind.u64.wrap ((Go.bits .and .u64 a0 4294967295) * (Go.bits .and .u64 a1 4294967295))) / 4294967296))) / 4294967296))) + ((IntKind.u64.wrap ((Go.bits .and .u64 (IntKind.u64.wrap ((IntKind.u64.wrap ((a0 / 4294967296) * (Go.bits .and .u64 a1 4294967295))) + ((IntKind.u64.wrap ((Go.bits .and .u64 a0 4294967295) * (Go.bits .and .u64 a1 4294967295))) / 4294967296))) 4294967295) + (IntKind.u64.wrap ((Go.bits .and .u64 a0 4294967295) * (a1 / 4294967296))))) / 4294967296)), IntKind.u64.wrap (a0 * a1))
set_option maxHeartbeats 8000000 in
set_option maxRecDepth 100000 in
theorem bits_Mul64.calls (a0 : Int) (a1 : Int) (r1 : Int) (r2 : Int) (w : World) (h : bits_Mul64.f a0 a1 = some (r1, r2)) :
  Calls Try.prog 105 #[.int .u64 a0, .int .u64 a1] w fun e w' => e = .returned (.tuple #[.int .u64 r1, .int .u64 r2]) ∧ Drawn0 w w' := by
 have H : (some (IntKind.u64.wrap ((IntKind.u64.wrap ((IntKind.u64.wrap ((a0 / 4294967296) * (a1 / 4294967296))) + ((IntKind.u64.wrap ((IntKind.u64.wrap ((a0 / 4294967296) * (Go.bits .and .u64 a1 4294967295))) + ((IntKind.u64.wrap ((Go.bits .and .u64 a0 4294967295) * (Go.bits .and .u64 a1 4294967295))) / 4294967296))) / 4294967296))) + ((IntKind.u64.wrap ((Go.bits .and .u64 (IntKind.u64.wrap ((IntKind.u64.wrap ((a0 / 4294967296) * (Go.bits .and .u64 a1 4294967295))) + ((IntKind.u64.wrap ((Go.bits .and .u64 a0 4294967295) * (Go.bits .and .u64 a1 4294967295))) / 4294967296))) 4294967295) + (IntKind.u64.wrap ((Go.bits .and .u64 a0 4294967295) * (a1 / 4294967296))))) / 4294967296)), IntKind.u64.wrap (a0 * a1))) = some (r1, r2) := h
 clear h
 simp only [Option.some.injEq, Prod.mk.injEq] at H
 obtain ⟨rfl, rfl⟩ := H
 go_enter Try.func105, Try.ntmps105
 go_wp2
 go_ret2
 exact ⟨q9_8, by repeat (first | exact Drawn0.refl _ | apply Drawn0.step)⟩

/-! ### bits_Mul: function 96 -/
def bits_Mul.f (a0 : Int) (a1 : Int) : Option (Int × Int) := (bits_Mul64.f a0 a1).bind fun bt483 => (some (bt483.1, bt483.2))
set_option maxHeartbeats 8000000 in
set_option maxRecDepth 100000 in
theorem bits_Mul.calls (a0 : Int) (a1 : Int) (r1 : Int) (r2 : Int) (w : World) (h : bits_Mul.f a0 a1 = some (r1, r2)) :
  Calls Try.prog 96 #[.int .u64 a0, .int .u64 a1] w fun e w' => e = .returned (.tuple #[.int .u64 r1, .int .u64 r2]) ∧ Drawn0 w w' := by
 have H : ((bits_Mul64.f a0 a1).bind fun bt483 => (some (bt483.1, bt483.2))) = some (r1, r2) := h
 clear h
 replace H := Option.bind_eq_some_iff.mp H
 obtain ⟨⟨t483, t484⟩, A30, H⟩ := H
 replace H : (some (t483, t484)) = some (r1, r2) := H
 have A3 := Aside0.mk A30
 clear A30
 simp only [Option.some.injEq, Prod.mk.injEq] at H
 obtain ⟨rfl, rfl⟩ := H
 go_enter Try.func96, Try.ntmps96
 go_wp2_with (first | ((with_reducible refine gate_callee (f := 105) rfl ?_); refine goesL_ (some 25) rfl rfl Try.func105 (by kernel_rfl) rfl #[.int .u64 a0, .int .u64 a1] rfl am ?_; (with_reducible refine (bits_Mul64.calls a0 a1 t483 t484 _ A3.out).mono ?_); rintro e w' ⟨rfl, ⟨nd, rfl⟩⟩; refine ⟨_, rfl, ?_⟩))
 go_ret2
 exact ⟨q9_8, by repeat (first | exact Drawn0.refl _ | apply Drawn0.step)⟩

/-! ### slices_Repeat: function 81 -/
/-! ### slices.Repeat -/
def slices_Repeat.f (l0 : List Int) (a1 : Int) : Option (List Int) := if l0.length = 1 ∧ 1 ≤ a1 ∧ a1 ≤ 24 then some (List.replicate a1.toNat (rd l0 0)) else none
theorem bits_Mul.one : ∀ a : Fin 25, bits_Mul.f 1 ((a.val : Nat) : Int) = some (0, ((a.val : Nat) : Int)) := by decide +kernel
set_option maxHeartbeats 8000000 in
set_option maxRecDepth 100000 in
theorem slices_Repeat.calls (A0 : Option Addr) (c0 : Nat) (l0 : List Int) (a1 : Int) (r : List Int) (w : World) (hr0 : Kd.C (Kd.int .i64) w A0 l0.length l0) (hc0 : l0.length ≤ c0) (h : slices_Repeat.f l0 a1 = some r) :
  Calls Try.prog 81 #[.slice A0 l0.length c0, .int .i64 a1] w fun e w' => ∃ v0_ : Value, e = .returned (v0_) ∧ Kd.R (Kd.int .i64) 2 w' w.heap.size (fun _ => True) v0_ r ∧ Below w.heap.size w w' := by
 unfold slices_Repeat.f at h
 by_cases hc : l0.length = 1 ∧ 1 ≤ a1 ∧ a1 ≤ 24
 rotate_left
 ·rw [if_neg hc] at h; cases h
 rw [if_pos hc] at h
 obtain ⟨h1, h2, h3⟩ := hc
 obtain ⟨x, rfl⟩ : ∃ x, l0 = [x] := by
  match l0, h1 with
  | [x], _ => exact ⟨x, rfl⟩
 obtain ⟨m, rfl⟩ : ∃ m : Nat, a1 = (m : Int) := ⟨a1.toNat, by omega⟩
 have hmul := bits_Mul.one ⟨m, by omega⟩
 simp only at hmul
 have HMUL := Aside0.mk hmul
 have HR0 := Aside0.mk hr0
 have HC0 := Aside0.mk hc0
 obtain rfl := Option.some.inj h
 clear hr0 hc0 hmul h
 simp only [List.length_cons, List.length_nil] at h1 ⊢
 clear h1
 go_enter Try.func81, Try.ntmps81
 go_wp2_with (first | (go_at_call 96; refine (bits_Mul.calls _ _ _ _ _ HMUL.out).mono ?_; rintro e w1 ⟨rfl, hd⟩; have HB := Aside0.mk hd.below; clear hd) | ((with_reducible refine gate_dst (N := 30) rfl ?_); refine Kd.R_make (Kd.int .i64) _ 2 rfl (N := 30) rfl 24 _ _ rfl (m : Int) rfl rfl Try.underlying24 (.int .i64 0) 8 info2 rfl (by decide) (by omega) 0 (ok := fun _ => True) (okp := fun _ => True) rfl (fun _ hk => hk) trivial (by omega) (by omega) (Below.refl _ _) (Nat.le_refl _) ?_; intro v104 w4 ho5 hb hg_ hnew_; clear hg_ hnew_; have HO := Aside0.mk (Kd.R_lower ho5 HB.out.size); have n1_ := Aside0.mk (below_step HB.out hb); clear HB; have HB := n1_; clear n1_; clear hb ho5) | ((with_reducible refine gate_dst (N := 33) rfl ?_); refine Kd.R_copy (d := (0 : Int)) _ rfl (.tmp 31) (.tmp 32) 24 24 2 rfl Try.underlying24 (by kernel_rfl) _ _ _ _ _ _ (fun _ => True) rfl rfl HO.out (Kd.C_below HR0.out HB.out) HB.out HB.out.size ?_; intro w5 ho2 hb2 hg2; have n1_ := Aside0.mk hb2; have n2_ := Aside0.mk ho2; clear HB HO hb2 ho2 hg2; have HB := n1_; have HO := n2_; clear n1_ n2_))
 obtain ⟨g, cap, L0, rfl, hbg, hg0, hL0, hmc, hcap, ht0⟩ := block_of_R HO.out (m := m) (by simp; omega) (by omega)
 have h1m : min 1 m = 1 := by omega
 have ht1 : L0.take m = encs EI (repd x 1 m) := by
  rw [ht0, List.length_replicate, Int.toNat_natCast, h1m]; unfold repd; simp
 have HG0 := Aside0.mk hg0
 have HT0 := Aside0.mk ht1
 have HL0 := Aside0.mk hL0
 clear HO hg0 ht0 ht1 hL0
 rw [h1m]
 have e1 : ((1 : Nat) : Int) = 1 := rfl
 rw [e1]
 clear h1m e1
 go_loopw [8] (fun v8 w' => ∃ (n : Nat) (L : List Value), v8 = .int .i64 (n : Int) ∧ Aside0 (1 ≤ n ∧ n ≤ m) ∧ Aside0 (w'.heap[g]? = some (.cells L.toArray 2 (0, 0))) ∧ Aside0 (L.length = cap) ∧ Aside0 (L.take m = encs EI (repd x n m)) ∧ Aside0 (Below w.heap.size w w')) (fun v8 _ => m - (intOf v8).toNat)
 case atStart => exact ⟨1, L0, rfl, ⟨by omega⟩, HG0, HL0, HT0, HB⟩
 case round =>
  obtain ⟨n, L, rfl, HN, HG, HL, HT, HB⟩ := hrel
  have hn := HN.out
  by_cases hlt : n < m
  rotate_left
  ·go_wp2
   refine bodyPost_ret (v := .slice (some ⟨g, 0, none⟩) m cap) (by simp [results, Try.results81, go_sem]) rfl ⟨_, rfl, ?_, HB.out⟩
   have e : n = m := by omega
   subst e
   refine R_of_block hbg HG.out HL.out hmc hcap (by simp) ?_
   rw [HT.out]; unfold repd; simp [rd]
  go_wp2
  have hle : min n (m - n) ≤ m - n := Nat.min_le_right _ _
  obtain ⟨q, hq⟩ : ∃ q, q = min n (m - n) := ⟨_, rfl⟩
  have HQ := Aside0.mk hq
  obtain ⟨cs, hcs⟩ : ∃ cs, cs = encs EI (List.replicate q x) := ⟨_, rfl⟩
  have hcl : cs.length = q := by rw [hcs]; simp [encs]
  have C1 := Aside0.mk (show cs.length = Nat.min n (m - n) from hcl.trans hq)
  have C2 := Aside0.mk (show 0 < cs.length → some (⟨g, n, none⟩ : Addr) = some ⟨g, n, none⟩ ∧ ∃ ad, some (⟨g, 0, none⟩ : Addr) = some ad ∧ ∀ j v, cs[j]? = some v → wr.drew.cell? (ad.add j) = some v from fun _ => ⟨rfl, _, rfl, fun j v hv => copy_src HG.out HT.out hn.2 hcs hq hv⟩)
  have C3 := Aside0.mk (show n + cs.length ≤ L.length by rw [hcl, HL.out]; omega)
  have C4 := Aside0.mk (show ∀ v ∈ cs, v.oneCell' = true by rw [hcs]; intro v hv; simp only [encs, List.mem_map] at hv; obtain ⟨a, _, rfl⟩ := hv; rfl)
  have HCS := Aside0.mk hcs
  have HCL := Aside0.mk hcl
  clear hq hcs hcl hle
  have hnc : n ≤ cap := by omega
  have hnc2 : ¬ cap = n := by omega
  go_region_law (rw [if_pos (by rfl)]; refine op_copy_splice (.tmp 41) (.tmp 44) 24 24 rfl 2 Try.underlying24 (by kernel_rfl) (some ⟨g, n, none⟩) (some ⟨g, 0, none⟩) (m - n) (cap - n) n cap (by go_simp) (by go_simp) g n L 2 HG.out cs C1.out C2.out C3.out C4.out w.heap.size w (below_drew HB.out) hbg ?_; intro w6 hg6 hb6)
  have hg6' := Aside0.mk hg6.out
  have hb6' := Aside0.mk hb6
  clear hg6 hb6
  have hq1 : 1 ≤ q ∧ n + q ≤ m := by rw [HQ.out]; omega
  go_simp
  rw [HCL.out, Go.IntWalk.i64_in _ (by omega)]
  go_roundw
  case measure => simp [intOf]; omega
  case rel =>
   (repeat apply Exists.intro)
   refine ⟨⟨n + q, splice L n cs, ?_, ⟨by omega⟩, hg6', ⟨(length_splice L n cs C3.out).trans HL.out⟩, ⟨by rw [HCS.out, HQ.out]; exact take_splice hn.2 (by rw [HL.out]; exact hmc) HT.out⟩, hb6'⟩, rfl⟩
   go_num

end Go.Proofs.Ytlppkilencpmeaa.QFnHeavyPaths
