/- Functions as Lean functions, with their contracts: written by a program of this claim over the translation; some contracts are proved by hand. -/
import Derived.Test.YtlppkilencpmeaaQFnHeavyPathsx0
import Derived.Test.YtlppkilencpmeaaQFnHeavyPathsx1
import Derived.Test.YtlppkilencpmeaaQFnHeavyPathsx2
namespace Go.Proofs.Ytlppkilencpmeaa.QFnHeavyPaths
open Go.RowKit Go.Proofs.Ytlppkilencpmeaa.Gl Go.Proofs.Ytlppkilencpmeaa.Sz Go.Proofs.YtlppkilencpmeaaW.PrintWords Go.Proofs.YtlppkilencpmeaaW.PrintLast Go.Proofs.YtlppkilencpmeaaW.PrintMore
attribute [local go_sem] max2_int min2_int max_two min_two max_three min_three max_four min_four   -- for this text's walks alone
set_option linter.unusedVariables false
set_option linter.unusedSimpArgs false
theorem q3_0 {P : Prop} (h : P := by repeat (first | (with_reducible first | exact HK.out | apply KeepBut.set_ | apply keep_drewN | apply keep_drew | apply keep_alloc | refine keep_far ?_ GW145.out _) | exact HK.out)) : P := h
theorem q3_1 {P : Prop} (h : P := by repeat (first | (with_reducible first | exact HI0.out | apply IsS97.alloc | apply IsS97.drewN | apply IsS97.drew | apply IsS97.set_1 | apply IsS97.set_2 | refine IsS97.far ?_ NB0_145.out _) | exact HI0.out)) : P := h
theorem q3_2 {P : Prop} (h : P := by repeat (first | (with_reducible first | exact HI0.out | apply IsS97.alloc | apply IsS97.drewN | apply IsS97.drew | apply IsS97.set_1 | apply IsS97.set_2 | refine IsS97.far ?_ NB0_210.out _ | refine IsS97.far ?_ NB0_227.out _ | refine IsS97.far ?_ NB0_241.out _) | exact HI0.out)) : P := h
theorem q3_3 {P : Prop} (h : P := by repeat (first | (with_reducible first | exact HK.out | apply KeepBut.set_ | apply keep_drewN | apply keep_drew | apply keep_alloc | refine keep_far ?_ GW210.out _ | refine keep_far ?_ GW227.out _) | exact HK.out)) : P := h
theorem q3_4 {P : Prop} (h : P := by repeat (first | (with_reducible first | exact HK.out | apply KeepBut.set_ | apply keep_drewN | apply keep_drew | apply keep_alloc | refine keep_far ?_ GW210.out _) | exact HK.out)) : P := h
theorem q3_5 {P : Prop} (h : P := by repeat (first | (with_reducible first | exact HI0.out | apply IsS97.alloc | apply IsS97.drewN | apply IsS97.drew | apply IsS97.set_1 | apply IsS97.set_2 | refine IsS97.far ?_ NB0_210.out _ | refine IsS97.far ?_ NB0_227.out _) | exact HI0.out)) : P := h
theorem q3_6 {P : Prop} (h : P := by repeat (first | (with_reducible first | exact HI0.out | apply IsS97.alloc | apply IsS97.drewN | apply IsS97.drew | apply IsS97.set_1 | apply IsS97.set_2) | exact HI0.out)) : P := h
theorem q3_7 {P : Prop} (h : P := by repeat (first | (with_reducible first | exact HB.out | apply below_alloc | apply pw_below_drewN | apply below_drew1 | refine below_set ?_ (IsS97.ge HI0.out) | refine below_set ?_ GE145.out) | exact HB.out)) : P := h
theorem q3_8 {P : Prop} (h : P := by repeat (first | (with_reducible first | exact HK.out | apply KeepBut.set_ | apply keep_drewN | apply keep_drew | apply keep_alloc) | exact HK.out)) : P := h
theorem q3_9 {P : Prop} (h : P := by repeat (first | (with_reducible first | exact HK.out | apply KeepBut.set_ | apply keep_drewN | apply keep_drew | apply keep_alloc | refine keep_far ?_ GW210.out _ | refine keep_far ?_ GW227.out _ | refine keep_far ?_ GW241.out _) | exact HK.out)) : P := h
theorem q3_10 {P : Prop} (h : P := by repeat (first | (with_reducible first | exact HB.out | apply below_alloc | apply pw_below_drewN | apply below_drew1 | refine below_set ?_ (IsS97.ge HI0.out) | refine below_set ?_ GE210.out | refine below_set ?_ GE227.out) | exact HB.out)) : P := h
theorem q3_11 {P : Prop} (h : P := by repeat (first | (with_reducible first | exact HI0.out | apply IsS97.alloc | apply IsS97.drewN | apply IsS97.drew | apply IsS97.set_1 | apply IsS97.set_2 | refine IsS97.far ?_ NB0_210.out _) | exact HI0.out)) : P := h
theorem q3_12 {P : Prop} (h : P := by first | (with_reducible assumption) | assumption) : P := h
theorem q3_13 {P : Prop} (h : P := by repeat (first | (with_reducible first | exact HB.out | apply below_alloc | apply pw_below_drewN | apply below_drew1 | refine below_set ?_ (IsS97.ge HI0.out)) | exact HB.out)) : P := h
theorem q3_14 {P : Prop} (h : P := by repeat (first | (with_reducible first | exact HK.out | apply KeepBut.set_ | apply keep_drewN | apply keep_drew | apply keep_alloc | refine keep_far ?_ GW270.out _) | exact HK.out)) : P := h
theorem q3_15 {P : Prop} (h : P := by rw [hg]; exact (keep_size (w := w) (g := g) (row := none) q3_8)) : P := h
theorem q3_16 {P : Prop} (h : P := by repeat (first | (with_reducible first | exact HB.out | apply below_alloc | apply pw_below_drewN | apply below_drew1 | refine below_set ?_ (IsS97.ge HI0.out) | refine below_set ?_ GE210.out) | exact HB.out)) : P := h
theorem q3_17 {P : Prop} (h : P := by repeat (first | (with_reducible first | exact HB.out | apply below_alloc | apply pw_below_drewN | apply below_drew1 | refine below_set ?_ (IsS97.ge HI0.out) | refine below_set ?_ GE210.out | refine below_set ?_ GE227.out | refine below_set ?_ GE241.out) | exact HB.out)) : P := h
theorem q3_18 {P : Prop} (h : P := by repeat (first | (with_reducible first | exact HK.out | apply KeepBut.set_ | apply keep_drewN | apply keep_drew | apply keep_alloc | refine keep_far ?_ GW193.out _) | exact HK.out)) : P := h
theorem q3_19 {P : Prop} (h : P := by rw [hg]; exact Nat.ne_of_lt (IsS97.lt (show IsS97 w0 _ g s0_0 s0_1 s0_2 from q3_6))) : P := h
theorem q3_20 {P : Prop} (h : P := by rw [hg]; exact Nat.ne_of_gt (IsS97.lt (show IsS97 w0 _ g s0_0 s0_1 s0_2 from q3_6))) : P := h
theorem q3_21 {P : Prop} (h : P := by first | rfl | (simp; done) | (simp [*]; done)) : P := h
theorem q3_22 {P : Prop} (h : P := by (with_reducible repeat (first | refine blk_drewN ?_ _ | refine blk_drew ?_ | refine blk_alloc ?_ _)); refine blk_put (cs := #[.slice none 0 0]) ?_ 0 _ rfl; exact pb BK210.out) : P := h
theorem q3_23 {P : Prop} (h : P := by repeat (first | (with_reducible exact HR183.out) | (with_reducible refine Kd.C_alloc ?_ _) | (with_reducible refine Kd.C_drewN ?_ _) | (with_reducible refine Kd.C_drew ?_) | exact HR183.out)) : P := h
theorem q3_24 {P : Prop} (h : P := by repeat (first | (with_reducible exact HR167.out) | (with_reducible refine Kd.C_alloc ?_ _) | (with_reducible refine Kd.C_drewN ?_ _) | (with_reducible refine Kd.C_drew ?_) | exact HR167.out)) : P := h
theorem q3_25 {P : Prop} (h : P := by rw [hg]; exact (keep_size (w := w) (g := g) (row := none) q3_3)) : P := h
theorem q3_26 {P : Prop} (h : P := by (with_reducible repeat (first | refine blk_drewN ?_ _ | refine blk_drew ?_ | refine blk_alloc ?_ _)); refine blk_put (cs := #[.slice none 0 0]) ?_ 0 _ rfl; exact pb BK227.out) : P := h
theorem q3_27 {P : Prop} (h : P := by (with_reducible repeat (first | refine blk_drewN ?_ _ | refine blk_drew ?_ | refine blk_alloc ?_ _)); refine blk_put (cs := #[.slice none 0 0]) ?_ 0 _ rfl; exact pb BK202.out) : P := h
theorem q3_28 {P : Prop} (h : P := by (with_reducible repeat (first | refine blk_drewN ?_ _ | refine blk_drew ?_ | refine blk_alloc ?_ _)); refine blk_far ?_ NB210_227.out _; exact pb BK210.out) : P := h

/-! ### spec_l01DrawOf: function 94 -/
mutual
def spec_l01DrawOf.l0 : Nat → Int → List Int → List Int → Int → Int → List Int → Int → Int → Option (List Int × Int × Int)
 | 0, _, _, _, _, _, _, _, _ => none
 | k + 1, x1, x5, x6, x7, x8, x1000, x1001, x1002 => if x8 < x1 then (spec_l01DrawOf.l1 k x1 x5 x6 x7 x8 (wrap64 ((x6.length : Int) - 1)) x1000 x1001 x1002) else (some (x5, x1001, x1002))
def spec_l01DrawOf.l1 : Nat → Int → List Int → List Int → Int → Int → Int → List Int → Int → Int → Option (List Int × Int × Int)
 | 0, _, _, _, _, _, _, _, _, _ => none
 | k + 1, x1, x5, x6, x7, x8, x9, x1000, x1001, x1002 => if x9 > 0 then ((spec_l01Next.f x1000 x1001 x1002 x7).bind fun bt158 => (if bt158.1 = 0 then (spec_l01DrawOf.l1 k x1 x5 x6 x7 x8 (wrap64 (x9 - 1)) x1000 bt158.2.1 bt158.2.2) else (if 0 ≤ x9 then (if x9 < (x6.length : Int) then (if 0 ≤ (rd x6 x9) then (if (rd x6 x9) < (x5.length : Int) then ((some (x5.set ((rd x6 x9) : Int).toNat (wrap64 ((rd x5 (rd x6 x9)) + 1)) : List Int)).bind fun y163 => (if 0 ≤ (wrap64 (x9 + 1)) then (if (wrap64 (x9 + 1)) ≤ (x6.length : Int) then ((spec_l01Own.f (x6.take ((wrap64 (x9 + 1)) : Int).toNat)).bind fun t168 => (if t168.length < 17592186044416 then (if y163.length < 17592186044416 then (spec_l01DrawOf.l0 k x1 (y163 ++ [0]) (t168 ++ [x8]) x7 (wrap64 (x8 + 1)) x1000 bt158.2.1 bt158.2.2) else (none)) else (none))) else (none)) else (none))) else (none)) else (none)) else (none)) else (none)))) else (if 0 ≤ x9 then (if x9 < (x6.length : Int) then (if 0 ≤ (rd x6 x9) then (if (rd x6 x9) < (x5.length : Int) then ((some (x5.set ((rd x6 x9) : Int).toNat (wrap64 ((rd x5 (rd x6 x9)) + 1)) : List Int)).bind fun y179 => (if 0 ≤ (wrap64 (x9 + 1)) then (if (wrap64 (x9 + 1)) ≤ (x6.length : Int) then ((spec_l01Own.f (x6.take ((wrap64 (x9 + 1)) : Int).toNat)).bind fun t184 => (if t184.length < 17592186044416 then (if y179.length < 17592186044416 then (spec_l01DrawOf.l0 k x1 (y179 ++ [0]) (t184 ++ [x8]) x7 (wrap64 (x8 + 1)) x1000 x1001 x1002) else (none)) else (none))) else (none)) else (none))) else (none)) else (none)) else (none)) else (none))
end
def spec_l01DrawOf.f (k : Nat) (s0_0 : List Int) (s0_1 : Int) (s0_2 : Int) (a1 : Int) : Option (List Int × Int × Int) := (spec_l01Pick.f s0_0 s0_1 s0_2 ([1, 2, 4, 30] : List Int)).bind fun bt155 => (spec_l01DrawOf.l0 k a1 ([0] : List Int) ([0] : List Int) bt155.1 1 s0_0 bt155.2.1 bt155.2.2)
theorem spec_l01DrawOf.mo0 {P : Prop} (h : P := by repeat' first  | (with_reducible exact ih0 _ _ _ _ _ _ _ _) | (with_reducible exact ih1 _ _ _ _ _ _ _ _ _) | (with_reducible exact LeO.refl _) | (with_reducible exact LeO.none _) | (with_reducible refine LeO.ite ?_ ?_) | (with_reducible refine LeO.bind ?_ (fun _ => ?_)) | exact ih0 _ _ _ _ _ _ _ _ | exact ih1 _ _ _ _ _ _ _ _ _ | exact LeO.none _ | refine LeO.ite ?_ ?_ | refine LeO.bind ?_ (fun _ => ?_)) : P := h
theorem spec_l01DrawOf.mono_l : ∀ k, (∀ y0 y1 y2 y3 y4 y5 y6 y7, LeO (spec_l01DrawOf.l0 k y0 y1 y2 y3 y4 y5 y6 y7) (spec_l01DrawOf.l0 (k + 1) y0 y1 y2 y3 y4 y5 y6 y7)) ∧ (∀ y0 y1 y2 y3 y4 y5 y6 y7 y8, LeO (spec_l01DrawOf.l1 k y0 y1 y2 y3 y4 y5 y6 y7 y8) (spec_l01DrawOf.l1 (k + 1) y0 y1 y2 y3 y4 y5 y6 y7 y8))
 | 0 => ⟨fun _ _ _ _ _ _ _ _ r h => by simp [spec_l01DrawOf.l0] at h, fun _ _ _ _ _ _ _ _ _ r h => by simp [spec_l01DrawOf.l1] at h⟩
 | k + 1 => by
  obtain ⟨ih0, ih1⟩ := spec_l01DrawOf.mono_l k
  refine ⟨?_, ?_⟩
  ·intro y0 y1 y2 y3 y4 y5 y6 y7
   unfold spec_l01DrawOf.l0
   exact spec_l01DrawOf.mo0
  ·intro y0 y1 y2 y3 y4 y5 y6 y7 y8
   unfold spec_l01DrawOf.l1
   exact spec_l01DrawOf.mo0
theorem spec_l01DrawOf.mono : ∀ a0 a1 a2 a3 k, LeO (spec_l01DrawOf.f k a0 a1 a2 a3) (spec_l01DrawOf.f (k + 1) a0 a1 a2 a3) := by
 intro a0 a1 a2 a3 k
 obtain ⟨ih0, ih1⟩ := spec_l01DrawOf.mono_l k
 unfold spec_l01DrawOf.f
 repeat' first
   | (with_reducible exact ih0 _ _ _ _ _ _ _ _)
   | (with_reducible exact ih1 _ _ _ _ _ _ _ _ _)
   | (with_reducible exact LeO.refl _)
   | (with_reducible exact LeO.none _)
   | (with_reducible refine LeO.ite ?_ ?_)
   | (with_reducible refine LeO.bind ?_ (fun _ => ?_))
   | exact ih0 _ _ _ _ _ _ _ _
   | exact ih1 _ _ _ _ _ _ _ _ _
   | exact LeO.none _
   | refine LeO.ite ?_ ?_
   | refine LeO.bind ?_ (fun _ => ?_)
set_option maxHeartbeats 8000000 in
set_option maxRecDepth 100000 in
theorem spec_l01DrawOf.calls (k : Nat) (g : Nat) (s0_0 : List Int) (s0_1 : Int) (s0_2 : Int) (a1 : Int) (r1 : List Int) (r2 : Int) (r3 : Int) (w0 w : World) (hI : IsS97 w0 w g s0_0 s0_1 s0_2) (hB : Below w0.heap.size w0 w) (h : spec_l01DrawOf.f k s0_0 s0_1 s0_2 a1 = some (r1, r2, r3)) :
  Calls Try.prog 94 #[.pointer (some ⟨g, 0, none⟩), .int .i64 a1] w fun e w' => ∃ v0_ : Value, e = .returned (.agg #[v0_]) ∧ Kd.R (Kd.int .i64) 2 w' w.heap.size (fun _ => True) v0_ r1 ∧ IsS97 w0 w' g s0_0 r2 r3 ∧ Below w0.heap.size w0 w' ∧ KeepBut w w' g none := by
 have hu26 := Try.underlying26
 have HI0 := Aside0.mk hI
 have HK := Aside0.mk (KeepBut.refl w g none)
 have HL := Aside0.mk hB.size
 clear hI
 have HW0 := Aside0.mk hB.size
 have HB := Aside0.mk hB
 clear hB
 have H : ((spec_l01Pick.f s0_0 s0_1 s0_2 ([1, 2, 4, 30] : List Int)).bind fun bt155 => (spec_l01DrawOf.l0 k a1 ([0] : List Int) ([0] : List Int) bt155.1 1 s0_0 bt155.2.1 bt155.2.2)) = some (r1, r2, r3) := h
 clear h
 obtain ⟨y146, hy146⟩ : ∃ y_ : List Int, y_ = ([0] : List Int) := ⟨_, rfl⟩
 replace H : ((spec_l01Pick.f s0_0 s0_1 s0_2 ([1, 2, 4, 30] : List Int)).bind fun bt155 => (spec_l01DrawOf.l0 k a1 y146 ([0] : List Int) bt155.1 1 s0_0 bt155.2.1 bt155.2.2)) = some (r1, r2, r3) := by first | (rw [hy146]; with_reducible exact H) | (have H2_ := (Option.bind_some _ _).symm.trans H; rw [hy146]; with_reducible exact H2_) | (have H2_ := (Option.bind_some _ _).symm.trans H; with_reducible exact H2_) | with_reducible exact H | (rw [hy146]; exact H) | exact H
 have Ny146 := Aside0.mk hy146
 clear hy146
 obtain ⟨y149, hy149⟩ : ∃ y_ : List Int, y_ = ([0] : List Int) := ⟨_, rfl⟩
 replace H : ((spec_l01Pick.f s0_0 s0_1 s0_2 ([1, 2, 4, 30] : List Int)).bind fun bt155 => (spec_l01DrawOf.l0 k a1 y146 y149 bt155.1 1 s0_0 bt155.2.1 bt155.2.2)) = some (r1, r2, r3) := by first | (rw [hy149]; with_reducible exact H) | (have H2_ := (Option.bind_some _ _).symm.trans H; rw [hy149]; with_reducible exact H2_) | (have H2_ := (Option.bind_some _ _).symm.trans H; with_reducible exact H2_) | with_reducible exact H | (rw [hy149]; exact H) | exact H
 have Ny149 := Aside0.mk hy149
 clear hy149
 obtain ⟨y152, hy152⟩ : ∃ y_ : List Int, y_ = ([1, 2, 4, 30] : List Int) := ⟨_, rfl⟩
 replace H : ((spec_l01Pick.f s0_0 s0_1 s0_2 y152).bind fun bt155 => (spec_l01DrawOf.l0 k a1 y146 y149 bt155.1 1 s0_0 bt155.2.1 bt155.2.2)) = some (r1, r2, r3) := by first | (rw [hy152]; with_reducible exact H) | (have H2_ := (Option.bind_some _ _).symm.trans H; rw [hy152]; with_reducible exact H2_) | (have H2_ := (Option.bind_some _ _).symm.trans H; with_reducible exact H2_) | with_reducible exact H | (rw [hy152]; exact H) | exact H
 have Ny152 := Aside0.mk hy152
 clear hy152
 replace H := Option.bind_eq_some_iff.mp H
 obtain ⟨⟨t155, t156, t157⟩, A30, H⟩ := H
 replace H : (spec_l01DrawOf.l0 k a1 y146 y149 t155 1 s0_0 t156 t157) = some (r1, r2, r3) := H
 have A3 := Aside0.mk A30
 clear A30
 have H' := Aside0.mk H
 clear H
 go_enter Try.func94, Try.ntmps94
 go_wp2_with (first | ((with_reducible refine gate_dst (N := 4) rfl ?_); refine box_event ?hg (N := 4) ?hd (cs := #[.slice none 0 0]) (t := 26) ?hr ?_; (case hd => rfl); (case hg => rfl); (case hr => exact gs); intro gb145 hg w4 hbox hb; replace HB := Aside0.mk (below_step q3_13 hb); have BK145 := Aside0.mk (hbox); have GW145 := Aside0.mk (q3_15 : w.heap.size ≤ gb145); have GE145 := Aside0.mk (Nat.le_trans HW0.out (q3_15 : w.heap.size ≤ gb145) : w0.heap.size ≤ gb145); replace HK := Aside0.mk (KeepBut.trans q3_8 (KeepBut.of_below hb g none) (.inl rfl)); have NB0_145 := Aside0.mk (q3_19 : g ≠ gb145); have NB145_0 := Aside0.mk (q3_20 : gb145 ≠ g); replace HI0 := Aside0.mk (IsS97.below q3_6 hb); clear hb hbox hg) | ((with_reducible refine gate_dst (N := 10) rfl ?_); refine Kd.R_lit (Kd.int .i64) _ 2 ?hg (N := 10) ?hd (xs := ([0] : List Int)) (inner := [.int .i64 0]) (ok := fun _ => True) (okp := fun _ => True) ?hr ?hp (fun _ hk => hk) trivial (Below.refl _ _) (Nat.le_refl _) (by simp) ?_; (case hd => rfl); (case hg => rfl); (case hr => exact gs); (case hp => exact (Reps.one (show Kd.M (Kd.int .i64) _ _ _ 0 [.int .i64 0] from rfl) (Reps.none _ _))); intro v147 w5 ho6 hb hg_ hnew_; clear hg_ hnew_; (first | rw [← Ny146.out] at ho6 | (simp only [Int.reduceToNat] at ho6; rw [← Ny146.out] at ho6)); have HO148 := Aside0.mk (Kd.R_lower ho6 (keep_size (w := w) (g := g) (row := none) q3_0)); replace BK145 := bb BK145 hb; replace HK := Aside0.mk (KeepBut.trans q3_0 (KeepBut.of_below hb g none) (.inl rfl)); replace HB := Aside0.mk (below_step q3_7 hb); replace HI0 := Aside0.mk (IsS97.below q3_1 hb); clear hb ho6) | ((with_reducible refine gate_dst (N := 11) rfl ?_); refine Kd.R_lit (Kd.int .i64) _ 2 ?hg (N := 11) ?hd (xs := ([0] : List Int)) (inner := [.int .i64 0]) (ok := fun _ => True) (okp := fun _ => True) ?hr ?hp (fun _ hk => hk) trivial (Below.refl _ _) (Nat.le_refl _) (by simp) ?_; (case hd => rfl); (case hg => rfl); (case hr => exact gs); (case hp => exact (Reps.one (show Kd.M (Kd.int .i64) _ _ _ 0 [.int .i64 0] from rfl) (Reps.none _ _))); intro v150 w7 ho8 hb hg_ hnew_; clear hg_ hnew_; (first | rw [← Ny149.out] at ho8 | (simp only [Int.reduceToNat] at ho8; rw [← Ny149.out] at ho8)); have HO151 := Aside0.mk (Kd.R_lower (Kd.R_new' ho8 (Kd.R_lt (pe HO148.out))) (keep_size (w := w) (g := g) (row := none) q3_0)); replace HO148 := rn HO148 ho8 hb; replace BK145 := bb BK145 hb; replace HK := Aside0.mk (KeepBut.trans q3_0 (KeepBut.of_below hb g none) (.inl rfl)); replace HB := Aside0.mk (below_step q3_7 hb); replace HI0 := Aside0.mk (IsS97.below q3_1 hb); clear hb ho8) | ((with_reducible refine gate_dst (N := 13) rfl ?_); refine Kd.R_lit (Kd.int .i64) _ 2 ?hg (N := 13) ?hd (xs := ([1, 2, 4, 30] : List Int)) (inner := [.int .i64 1, .int .i64 2, .int .i64 4, .int .i64 30]) (ok := fun _ => True) (okp := fun _ => True) ?hr ?hp (fun _ hk => hk) trivial (Below.refl _ _) (Nat.le_refl _) (by simp) ?_; (case hd => rfl); (case hg => rfl); (case hr => exact gs); (case hp => exact (Reps.one (show Kd.M (Kd.int .i64) _ _ _ 1 [.int .i64 1] from rfl) (Reps.one (show Kd.M (Kd.int .i64) _ _ _ 2 [.int .i64 2] from rfl) (Reps.one (show Kd.M (Kd.int .i64) _ _ _ 4 [.int .i64 4] from rfl) (Reps.one (show Kd.M (Kd.int .i64) _ _ _ 30 [.int .i64 30] from rfl) (Reps.none _ _)))))); intro v153 w9 ho10 hb hg_ hnew_; clear hg_ hnew_; (first | rw [← Ny152.out] at ho10 | (simp only [Int.reduceToNat] at ho10; rw [← Ny152.out] at ho10)); have HO154 := Aside0.mk (Kd.R_lower (Kd.R_new' (Kd.R_new' ho10 (Kd.R_lt (pe HO148.out))) (Kd.R_lt (pe HO151.out))) (keep_size (w := w) (g := g) (row := none) q3_0)); replace HO148 := rn HO148 ho10 hb; replace HO151 := rn HO151 ho10 hb; replace BK145 := bb BK145 hb; replace HK := Aside0.mk (KeepBut.trans q3_0 (KeepBut.of_below hb g none) (.inl rfl)); replace HB := Aside0.mk (below_step q3_7 hb); replace HI0 := Aside0.mk (IsS97.below q3_1 hb); clear hb ho10; obtain ⟨Ao11, co11, eo11⟩ := Kd.R_slice HO154.out; subst eo11) | ((with_reducible refine gate_callee (f := 54) rfl ?_); refine goesL_ (some 14) rfl rfl Try.func54 (by kernel_rfl) rfl #[.pointer (some ⟨g, 0, none⟩), .slice Ao11 y152.length co11] rfl am ?_; (with_reducible refine (spec_l01Pick.calls g s0_0 s0_1 s0_2 _ _ y152 t155 t156 t157 w0 _ ?side1 ?side2 ?side3 ?side4 ?side5 A3.out).mono ?_); (case side1 => repeat (first | (with_reducible first | exact HI0.out | apply IsS97.alloc | apply IsS97.drewN | apply IsS97.drew | apply IsS97.set_1 | apply IsS97.set_2 | refine IsS97.far ?_ NB0_145.out _) | exact HI0.out)); (case side2 => repeat (first | (with_reducible first | exact HB.out | apply below_alloc | apply pw_below_drewN | apply below_drew1 | refine below_set ?_ (IsS97.ge HI0.out) | refine below_set ?_ GE145.out) | exact HB.out)); (case side3 => exact pc ((Kd.R_reads' HO154.out).2.2)); (case side4 => exact (Kd.R_reads' HO154.out).2.1); (case side5 => exact far_slice (IsS97.own_ne HI0.out HO154.out (by decide))); rintro e w12 ⟨rfl, hi, hb, hk⟩; refine ⟨_, rfl, ?_⟩; replace BK145 := Aside0.mk (KeepBut.blk hk (g' := gb145) (o := .cells #[.slice none 0 0] 26 (0, 0)) (pb BK145.out) NB145_0.out (by simp)); replace HO148 := Aside0.mk (Kd.R_mono (Kd.R_keep (IsS97.apart (show IsS97 w0 _ g s0_0 s0_1 s0_2 from q3_1) (pe HO148.out) (by decide)) hk (fun _ h => h.2)) (fun _ h => h.1)); replace HO151 := Aside0.mk (Kd.R_mono (Kd.R_keep (IsS97.apart (show IsS97 w0 _ g s0_0 s0_1 s0_2 from q3_1) (pe HO151.out) (by decide)) hk (fun _ h => h.2)) (fun _ h => h.1)); replace HO154 := Aside0.mk (Kd.R_mono (Kd.R_keep (IsS97.apart (show IsS97 w0 _ g s0_0 s0_1 s0_2 from q3_1) (pe HO154.out) (by decide)) hk (fun _ h => h.2)) (fun _ h => h.1)); replace HK := Aside0.mk (KeepBut.trans q3_0 hk (.inl rfl)); replace HB := Aside0.mk (hb); replace HI0 := Aside0.mk (hi); (try clear hb); (try clear hb2); (try clear hk); (try clear hi)))
 go_loopg [5, 6, 8] k (fun kq v5 v6 v8 w' => ∃ (x5_1 : List Int) (x6_1 : List Int) (x8_1 : Int) (x1001_1 : Int) (x1002_1 : Int), v8 = .int .i64 x8_1 ∧ Aside0 (spec_l01DrawOf.l0 kq a1 x5_1 x6_1 t155 x8_1 s0_0 x1001_1 x1002_1 = some (r1, r2, r3)) ∧ Aside0 (kq ≤ k) ∧ Aside0 (Kd.R (Kd.int .i64) 2 w' w.heap.size (fun k_ => some k_ ≠ (v6 : Value).ownBlock) v5 x5_1) ∧ Aside0 (Kd.R (Kd.int .i64) 2 w' w.heap.size (fun k_ => some k_ ≠ (v5 : Value).ownBlock) v6 x6_1) ∧ Aside0 (w'.heap[gb145]? = some (.cells #[(.slice none 0 0)] 26 (0, 0))) ∧ Aside0 (IsS97 w0 w' g s0_0 x1001_1 x1002_1) ∧ Aside0 (KeepBut w w' g none) ∧ Aside0 (Below w0.heap.size w0 w'))
 case atStart => exact ⟨(y146), (y149), (1), (t156), (t157), q3_21, H', ⟨Nat.le_refl _⟩, ⟨pe (Kd.R_mono HO148.out (fun _ hk => hk.1.2))⟩, ⟨pe (Kd.R_mono HO151.out (fun _ hk => hk.1.2))⟩, ⟨pb BK145.out⟩, ⟨q3_1⟩, ⟨q3_0⟩, ⟨q3_7⟩⟩
 case round =>
  clear H'
  try clear p2
  try clear c5
  try clear c9
  obtain ⟨x5_1, x6_1, x8_1, x1001_1, x1002_1, rfl, HA, HK1, HO_5, HO_6, BK145, HI0, HK, HB⟩ := hrel
  cases gk with | zero => exact absurd HA.out (by simp [spec_l01DrawOf.l0]) | succ k1 => ?_
  have H := HA.out
  clear HA
  simp only [spec_l01DrawOf.l0] at H
  by_cases c13 : x8_1 < a1
  rotate_left
  ·rw [if_neg c13] at H
   have c13b0 : decide (x8_1 < a1) = false := decide_eq_false c13
   clear c13
   simp only [Option.some.injEq, Prod.mk.injEq] at H
   obtain ⟨rfl, rfl, rfl⟩ := H
   obtain ⟨Ao56, co56, eo56⟩ := Kd.R_slice HO_5.out
   subst eo56
   have hnb57 := NB145_0.out
   have hnc57 := NB0_145.out
   have hcz58_0 : wr.cell? ⟨gb145, 0, none⟩ = some (.slice none 0 0) := (blk_cell BK145.out 0).trans rfl
   have hfz58_0 := blk_frozen BK145.out 0
   go_wp2
   refine bodyPost_ret (results_cell_row rfl _ _ gb145 26 #[.slice Ao56 x5_1.length co56] (0, 0) _ rfl (by (with_reducible repeat (first | refine blk_drewN ?_ _ | refine blk_drew ?_ | refine blk_alloc ?_ _)); refine blk_put (cs := #[.slice none 0 0]) ?_ 0 _ rfl; exact pb BK145.out) Try.underlying26 rfl (by kernel_rfl)) rfl ?_
   exact ⟨_, ew, pe (Kd.R_mono (Kd.R_far (p := ⟨gb145, 0, none⟩) (Kd.R_types HO_5.out BK145.out (by decide)) (fun _ hk => hk.2) (.slice Ao56 x5_1.length co56)) (fun _ hk => trivial)), q3_1, q3_7, q3_0⟩
  rw [if_pos c13] at H
  have c13b0 : decide (x8_1 < a1) = true := decide_eq_true c13
  clear c13
  have H' := Aside0.mk H
  clear H
  obtain ⟨Ao14, co14, eo14⟩ := Kd.R_slice HO_6.out
  subst eo14
  go_wp2
  go_loopg [9] k1 (fun kq v9 w' => ∃ (x9_2 : Int) (x1001_2 : Int) (x1002_2 : Int), v9 = .int .i64 x9_2 ∧ Aside0 (spec_l01DrawOf.l1 kq a1 x5_1 x6_1 t155 x8_1 x9_2 s0_0 x1001_2 x1002_2 = some (r1, r2, r3)) ∧ Aside0 (kq ≤ k1) ∧ Aside0 (Kd.R (Kd.int .i64) 2 w' w.heap.size (fun k_ => some k_ ≠ ((.slice Ao14 x6_1.length co14) : Value).ownBlock) u5 x5_1) ∧ Aside0 (Kd.R (Kd.int .i64) 2 w' w.heap.size (fun k_ => some k_ ≠ (u5 : Value).ownBlock) (.slice Ao14 x6_1.length co14) x6_1) ∧ Aside0 (w'.heap[gb145]? = some (.cells #[(.slice none 0 0)] 26 (0, 0))) ∧ Aside0 (IsS97 w0 w' g s0_0 x1001_2 x1002_2) ∧ Aside0 (KeepBut w w' g none) ∧ Aside0 (Below w0.heap.size w0 w'))
  case atStart => exact ⟨(wrap64 ((x6_1.length : Int) - 1)), (x1001_1), (x1002_1), q3_21, H', ⟨Nat.le_refl _⟩, ⟨pe HO_5.out⟩, ⟨pe HO_6.out⟩, ⟨pb BK145.out⟩, ⟨q3_1⟩, ⟨q3_0⟩, ⟨q3_7⟩⟩
  case round =>
   clear H'
   try clear c1
   try clear p2
   try clear c5
   try clear p6
   try clear c9
   try clear c13
   try clear c13b0
   try clear p2
   obtain ⟨x9_2, x1001_2, x1002_2, rfl, HA, HK2, HO_5, HO_6, BK145, HI0, HK, HB⟩ := hrel
   cases gk with | zero => exact absurd HA.out (by simp [spec_l01DrawOf.l1]) | succ k2 => ?_
   have H := HA.out
   clear HA
   simp only [spec_l01DrawOf.l1] at H
   by_cases c15 : x9_2 > 0
   ·rw [if_pos c15] at H
    have c15b0 : decide (0 < x9_2) = true := decide_eq_true c15
    clear c15
    replace H := Option.bind_eq_some_iff.mp H
    obtain ⟨⟨t158, t159, t160⟩, A160, H⟩ := H
    replace H : (if t158 = 0 then (spec_l01DrawOf.l1 k2 a1 x5_1 x6_1 t155 x8_1 (wrap64 (x9_2 - 1)) s0_0 t159 t160) else (if 0 ≤ x9_2 then (if x9_2 < (x6_1.length : Int) then (if 0 ≤ (rd x6_1 x9_2) then (if (rd x6_1 x9_2) < (x5_1.length : Int) then ((some (x5_1.set ((rd x6_1 x9_2) : Int).toNat (wrap64 ((rd x5_1 (rd x6_1 x9_2)) + 1)) : List Int)).bind fun y163 => (if 0 ≤ (wrap64 (x9_2 + 1)) then (if (wrap64 (x9_2 + 1)) ≤ (x6_1.length : Int) then ((spec_l01Own.f (x6_1.take ((wrap64 (x9_2 + 1)) : Int).toNat)).bind fun t168 => (if t168.length < 17592186044416 then (if y163.length < 17592186044416 then (spec_l01DrawOf.l0 k2 a1 (y163 ++ [0]) (t168 ++ [x8_1]) t155 (wrap64 (x8_1 + 1)) s0_0 t159 t160) else (none)) else (none))) else (none)) else (none))) else (none)) else (none)) else (none)) else (none))) = some (r1, r2, r3) := H
    have A16 := Aside0.mk A160
    clear A160
    by_cases c17 : t158 = 0
    ·rw [if_pos c17] at H
     have c17b0 : (t158 == 0) = true := beq_iff_eq.mpr c17
     have c17b1 : (t158 != 0) = false := bne_eq_false_iff_eq.mpr c17
     clear c17
     have H' := Aside0.mk H
     clear H
     go_wp2_with (first | (go_at_call 82; (with_reducible refine (spec_l01Next.calls g s0_0 x1001_2 x1002_2 t155 t158 t159 t160 w0 _ ?side1 ?side2 A16.out).mono ?_); (case side1 => repeat (first | (with_reducible first | exact HI0.out | apply IsS97.alloc | apply IsS97.drewN | apply IsS97.drew | apply IsS97.set_1 | apply IsS97.set_2 | refine IsS97.far ?_ NB0_145.out _) | exact HI0.out)); (case side2 => repeat (first | (with_reducible first | exact HB.out | apply below_alloc | apply pw_below_drewN | apply below_drew1 | refine below_set ?_ (IsS97.ge HI0.out) | refine below_set ?_ GE145.out) | exact HB.out)); rintro e w18 ⟨rfl, hi, hb, hk⟩; replace HO_5 := Aside0.mk (Kd.R_mono (Kd.R_keep (IsS97.apart (show IsS97 w0 _ g s0_0 x1001_2 x1002_2 from q3_1) (pe HO_5.out) (by decide)) hk (fun _ h => h.2)) (fun _ h => h.1)); replace HO_6 := Aside0.mk (Kd.R_mono (Kd.R_keep (IsS97.apart (show IsS97 w0 _ g s0_0 x1001_2 x1002_2 from q3_1) (pe HO_6.out) (by decide)) hk (fun _ h => h.2)) (fun _ h => h.1)); replace BK145 := Aside0.mk (KeepBut.blk hk (g' := gb145) (o := .cells #[.slice none 0 0] 26 (0, 0)) (pb BK145.out) NB145_0.out (by simp)); replace HK := Aside0.mk (KeepBut.trans q3_0 hk (.inl rfl)); replace HB := Aside0.mk (hb); replace HI0 := Aside0.mk (hi); (try clear hb); (try clear hb2); (try clear hk); (try clear hi)))
     go_roundg k2
     case measure => have := HK1.out; have := HK2.out; omega
     case rel => exact ⟨(wrap64 (x9_2 - 1)), (t159), (t160), q3_21, H', ⟨by have := HK1.out; have := HK2.out; omega⟩, ⟨pe HO_5.out⟩, ⟨pe HO_6.out⟩, ⟨pb BK145.out⟩, ⟨q3_1⟩, ⟨q3_0⟩, ⟨q3_7⟩⟩
    rw [if_neg c17] at H
    have c17b0 : (t158 == 0) = false := beq_eq_false_iff_ne.mpr c17
    have c17b1 : (t158 != 0) = true := bne_iff_ne.mpr c17
    by_cases c19 : 0 ≤ x9_2
    rotate_left
    ·rw [if_neg c19] at H
     exact absurd H (by simp)
    rw [if_pos c19] at H
    have c19b0 : decide (0 ≤ x9_2) = true := decide_eq_true c19
    clear c19
    by_cases c20 : x9_2 < (x6_1.length : Int)
    rotate_left
    ·rw [if_neg c20] at H
     exact absurd H (by simp)
    rw [if_pos c20] at H
    have c20b0 : decide (x9_2 < (x6_1.length : Int)) = true := decide_eq_true c20
    clear c20
    by_cases c21 : 0 ≤ (rd x6_1 x9_2)
    rotate_left
    ·rw [if_neg c21] at H
     exact absurd H (by simp)
    rw [if_pos c21] at H
    have c21b0 : decide (0 ≤ (rd x6_1 x9_2)) = true := decide_eq_true c21
    clear c21
    by_cases c22 : (rd x6_1 x9_2) < (x5_1.length : Int)
    rotate_left
    ·rw [if_neg c22] at H
     exact absurd H (by simp)
    rw [if_pos c22] at H
    have c22b0 : decide ((rd x6_1 x9_2) < (x5_1.length : Int)) = true := decide_eq_true c22
    clear c22
    obtain ⟨y163, hy163⟩ : ∃ y_ : List Int, y_ = (x5_1.set ((rd x6_1 x9_2) : Int).toNat (wrap64 ((rd x5_1 (rd x6_1 x9_2)) + 1))) := ⟨_, rfl⟩
    replace H : (if 0 ≤ (wrap64 (x9_2 + 1)) then (if (wrap64 (x9_2 + 1)) ≤ (x6_1.length : Int) then ((spec_l01Own.f (x6_1.take ((wrap64 (x9_2 + 1)) : Int).toNat)).bind fun t168 => (if t168.length < 17592186044416 then (if y163.length < 17592186044416 then (spec_l01DrawOf.l0 k2 a1 (y163 ++ [0]) (t168 ++ [x8_1]) t155 (wrap64 (x8_1 + 1)) s0_0 t159 t160) else (none)) else (none))) else (none)) else (none)) = some (r1, r2, r3) := by first | (rw [hy163]; with_reducible exact H) | (have H2_ := (Option.bind_some _ _).symm.trans H; rw [hy163]; with_reducible exact H2_) | (have H2_ := (Option.bind_some _ _).symm.trans H; with_reducible exact H2_) | with_reducible exact H | (rw [hy163]; exact H) | exact H
    have Ny163 := Aside0.mk hy163
    clear hy163
    obtain ⟨ji24, hji24⟩ : ∃ j_ : Int, (wrap64 (x9_2 + 1)) = j_ := ⟨_, rfl⟩
    replace H : (if 0 ≤ (ji24) then (if (ji24) ≤ (x6_1.length : Int) then ((spec_l01Own.f (x6_1.take ((ji24) : Int).toNat)).bind fun t168 => (if t168.length < 17592186044416 then (if y163.length < 17592186044416 then (spec_l01DrawOf.l0 k2 a1 (y163 ++ [0]) (t168 ++ [x8_1]) t155 (wrap64 (x8_1 + 1)) s0_0 t159 t160) else (none)) else (none))) else (none)) else (none)) = some (r1, r2, r3) := by first | (rw [hji24] at H; exact H) | (simp only [hji24] at H ⊢; exact H)
    (try rw [hji24] at A16)
    have hji24w : (IntKind.i64.wrap (x9_2 + 1)) = ji24 := (i64_w _).trans hji24
    by_cases c25 : 0 ≤ (ji24)
    rotate_left
    ·rw [if_neg c25] at H
     exact absurd H (by simp)
    rw [if_pos c25] at H
    have c25b0 := eq_true c25
    have c25b1 : decide (0 ≤ (ji24)) = true := decide_eq_true c25
    clear c25
    by_cases c26 : (ji24) ≤ (x6_1.length : Int)
    rotate_left
    ·rw [if_neg c26] at H
     exact absurd H (by simp)
    rw [if_pos c26] at H
    have c26b0 := eq_true c26
    have c26b1 : decide ((ji24) ≤ (x6_1.length : Int)) = true := decide_eq_true c26
    clear c26
    obtain ⟨y164, hy164⟩ : ∃ y_ : List Int, y_ = (x6_1.take ((ji24) : Int).toNat) := ⟨_, rfl⟩
    replace H : ((spec_l01Own.f y164).bind fun t168 => (if t168.length < 17592186044416 then (if y163.length < 17592186044416 then (spec_l01DrawOf.l0 k2 a1 (y163 ++ [0]) (t168 ++ [x8_1]) t155 (wrap64 (x8_1 + 1)) s0_0 t159 t160) else (none)) else (none))) = some (r1, r2, r3) := by first | (rw [hy164]; with_reducible exact H) | (have H2_ := (Option.bind_some _ _).symm.trans H; rw [hy164]; with_reducible exact H2_) | (have H2_ := (Option.bind_some _ _).symm.trans H; with_reducible exact H2_) | with_reducible exact H | (rw [hy164]; exact H) | exact H
    have Ny164 := Aside0.mk hy164
    clear hy164
    replace H := Option.bind_eq_some_iff.mp H
    obtain ⟨t168, A270, H⟩ := H
    replace H : (if t168.length < 17592186044416 then (if y163.length < 17592186044416 then (spec_l01DrawOf.l0 k2 a1 (y163 ++ [0]) (t168 ++ [x8_1]) t155 (wrap64 (x8_1 + 1)) s0_0 t159 t160) else (none)) else (none)) = some (r1, r2, r3) := H
    have A27 := Aside0.mk A270
    clear A270
    by_cases c28 : t168.length < 17592186044416
    rotate_left
    ·rw [if_neg c28] at H
     exact absurd H (by simp)
    rw [if_pos c28] at H
    have LMc28 := Aside0.mk c28
    clear c28
    obtain ⟨y171, hy171⟩ : ∃ y_ : List Int, y_ = (t168 ++ [x8_1]) := ⟨_, rfl⟩
    replace H : (if y163.length < 17592186044416 then (spec_l01DrawOf.l0 k2 a1 (y163 ++ [0]) y171 t155 (wrap64 (x8_1 + 1)) s0_0 t159 t160) else (none)) = some (r1, r2, r3) := by first | (rw [hy171]; with_reducible exact H) | (have H2_ := (Option.bind_some _ _).symm.trans H; rw [hy171]; with_reducible exact H2_) | (have H2_ := (Option.bind_some _ _).symm.trans H; with_reducible exact H2_) | with_reducible exact H | (rw [hy171]; exact H) | exact H
    have Ny171 := Aside0.mk hy171
    clear hy171
    by_cases c29 : y163.length < 17592186044416
    rotate_left
    ·rw [if_neg c29] at H
     exact absurd H (by simp)
    rw [if_pos c29] at H
    have LMc29 := Aside0.mk c29
    clear c29
    obtain ⟨y174, hy174⟩ : ∃ y_ : List Int, y_ = (y163 ++ [0]) := ⟨_, rfl⟩
    replace H : (spec_l01DrawOf.l0 k2 a1 y174 y171 t155 (wrap64 (x8_1 + 1)) s0_0 t159 t160) = some (r1, r2, r3) := by first | (rw [hy174]; with_reducible exact H) | (have H2_ := (Option.bind_some _ _).symm.trans H; rw [hy174]; with_reducible exact H2_) | (have H2_ := (Option.bind_some _ _).symm.trans H; with_reducible exact H2_) | with_reducible exact H | (rw [hy174]; exact H) | exact H
    have Ny174 := Aside0.mk hy174
    clear hy174
    have H' := Aside0.mk H
    clear H
    go_wp2_with (first | (go_at_call 82; (with_reducible refine (spec_l01Next.calls g s0_0 x1001_2 x1002_2 t155 t158 t159 t160 w0 _ ?side1 ?side2 A16.out).mono ?_); (case side1 => repeat (first | (with_reducible first | exact HI0.out | apply IsS97.alloc | apply IsS97.drewN | apply IsS97.drew | apply IsS97.set_1 | apply IsS97.set_2 | refine IsS97.far ?_ NB0_145.out _) | exact HI0.out)); (case side2 => repeat (first | (with_reducible first | exact HB.out | apply below_alloc | apply pw_below_drewN | apply below_drew1 | refine below_set ?_ (IsS97.ge HI0.out) | refine below_set ?_ GE145.out) | exact HB.out)); rintro e w30 ⟨rfl, hi, hb, hk⟩; replace HO_5 := Aside0.mk (Kd.R_mono (Kd.R_keep (IsS97.apart (show IsS97 w0 _ g s0_0 x1001_2 x1002_2 from q3_1) (pe HO_5.out) (by decide)) hk (fun _ h => h.2)) (fun _ h => h.1)); replace HO_6 := Aside0.mk (Kd.R_mono (Kd.R_keep (IsS97.apart (show IsS97 w0 _ g s0_0 x1001_2 x1002_2 from q3_1) (pe HO_6.out) (by decide)) hk (fun _ h => h.2)) (fun _ h => h.1)); replace BK145 := Aside0.mk (KeepBut.blk hk (g' := gb145) (o := .cells #[.slice none 0 0] 26 (0, 0)) (pb BK145.out) NB145_0.out (by simp)); replace HK := Aside0.mk (KeepBut.trans q3_0 hk (.inl rfl)); replace HB := Aside0.mk (hb); replace HI0 := Aside0.mk (hi); (try clear hb); (try clear hb2); (try clear hk); (try clear hi); have p161 : 0 ≤ (x9_2 : Int) := of_decide_eq_true q3_12; have q161 : x9_2 < (x6_1.length : Int) := of_decide_eq_true q3_12; obtain ⟨ad161, e161, hx161_0⟩ := Kd.at_int (Kd.R_reads' HO_6.out).2.2 x9_2 p161 q161; cases e161; replace p161 := eq_true p161; replace q161 := eq_true q161; obtain ⟨Ao31, co31, eo31⟩ := Kd.R_slice HO_5.out; subst eo31; have p162 : 0 ≤ ((rd x6_1 x9_2) : Int) := of_decide_eq_true q3_12; have q162 : (rd x6_1 x9_2) < (x5_1.length : Int) := of_decide_eq_true q3_12; obtain ⟨ad162, e162, hx162_0⟩ := Kd.at_int (Kd.R_reads' HO_5.out).2.2 (rd x6_1 x9_2) p162 q162; cases e162; replace p162 := eq_true p162; replace q162 := eq_true q162; have p23 : 0 ≤ ((rd x6_1 x9_2) : Int) := of_decide_eq_true q3_12; have q23 : ((rd x6_1 x9_2) : Int) < ((x5_1.length : Int) : Int) := of_decide_eq_true q3_12; obtain ⟨go23, co23, eo23, gb23, gl23, cl23, HG23⟩ := Kd.R_form HO_5.out (by omega); (first | cases eo23 | (injection eo23 with ea_ en_ ec_; (first | subst ea_ | (injection ea_ with ea_; subst ea_)); subst ec_; clear en_)); have GB23 := Aside0.mk gb23; have GG23 := Aside0.mk HG23; clear gb23 gl23 HG23; (first | simp only [add_plain] at hx162_0 | skip); obtain ⟨hx23_0, hf23_0⟩ := Kd.R_celln 0 HO_5.out ((rd x6_1 x9_2) : Int) p23 q23; replace p23 := eq_true p23; replace q23 := eq_true q23; obtain ⟨hy32_, hz32_⟩ := Kd.R_celln 0 HO_5.out ((rd x6_1 x9_2) : Int) (of_decide_eq_true q3_12) (of_decide_eq_true q3_12); have HP32 := Kd.R_putg HO_5.out ((rd x6_1 x9_2) : Int) (wrap64 ((rd x5_1 (rd x6_1 x9_2)) + 1))) | ((with_reducible refine gate_store (t := 2) (p := 41) rfl ?_); refine store_event (t := 2) (p := 41) (v := ?vo_w33) (w1 := (w30.setCell ⟨go23, ((rd x6_1 x9_2) : Int).toNat, none⟩ (.int .i64 (wrap64 ((rd x5_1 (rd x6_1 x9_2)) + 1))))) ?hg ?ho ?hn ?hr ?_; (case ho => rfl); (case hg => rfl); (case hn => rfl); (case hr => exact gs); intro w33 hw; have hg : w30.grownBy w33 (some go23) := (by rw [hw]; exact HP32.2); have hp_ : Kd.R (Kd.int .i64) 2 w33 w.heap.size (fun k_ => some k_ ≠ (.slice (some ad161) x6_1.length co14 : Value).ownBlock) (.slice (some ⟨go23, 0, none⟩) x5_1.length co31) y163 := (by rw [hw, Ny163.out]; exact HP32.1); clear HP32; replace HO_6 := Aside0.mk (Kd.R_after (v := (.slice (some ⟨go23, 0, none⟩) x5_1.length co31)) (v1 := (.slice (some ⟨go23, 0, none⟩) x5_1.length co31)) (ok := (fun _ => True)) (pe (Kd.R_mono HO_6.out (fun _ hk => ⟨trivial, hk⟩))) hg (.inl rfl)); replace BK145 := Aside0.mk (blk_grown (g := gb145) (o := .cells #[.slice none 0 0] 26 (0, 0)) (pb BK145.out) hg (Kd.R_ne HO_5.out BK145.out (by decide))); replace HI0 := Aside0.mk (IsS97.grown q3_1 hg (IsS97.own_ne HI0.out HO_5.out (by decide))); replace HB := Aside0.mk (by rw [hw]; exact below_set (HB.out) (Nat.le_trans HL.out GB23.out) : Below w0.heap.size w0 w33); replace HK := Aside0.mk (KeepBut.trans q3_0 (KeepBut.of_grown hg g) (Kd.R_base2 HO_5.out)); replace HO_5 := Aside0.mk (hp_); clear hg hw hp_; have q34 : ((ji24) : Int) ≤ ((x6_1.length : Int) : Int) := of_decide_eq_true q3_12; obtain ⟨i034, hi034, _, hsz34, _⟩ := info_parts info2; have hroom34 : x6_1.length ≤ co14 := (Kd.R_reads' HO_6.out).2.1; have hC34 : Kd.C (Kd.int .i64) _ (some ad161) x6_1.length x6_1 := (Kd.R_reads' HO_6.out).2.2; have hcut34 := cut_to (P := Try.prog) 24 2 .i64 Try.underlying24 hi034 (some ad161) x6_1.length co14 (ji24) (of_decide_eq_true q3_12) q34 hroom34; have hr34 := Kd.C_take (m := ((ji24) : Int).toNat) hC34 (by omega); have hy34 : y164.length = ((ji24) : Int).toNat := (by rw [Ny164.out, List.length_take]; omega); rw [← Ny164.out] at hr34; rw [← hy34] at hcut34; have HR167 := Aside0.mk hr34; have HC167 := Aside0.mk (show y164.length ≤ co14 from by omega); clear hr34 hC34 hroom34 hi034 hsz34; have KY34 := Aside0.mk hy34; clear hy34; have KL34 := Aside0.mk (show ((ji24) : Int).toNat ≤ x6_1.length from by omega); replace q34 := eq_true q34) | ((with_reducible refine gate_callee (f := 103) rfl ?_); refine goesL_ (some 46) rfl rfl Try.func103 (by kernel_rfl) rfl #[.slice (some ad161) y164.length co14] rfl am ?_; (with_reducible refine (spec_l01Own.calls _ _ y164 t168 _ ?side1 ?side2 A27.out).mono ?_); (case side1 => repeat (first | exact q3_24 | (with_reducible refine Kd.C_alloc ?_ _) | (with_reducible refine Kd.C_drewN ?_ _) | (with_reducible refine Kd.C_drew ?_))); (case side2 => exact HC167.out); rintro e w35 ⟨v169, rfl, ho0, hb⟩; refine ⟨_, rfl, ?_⟩; have HO170 := Aside0.mk (Kd.R_lower (Kd.R_new' (Kd.R_new' ho0 (Kd.R_lt (pe HO_5.out))) (Kd.R_lt (pe HO_6.out))) (keep_size (w := w) (g := g) (row := none) q3_0)); replace HO_5 := rn HO_5 ho0 hb; replace HO_6 := rn HO_6 ho0 hb; replace BK145 := bb BK145 hb; replace HR167 := Aside0.mk (Kd.C_below q3_24 hb); replace HK := Aside0.mk (KeepBut.trans q3_0 (KeepBut.of_below hb g none) (.inl rfl)); replace HB := Aside0.mk (below_step q3_7 hb); replace HI0 := Aside0.mk (IsS97.below q3_1 hb); (try clear hb); (try clear hb2); (try clear hk); (try clear hi); (try clear ho0)) | ((with_reducible refine gate_builtin (b := .append) (xs := #[.tmp 46, .tmp 48]) rfl ?_); at_builtin; refine Kd.R_append (Kd.int .i64) w.heap.size rfl (.tmp 46) (.tmp 48) 24 2 (.int .i64 0) 8 rfl Try.underlying24 info2 rfl (by decide) (by omega) v169 t168 x8_1 [.int .i64 x8_1] (fun k_ => some k_ ≠ (.slice (some ⟨go23, 0, none⟩) x5_1.length co31 : Value).ownBlock ∧ some k_ ≠ (.slice (some ad161) x6_1.length co14 : Value).ownBlock) (fun _ => False) rfl rfl ?aP (fun _ hk => hk.elim) ?aF ?aO (Below.refl _ _) ?aS ?aL ?_; (case aP => exact rfl); (case aF => exact (fun k_ hk => ⟨Kd.fresh' (Kd.R_lt (pe HO_5.out)) k_ hk, Kd.fresh' (Kd.R_lt (pe HO_6.out)) k_ hk⟩)); (case aO => exact (pe (Kd.R_mono HO170.out (fun _ hk => ⟨hk.1.2, hk.2⟩)))); (case aS => exact (keep_size (w := w) (g := g) (row := none) q3_0)); (case aL => have := LMc28.out; omega); intro v172 w36 ho hb hg hat; rw [← Ny171.out] at ho; replace HO_5 := Aside0.mk (Kd.R_after (ok := (fun k_ => some k_ ≠ (.slice (some ad161) x6_1.length co14 : Value).ownBlock)) (pe HO_5.out) hg hat); replace BK145 := Aside0.mk (blk_grown (g := gb145) (o := .cells #[.slice none 0 0] 26 (0, 0)) (pb BK145.out) hg (Kd.R_ne HO170.out BK145.out (by decide))); replace HB := Aside0.mk (below_weaken q3_7 HL.out hb); replace HI0 := Aside0.mk (IsS97.grown q3_1 hg (IsS97.own_ne HI0.out HO170.out (by decide))); replace HK := Aside0.mk (KeepBut.trans q3_0 (KeepBut.of_grown hg g) (Kd.R_base2 HO170.out)); replace HR167 := Aside0.mk (show Kd.C (Kd.int .i64) w36 (some ad161) y164.length y164 from by rw [Ny164.out]; exact Kd.C_take (m := ((ji24) : Int).toNat) ((Kd.R_reads' (Kd.R_after (ok := (fun k_ => some k_ ≠ (.slice (some ⟨go23, 0, none⟩) x5_1.length co31 : Value).ownBlock)) (pe (Kd.R_mono HO_6.out (fun _ hk => ⟨hk.1.2, hk.2⟩))) hg hat)).2.2) KL34.out); replace HO_6 := Aside0.mk (Kd.R_after (ok := (fun k_ => some k_ ≠ (.slice (some ⟨go23, 0, none⟩) x5_1.length co31 : Value).ownBlock)) (pe (Kd.R_mono HO_6.out (fun _ hk => ⟨hk.1.2, hk.2⟩))) hg hat); have HO173 := Aside0.mk (ho); clear HO170; clear ho hb hg hat) | ((with_reducible refine gate_builtin (b := .append) (xs := #[.tmp 50, .tmp 51]) rfl ?_); at_builtin; refine Kd.R_append (Kd.int .i64) w.heap.size rfl (.tmp 50) (.tmp 51) 24 2 (.int .i64 0) 8 rfl Try.underlying24 info2 rfl (by decide) (by omega) (.slice (some ⟨go23, 0, none⟩) x5_1.length co31) y163 0 [.int .i64 0] (fun k_ => some k_ ≠ (.slice (some ad161) x6_1.length co14 : Value).ownBlock ∧ some k_ ≠ (v172 : Value).ownBlock) (fun _ => False) rfl rfl ?aP (fun _ hk => hk.elim) ?aF ?aO (Below.refl _ _) ?aS ?aL ?_; (case aP => exact rfl); (case aF => exact (fun k_ hk => ⟨Kd.fresh' (Kd.R_lt (pe HO_6.out)) k_ hk, Kd.fresh' (Kd.R_lt (pe HO173.out)) k_ hk⟩)); (case aO => exact (pe HO_5.out)); (case aS => exact (keep_size (w := w) (g := g) (row := none) q3_0)); (case aL => have := LMc29.out; omega); intro v175 w37 ho hb hg hat; rw [← Ny174.out] at ho; replace BK145 := Aside0.mk (blk_grown (g := gb145) (o := .cells #[.slice none 0 0] 26 (0, 0)) (pb BK145.out) hg (Kd.R_ne HO_5.out BK145.out (by decide))); replace HO173 := Aside0.mk (Kd.R_after (ok := (fun k_ => some k_ ≠ (.slice (some ad161) x6_1.length co14 : Value).ownBlock)) (pe (Kd.R_mono HO173.out (fun _ hk => ⟨hk.2, hk.1⟩))) hg hat); replace HB := Aside0.mk (below_weaken q3_7 HL.out hb); replace HI0 := Aside0.mk (IsS97.grown q3_1 hg (IsS97.own_ne HI0.out HO_5.out (by decide))); replace HK := Aside0.mk (KeepBut.trans q3_0 (KeepBut.of_grown hg g) (Kd.R_base2 HO_5.out)); replace HR167 := Aside0.mk (show Kd.C (Kd.int .i64) w37 (some ad161) y164.length y164 from by rw [Ny164.out]; exact Kd.C_take (m := ((ji24) : Int).toNat) ((Kd.R_reads' (Kd.R_after (ok := (fun k_ => some k_ ≠ (v172 : Value).ownBlock)) (pe (Kd.R_mono HO_6.out (fun _ hk => ⟨hk.2, hk.1⟩))) hg hat)).2.2) KL34.out); replace HO_6 := Aside0.mk (Kd.R_after (ok := (fun k_ => some k_ ≠ (v172 : Value).ownBlock)) (pe (Kd.R_mono HO_6.out (fun _ hk => ⟨hk.2, hk.1⟩))) hg hat); have HO176 := Aside0.mk (ho); clear HO_5; clear ho hb hg hat))
    go_roundg k2
    case measure => have := HK1.out; have := HK2.out; omega
    case rel => exact ⟨(y174), (y171), (wrap64 (x8_1 + 1)), (t159), (t160), q3_21, H', ⟨by have := HK1.out; have := HK2.out; omega⟩, ⟨pe (Kd.R_mono HO176.out (fun _ hk => hk.2))⟩, ⟨pe (Kd.R_mono HO173.out (fun _ hk => hk.2))⟩, ⟨pb BK145.out⟩, ⟨q3_1⟩, ⟨q3_0⟩, ⟨q3_7⟩⟩
   rw [if_neg c15] at H
   have c15b0 : decide (0 < x9_2) = false := decide_eq_false c15
   clear c15
   by_cases c38 : 0 ≤ x9_2
   rotate_left
   ·rw [if_neg c38] at H
    exact absurd H (by simp)
   rw [if_pos c38] at H
   have c38b0 : decide (0 ≤ x9_2) = true := decide_eq_true c38
   clear c38
   by_cases c39 : x9_2 < (x6_1.length : Int)
   rotate_left
   ·rw [if_neg c39] at H
    exact absurd H (by simp)
   rw [if_pos c39] at H
   have c39b0 : decide (x9_2 < (x6_1.length : Int)) = true := decide_eq_true c39
   clear c39
   by_cases c40 : 0 ≤ (rd x6_1 x9_2)
   rotate_left
   ·rw [if_neg c40] at H
    exact absurd H (by simp)
   rw [if_pos c40] at H
   have c40b0 : decide (0 ≤ (rd x6_1 x9_2)) = true := decide_eq_true c40
   clear c40
   by_cases c41 : (rd x6_1 x9_2) < (x5_1.length : Int)
   rotate_left
   ·rw [if_neg c41] at H
    exact absurd H (by simp)
   rw [if_pos c41] at H
   have c41b0 : decide ((rd x6_1 x9_2) < (x5_1.length : Int)) = true := decide_eq_true c41
   clear c41
   obtain ⟨y179, hy179⟩ : ∃ y_ : List Int, y_ = (x5_1.set ((rd x6_1 x9_2) : Int).toNat (wrap64 ((rd x5_1 (rd x6_1 x9_2)) + 1))) := ⟨_, rfl⟩
   replace H : (if 0 ≤ (wrap64 (x9_2 + 1)) then (if (wrap64 (x9_2 + 1)) ≤ (x6_1.length : Int) then ((spec_l01Own.f (x6_1.take ((wrap64 (x9_2 + 1)) : Int).toNat)).bind fun t184 => (if t184.length < 17592186044416 then (if y179.length < 17592186044416 then (spec_l01DrawOf.l0 k2 a1 (y179 ++ [0]) (t184 ++ [x8_1]) t155 (wrap64 (x8_1 + 1)) s0_0 x1001_2 x1002_2) else (none)) else (none))) else (none)) else (none)) = some (r1, r2, r3) := by first | (rw [hy179]; with_reducible exact H) | (have H2_ := (Option.bind_some _ _).symm.trans H; rw [hy179]; with_reducible exact H2_) | (have H2_ := (Option.bind_some _ _).symm.trans H; with_reducible exact H2_) | with_reducible exact H | (rw [hy179]; exact H) | exact H
   have Ny179 := Aside0.mk hy179
   clear hy179
   obtain ⟨ji43, hji43⟩ : ∃ j_ : Int, (wrap64 (x9_2 + 1)) = j_ := ⟨_, rfl⟩
   replace H : (if 0 ≤ (ji43) then (if (ji43) ≤ (x6_1.length : Int) then ((spec_l01Own.f (x6_1.take ((ji43) : Int).toNat)).bind fun t184 => (if t184.length < 17592186044416 then (if y179.length < 17592186044416 then (spec_l01DrawOf.l0 k2 a1 (y179 ++ [0]) (t184 ++ [x8_1]) t155 (wrap64 (x8_1 + 1)) s0_0 x1001_2 x1002_2) else (none)) else (none))) else (none)) else (none)) = some (r1, r2, r3) := by first | (rw [hji43] at H; exact H) | (simp only [hji43] at H ⊢; exact H)
   have hji43w : (IntKind.i64.wrap (x9_2 + 1)) = ji43 := (i64_w _).trans hji43
   by_cases c44 : 0 ≤ (ji43)
   rotate_left
   ·rw [if_neg c44] at H
    exact absurd H (by simp)
   rw [if_pos c44] at H
   have c44b0 := eq_true c44
   have c44b1 : decide (0 ≤ (ji43)) = true := decide_eq_true c44
   clear c44
   by_cases c45 : (ji43) ≤ (x6_1.length : Int)
   rotate_left
   ·rw [if_neg c45] at H
    exact absurd H (by simp)
   rw [if_pos c45] at H
   have c45b0 := eq_true c45
   have c45b1 : decide ((ji43) ≤ (x6_1.length : Int)) = true := decide_eq_true c45
   clear c45
   obtain ⟨y180, hy180⟩ : ∃ y_ : List Int, y_ = (x6_1.take ((ji43) : Int).toNat) := ⟨_, rfl⟩
   replace H : ((spec_l01Own.f y180).bind fun t184 => (if t184.length < 17592186044416 then (if y179.length < 17592186044416 then (spec_l01DrawOf.l0 k2 a1 (y179 ++ [0]) (t184 ++ [x8_1]) t155 (wrap64 (x8_1 + 1)) s0_0 x1001_2 x1002_2) else (none)) else (none))) = some (r1, r2, r3) := by first | (rw [hy180]; with_reducible exact H) | (have H2_ := (Option.bind_some _ _).symm.trans H; rw [hy180]; with_reducible exact H2_) | (have H2_ := (Option.bind_some _ _).symm.trans H; with_reducible exact H2_) | with_reducible exact H | (rw [hy180]; exact H) | exact H
   have Ny180 := Aside0.mk hy180
   clear hy180
   replace H := Option.bind_eq_some_iff.mp H
   obtain ⟨t184, A460, H⟩ := H
   replace H : (if t184.length < 17592186044416 then (if y179.length < 17592186044416 then (spec_l01DrawOf.l0 k2 a1 (y179 ++ [0]) (t184 ++ [x8_1]) t155 (wrap64 (x8_1 + 1)) s0_0 x1001_2 x1002_2) else (none)) else (none)) = some (r1, r2, r3) := H
   have A46 := Aside0.mk A460
   clear A460
   by_cases c47 : t184.length < 17592186044416
   rotate_left
   ·rw [if_neg c47] at H
    exact absurd H (by simp)
   rw [if_pos c47] at H
   have LMc47 := Aside0.mk c47
   clear c47
   obtain ⟨y187, hy187⟩ : ∃ y_ : List Int, y_ = (t184 ++ [x8_1]) := ⟨_, rfl⟩
   replace H : (if y179.length < 17592186044416 then (spec_l01DrawOf.l0 k2 a1 (y179 ++ [0]) y187 t155 (wrap64 (x8_1 + 1)) s0_0 x1001_2 x1002_2) else (none)) = some (r1, r2, r3) := by first | (rw [hy187]; with_reducible exact H) | (have H2_ := (Option.bind_some _ _).symm.trans H; rw [hy187]; with_reducible exact H2_) | (have H2_ := (Option.bind_some _ _).symm.trans H; with_reducible exact H2_) | with_reducible exact H | (rw [hy187]; exact H) | exact H
   have Ny187 := Aside0.mk hy187
   clear hy187
   by_cases c48 : y179.length < 17592186044416
   rotate_left
   ·rw [if_neg c48] at H
    exact absurd H (by simp)
   rw [if_pos c48] at H
   have LMc48 := Aside0.mk c48
   clear c48
   obtain ⟨y190, hy190⟩ : ∃ y_ : List Int, y_ = (y179 ++ [0]) := ⟨_, rfl⟩
   replace H : (spec_l01DrawOf.l0 k2 a1 y190 y187 t155 (wrap64 (x8_1 + 1)) s0_0 x1001_2 x1002_2) = some (r1, r2, r3) := by first | (rw [hy190]; with_reducible exact H) | (have H2_ := (Option.bind_some _ _).symm.trans H; rw [hy190]; with_reducible exact H2_) | (have H2_ := (Option.bind_some _ _).symm.trans H; with_reducible exact H2_) | with_reducible exact H | (rw [hy190]; exact H) | exact H
   have Ny190 := Aside0.mk hy190
   clear hy190
   have H' := Aside0.mk H
   clear H
   have p177 : 0 ≤ (x9_2 : Int) := of_decide_eq_true q3_12
   have q177 : x9_2 < (x6_1.length : Int) := of_decide_eq_true q3_12
   (try (obtain ⟨Aop_, cop_, eop_⟩ := Kd.R_slice HO_6.out; subst eop_))
   obtain ⟨ad177, e177, hx177_0⟩ := Kd.at_int (Kd.R_reads' HO_6.out).2.2 x9_2 p177 q177
   cases e177
   replace p177 := eq_true p177
   replace q177 := eq_true q177
   obtain ⟨Ao49, co49, eo49⟩ := Kd.R_slice HO_5.out
   subst eo49
   have p178 : 0 ≤ ((rd x6_1 x9_2) : Int) := of_decide_eq_true q3_12
   have q178 : (rd x6_1 x9_2) < (x5_1.length : Int) := of_decide_eq_true q3_12
   (try (obtain ⟨Aop_, cop_, eop_⟩ := Kd.R_slice HO_5.out; subst eop_))
   obtain ⟨ad178, e178, hx178_0⟩ := Kd.at_int (Kd.R_reads' HO_5.out).2.2 (rd x6_1 x9_2) p178 q178
   cases e178
   replace p178 := eq_true p178
   replace q178 := eq_true q178
   have p42 : 0 ≤ ((rd x6_1 x9_2) : Int) := of_decide_eq_true q3_12
   have q42 : ((rd x6_1 x9_2) : Int) < ((x5_1.length : Int) : Int) := of_decide_eq_true q3_12
   obtain ⟨go42, co42, eo42, gb42, gl42, cl42, HG42⟩ := Kd.R_form HO_5.out (by omega)
   (first | cases eo42 | (injection eo42 with ea_ en_ ec_; (first | subst ea_ | (injection ea_ with ea_; subst ea_)); subst ec_; clear en_))
   have GB42 := Aside0.mk gb42
   have GG42 := Aside0.mk HG42
   clear gb42 gl42 HG42
   (first | simp only [add_plain] at hx178_0 | skip)
   obtain ⟨hx42_0, hf42_0⟩ := Kd.R_celln 0 HO_5.out ((rd x6_1 x9_2) : Int) p42 q42
   replace p42 := eq_true p42
   replace q42 := eq_true q42
   have HP50 := Kd.R_putg HO_5.out ((rd x6_1 x9_2) : Int) (wrap64 ((rd x5_1 (rd x6_1 x9_2)) + 1))
   go_wp2_with (first | ((with_reducible refine gate_store (t := 2) (p := 41) rfl ?_); refine store_event (t := 2) (p := 41) (v := ?vo_w51) (w1 := (wr.setCell ⟨go42, ((rd x6_1 x9_2) : Int).toNat, none⟩ (.int .i64 (wrap64 ((rd x5_1 (rd x6_1 x9_2)) + 1))))) ?hg ?ho ?hn ?hr ?_; (case ho => rfl); (case hg => rfl); (case hn => rfl); (case hr => exact gs); intro w51 hw; have hg : wr.grownBy w51 (some go42) := (by rw [hw]; exact HP50.2); have hp_ : Kd.R (Kd.int .i64) 2 w51 w.heap.size (fun k_ => some k_ ≠ (.slice (some ad177) x6_1.length co14 : Value).ownBlock) (.slice (some ⟨go42, 0, none⟩) x5_1.length co49) y179 := (by rw [hw, Ny179.out]; exact HP50.1); clear HP50; replace HO_6 := Aside0.mk (Kd.R_after (v := (.slice (some ⟨go42, 0, none⟩) x5_1.length co49)) (v1 := (.slice (some ⟨go42, 0, none⟩) x5_1.length co49)) (ok := (fun _ => True)) (pe (Kd.R_mono HO_6.out (fun _ hk => ⟨trivial, hk⟩))) hg (.inl rfl)); replace BK145 := Aside0.mk (blk_grown (g := gb145) (o := .cells #[.slice none 0 0] 26 (0, 0)) (pb BK145.out) hg (Kd.R_ne HO_5.out BK145.out (by decide))); replace HI0 := Aside0.mk (IsS97.grown q3_1 hg (IsS97.own_ne HI0.out HO_5.out (by decide))); replace HB := Aside0.mk (by rw [hw]; exact below_set (HB.out) (Nat.le_trans HL.out GB42.out) : Below w0.heap.size w0 w51); replace HK := Aside0.mk (KeepBut.trans q3_0 (KeepBut.of_grown hg g) (Kd.R_base2 HO_5.out)); replace HO_5 := Aside0.mk (hp_); clear hg hw hp_; have q52 : ((ji43) : Int) ≤ ((x6_1.length : Int) : Int) := of_decide_eq_true q3_12; obtain ⟨i052, hi052, _, hsz52, _⟩ := info_parts info2; have hroom52 : x6_1.length ≤ co14 := (Kd.R_reads' HO_6.out).2.1; have hC52 : Kd.C (Kd.int .i64) _ (some ad177) x6_1.length x6_1 := (Kd.R_reads' HO_6.out).2.2; have hcut52 := cut_to (P := Try.prog) 24 2 .i64 Try.underlying24 hi052 (some ad177) x6_1.length co14 (ji43) (of_decide_eq_true q3_12) q52 hroom52; have hr52 := Kd.C_take (m := ((ji43) : Int).toNat) hC52 (by omega); have hy52 : y180.length = ((ji43) : Int).toNat := (by rw [Ny180.out, List.length_take]; omega); rw [← Ny180.out] at hr52; rw [← hy52] at hcut52; have HR183 := Aside0.mk hr52; have HC183 := Aside0.mk (show y180.length ≤ co14 from by omega); clear hr52 hC52 hroom52 hi052 hsz52; have KY52 := Aside0.mk hy52; clear hy52; have KL52 := Aside0.mk (show ((ji43) : Int).toNat ≤ x6_1.length from by omega); replace q52 := eq_true q52) | ((with_reducible refine gate_callee (f := 103) rfl ?_); refine goesL_ (some 46) rfl rfl Try.func103 (by kernel_rfl) rfl #[.slice (some ad177) y180.length co14] rfl am ?_; (with_reducible refine (spec_l01Own.calls _ _ y180 t184 _ ?side1 ?side2 A46.out).mono ?_); (case side1 => repeat (first | exact q3_23 | (with_reducible refine Kd.C_alloc ?_ _) | (with_reducible refine Kd.C_drewN ?_ _) | (with_reducible refine Kd.C_drew ?_))); (case side2 => exact HC183.out); rintro e w53 ⟨v185, rfl, ho0, hb⟩; refine ⟨_, rfl, ?_⟩; have HO186 := Aside0.mk (Kd.R_lower (Kd.R_new' (Kd.R_new' ho0 (Kd.R_lt (pe HO_5.out))) (Kd.R_lt (pe HO_6.out))) (keep_size (w := w) (g := g) (row := none) q3_0)); replace HO_5 := rn HO_5 ho0 hb; replace HO_6 := rn HO_6 ho0 hb; replace BK145 := bb BK145 hb; replace HR183 := Aside0.mk (Kd.C_below q3_23 hb); replace HK := Aside0.mk (KeepBut.trans q3_0 (KeepBut.of_below hb g none) (.inl rfl)); replace HB := Aside0.mk (below_step q3_7 hb); replace HI0 := Aside0.mk (IsS97.below q3_1 hb); (try clear hb); (try clear hb2); (try clear hk); (try clear hi); (try clear ho0)) | ((with_reducible refine gate_builtin (b := .append) (xs := #[.tmp 46, .tmp 48]) rfl ?_); at_builtin; refine Kd.R_append (Kd.int .i64) w.heap.size rfl (.tmp 46) (.tmp 48) 24 2 (.int .i64 0) 8 rfl Try.underlying24 info2 rfl (by decide) (by omega) v185 t184 x8_1 [.int .i64 x8_1] (fun k_ => some k_ ≠ (.slice (some ⟨go42, 0, none⟩) x5_1.length co49 : Value).ownBlock ∧ some k_ ≠ (.slice (some ad177) x6_1.length co14 : Value).ownBlock) (fun _ => False) rfl rfl ?aP (fun _ hk => hk.elim) ?aF ?aO (Below.refl _ _) ?aS ?aL ?_; (case aP => exact rfl); (case aF => exact (fun k_ hk => ⟨Kd.fresh' (Kd.R_lt (pe HO_5.out)) k_ hk, Kd.fresh' (Kd.R_lt (pe HO_6.out)) k_ hk⟩)); (case aO => exact (pe (Kd.R_mono HO186.out (fun _ hk => ⟨hk.1.2, hk.2⟩)))); (case aS => exact (keep_size (w := w) (g := g) (row := none) q3_0)); (case aL => have := LMc47.out; omega); intro v188 w54 ho hb hg hat; rw [← Ny187.out] at ho; replace HO_5 := Aside0.mk (Kd.R_after (ok := (fun k_ => some k_ ≠ (.slice (some ad177) x6_1.length co14 : Value).ownBlock)) (pe HO_5.out) hg hat); replace BK145 := Aside0.mk (blk_grown (g := gb145) (o := .cells #[.slice none 0 0] 26 (0, 0)) (pb BK145.out) hg (Kd.R_ne HO186.out BK145.out (by decide))); replace HB := Aside0.mk (below_weaken q3_7 HL.out hb); replace HI0 := Aside0.mk (IsS97.grown q3_1 hg (IsS97.own_ne HI0.out HO186.out (by decide))); replace HK := Aside0.mk (KeepBut.trans q3_0 (KeepBut.of_grown hg g) (Kd.R_base2 HO186.out)); replace HR183 := Aside0.mk (show Kd.C (Kd.int .i64) w54 (some ad177) y180.length y180 from by rw [Ny180.out]; exact Kd.C_take (m := ((ji43) : Int).toNat) ((Kd.R_reads' (Kd.R_after (ok := (fun k_ => some k_ ≠ (.slice (some ⟨go42, 0, none⟩) x5_1.length co49 : Value).ownBlock)) (pe (Kd.R_mono HO_6.out (fun _ hk => ⟨hk.1.2, hk.2⟩))) hg hat)).2.2) KL52.out); replace HO_6 := Aside0.mk (Kd.R_after (ok := (fun k_ => some k_ ≠ (.slice (some ⟨go42, 0, none⟩) x5_1.length co49 : Value).ownBlock)) (pe (Kd.R_mono HO_6.out (fun _ hk => ⟨hk.1.2, hk.2⟩))) hg hat); have HO189 := Aside0.mk (ho); clear HO186; clear ho hb hg hat) | ((with_reducible refine gate_builtin (b := .append) (xs := #[.tmp 50, .tmp 51]) rfl ?_); at_builtin; refine Kd.R_append (Kd.int .i64) w.heap.size rfl (.tmp 50) (.tmp 51) 24 2 (.int .i64 0) 8 rfl Try.underlying24 info2 rfl (by decide) (by omega) (.slice (some ⟨go42, 0, none⟩) x5_1.length co49) y179 0 [.int .i64 0] (fun k_ => some k_ ≠ (.slice (some ad177) x6_1.length co14 : Value).ownBlock ∧ some k_ ≠ (v188 : Value).ownBlock) (fun _ => False) rfl rfl ?aP (fun _ hk => hk.elim) ?aF ?aO (Below.refl _ _) ?aS ?aL ?_; (case aP => exact rfl); (case aF => exact (fun k_ hk => ⟨Kd.fresh' (Kd.R_lt (pe HO_6.out)) k_ hk, Kd.fresh' (Kd.R_lt (pe HO189.out)) k_ hk⟩)); (case aO => exact (pe HO_5.out)); (case aS => exact (keep_size (w := w) (g := g) (row := none) q3_0)); (case aL => have := LMc48.out; omega); intro v191 w55 ho hb hg hat; rw [← Ny190.out] at ho; replace BK145 := Aside0.mk (blk_grown (g := gb145) (o := .cells #[.slice none 0 0] 26 (0, 0)) (pb BK145.out) hg (Kd.R_ne HO_5.out BK145.out (by decide))); replace HO189 := Aside0.mk (Kd.R_after (ok := (fun k_ => some k_ ≠ (.slice (some ad177) x6_1.length co14 : Value).ownBlock)) (pe (Kd.R_mono HO189.out (fun _ hk => ⟨hk.2, hk.1⟩))) hg hat); replace HB := Aside0.mk (below_weaken q3_7 HL.out hb); replace HI0 := Aside0.mk (IsS97.grown q3_1 hg (IsS97.own_ne HI0.out HO_5.out (by decide))); replace HK := Aside0.mk (KeepBut.trans q3_0 (KeepBut.of_grown hg g) (Kd.R_base2 HO_5.out)); replace HR183 := Aside0.mk (show Kd.C (Kd.int .i64) w55 (some ad177) y180.length y180 from by rw [Ny180.out]; exact Kd.C_take (m := ((ji43) : Int).toNat) ((Kd.R_reads' (Kd.R_after (ok := (fun k_ => some k_ ≠ (v188 : Value).ownBlock)) (pe (Kd.R_mono HO_6.out (fun _ hk => ⟨hk.2, hk.1⟩))) hg hat)).2.2) KL52.out); replace HO_6 := Aside0.mk (Kd.R_after (ok := (fun k_ => some k_ ≠ (v188 : Value).ownBlock)) (pe (Kd.R_mono HO_6.out (fun _ hk => ⟨hk.2, hk.1⟩))) hg hat); have HO192 := Aside0.mk (ho); clear HO_5; clear ho hb hg hat))
   go_roundg k2
   case measure => have := HK1.out; have := HK2.out; omega
   case rel => exact ⟨(y190), (y187), (wrap64 (x8_1 + 1)), (x1001_2), (x1002_2), q3_21, H', ⟨by have := HK1.out; have := HK2.out; omega⟩, ⟨pe (Kd.R_mono HO192.out (fun _ hk => hk.2))⟩, ⟨pe (Kd.R_mono HO189.out (fun _ hk => hk.2))⟩, ⟨pb BK145.out⟩, ⟨q3_1⟩, ⟨q3_0⟩, ⟨q3_7⟩⟩

/-! ### spec_l01Small: function 93 -/
def spec_l01Small.f (k : Nat) (s0_0 : List Int) (s0_1 : Int) (s0_2 : Int) : Option (List Int × Int × Int) := (spec_l01Next.f s0_0 s0_1 s0_2 6).bind fun bt194 => ((spec_l01DrawOf.f k s0_0 bt194.2.1 bt194.2.2 (wrap64 (1 + bt194.1))).bind fun bt197 => (some (bt197.1, bt197.2.1, bt197.2.2)))
theorem spec_l01Small.mono : ∀ a0 a1 a2 k, LeO (spec_l01Small.f k a0 a1 a2) (spec_l01Small.f (k + 1) a0 a1 a2) := by
 intro a0 a1 a2 k
 unfold spec_l01Small.f
 repeat' first
   | (with_reducible exact spec_l01DrawOf.mono _ _ _ _ _)
   | (with_reducible exact LeO.refl _)
   | (with_reducible exact LeO.none _)
   | (with_reducible refine LeO.ite ?_ ?_)
   | (with_reducible refine LeO.bind ?_ (fun _ => ?_))
   | exact spec_l01DrawOf.mono _ _ _ _ _
   | exact LeO.none _
   | refine LeO.ite ?_ ?_
   | refine LeO.bind ?_ (fun _ => ?_)
set_option maxHeartbeats 8000000 in
set_option maxRecDepth 100000 in
theorem spec_l01Small.calls (k : Nat) (g : Nat) (s0_0 : List Int) (s0_1 : Int) (s0_2 : Int) (r1 : List Int) (r2 : Int) (r3 : Int) (w0 w : World) (hI : IsS97 w0 w g s0_0 s0_1 s0_2) (hB : Below w0.heap.size w0 w) (h : spec_l01Small.f k s0_0 s0_1 s0_2 = some (r1, r2, r3)) :
  Calls Try.prog 93 #[.pointer (some ⟨g, 0, none⟩)] w fun e w' => ∃ v0_ : Value, e = .returned (.agg #[v0_]) ∧ Kd.R (Kd.int .i64) 2 w' w.heap.size (fun _ => True) v0_ r1 ∧ IsS97 w0 w' g s0_0 r2 r3 ∧ Below w0.heap.size w0 w' ∧ KeepBut w w' g none := by
 have hu26 := Try.underlying26
 have HI0 := Aside0.mk hI
 have HK := Aside0.mk (KeepBut.refl w g none)
 have HL := Aside0.mk hB.size
 clear hI
 have HW0 := Aside0.mk hB.size
 have HB := Aside0.mk hB
 clear hB
 have H : ((spec_l01Next.f s0_0 s0_1 s0_2 6).bind fun bt194 => ((spec_l01DrawOf.f k s0_0 bt194.2.1 bt194.2.2 (wrap64 (1 + bt194.1))).bind fun bt197 => (some (bt197.1, bt197.2.1, bt197.2.2)))) = some (r1, r2, r3) := h
 clear h
 replace H := Option.bind_eq_some_iff.mp H
 obtain ⟨⟨t194, t195, t196⟩, A20, H⟩ := H
 replace H : ((spec_l01DrawOf.f k s0_0 t195 t196 (wrap64 (1 + t194))).bind fun bt197 => (some (bt197.1, bt197.2.1, bt197.2.2))) = some (r1, r2, r3) := H
 have A2 := Aside0.mk A20
 clear A20
 replace H := Option.bind_eq_some_iff.mp H
 obtain ⟨⟨t197, t200, t201⟩, A30, H⟩ := H
 replace H : (some (t197, t200, t201)) = some (r1, r2, r3) := H
 have A3 := Aside0.mk A30
 clear A30
 simp only [Option.some.injEq, Prod.mk.injEq] at H
 obtain ⟨rfl, rfl, rfl⟩ := H
 go_enter Try.func93, Try.ntmps93
 go_wp2_with (first | ((with_reducible refine gate_dst (N := 2) rfl ?_); refine box_event ?hg (N := 2) ?hd (cs := #[.slice none 0 0]) (t := 26) ?hr ?_; (case hd => rfl); (case hg => rfl); (case hr => exact gs); intro gb193 hg w4 hbox hb; replace HB := Aside0.mk (below_step q3_13 hb); have BK193 := Aside0.mk (hbox); have GW193 := Aside0.mk (q3_15 : w.heap.size ≤ gb193); have GE193 := Aside0.mk (Nat.le_trans HW0.out (q3_15 : w.heap.size ≤ gb193) : w0.heap.size ≤ gb193); replace HK := Aside0.mk (KeepBut.trans q3_8 (KeepBut.of_below hb g none) (.inl rfl)); have NB0_193 := Aside0.mk (q3_19 : g ≠ gb193); have NB193_0 := Aside0.mk (q3_20 : gb193 ≠ g); replace HI0 := Aside0.mk (IsS97.below q3_6 hb); clear hb hbox hg) | ((with_reducible refine gate_callee (f := 82) rfl ?_); refine goesL_ (some 5) rfl rfl Try.func82 (by kernel_rfl) rfl #[.pointer (some ⟨g, 0, none⟩), .int .i64 6] rfl am ?_; (with_reducible refine (spec_l01Next.calls g s0_0 s0_1 s0_2 6 t194 t195 t196 w0 _ ?side1 ?side2 A2.out).mono ?_); (case side1 => repeat (first | (with_reducible first | exact HI0.out | apply IsS97.alloc | apply IsS97.drewN | apply IsS97.drew | apply IsS97.set_1 | apply IsS97.set_2 | refine IsS97.far ?_ NB0_193.out _) | exact HI0.out)); (case side2 => repeat (first | (with_reducible first | exact HB.out | apply below_alloc | apply pw_below_drewN | apply below_drew1 | refine below_set ?_ (IsS97.ge HI0.out) | refine below_set ?_ GE193.out) | exact HB.out)); rintro e w5 ⟨rfl, hi, hb, hk⟩; refine ⟨_, rfl, ?_⟩; replace BK193 := Aside0.mk (KeepBut.blk hk (g' := gb193) (o := .cells #[.slice none 0 0] 26 (0, 0)) (pb BK193.out) NB193_0.out (by simp)); replace HK := Aside0.mk (KeepBut.trans q3_18 hk (.inl rfl)); replace HB := Aside0.mk (hb); replace HI0 := Aside0.mk (hi); (try clear hb); (try clear hb2); (try clear hk); (try clear hi)) | ((with_reducible refine gate_callee (f := 94) rfl ?_); refine goesL_ (some 7) rfl rfl Try.func94 (by kernel_rfl) rfl #[.pointer (some ⟨g, 0, none⟩), .int .i64 (wrap64 (1 + t194))] rfl am ?_; (with_reducible refine (spec_l01DrawOf.calls k g s0_0 t195 t196 (wrap64 (1 + t194)) t197 t200 t201 w0 _ ?side1 ?side2 A3.out).mono ?_); (case side1 => repeat (first | (with_reducible first | exact HI0.out | apply IsS97.alloc | apply IsS97.drewN | apply IsS97.drew | apply IsS97.set_1 | apply IsS97.set_2 | refine IsS97.far ?_ NB0_193.out _) | exact HI0.out)); (case side2 => repeat (first | (with_reducible first | exact HB.out | apply below_alloc | apply pw_below_drewN | apply below_drew1 | refine below_set ?_ (IsS97.ge HI0.out) | refine below_set ?_ GE193.out) | exact HB.out)); rintro e w6 ⟨v198, rfl, ho0, hi, hb, hk⟩; refine ⟨_, rfl, ?_⟩; replace BK193 := Aside0.mk (KeepBut.blk hk (g' := gb193) (o := .cells #[.slice none 0 0] 26 (0, 0)) (pb BK193.out) NB193_0.out (by simp)); have HO199 := Aside0.mk (Kd.R_lower ho0 (keep_size (w := w) (g := g) (row := none) q3_18)); replace HK := Aside0.mk (KeepBut.trans q3_18 hk (.inl rfl)); replace HB := Aside0.mk (hb); replace HI0 := Aside0.mk (hi); (try clear hb); (try clear hb2); (try clear hk); (try clear hi); (try clear ho0); obtain ⟨Ao7, co7, eo7⟩ := Kd.R_slice HO199.out; subst eo7; have hnb8 := NB193_0.out; have hnc8 := NB0_193.out; have hcz9_0 : w6.cell? ⟨gb193, 0, none⟩ = some (.slice none 0 0) := (blk_cell BK193.out 0).trans rfl; have hfz9_0 := blk_frozen BK193.out 0))
 refine bodyPost_ret (results_cell_row rfl _ _ gb193 26 #[.slice Ao7 t197.length co7] (0, 0) _ rfl (by (with_reducible repeat (first | refine blk_drewN ?_ _ | refine blk_drew ?_ | refine blk_alloc ?_ _)); refine blk_put (cs := #[.slice none 0 0]) ?_ 0 _ rfl; exact pb BK193.out) Try.underlying26 rfl (by kernel_rfl)) rfl ?_
 exact ⟨_, ew, pe (Kd.R_mono (Kd.R_far (p := ⟨gb193, 0, none⟩) (Kd.R_types HO199.out BK193.out (by decide)) (fun _ hk => hk.2) (.slice Ao7 t197.length co7)) (fun _ hk => trivial)), by repeat (first | (with_reducible first | exact HI0.out | apply IsS97.alloc | apply IsS97.drewN | apply IsS97.drew | apply IsS97.set_1 | apply IsS97.set_2 | refine IsS97.far ?_ NB0_193.out _) | exact HI0.out), by repeat (first | (with_reducible first | exact HB.out | apply below_alloc | apply pw_below_drewN | apply below_drew1 | refine below_set ?_ (IsS97.ge HI0.out) | refine below_set ?_ GE193.out) | exact HB.out), q3_18⟩

/-! ### spec_l01Join: function 95 -/
def spec_l01Join.l0 : Nat → List (S26) → List Int → Int → Option (List Int × Bool)
 | 0, _, _, _ => none
 | k + 1, x0, x4, x5 => if x5 < (x0.length : Int) then (if 0 ≤ x5 then (if x4.length + ((rd_T26 x0 x5).f0).length < 17592186044416 then ((some (x4 ++ ((rd_T26 x0 x5).f0) : List Int)).bind fun y207 => (if (y207.length : Int) > 24 then (some (([] : List Int), false)) else (spec_l01Join.l0 k x0 y207 (wrap64 (x5 + 1))))) else (none)) else (none)) else (some (x4, true))
def spec_l01Join.f (k : Nat) (l0 : List (S26)) : Option (List Int × Bool) := spec_l01Join.l0 k l0 ([(l0.length : Int)] : List Int) 0
theorem spec_l01Join.mono_l : ∀ k, (∀ y0 y1 y2, LeO (spec_l01Join.l0 k y0 y1 y2) (spec_l01Join.l0 (k + 1) y0 y1 y2))
 | 0 => fun _ _ _ r h => by simp [spec_l01Join.l0] at h
 | k + 1 => by
  have ih0 := spec_l01Join.mono_l k
  ·intro y0 y1 y2
   unfold spec_l01Join.l0
   repeat' first
   | (with_reducible exact ih0 _ _ _)
   | (with_reducible exact LeO.refl _)
   | (with_reducible exact LeO.none _)
   | (with_reducible refine LeO.ite ?_ ?_)
   | (with_reducible refine LeO.bind ?_ (fun _ => ?_))
   | exact ih0 _ _ _
   | exact LeO.none _
   | refine LeO.ite ?_ ?_
   | refine LeO.bind ?_ (fun _ => ?_)
theorem spec_l01Join.mono : ∀ a0 k, LeO (spec_l01Join.f k a0) (spec_l01Join.f (k + 1) a0) := by
 intro a0 k
 have ih0 := spec_l01Join.mono_l k
 unfold spec_l01Join.f
 repeat' first
   | (with_reducible exact ih0 _ _ _)
   | (with_reducible exact LeO.refl _)
   | (with_reducible exact LeO.none _)
   | (with_reducible refine LeO.ite ?_ ?_)
   | (with_reducible refine LeO.bind ?_ (fun _ => ?_))
   | exact ih0 _ _ _
   | exact LeO.none _
   | refine LeO.ite ?_ ?_
   | refine LeO.bind ?_ (fun _ => ?_)
set_option maxHeartbeats 8000000 in
set_option maxRecDepth 100000 in
theorem spec_l01Join.calls (k : Nat) (A0 : Option Addr) (c0 : Nat) (l0 : List (S26)) (r1 : List Int) (r2 : Bool) (w : World) (hr0 : Kd.C k26 w A0 l0.length l0) (hc0 : l0.length ≤ c0) (h : spec_l01Join.f k l0 = some (r1, r2)) :
  Calls Try.prog 95 #[.slice A0 l0.length c0] w fun e w' => ∃ v0_ : Value, e = .returned (.tuple #[.agg #[v0_], .bool r2]) ∧ Kd.R (Kd.int .i64) 2 w' w.heap.size (fun _ => True) v0_ r1 ∧ Below w.heap.size w w' := by
 have hu26 := Try.underlying26
 have HR0 := Aside0.mk hr0
 have HC0 := Aside0.mk hc0
 clear hr0 hc0
 have HB := Aside0.mk (Below.refl w.heap.size w)
 have H : (spec_l01Join.l0 k l0 ([(l0.length : Int)] : List Int) 0) = some (r1, r2) := h
 clear h
 obtain ⟨y203, hy203⟩ : ∃ y_ : List Int, y_ = ([(l0.length : Int)] : List Int) := ⟨_, rfl⟩
 replace H : (spec_l01Join.l0 k l0 y203 0) = some (r1, r2) := by first | (rw [hy203]; with_reducible exact H) | (have H2_ := (Option.bind_some _ _).symm.trans H; rw [hy203]; with_reducible exact H2_) | (have H2_ := (Option.bind_some _ _).symm.trans H; with_reducible exact H2_) | with_reducible exact H | (rw [hy203]; exact H) | exact H
 have Ny203 := Aside0.mk hy203
 clear hy203
 have H' := Aside0.mk H
 clear H
 go_enter Try.func95, Try.ntmps95
 go_wp2_with (first | ((with_reducible refine gate_dst (N := 2) rfl ?_); refine box_event ?hg (N := 2) ?hd (cs := #[.slice none 0 0]) (t := 26) ?hr ?_; (case hd => rfl); (case hg => rfl); (case hr => exact gs); intro gb202 hg w2 hbox hb; have BK202 := Aside0.mk (hbox); have GW202 := Aside0.mk (geb hg hq : w.heap.size ≤ gb202); have GE202 := Aside0.mk (geb hg hq : w.heap.size ≤ gb202); replace HB := Aside0.mk (below_step hq hb); clear hb hbox hg) | ((with_reducible refine gate_dst (N := 8) rfl ?_); refine Kd.R_lit (Kd.int .i64) _ 2 ?hg (N := 8) ?hd (xs := ([(l0.length : Int)] : List Int)) (inner := [.int .i64 (l0.length : Int)]) (ok := fun _ => True) (okp := fun _ => True) ?hr ?hp (fun _ hk => hk) trivial (Below.refl _ _) (Nat.le_refl _) (by simp) ?_; (case hd => rfl); (case hg => rfl); (case hr => exact gs); (case hp => exact (Reps.one (show Kd.M (Kd.int .i64) _ _ _ (l0.length : Int) [.int .i64 (l0.length : Int)] from rfl) (Reps.none _ _))); intro v204 w3 ho4 hb hg_ hnew_; clear hg_ hnew_; (first | rw [← Ny203.out] at ho4 | (simp only [Int.reduceToNat] at ho4; rw [← Ny203.out] at ho4)); have HO205 := Aside0.mk (Kd.R_lower ho4 (below_size hq)); replace BK202 := bb BK202 hb; replace HB := Aside0.mk (below_step hq hb); clear hb ho4))
 go_loopg [4, 5] k (fun kq v4 v5 w' => ∃ (x4_1 : List Int) (x5_1 : Int), v5 = .int .i64 x5_1 ∧ Aside0 (spec_l01Join.l0 kq l0 x4_1 x5_1 = some (r1, r2)) ∧ Aside0 (kq ≤ k) ∧ Aside0 (Kd.R (Kd.int .i64) 2 w' w.heap.size (fun _ => True) v4 x4_1) ∧ Aside0 (w'.heap[gb202]? = some (.cells #[(.slice none 0 0)] 26 (0, 0))) ∧ Aside0 (Below w.heap.size w w'))
 case atStart => exact ⟨(y203), (0), q3_21, H', ⟨Nat.le_refl _⟩, ⟨pe HO205.out⟩, ⟨pb BK202.out⟩, ⟨hq⟩⟩
 case round =>
  clear H'
  try clear p2
  obtain ⟨x4_1, x5_1, rfl, HA, HK1, HO_4, BK202, HB⟩ := hrel
  cases gk with | zero => exact absurd HA.out (by simp [spec_l01Join.l0]) | succ k1 => ?_
  have H := HA.out
  clear HA
  simp only [spec_l01Join.l0] at H
  by_cases c5 : x5_1 < (l0.length : Int)
  rotate_left
  ·rw [if_neg c5] at H
   have c5b0 : decide (x5_1 < (l0.length : Int)) = false := decide_eq_false c5
   clear c5
   simp only [Option.some.injEq, Prod.mk.injEq] at H
   obtain ⟨rfl, rfl⟩ := H
   obtain ⟨Ao14, co14, eo14⟩ := Kd.R_slice HO_4.out
   subst eo14
   have hcz15_0 : wr.cell? ⟨gb202, 0, none⟩ = some (.slice none 0 0) := (blk_cell BK202.out 0).trans rfl
   have hfz15_0 := blk_frozen BK202.out 0
   go_wp2
   refine bodyPost_ret (results_ct rfl _ _ gb202 26 #[.slice Ao14 x4_1.length co14] (0, 0) _ rfl q3_27 Try.underlying26 rfl (by kernel_rfl)) rfl ?_
   exact ⟨_, ew, pe (Kd.R_mono (Kd.R_far (p := ⟨gb202, 0, none⟩) (Kd.R_types HO_4.out BK202.out (by decide)) (fun _ hk => hk.2) (.slice Ao14 x4_1.length co14)) (fun _ hk => trivial)), hq⟩
  rw [if_pos c5] at H
  have c5b0 : decide (x5_1 < (l0.length : Int)) = true := decide_eq_true c5
  clear c5
  by_cases c6 : 0 ≤ x5_1
  rotate_left
  ·rw [if_neg c6] at H
   exact absurd H (by simp)
  rw [if_pos c6] at H
  have c6b0 : decide (0 ≤ x5_1) = true := decide_eq_true c6
  clear c6
  by_cases c7 : x4_1.length + ((rd_T26 l0 x5_1).f0).length < 17592186044416
  rotate_left
  ·rw [if_neg c7] at H
   exact absurd H (by simp)
  rw [if_pos c7] at H
  have LMc7 := Aside0.mk c7
  clear c7
  obtain ⟨y207, hy207⟩ : ∃ y_ : List Int, y_ = (x4_1 ++ ((rd_T26 l0 x5_1).f0)) := ⟨_, rfl⟩
  replace H : (if (y207.length : Int) > 24 then (some (([] : List Int), false)) else (spec_l01Join.l0 k1 l0 y207 (wrap64 (x5_1 + 1)))) = some (r1, r2) := by first | (rw [hy207]; with_reducible exact H) | (have H2_ := (Option.bind_some _ _).symm.trans H; rw [hy207]; with_reducible exact H2_) | (have H2_ := (Option.bind_some _ _).symm.trans H; with_reducible exact H2_) | with_reducible exact H | (rw [hy207]; exact H) | exact H
  have Ny207 := Aside0.mk hy207
  clear hy207
  by_cases c8 : (y207.length : Int) > 24
  ·rw [if_pos c8] at H
   have c8b0 : decide (24 < (y207.length : Int)) = true := decide_eq_true c8
   have c8b1 : decide (24 < y207.length) = true := decide_eq_true (by omega)
   clear c8
   simp only [Option.some.injEq, Prod.mk.injEq] at H
   obtain ⟨rfl, rfl⟩ := H
   have p206 : 0 ≤ (x5_1 : Int) := of_decide_eq_true q3_12
   have q206 : x5_1 < (l0.length : Int) := of_decide_eq_true q3_12
   obtain ⟨ad206, A206_0, c206_0, e206, hx206_0, hl206_0, hi206_0⟩ := at_T26 HR0.out x5_1 p206 q206
   cases e206
   replace hx206_0 := (HB.out.cell (World.block_lt_of_cell? w _ hx206_0)).trans hx206_0
   have HR206_0 := Aside0.mk hi206_0
   have HC206_0 := Aside0.mk hl206_0
   clear hi206_0 hl206_0
   replace p206 := eq_true p206
   replace q206 := eq_true q206
   go_wp2_with (first | ((with_reducible refine gate_builtin (b := .append) (xs := #[.tmp 15, .tmp 20]) rfl ?_); at_builtin; refine Kd.R_append_rows (Kd.int .i64) (w0 := w) w.heap.size rfl (.tmp 15) (.tmp 20) 24 2 (.int .i64 0) 8 rfl Try.underlying24 info2 rfl (by decide) (by omega) u4 x4_1 ((rd_T26 l0 x5_1).f0) _ _ _ (fun _ => True) (fun _ => False) rfl rfl ?aO ?aR (fun _ _ h => h) (fun _ h => h.elim) ?aF ?aB ?aS ?aL ?_; (case aR => exact pc (Kd.C_below HR206_0.out HB.out)); (case aB => exact hq); (case aF => exact (fun _ _ => trivial)); (case aO => exact (pe HO_4.out)); (case aS => exact (below_size hq)); (case aL => have := LMc7.out; omega); intro v208 w9 ho hb hg hat; rw [← Ny207.out] at ho; replace BK202 := Aside0.mk (blk_grown (g := gb202) (o := .cells #[.slice none 0 0] 26 (0, 0)) (pb BK202.out) hg (Kd.R_ne HO_4.out BK202.out (by decide))); replace HB := Aside0.mk (hb); have HO209 := Aside0.mk (ho); clear HO_4; clear ho hb hg hat; obtain ⟨Ao10, co10, eo10⟩ := Kd.R_slice HO209.out; subst eo10; have hcz11_0 : w9.cell? ⟨gb202, 0, none⟩ = some (.slice none 0 0) := (blk_cell BK202.out 0).trans rfl; have hfz11_0 := blk_frozen BK202.out 0))
   refine bodyPost_ret (results_ct rfl _ _ gb202 26 #[.slice none 0 0] (0, 0) _ rfl q3_27 Try.underlying26 rfl (by kernel_rfl)) rfl ?_
   exact ⟨_, ew, by first | exact Kd.R_nil _ _ _ _ _ | exact Kd.N_nil _ _ _ _ _ | exact Kd.V_nil _ _ _ _ _ | exact Kd.Q_nil _ _ _ _ _ | exact Kd.S_nil _ _ _ _ _, hq⟩
  rw [if_neg c8] at H
  have c8b0 : decide (24 < (y207.length : Int)) = false := decide_eq_false c8
  have c8b1 : decide (24 < y207.length) = false := decide_eq_false (by omega)
  clear c8
  have H' := Aside0.mk H
  clear H
  have p206 : 0 ≤ (x5_1 : Int) := of_decide_eq_true q3_12
  have q206 : x5_1 < (l0.length : Int) := of_decide_eq_true q3_12
  obtain ⟨ad206, A206_0, c206_0, e206, hx206_0, hl206_0, hi206_0⟩ := at_T26 HR0.out x5_1 p206 q206
  cases e206
  replace hx206_0 := (HB.out.cell (World.block_lt_of_cell? w _ hx206_0)).trans hx206_0
  have HR206_0 := Aside0.mk hi206_0
  have HC206_0 := Aside0.mk hl206_0
  clear hi206_0 hl206_0
  replace p206 := eq_true p206
  replace q206 := eq_true q206
  go_wp2_with (first | ((with_reducible refine gate_builtin (b := .append) (xs := #[.tmp 15, .tmp 20]) rfl ?_); at_builtin; refine Kd.R_append_rows (Kd.int .i64) (w0 := w) w.heap.size rfl (.tmp 15) (.tmp 20) 24 2 (.int .i64 0) 8 rfl Try.underlying24 info2 rfl (by decide) (by omega) u4 x4_1 ((rd_T26 l0 x5_1).f0) _ _ _ (fun _ => True) (fun _ => False) rfl rfl ?aO ?aR (fun _ _ h => h) (fun _ h => h.elim) ?aF ?aB ?aS ?aL ?_; (case aR => exact pc (Kd.C_below HR206_0.out HB.out)); (case aB => exact hq); (case aF => exact (fun _ _ => trivial)); (case aO => exact (pe HO_4.out)); (case aS => exact (below_size hq)); (case aL => have := LMc7.out; omega); intro v208 w12 ho hb hg hat; rw [← Ny207.out] at ho; replace BK202 := Aside0.mk (blk_grown (g := gb202) (o := .cells #[.slice none 0 0] 26 (0, 0)) (pb BK202.out) hg (Kd.R_ne HO_4.out BK202.out (by decide))); replace HB := Aside0.mk (hb); have HO209 := Aside0.mk (ho); clear HO_4; clear ho hb hg hat; obtain ⟨Ao13, co13, eo13⟩ := Kd.R_slice HO209.out; subst eo13))
  go_roundg k1
  case measure => have := HK1.out; omega
  case rel => exact ⟨(y207), (wrap64 (x5_1 + 1)), q3_21, H', ⟨by have := HK1.out; omega⟩, ⟨pe HO209.out⟩, ⟨pb BK202.out⟩, ⟨hq⟩⟩

/-! ### spec_l01Draw: function 77 -/
def spec_l01Draw.l0 : Nat → List (S26) → Int → List Int → Int → Int → List Int → Option (List Int × Int × Int)
 | 0, _, _, _, _, _, _ => none
 | k + 1, x4, x5, x1000, x1001, x1002, x228000 => if x5 > 0 then (if x4.length < 5864062014805 then (spec_l01Draw.l0 k (x4 ++ [(⟨x228000⟩ : S26)]) (wrap64 (x5 - 1)) x1000 x1001 x1002 x228000) else (none)) else ((spec_l01Join.f k x4).bind fun bt237 => (if bt237.2 = true then (some (bt237.1, x1001, x1002)) else ((spec_l01Pick.f x1000 x1001 x1002 ([8, 12, 24] : List Int)).bind fun bt245 => ((spec_l01Next.f x1000 bt245.2.1 bt245.2.2 bt245.1).bind fun bt248 => ((spec_l01DrawOf.f k x1000 bt248.2.1 bt248.2.2 (wrap64 (1 + bt248.1))).bind fun bt251 => (some (bt251.1, bt251.2.1, bt251.2.2)))))))
def spec_l01Draw.f (k : Nat) (s0_0 : List Int) (s0_1 : Int) (s0_2 : Int) : Option (List Int × Int × Int) := (spec_l01Next.f s0_0 s0_1 s0_2 5).bind fun bt211 => (if bt211.1 = 0 then ((spec_l01Small.f k s0_0 bt211.2.1 bt211.2.2).bind fun bt214 => (some (bt214.1, bt214.2.1, bt214.2.2))) else (if bt211.1 = 1 then ((spec_l01Next.f s0_0 bt211.2.1 bt211.2.2 5).bind fun bt219 => ((spec_l01DrawOf.f k s0_0 bt219.2.1 bt219.2.2 (wrap64 (1 + bt219.1))).bind fun bt222 => ((spec_l01Next.f s0_0 bt222.2.1 bt222.2.2 5).bind fun bt231 => (spec_l01Draw.l0 k ([] : List (S26)) bt231.1 s0_0 bt231.2.1 bt231.2.2 bt222.1)))) else ((spec_l01Pick.f s0_0 bt211.2.1 bt211.2.2 ([8, 12, 24] : List Int)).bind fun bt259 => ((spec_l01Next.f s0_0 bt259.2.1 bt259.2.2 bt259.1).bind fun bt262 => ((spec_l01DrawOf.f k s0_0 bt262.2.1 bt262.2.2 (wrap64 (1 + bt262.1))).bind fun bt265 => (some (bt265.1, bt265.2.1, bt265.2.2)))))))
theorem spec_l01Draw.mono_l : ∀ k, (∀ y0 y1 y2 y3 y4 y5, LeO (spec_l01Draw.l0 k y0 y1 y2 y3 y4 y5) (spec_l01Draw.l0 (k + 1) y0 y1 y2 y3 y4 y5))
 | 0 => fun _ _ _ _ _ _ r h => by simp [spec_l01Draw.l0] at h
 | k + 1 => by
  have ih0 := spec_l01Draw.mono_l k
  ·intro y0 y1 y2 y3 y4 y5
   unfold spec_l01Draw.l0
   repeat' first
   | (with_reducible exact ih0 _ _ _ _ _ _)
   | (with_reducible exact spec_l01DrawOf.mono _ _ _ _ _)
   | (with_reducible exact spec_l01Join.mono _ _)
   | (with_reducible exact spec_l01Small.mono _ _ _ _)
   | (with_reducible exact LeO.refl _)
   | (with_reducible exact LeO.none _)
   | (with_reducible refine LeO.ite ?_ ?_)
   | (with_reducible refine LeO.bind ?_ (fun _ => ?_))
   | exact ih0 _ _ _ _ _ _
   | exact spec_l01DrawOf.mono _ _ _ _ _
   | exact spec_l01Join.mono _ _
   | exact spec_l01Small.mono _ _ _ _
   | exact LeO.none _
   | refine LeO.ite ?_ ?_
   | refine LeO.bind ?_ (fun _ => ?_)
theorem spec_l01Draw.mono : ∀ a0 a1 a2 k, LeO (spec_l01Draw.f k a0 a1 a2) (spec_l01Draw.f (k + 1) a0 a1 a2) := by
 intro a0 a1 a2 k
 have ih0 := spec_l01Draw.mono_l k
 unfold spec_l01Draw.f
 repeat' first
   | (with_reducible exact ih0 _ _ _ _ _ _)
   | (with_reducible exact spec_l01DrawOf.mono _ _ _ _ _)
   | (with_reducible exact spec_l01Join.mono _ _)
   | (with_reducible exact spec_l01Small.mono _ _ _ _)
   | (with_reducible exact LeO.refl _)
   | (with_reducible exact LeO.none _)
   | (with_reducible refine LeO.ite ?_ ?_)
   | (with_reducible refine LeO.bind ?_ (fun _ => ?_))
   | exact ih0 _ _ _ _ _ _
   | exact spec_l01DrawOf.mono _ _ _ _ _
   | exact spec_l01Join.mono _ _
   | exact spec_l01Small.mono _ _ _ _
   | exact LeO.none _
   | refine LeO.ite ?_ ?_
   | refine LeO.bind ?_ (fun _ => ?_)
set_option maxHeartbeats 8000000 in
set_option maxRecDepth 100000 in
theorem spec_l01Draw.calls (k : Nat) (g : Nat) (s0_0 : List Int) (s0_1 : Int) (s0_2 : Int) (r1 : List Int) (r2 : Int) (r3 : Int) (w0 w : World) (hI : IsS97 w0 w g s0_0 s0_1 s0_2) (hB : Below w0.heap.size w0 w) (h : spec_l01Draw.f k s0_0 s0_1 s0_2 = some (r1, r2, r3)) :
  Calls Try.prog 77 #[.pointer (some ⟨g, 0, none⟩)] w fun e w' => ∃ v0_ : Value, e = .returned (.agg #[v0_]) ∧ Kd.R (Kd.int .i64) 2 w' w.heap.size (fun _ => True) v0_ r1 ∧ IsS97 w0 w' g s0_0 r2 r3 ∧ Below w0.heap.size w0 w' ∧ KeepBut w w' g none := by
 have hu26 := Try.underlying26
 have HI0 := Aside0.mk hI
 have HK := Aside0.mk (KeepBut.refl w g none)
 have HL := Aside0.mk hB.size
 clear hI
 have HW0 := Aside0.mk hB.size
 have HB := Aside0.mk hB
 clear hB
 have H : ((spec_l01Next.f s0_0 s0_1 s0_2 5).bind fun bt211 => (if bt211.1 = 0 then ((spec_l01Small.f k s0_0 bt211.2.1 bt211.2.2).bind fun bt214 => (some (bt214.1, bt214.2.1, bt214.2.2))) else (if bt211.1 = 1 then ((spec_l01Next.f s0_0 bt211.2.1 bt211.2.2 5).bind fun bt219 => ((spec_l01DrawOf.f k s0_0 bt219.2.1 bt219.2.2 (wrap64 (1 + bt219.1))).bind fun bt222 => ((spec_l01Next.f s0_0 bt222.2.1 bt222.2.2 5).bind fun bt231 => (spec_l01Draw.l0 k ([] : List (S26)) bt231.1 s0_0 bt231.2.1 bt231.2.2 bt222.1)))) else ((spec_l01Pick.f s0_0 bt211.2.1 bt211.2.2 ([8, 12, 24] : List Int)).bind fun bt259 => ((spec_l01Next.f s0_0 bt259.2.1 bt259.2.2 bt259.1).bind fun bt262 => ((spec_l01DrawOf.f k s0_0 bt262.2.1 bt262.2.2 (wrap64 (1 + bt262.1))).bind fun bt265 => (some (bt265.1, bt265.2.1, bt265.2.2)))))))) = some (r1, r2, r3) := h
 clear h
 replace H := Option.bind_eq_some_iff.mp H
 obtain ⟨⟨t211, t212, t213⟩, A20, H⟩ := H
 replace H : (if t211 = 0 then ((spec_l01Small.f k s0_0 t212 t213).bind fun bt214 => (some (bt214.1, bt214.2.1, bt214.2.2))) else (if t211 = 1 then ((spec_l01Next.f s0_0 t212 t213 5).bind fun bt219 => ((spec_l01DrawOf.f k s0_0 bt219.2.1 bt219.2.2 (wrap64 (1 + bt219.1))).bind fun bt222 => ((spec_l01Next.f s0_0 bt222.2.1 bt222.2.2 5).bind fun bt231 => (spec_l01Draw.l0 k ([] : List (S26)) bt231.1 s0_0 bt231.2.1 bt231.2.2 bt222.1)))) else ((spec_l01Pick.f s0_0 t212 t213 ([8, 12, 24] : List Int)).bind fun bt259 => ((spec_l01Next.f s0_0 bt259.2.1 bt259.2.2 bt259.1).bind fun bt262 => ((spec_l01DrawOf.f k s0_0 bt262.2.1 bt262.2.2 (wrap64 (1 + bt262.1))).bind fun bt265 => (some (bt265.1, bt265.2.1, bt265.2.2))))))) = some (r1, r2, r3) := H
 have A2 := Aside0.mk A20
 clear A20
 by_cases c3 : t211 = 0
 ·rw [if_pos c3] at H
  have c3b0 : (t211 == 0) = true := beq_iff_eq.mpr c3
  have c3b1 : (t211 != 0) = false := bne_eq_false_iff_eq.mpr c3
  clear c3
  replace H := Option.bind_eq_some_iff.mp H
  obtain ⟨⟨t214, t217, t218⟩, A40, H⟩ := H
  replace H : (some (t214, t217, t218)) = some (r1, r2, r3) := H
  have A4 := Aside0.mk A40
  clear A40
  simp only [Option.some.injEq, Prod.mk.injEq] at H
  obtain ⟨rfl, rfl, rfl⟩ := H
  go_enter Try.func77, Try.ntmps77
  go_wp2_with (first | ((with_reducible refine gate_dst (N := 2) rfl ?_); refine box_event ?hg (N := 2) ?hd (cs := #[.slice none 0 0]) (t := 26) ?hr ?_; (case hd => rfl); (case hg => rfl); (case hr => exact gs); intro gb210 hg w5 hbox hb; replace HB := Aside0.mk (below_step q3_13 hb); have BK210 := Aside0.mk (hbox); have GW210 := Aside0.mk (q3_15 : w.heap.size ≤ gb210); have GE210 := Aside0.mk (Nat.le_trans HW0.out (q3_15 : w.heap.size ≤ gb210) : w0.heap.size ≤ gb210); replace HK := Aside0.mk (KeepBut.trans q3_8 (KeepBut.of_below hb g none) (.inl rfl)); have NB0_210 := Aside0.mk (q3_19 : g ≠ gb210); have NB210_0 := Aside0.mk (q3_20 : gb210 ≠ g); replace HI0 := Aside0.mk (IsS97.below q3_6 hb); clear hb hbox hg) | ((with_reducible refine gate_callee (f := 82) rfl ?_); refine goesL_ (some 9) rfl rfl Try.func82 (by kernel_rfl) rfl #[.pointer (some ⟨g, 0, none⟩), .int .i64 5] rfl am ?_; (with_reducible refine (spec_l01Next.calls g s0_0 s0_1 s0_2 5 t211 t212 t213 w0 _ ?side1 ?side2 A2.out).mono ?_); (case side1 => repeat (first | (with_reducible first | exact HI0.out | apply IsS97.alloc | apply IsS97.drewN | apply IsS97.drew | apply IsS97.set_1 | apply IsS97.set_2 | refine IsS97.far ?_ NB0_210.out _) | exact HI0.out)); (case side2 => repeat (first | (with_reducible first | exact HB.out | apply below_alloc | apply pw_below_drewN | apply below_drew1 | refine below_set ?_ (IsS97.ge HI0.out) | refine below_set ?_ GE210.out) | exact HB.out)); rintro e w6 ⟨rfl, hi, hb, hk⟩; refine ⟨_, rfl, ?_⟩; replace BK210 := Aside0.mk (KeepBut.blk hk (g' := gb210) (o := .cells #[.slice none 0 0] 26 (0, 0)) (pb BK210.out) NB210_0.out (by simp)); replace HK := Aside0.mk (KeepBut.trans q3_4 hk (.inl rfl)); replace HB := Aside0.mk (hb); replace HI0 := Aside0.mk (hi); (try clear hb); (try clear hb2); (try clear hk); (try clear hi)) | ((with_reducible refine gate_callee (f := 93) rfl ?_); refine goesL_ (some 13) rfl rfl Try.func93 (by kernel_rfl) rfl #[.pointer (some ⟨g, 0, none⟩)] rfl am ?_; (with_reducible refine (spec_l01Small.calls k g s0_0 t212 t213 t214 t217 t218 w0 _ ?side1 ?side2 A4.out).mono ?_); (case side1 => repeat (first | (with_reducible first | exact HI0.out | apply IsS97.alloc | apply IsS97.drewN | apply IsS97.drew | apply IsS97.set_1 | apply IsS97.set_2 | refine IsS97.far ?_ NB0_210.out _) | exact HI0.out)); (case side2 => repeat (first | (with_reducible first | exact HB.out | apply below_alloc | apply pw_below_drewN | apply below_drew1 | refine below_set ?_ (IsS97.ge HI0.out) | refine below_set ?_ GE210.out) | exact HB.out)); rintro e w7 ⟨v215, rfl, ho0, hi, hb, hk⟩; refine ⟨_, rfl, ?_⟩; replace BK210 := Aside0.mk (KeepBut.blk hk (g' := gb210) (o := .cells #[.slice none 0 0] 26 (0, 0)) (pb BK210.out) NB210_0.out (by simp)); have HO216 := Aside0.mk (Kd.R_lower ho0 (keep_size (w := w) (g := g) (row := none) q3_4)); replace HK := Aside0.mk (KeepBut.trans q3_4 hk (.inl rfl)); replace HB := Aside0.mk (hb); replace HI0 := Aside0.mk (hi); (try clear hb); (try clear hb2); (try clear hk); (try clear hi); (try clear ho0); obtain ⟨Ao8, co8, eo8⟩ := Kd.R_slice HO216.out; subst eo8; have hnb9 := NB210_0.out; have hnc9 := NB0_210.out; have hcz10_0 : w7.cell? ⟨gb210, 0, none⟩ = some (.slice none 0 0) := (blk_cell BK210.out 0).trans rfl; have hfz10_0 := blk_frozen BK210.out 0))
  refine bodyPost_ret (results_cell_row rfl _ _ gb210 26 #[.slice Ao8 t214.length co8] (0, 0) _ rfl q3_22 Try.underlying26 rfl (by kernel_rfl)) rfl ?_
  exact ⟨_, ew, pe (Kd.R_mono (Kd.R_far (p := ⟨gb210, 0, none⟩) (Kd.R_types HO216.out BK210.out (by decide)) (fun _ hk => hk.2) (.slice Ao8 t214.length co8)) (fun _ hk => trivial)), q3_11, q3_16, q3_4⟩
 rw [if_neg c3] at H
 have c3b0 : (t211 == 0) = false := beq_eq_false_iff_ne.mpr c3
 have c3b1 : (t211 != 0) = true := bne_iff_ne.mpr c3
 by_cases c11 : t211 = 1
 rotate_left
 ·rw [if_neg c11] at H
  have c11b0 : (t211 == 1) = false := beq_eq_false_iff_ne.mpr c11
  have c11b1 : (t211 != 1) = true := bne_iff_ne.mpr c11
  obtain ⟨y256, hy256⟩ : ∃ y_ : List Int, y_ = ([8, 12, 24] : List Int) := ⟨_, rfl⟩
  replace H : ((spec_l01Pick.f s0_0 t212 t213 y256).bind fun bt259 => ((spec_l01Next.f s0_0 bt259.2.1 bt259.2.2 bt259.1).bind fun bt262 => ((spec_l01DrawOf.f k s0_0 bt262.2.1 bt262.2.2 (wrap64 (1 + bt262.1))).bind fun bt265 => (some (bt265.1, bt265.2.1, bt265.2.2))))) = some (r1, r2, r3) := by first | (rw [hy256]; with_reducible exact H) | (have H2_ := (Option.bind_some _ _).symm.trans H; rw [hy256]; with_reducible exact H2_) | (have H2_ := (Option.bind_some _ _).symm.trans H; with_reducible exact H2_) | with_reducible exact H | (rw [hy256]; exact H) | exact H
  have Ny256 := Aside0.mk hy256
  clear hy256
  replace H := Option.bind_eq_some_iff.mp H
  obtain ⟨⟨t259, t260, t261⟩, A670, H⟩ := H
  replace H : ((spec_l01Next.f s0_0 t260 t261 t259).bind fun bt262 => ((spec_l01DrawOf.f k s0_0 bt262.2.1 bt262.2.2 (wrap64 (1 + bt262.1))).bind fun bt265 => (some (bt265.1, bt265.2.1, bt265.2.2)))) = some (r1, r2, r3) := H
  have A67 := Aside0.mk A670
  clear A670
  replace H := Option.bind_eq_some_iff.mp H
  obtain ⟨⟨t262, t263, t264⟩, A680, H⟩ := H
  replace H : ((spec_l01DrawOf.f k s0_0 t263 t264 (wrap64 (1 + t262))).bind fun bt265 => (some (bt265.1, bt265.2.1, bt265.2.2))) = some (r1, r2, r3) := H
  have A68 := Aside0.mk A680
  clear A680
  replace H := Option.bind_eq_some_iff.mp H
  obtain ⟨⟨t265, t268, t269⟩, A690, H⟩ := H
  replace H : (some (t265, t268, t269)) = some (r1, r2, r3) := H
  have A69 := Aside0.mk A690
  clear A690
  simp only [Option.some.injEq, Prod.mk.injEq] at H
  obtain ⟨rfl, rfl, rfl⟩ := H
  go_enter Try.func77, Try.ntmps77
  go_wp2_with (first | ((with_reducible refine gate_dst (N := 2) rfl ?_); refine box_event ?hg (N := 2) ?hd (cs := #[.slice none 0 0]) (t := 26) ?hr ?_; (case hd => rfl); (case hg => rfl); (case hr => exact gs); intro gb210 hg w70 hbox hb; replace HB := Aside0.mk (below_step q3_13 hb); have BK210 := Aside0.mk (hbox); have GW210 := Aside0.mk (q3_15 : w.heap.size ≤ gb210); have GE210 := Aside0.mk (Nat.le_trans HW0.out (q3_15 : w.heap.size ≤ gb210) : w0.heap.size ≤ gb210); replace HK := Aside0.mk (KeepBut.trans q3_8 (KeepBut.of_below hb g none) (.inl rfl)); have NB0_210 := Aside0.mk (q3_19 : g ≠ gb210); have NB210_0 := Aside0.mk (q3_20 : gb210 ≠ g); replace HI0 := Aside0.mk (IsS97.below q3_6 hb); clear hb hbox hg) | ((with_reducible refine gate_callee (f := 82) rfl ?_); refine goesL_ (some 9) rfl rfl Try.func82 (by kernel_rfl) rfl #[.pointer (some ⟨g, 0, none⟩), .int .i64 5] rfl am ?_; (with_reducible refine (spec_l01Next.calls g s0_0 s0_1 s0_2 5 t211 t212 t213 w0 _ ?side1 ?side2 A2.out).mono ?_); (case side1 => repeat (first | (with_reducible first | exact HI0.out | apply IsS97.alloc | apply IsS97.drewN | apply IsS97.drew | apply IsS97.set_1 | apply IsS97.set_2 | refine IsS97.far ?_ NB0_210.out _) | exact HI0.out)); (case side2 => repeat (first | (with_reducible first | exact HB.out | apply below_alloc | apply pw_below_drewN | apply below_drew1 | refine below_set ?_ (IsS97.ge HI0.out) | refine below_set ?_ GE210.out) | exact HB.out)); rintro e w71 ⟨rfl, hi, hb, hk⟩; refine ⟨_, rfl, ?_⟩; replace BK210 := Aside0.mk (KeepBut.blk hk (g' := gb210) (o := .cells #[.slice none 0 0] 26 (0, 0)) (pb BK210.out) NB210_0.out (by simp)); replace HK := Aside0.mk (KeepBut.trans q3_4 hk (.inl rfl)); replace HB := Aside0.mk (hb); replace HI0 := Aside0.mk (hi); (try clear hb); (try clear hb2); (try clear hk); (try clear hi)) | ((with_reducible refine gate_dst (N := 42) rfl ?_); refine Kd.R_lit (Kd.int .i64) _ 2 ?hg (N := 42) ?hd (xs := ([8, 12, 24] : List Int)) (inner := [.int .i64 8, .int .i64 12, .int .i64 24]) (ok := fun _ => True) (okp := fun _ => True) ?hr ?hp (fun _ hk => hk) trivial (Below.refl _ _) (Nat.le_refl _) (by simp) ?_; (case hd => rfl); (case hg => rfl); (case hr => exact gs); (case hp => exact (Reps.one (show Kd.M (Kd.int .i64) _ _ _ 8 [.int .i64 8] from rfl) (Reps.one (show Kd.M (Kd.int .i64) _ _ _ 12 [.int .i64 12] from rfl) (Reps.one (show Kd.M (Kd.int .i64) _ _ _ 24 [.int .i64 24] from rfl) (Reps.none _ _))))); intro v257 w72 ho73 hb hg_ hnew_; clear hg_ hnew_; (first | rw [← Ny256.out] at ho73 | (simp only [Int.reduceToNat] at ho73; rw [← Ny256.out] at ho73)); have HO258 := Aside0.mk (Kd.R_lower ho73 (keep_size (w := w) (g := g) (row := none) q3_4)); replace BK210 := bb BK210 hb; replace HK := Aside0.mk (KeepBut.trans q3_4 (KeepBut.of_below hb g none) (.inl rfl)); replace HB := Aside0.mk (below_step q3_16 hb); replace HI0 := Aside0.mk (IsS97.below q3_11 hb); clear hb ho73; obtain ⟨Ao74, co74, eo74⟩ := Kd.R_slice HO258.out; subst eo74) | ((with_reducible refine gate_callee (f := 54) rfl ?_); refine goesL_ (some 43) rfl rfl Try.func54 (by kernel_rfl) rfl #[.pointer (some ⟨g, 0, none⟩), .slice Ao74 y256.length co74] rfl am ?_; (with_reducible refine (spec_l01Pick.calls g s0_0 t212 t213 _ _ y256 t259 t260 t261 w0 _ ?side1 ?side2 ?side3 ?side4 ?side5 A67.out).mono ?_); (case side1 => repeat (first | (with_reducible first | exact HI0.out | apply IsS97.alloc | apply IsS97.drewN | apply IsS97.drew | apply IsS97.set_1 | apply IsS97.set_2 | refine IsS97.far ?_ NB0_210.out _) | exact HI0.out)); (case side2 => repeat (first | (with_reducible first | exact HB.out | apply below_alloc | apply pw_below_drewN | apply below_drew1 | refine below_set ?_ (IsS97.ge HI0.out) | refine below_set ?_ GE210.out) | exact HB.out)); (case side3 => exact pc ((Kd.R_reads' HO258.out).2.2)); (case side4 => exact (Kd.R_reads' HO258.out).2.1); (case side5 => exact far_slice (IsS97.own_ne HI0.out HO258.out (by decide))); rintro e w75 ⟨rfl, hi, hb, hk⟩; refine ⟨_, rfl, ?_⟩; replace BK210 := Aside0.mk (KeepBut.blk hk (g' := gb210) (o := .cells #[.slice none 0 0] 26 (0, 0)) (pb BK210.out) NB210_0.out (by simp)); replace HO258 := Aside0.mk (Kd.R_mono (Kd.R_keep (IsS97.apart (show IsS97 w0 _ g s0_0 t212 t213 from q3_11) (pe HO258.out) (by decide)) hk (fun _ h => h.2)) (fun _ h => h.1)); replace HK := Aside0.mk (KeepBut.trans q3_4 hk (.inl rfl)); replace HB := Aside0.mk (hb); replace HI0 := Aside0.mk (hi); (try clear hb); (try clear hb2); (try clear hk); (try clear hi)) | ((with_reducible refine gate_callee (f := 82) rfl ?_); refine goesL_ (some 44) rfl rfl Try.func82 (by kernel_rfl) rfl #[.pointer (some ⟨g, 0, none⟩), .int .i64 t259] rfl am ?_; (with_reducible refine (spec_l01Next.calls g s0_0 t260 t261 t259 t262 t263 t264 w0 _ ?side1 ?side2 A68.out).mono ?_); (case side1 => repeat (first | (with_reducible first | exact HI0.out | apply IsS97.alloc | apply IsS97.drewN | apply IsS97.drew | apply IsS97.set_1 | apply IsS97.set_2 | refine IsS97.far ?_ NB0_210.out _) | exact HI0.out)); (case side2 => repeat (first | (with_reducible first | exact HB.out | apply below_alloc | apply pw_below_drewN | apply below_drew1 | refine below_set ?_ (IsS97.ge HI0.out) | refine below_set ?_ GE210.out) | exact HB.out)); rintro e w76 ⟨rfl, hi, hb, hk⟩; refine ⟨_, rfl, ?_⟩; replace BK210 := Aside0.mk (KeepBut.blk hk (g' := gb210) (o := .cells #[.slice none 0 0] 26 (0, 0)) (pb BK210.out) NB210_0.out (by simp)); replace HO258 := Aside0.mk (Kd.R_mono (Kd.R_keep (IsS97.apart (show IsS97 w0 _ g s0_0 t260 t261 from q3_11) (pe HO258.out) (by decide)) hk (fun _ h => h.2)) (fun _ h => h.1)); replace HK := Aside0.mk (KeepBut.trans q3_4 hk (.inl rfl)); replace HB := Aside0.mk (hb); replace HI0 := Aside0.mk (hi); (try clear hb); (try clear hb2); (try clear hk); (try clear hi)) | ((with_reducible refine gate_callee (f := 94) rfl ?_); refine goesL_ (some 46) rfl rfl Try.func94 (by kernel_rfl) rfl #[.pointer (some ⟨g, 0, none⟩), .int .i64 (wrap64 (1 + t262))] rfl am ?_; (with_reducible refine (spec_l01DrawOf.calls k g s0_0 t263 t264 (wrap64 (1 + t262)) t265 t268 t269 w0 _ ?side1 ?side2 A69.out).mono ?_); (case side1 => repeat (first | (with_reducible first | exact HI0.out | apply IsS97.alloc | apply IsS97.drewN | apply IsS97.drew | apply IsS97.set_1 | apply IsS97.set_2 | refine IsS97.far ?_ NB0_210.out _) | exact HI0.out)); (case side2 => repeat (first | (with_reducible first | exact HB.out | apply below_alloc | apply pw_below_drewN | apply below_drew1 | refine below_set ?_ (IsS97.ge HI0.out) | refine below_set ?_ GE210.out) | exact HB.out)); rintro e w77 ⟨v266, rfl, ho0, hi, hb, hk⟩; refine ⟨_, rfl, ?_⟩; replace BK210 := Aside0.mk (KeepBut.blk hk (g' := gb210) (o := .cells #[.slice none 0 0] 26 (0, 0)) (pb BK210.out) NB210_0.out (by simp)); have HO267 := Aside0.mk (Kd.R_lower (Kd.R_new' ho0 (Kd.R_lt (pe HO258.out))) (keep_size (w := w) (g := g) (row := none) q3_4)); replace HO258 := Aside0.mk (Kd.R_mono (Kd.R_told (Kd.R_oldK (IsS97.apart (show IsS97 w0 _ g s0_0 t263 t264 from q3_11) (pe HO258.out) (by decide)) hk) (Kd.R_base ho0)) (fun _ h_ => h_.1)); replace HK := Aside0.mk (KeepBut.trans q3_4 hk (.inl rfl)); replace HB := Aside0.mk (hb); replace HI0 := Aside0.mk (hi); (try clear hb); (try clear hb2); (try clear hk); (try clear hi); (try clear ho0); obtain ⟨Ao78, co78, eo78⟩ := Kd.R_slice HO267.out; subst eo78; have hnb79 := NB210_0.out; have hnc79 := NB0_210.out; have hcz80_0 : w77.cell? ⟨gb210, 0, none⟩ = some (.slice none 0 0) := (blk_cell BK210.out 0).trans rfl; have hfz80_0 := blk_frozen BK210.out 0))
  refine bodyPost_ret (results_cell_row rfl _ _ gb210 26 #[.slice Ao78 t265.length co78] (0, 0) _ rfl q3_22 Try.underlying26 rfl (by kernel_rfl)) rfl ?_
  exact ⟨_, ew, pe (Kd.R_mono (Kd.R_far (p := ⟨gb210, 0, none⟩) (Kd.R_types HO267.out BK210.out (by decide)) (fun _ hk => hk.2) (.slice Ao78 t265.length co78)) (fun _ hk => trivial)), q3_11, q3_16, q3_4⟩
 rw [if_pos c11] at H
 have c11b0 : (t211 == 1) = true := beq_iff_eq.mpr c11
 have c11b1 : (t211 != 1) = false := bne_eq_false_iff_eq.mpr c11
 clear c11
 replace H := Option.bind_eq_some_iff.mp H
 obtain ⟨⟨t219, t220, t221⟩, A120, H⟩ := H
 replace H : ((spec_l01DrawOf.f k s0_0 t220 t221 (wrap64 (1 + t219))).bind fun bt222 => ((spec_l01Next.f s0_0 bt222.2.1 bt222.2.2 5).bind fun bt231 => (spec_l01Draw.l0 k ([] : List (S26)) bt231.1 s0_0 bt231.2.1 bt231.2.2 bt222.1))) = some (r1, r2, r3) := H
 have A12 := Aside0.mk A120
 clear A120
 replace H := Option.bind_eq_some_iff.mp H
 obtain ⟨⟨t222, t225, t226⟩, A130, H⟩ := H
 replace H : ((spec_l01Next.f s0_0 t225 t226 5).bind fun bt231 => (spec_l01Draw.l0 k ([] : List (S26)) bt231.1 s0_0 bt231.2.1 bt231.2.2 t222)) = some (r1, r2, r3) := H
 have A13 := Aside0.mk A130
 clear A130
 obtain ⟨y228, hy228⟩ : ∃ y_ : List (S26), y_ = ([] : List (S26)) := ⟨_, rfl⟩
 replace H : ((spec_l01Next.f s0_0 t225 t226 5).bind fun bt231 => (spec_l01Draw.l0 k y228 bt231.1 s0_0 bt231.2.1 bt231.2.2 t222)) = some (r1, r2, r3) := by first | (rw [hy228]; with_reducible exact H) | (have H2_ := (Option.bind_some _ _).symm.trans H; rw [hy228]; with_reducible exact H2_) | (have H2_ := (Option.bind_some _ _).symm.trans H; with_reducible exact H2_) | with_reducible exact H | (rw [hy228]; exact H) | exact H
 have Ny228 := Aside0.mk hy228
 clear hy228
 replace H := Option.bind_eq_some_iff.mp H
 obtain ⟨⟨t231, t232, t233⟩, A140, H⟩ := H
 replace H : (spec_l01Draw.l0 k y228 t231 s0_0 t232 t233 t222) = some (r1, r2, r3) := H
 have A14 := Aside0.mk A140
 clear A140
 have H' := Aside0.mk H
 clear H
 go_enter Try.func77, Try.ntmps77
 go_wp2_with (first | ((with_reducible refine gate_dst (N := 2) rfl ?_); refine box_event ?hg (N := 2) ?hd (cs := #[.slice none 0 0]) (t := 26) ?hr ?_; (case hd => rfl); (case hg => rfl); (case hr => exact gs); intro gb210 hg w15 hbox hb; replace HB := Aside0.mk (below_step q3_13 hb); have BK210 := Aside0.mk (hbox); have GW210 := Aside0.mk (q3_15 : w.heap.size ≤ gb210); have GE210 := Aside0.mk (Nat.le_trans HW0.out (q3_15 : w.heap.size ≤ gb210) : w0.heap.size ≤ gb210); replace HK := Aside0.mk (KeepBut.trans q3_8 (KeepBut.of_below hb g none) (.inl rfl)); have NB0_210 := Aside0.mk (q3_19 : g ≠ gb210); have NB210_0 := Aside0.mk (q3_20 : gb210 ≠ g); replace HI0 := Aside0.mk (IsS97.below q3_6 hb); clear hb hbox hg) | ((with_reducible refine gate_callee (f := 82) rfl ?_); refine goesL_ (some 9) rfl rfl Try.func82 (by kernel_rfl) rfl #[.pointer (some ⟨g, 0, none⟩), .int .i64 5] rfl am ?_; (with_reducible refine (spec_l01Next.calls g s0_0 s0_1 s0_2 5 t211 t212 t213 w0 _ ?side1 ?side2 A2.out).mono ?_); (case side1 => repeat (first | (with_reducible first | exact HI0.out | apply IsS97.alloc | apply IsS97.drewN | apply IsS97.drew | apply IsS97.set_1 | apply IsS97.set_2 | refine IsS97.far ?_ NB0_210.out _) | exact HI0.out)); (case side2 => repeat (first | (with_reducible first | exact HB.out | apply below_alloc | apply pw_below_drewN | apply below_drew1 | refine below_set ?_ (IsS97.ge HI0.out) | refine below_set ?_ GE210.out) | exact HB.out)); rintro e w16 ⟨rfl, hi, hb, hk⟩; refine ⟨_, rfl, ?_⟩; replace BK210 := Aside0.mk (KeepBut.blk hk (g' := gb210) (o := .cells #[.slice none 0 0] 26 (0, 0)) (pb BK210.out) NB210_0.out (by simp)); replace HK := Aside0.mk (KeepBut.trans q3_4 hk (.inl rfl)); replace HB := Aside0.mk (hb); replace HI0 := Aside0.mk (hi); (try clear hb); (try clear hb2); (try clear hk); (try clear hi)) | ((with_reducible refine gate_callee (f := 82) rfl ?_); refine goesL_ (some 18) rfl rfl Try.func82 (by kernel_rfl) rfl #[.pointer (some ⟨g, 0, none⟩), .int .i64 5] rfl am ?_; (with_reducible refine (spec_l01Next.calls g s0_0 t212 t213 5 t219 t220 t221 w0 _ ?side1 ?side2 A12.out).mono ?_); (case side1 => repeat (first | (with_reducible first | exact HI0.out | apply IsS97.alloc | apply IsS97.drewN | apply IsS97.drew | apply IsS97.set_1 | apply IsS97.set_2 | refine IsS97.far ?_ NB0_210.out _) | exact HI0.out)); (case side2 => repeat (first | (with_reducible first | exact HB.out | apply below_alloc | apply pw_below_drewN | apply below_drew1 | refine below_set ?_ (IsS97.ge HI0.out) | refine below_set ?_ GE210.out) | exact HB.out)); rintro e w17 ⟨rfl, hi, hb, hk⟩; refine ⟨_, rfl, ?_⟩; replace BK210 := Aside0.mk (KeepBut.blk hk (g' := gb210) (o := .cells #[.slice none 0 0] 26 (0, 0)) (pb BK210.out) NB210_0.out (by simp)); replace HK := Aside0.mk (KeepBut.trans q3_4 hk (.inl rfl)); replace HB := Aside0.mk (hb); replace HI0 := Aside0.mk (hi); (try clear hb); (try clear hb2); (try clear hk); (try clear hi)) | ((with_reducible refine gate_callee (f := 94) rfl ?_); refine goesL_ (some 20) rfl rfl Try.func94 (by kernel_rfl) rfl #[.pointer (some ⟨g, 0, none⟩), .int .i64 (wrap64 (1 + t219))] rfl am ?_; (with_reducible refine (spec_l01DrawOf.calls k g s0_0 t220 t221 (wrap64 (1 + t219)) t222 t225 t226 w0 _ ?side1 ?side2 A13.out).mono ?_); (case side1 => repeat (first | (with_reducible first | exact HI0.out | apply IsS97.alloc | apply IsS97.drewN | apply IsS97.drew | apply IsS97.set_1 | apply IsS97.set_2 | refine IsS97.far ?_ NB0_210.out _) | exact HI0.out)); (case side2 => repeat (first | (with_reducible first | exact HB.out | apply below_alloc | apply pw_below_drewN | apply below_drew1 | refine below_set ?_ (IsS97.ge HI0.out) | refine below_set ?_ GE210.out) | exact HB.out)); rintro e w18 ⟨v223, rfl, ho0, hi, hb, hk⟩; refine ⟨_, rfl, ?_⟩; replace BK210 := Aside0.mk (KeepBut.blk hk (g' := gb210) (o := .cells #[.slice none 0 0] 26 (0, 0)) (pb BK210.out) NB210_0.out (by simp)); have HO224 := Aside0.mk (Kd.R_lower ho0 (keep_size (w := w) (g := g) (row := none) q3_4)); replace HK := Aside0.mk (KeepBut.trans q3_4 hk (.inl rfl)); replace HB := Aside0.mk (hb); replace HI0 := Aside0.mk (hi); (try clear hb); (try clear hb2); (try clear hk); (try clear hi); (try clear ho0)) | ((with_reducible refine gate_dst (N := 3) rfl ?_); refine box_event ?hg (N := 3) ?hd (cs := #[.slice none 0 0]) (t := 26) ?hr ?_; (case hd => rfl); (case hg => rfl); (case hr => exact gs); intro gb227 hg w19 hbox hb; replace HO224 := rb HO224 hb; replace HB := Aside0.mk (below_step q3_16 hb); have BK227 := Aside0.mk (hbox); have GW227 := Aside0.mk (by rw [hg]; exact (keep_size (w := w) (g := g) (row := none) q3_4) : w.heap.size ≤ gb227); have GE227 := Aside0.mk (Nat.le_trans HW0.out (by rw [hg]; exact (keep_size (w := w) (g := g) (row := none) q3_4) : w.heap.size ≤ gb227) : w0.heap.size ≤ gb227); replace HK := Aside0.mk (KeepBut.trans q3_4 (KeepBut.of_below hb g none) (.inl rfl)); have NB210_227 := Aside0.mk (nel hg (blk_lt (pb BK210.out)) : gb210 ≠ gb227); have NB227_210 := Aside0.mk (neg hg (blk_lt (pb BK210.out)) : gb227 ≠ gb210); replace BK210 := bb BK210 hb; have NB0_227 := Aside0.mk (by rw [hg]; exact Nat.ne_of_lt (IsS97.lt (show IsS97 w0 _ g s0_0 t225 t226 from q3_11)) : g ≠ gb227); have NB227_0 := Aside0.mk (by rw [hg]; exact Nat.ne_of_gt (IsS97.lt (show IsS97 w0 _ g s0_0 t225 t226 from q3_11)) : gb227 ≠ g); replace HI0 := Aside0.mk (IsS97.below q3_11 hb); clear hb hbox hg; obtain ⟨Ao20, co20, eo20⟩ := Kd.R_slice HO224.out; subst eo20; have hnb21 := NB227_210.out; have hnc21 := NB210_227.out; have hnb22 := NB227_0.out; have hnc22 := NB0_227.out; have hcz23_0 : w19.cell? ⟨gb227, 0, none⟩ = some (.slice none 0 0) := (blk_cell BK227.out 0).trans rfl; have hfz23_0 := blk_frozen BK227.out 0) | ((with_reducible refine gate_dst (N := 21) rfl ?_); refine Kd.R_lit k26 _ 26 ?hg (N := 21) ?hd (xs := ([] : List (S26))) (inner := []) (ok := fun _ => True) (okp := fun _ => True) ?hr ?hp (fun _ hk => hk) trivial (Below.refl _ _) (Nat.le_refl _) (by simp) ?_; (case hd => rfl); (case hg => rfl); (case hr => exact gs); (case hp => exact (Reps.none _ _)); intro v229 w24 ho25 hb hg_ hnew_; clear hg_ hnew_; (first | rw [← Ny228.out] at ho25 | (simp only [Int.reduceToNat] at ho25; rw [← Ny228.out] at ho25)); have HO230 := Aside0.mk (Kd.R_lower (Kd.R_newB (Kd.R_newB (Kd.R_new' ho25 (Kd.R_lt (pe (rf HO224 BK227 (.slice Ao20 t222.length co20))))) (g := gb210) (o := .cells #[.slice none 0 0] 26 (0, 0)) q3_28) (g := gb227) (o := .cells #[.slice Ao20 t222.length co20] 26 (0, 0)) q3_26) (keep_size (w := w) (g := g) (row := none) q3_3)); replace HO224 := Aside0.mk (Kd.R_below (pe (rf HO224 BK227 (.slice Ao20 t222.length co20))) hb); replace BK210 := Aside0.mk (blk_below (g := gb210) (o := .cells #[.slice none 0 0] 26 (0, 0)) q3_28 hb); replace BK227 := Aside0.mk (blk_below (g := gb227) (o := .cells #[.slice Ao20 t222.length co20] 26 (0, 0)) q3_26 hb); replace HK := Aside0.mk (KeepBut.trans q3_3 (KeepBut.of_below hb g none) (.inl rfl)); replace HB := Aside0.mk (below_step q3_10 hb); replace HI0 := Aside0.mk (IsS97.below (show IsS97 w0 (w19.setCell ⟨gb227, 0, none⟩ (.slice Ao20 t222.length co20)) g s0_0 t225 t226 from q3_5) hb); clear hb ho25) | ((with_reducible refine gate_callee (f := 82) rfl ?_); refine goesL_ (some 23) rfl rfl Try.func82 (by kernel_rfl) rfl #[.pointer (some ⟨g, 0, none⟩), .int .i64 5] rfl am ?_; (with_reducible refine (spec_l01Next.calls g s0_0 t225 t226 5 t231 t232 t233 w0 _ ?side1 ?side2 A14.out).mono ?_); (case side1 => repeat (first | (with_reducible first | exact HI0.out | apply IsS97.alloc | apply IsS97.drewN | apply IsS97.drew | apply IsS97.set_1 | apply IsS97.set_2 | refine IsS97.far ?_ NB0_210.out _ | refine IsS97.far ?_ NB0_227.out _) | exact HI0.out)); (case side2 => repeat (first | (with_reducible first | exact HB.out | apply below_alloc | apply pw_below_drewN | apply below_drew1 | refine below_set ?_ (IsS97.ge HI0.out) | refine below_set ?_ GE210.out | refine below_set ?_ GE227.out) | exact HB.out)); rintro e w26 ⟨rfl, hi, hb, hk⟩; refine ⟨_, rfl, ?_⟩; replace BK210 := Aside0.mk (KeepBut.blk hk (g' := gb210) (o := .cells #[.slice none 0 0] 26 (0, 0)) (pb BK210.out) NB210_0.out (by simp)); replace HO224 := Aside0.mk (Kd.R_mono (Kd.R_keep (IsS97.apart (show IsS97 w0 _ g s0_0 t225 t226 from q3_5) (pe HO224.out) (by decide)) hk (fun _ h => h.2)) (fun _ h => h.1)); replace BK227 := Aside0.mk (KeepBut.blk hk (g' := gb227) (o := .cells #[.slice Ao20 t222.length co20] 26 (0, 0)) (pb BK227.out) NB227_0.out (by simp)); replace HO230 := Aside0.mk (Kd.R_mono (Kd.R_keep (IsS97.apart (show IsS97 w0 _ g s0_0 t225 t226 from q3_5) (pe HO230.out) (by decide)) hk (fun _ h => h.2)) (fun _ h => h.1)); replace HK := Aside0.mk (KeepBut.trans q3_3 hk (.inl rfl)); replace HB := Aside0.mk (hb); replace HI0 := Aside0.mk (hi); (try clear hb); (try clear hb2); (try clear hk); (try clear hi)))
 go_loopg [4, 5] k (fun kq v4 v5 w' => ∃ (x4_1 : List (S26)) (x5_1 : Int), v5 = .int .i64 x5_1 ∧ Aside0 (spec_l01Draw.l0 kq x4_1 x5_1 s0_0 t232 t233 t222 = some (r1, r2, r3)) ∧ Aside0 (kq ≤ k) ∧ Aside0 (Kd.R k26 26 w' w.heap.size (fun k_ => k_ ≠ gb210 ∧ k_ ≠ gb227) v4 x4_1) ∧ Aside0 (Kd.R (Kd.int .i64) 2 w' w.heap.size (fun _ => True) (.slice Ao20 t222.length co20) t222) ∧ Aside0 (w'.heap[gb210]? = some (.cells #[(.slice none 0 0)] 26 (0, 0))) ∧ Aside0 (w'.heap[gb227]? = some (.cells #[(.slice Ao20 t222.length co20)] 26 (0, 0))) ∧ Aside0 (IsS97 w0 w' g s0_0 t232 t233) ∧ Aside0 (KeepBut w w' g none) ∧ Aside0 (Below w0.heap.size w0 w'))
 case atStart => exact ⟨(y228), (t231), q3_21, H', ⟨Nat.le_refl _⟩, ⟨pe (Kd.R_mono HO230.out (fun _ hk => ⟨hk.1.2, hk.2⟩))⟩, ⟨pe HO224.out⟩, ⟨pb BK210.out⟩, ⟨pb BK227.out⟩, ⟨q3_5⟩, ⟨q3_3⟩, ⟨q3_10⟩⟩
 case round =>
  clear H'
  try clear c1
  try clear c2
  try clear p2
  try clear c3
  try clear c3b0
  try clear c3b1
  try clear p6
  try clear c7
  try clear c8
  try clear c9
  try clear c11
  try clear c11b0
  try clear c11b1
  try clear c21
  try clear c22
  try clear hcz10_0
  try clear hcz23_0
  try clear hfz10_0
  try clear hfz23_0
  obtain ⟨x4_1, x5_1, rfl, HA, HK1, HO_4, HO_228000, BK210, BK227, HI0, HK, HB⟩ := hrel
  cases gk with | zero => exact absurd HA.out (by simp [spec_l01Draw.l0]) | succ k1 => ?_
  have H := HA.out
  clear HA
  simp only [spec_l01Draw.l0] at H
  by_cases c27 : x5_1 > 0
  ·rw [if_pos c27] at H
   have c27b0 : decide (0 < x5_1) = true := decide_eq_true c27
   clear c27
   by_cases c28 : x4_1.length < 5864062014805
   rotate_left
   ·rw [if_neg c28] at H
    exact absurd H (by simp)
   rw [if_pos c28] at H
   have LMc28 := Aside0.mk c28
   clear c28
   obtain ⟨y234, hy234⟩ : ∃ y_ : List (S26), y_ = (x4_1 ++ [(⟨t222⟩ : S26)]) := ⟨_, rfl⟩
   replace H : (spec_l01Draw.l0 k1 y234 (wrap64 (x5_1 - 1)) s0_0 t232 t233 t222) = some (r1, r2, r3) := by first | (rw [hy234]; with_reducible exact H) | (have H2_ := (Option.bind_some _ _).symm.trans H; rw [hy234]; with_reducible exact H2_) | (have H2_ := (Option.bind_some _ _).symm.trans H; with_reducible exact H2_) | with_reducible exact H | (rw [hy234]; exact H) | exact H
   have Ny234 := Aside0.mk hy234
   clear hy234
   have H' := Aside0.mk H
   clear H
   have hnb29 := NB227_210.out
   have hnc29 := NB210_227.out
   have hnb30 := NB227_0.out
   have hnc30 := NB0_227.out
   have hcz31_0 : wr.cell? ⟨gb227, 0, none⟩ = some (.slice Ao20 t222.length co20) := (blk_cell BK227.out 0).trans rfl
   have hfz31_0 := blk_frozen BK227.out 0
   go_wp2_with (first | ((with_reducible refine gate_builtin (b := .append) (xs := #[.tmp 28, .tmp 30]) rfl ?_); at_builtin; refine Kd.R_append k26 w.heap.size rfl (.tmp 28) (.tmp 30) 110 26 (.agg #[(.slice none 0 0)]) 24 rfl Try.underlying110 info26 rfl (by decide) (by omega) u4 x4_1 (⟨t222⟩ : S26) [.slice Ao20 t222.length co20] (fun k_ => k_ ≠ gb210 ∧ k_ ≠ gb227) (fun k_ => (fun k_ => k_ ≠ gb210 ∧ k_ ≠ gb227) k_ ∧ some k_ ≠ (u4 : Value).ownBlock) rfl rfl ?aP (fun _ hk => hk) ?aF ?aO (Below.refl _ _) ?aS ?aL ?_; (case aP => exact k26_mkM _ _ _ (⟨t222⟩ : S26) (Kd.R_mono (Kd.R_types (Kd.R_types (Kd.R_apart' (HO_228000.out) (Kd.R_typed HO_4.out) (by decide)) BK210.out (by decide)) BK227.out (by decide)) (fun k_ hk => ⟨⟨hk.1.2, hk.2⟩, hk.1.1.2⟩))); (case aF => exact (fun k_ hk => ⟨Kd.freshB (g := gb210) (o := .cells #[.slice none 0 0] 26 (0, 0)) (pb BK210.out) k_ hk, Kd.freshB (g := gb227) (o := .cells #[.slice Ao20 t222.length co20] 26 (0, 0)) (pb BK227.out) k_ hk⟩)); (case aO => exact (pe HO_4.out)); (case aS => exact (keep_size (w := w) (g := g) (row := none) q3_3)); (case aL => have := LMc28.out; omega); intro v235 w32 ho hb hg hat; rw [← Ny234.out] at ho; replace HO_228000 := Aside0.mk (Kd.R_over' (pe HO_228000.out) (Kd.R_typed (pe HO_4.out)) (by decide) hg); replace BK210 := Aside0.mk (blk_grown (g := gb210) (o := .cells #[.slice none 0 0] 26 (0, 0)) (pb BK210.out) hg (Kd.R_away HO_4.out (fun _ hk => hk.1))); replace BK227 := Aside0.mk (blk_grown (g := gb227) (o := .cells #[.slice Ao20 t222.length co20] 26 (0, 0)) (pb BK227.out) hg (Kd.R_away HO_4.out (fun _ hk => hk.2))); replace HB := Aside0.mk (below_weaken q3_10 HL.out hb); replace HI0 := Aside0.mk (IsS97.grown q3_5 hg (IsS97.own_ne HI0.out HO_4.out (by decide))); replace HK := Aside0.mk (KeepBut.trans q3_3 (KeepBut.of_grown hg g) (Kd.R_base2 HO_4.out)); have HO236 := Aside0.mk (ho); clear HO_4; clear ho hb hg hat))
   go_roundg k1
   case measure => have := HK1.out; omega
   case rel => exact ⟨(y234), (wrap64 (x5_1 - 1)), q3_21, H', ⟨by have := HK1.out; omega⟩, ⟨pe HO236.out⟩, ⟨pe HO_228000.out⟩, ⟨pb BK210.out⟩, ⟨pb BK227.out⟩, ⟨q3_5⟩, ⟨q3_3⟩, ⟨q3_10⟩⟩
  rw [if_neg c27] at H
  have c27b0 : decide (0 < x5_1) = false := decide_eq_false c27
  clear c27
  replace H := Option.bind_eq_some_iff.mp H
  obtain ⟨⟨t237, t240⟩, A330, H⟩ := H
  replace H : (if t240 = true then (some (t237, t232, t233)) else ((spec_l01Pick.f s0_0 t232 t233 ([8, 12, 24] : List Int)).bind fun bt245 => ((spec_l01Next.f s0_0 bt245.2.1 bt245.2.2 bt245.1).bind fun bt248 => ((spec_l01DrawOf.f k1 s0_0 bt248.2.1 bt248.2.2 (wrap64 (1 + bt248.1))).bind fun bt251 => (some (bt251.1, bt251.2.1, bt251.2.2)))))) = some (r1, r2, r3) := H
  have A33 := Aside0.mk A330
  clear A330
  by_cases c34 : t240 = true
  ·subst c34
   replace H : (some (t237, t232, t233)) = some (r1, r2, r3) := by rw [if_pos rfl] at H; exact H
   simp only [Option.some.injEq, Prod.mk.injEq] at H
   obtain ⟨rfl, rfl, rfl⟩ := H
   obtain ⟨Ao35, co35, eo35⟩ := Kd.R_slice HO_4.out
   subst eo35
   go_wp2_with (first | ((with_reducible refine gate_callee (f := 95) rfl ?_); refine goesL_ (some 34) rfl rfl Try.func95 (by kernel_rfl) rfl #[.slice Ao35 x4_1.length co35] rfl am ?_; (with_reducible refine (spec_l01Join.calls k1 _ _ x4_1 t237 true _ ?side1 ?side2 A33.out).mono ?_); (case side1 => exact pc ((Kd.R_reads' HO_4.out).2.2)); (case side2 => exact (Kd.R_reads' HO_4.out).2.1); rintro e w36 ⟨v238, rfl, ho0, hb⟩; refine ⟨_, rfl, ?_⟩; replace HO_4 := rn HO_4 ho0 hb; have HO239 := Aside0.mk (Kd.R_lower (Kd.R_new' ho0 (Kd.R_lt (pe HO_228000.out))) (keep_size (w := w) (g := g) (row := none) q3_3)); replace HO_228000 := rn HO_228000 ho0 hb; replace BK210 := bb BK210 hb; replace BK227 := bb BK227 hb; replace HK := Aside0.mk (KeepBut.trans q3_3 (KeepBut.of_below hb g none) (.inl rfl)); replace HB := Aside0.mk (below_step q3_10 hb); replace HI0 := Aside0.mk (IsS97.below q3_5 hb); (try clear hb); (try clear hb2); (try clear hk); (try clear hi); (try clear ho0)) | ((with_reducible refine gate_dst (N := 6) rfl ?_); refine box_event ?hg (N := 6) ?hd (cs := #[.slice none 0 0]) (t := 26) ?hr ?_; (case hd => rfl); (case hg => rfl); (case hr => exact gs); intro gb241 hg w37 hbox hb; replace HO_4 := Aside0.mk (Kd.R_below (Kd.R_elderB (pe HO_4.out) gb241 (Nat.le_of_eq hg.symm)) hb); replace HO_228000 := rb HO_228000 hb; replace HO239 := rb HO239 hb; replace HB := Aside0.mk (below_step q3_10 hb); have BK241 := Aside0.mk (hbox); have GW241 := Aside0.mk (q3_25 : w.heap.size ≤ gb241); have GE241 := Aside0.mk (Nat.le_trans HW0.out (q3_25 : w.heap.size ≤ gb241) : w0.heap.size ≤ gb241); replace HK := Aside0.mk (KeepBut.trans q3_3 (KeepBut.of_below hb g none) (.inl rfl)); have NB210_241 := Aside0.mk (nel hg (blk_lt (pb BK210.out)) : gb210 ≠ gb241); have NB241_210 := Aside0.mk (neg hg (blk_lt (pb BK210.out)) : gb241 ≠ gb210); replace BK210 := bb BK210 hb; have NB227_241 := Aside0.mk (nel hg (blk_lt (pb BK227.out)) : gb227 ≠ gb241); have NB241_227 := Aside0.mk (neg hg (blk_lt (pb BK227.out)) : gb241 ≠ gb227); replace BK227 := bb BK227 hb; have NB0_241 := Aside0.mk (by rw [hg]; exact Nat.ne_of_lt (IsS97.lt (show IsS97 w0 _ g s0_0 t232 t233 from q3_5)) : g ≠ gb241); have NB241_0 := Aside0.mk (by rw [hg]; exact Nat.ne_of_gt (IsS97.lt (show IsS97 w0 _ g s0_0 t232 t233 from q3_5)) : gb241 ≠ g); replace HI0 := Aside0.mk (IsS97.below q3_5 hb); clear hb hbox hg; obtain ⟨Ao38, co38, eo38⟩ := Kd.R_slice HO239.out; subst eo38; have hnb39 := NB241_210.out; have hnc39 := NB210_241.out; have hnb40 := NB241_227.out; have hnc40 := NB227_241.out; have hnb41 := NB241_0.out; have hnc41 := NB0_241.out; have hcz42_0 : w37.cell? ⟨gb241, 0, none⟩ = some (.slice none 0 0) := (blk_cell BK241.out 0).trans rfl; have hfz42_0 := blk_frozen BK241.out 0; have hnb43 := NB210_227.out; have hnc43 := NB227_210.out; have hnb44 := NB210_0.out; have hnc44 := NB0_210.out; have hcz45_0 : w37.cell? ⟨gb210, 0, none⟩ = some (.slice none 0 0) := (blk_cell BK210.out 0).trans rfl; have hfz45_0 := blk_frozen BK210.out 0))
   refine bodyPost_ret (results_cell_row rfl _ _ gb210 26 #[.slice Ao38 t237.length co38] (0, 0) _ rfl (by (with_reducible repeat (first | refine blk_drewN ?_ _ | refine blk_drew ?_ | refine blk_alloc ?_ _)); refine blk_put (cs := #[.slice none 0 0]) ?_ 0 _ rfl; (with_reducible repeat (first | refine blk_drewN ?_ _ | refine blk_drew ?_ | refine blk_alloc ?_ _)); refine blk_far ?_ NB210_241.out _; exact pb BK210.out) Try.underlying26 rfl (by kernel_rfl)) rfl ?_
   exact ⟨_, ew, pe (Kd.R_mono (Kd.R_far (p := ⟨gb210, 0, none⟩) (Kd.R_far (p := ⟨gb241, 0, none⟩) (Kd.R_types (Kd.R_types HO239.out BK241.out (by decide)) BK210.out (by decide)) (fun _ hk => hk.1.2) (.slice Ao38 t237.length co38)) (fun _ hk => hk.2) (.slice Ao38 t237.length co38)) (fun _ hk => trivial)), q3_2, q3_17, q3_9⟩
  replace c34 := Bool.eq_false_iff.mpr c34
  subst c34
  have H1 : ((spec_l01Pick.f s0_0 t232 t233 ([8, 12, 24] : List Int)).bind fun bt245 => ((spec_l01Next.f s0_0 bt245.2.1 bt245.2.2 bt245.1).bind fun bt248 => ((spec_l01DrawOf.f k1 s0_0 bt248.2.1 bt248.2.2 (wrap64 (1 + bt248.1))).bind fun bt251 => (some (bt251.1, bt251.2.1, bt251.2.2))))) = some (r1, r2, r3) := by rw [if_neg (show ¬ (false = true) by decide)] at H; exact H
  clear H
  have H := H1
  clear H1
  obtain ⟨y242, hy242⟩ : ∃ y_ : List Int, y_ = ([8, 12, 24] : List Int) := ⟨_, rfl⟩
  replace H : ((spec_l01Pick.f s0_0 t232 t233 y242).bind fun bt245 => ((spec_l01Next.f s0_0 bt245.2.1 bt245.2.2 bt245.1).bind fun bt248 => ((spec_l01DrawOf.f k1 s0_0 bt248.2.1 bt248.2.2 (wrap64 (1 + bt248.1))).bind fun bt251 => (some (bt251.1, bt251.2.1, bt251.2.2))))) = some (r1, r2, r3) := by first | (rw [hy242]; with_reducible exact H) | (have H2_ := (Option.bind_some _ _).symm.trans H; rw [hy242]; with_reducible exact H2_) | (have H2_ := (Option.bind_some _ _).symm.trans H; with_reducible exact H2_) | with_reducible exact H | (rw [hy242]; exact H) | exact H
  have Ny242 := Aside0.mk hy242
  clear hy242
  replace H := Option.bind_eq_some_iff.mp H
  obtain ⟨⟨t245, t246, t247⟩, A460, H⟩ := H
  replace H : ((spec_l01Next.f s0_0 t246 t247 t245).bind fun bt248 => ((spec_l01DrawOf.f k1 s0_0 bt248.2.1 bt248.2.2 (wrap64 (1 + bt248.1))).bind fun bt251 => (some (bt251.1, bt251.2.1, bt251.2.2)))) = some (r1, r2, r3) := H
  have A46 := Aside0.mk A460
  clear A460
  replace H := Option.bind_eq_some_iff.mp H
  obtain ⟨⟨t248, t249, t250⟩, A470, H⟩ := H
  replace H : ((spec_l01DrawOf.f k1 s0_0 t249 t250 (wrap64 (1 + t248))).bind fun bt251 => (some (bt251.1, bt251.2.1, bt251.2.2))) = some (r1, r2, r3) := H
  have A47 := Aside0.mk A470
  clear A470
  replace H := Option.bind_eq_some_iff.mp H
  obtain ⟨⟨t251, t254, t255⟩, A480, H⟩ := H
  replace H : (some (t251, t254, t255)) = some (r1, r2, r3) := H
  have A48 := Aside0.mk A480
  clear A480
  simp only [Option.some.injEq, Prod.mk.injEq] at H
  obtain ⟨rfl, rfl, rfl⟩ := H
  obtain ⟨Ao49, co49, eo49⟩ := Kd.R_slice HO_4.out
  subst eo49
  go_wp2_with (first | ((with_reducible refine gate_callee (f := 95) rfl ?_); refine goesL_ (some 34) rfl rfl Try.func95 (by kernel_rfl) rfl #[.slice Ao49 x4_1.length co49] rfl am ?_; (with_reducible refine (spec_l01Join.calls k1 _ _ x4_1 t237 false _ ?side1 ?side2 A33.out).mono ?_); (case side1 => exact pc ((Kd.R_reads' HO_4.out).2.2)); (case side2 => exact (Kd.R_reads' HO_4.out).2.1); rintro e w50 ⟨v238, rfl, ho0, hb⟩; refine ⟨_, rfl, ?_⟩; replace HO_4 := rn HO_4 ho0 hb; have HO239 := Aside0.mk (Kd.R_lower (Kd.R_new' ho0 (Kd.R_lt (pe HO_228000.out))) (keep_size (w := w) (g := g) (row := none) q3_3)); replace HO_228000 := rn HO_228000 ho0 hb; replace BK210 := bb BK210 hb; replace BK227 := bb BK227 hb; replace HK := Aside0.mk (KeepBut.trans q3_3 (KeepBut.of_below hb g none) (.inl rfl)); replace HB := Aside0.mk (below_step q3_10 hb); replace HI0 := Aside0.mk (IsS97.below q3_5 hb); (try clear hb); (try clear hb2); (try clear hk); (try clear hi); (try clear ho0)) | ((with_reducible refine gate_dst (N := 6) rfl ?_); refine box_event ?hg (N := 6) ?hd (cs := #[.slice none 0 0]) (t := 26) ?hr ?_; (case hd => rfl); (case hg => rfl); (case hr => exact gs); intro gb241 hg w51 hbox hb; replace HO_4 := Aside0.mk (Kd.R_below (Kd.R_elderB (pe HO_4.out) gb241 (Nat.le_of_eq hg.symm)) hb); replace HO_228000 := rb HO_228000 hb; replace HO239 := rb HO239 hb; replace HB := Aside0.mk (below_step q3_10 hb); have BK241 := Aside0.mk (hbox); have GW241 := Aside0.mk (q3_25 : w.heap.size ≤ gb241); have GE241 := Aside0.mk (Nat.le_trans HW0.out (q3_25 : w.heap.size ≤ gb241) : w0.heap.size ≤ gb241); replace HK := Aside0.mk (KeepBut.trans q3_3 (KeepBut.of_below hb g none) (.inl rfl)); have NB210_241 := Aside0.mk (nel hg (blk_lt (pb BK210.out)) : gb210 ≠ gb241); have NB241_210 := Aside0.mk (neg hg (blk_lt (pb BK210.out)) : gb241 ≠ gb210); replace BK210 := bb BK210 hb; have NB227_241 := Aside0.mk (nel hg (blk_lt (pb BK227.out)) : gb227 ≠ gb241); have NB241_227 := Aside0.mk (neg hg (blk_lt (pb BK227.out)) : gb241 ≠ gb227); replace BK227 := bb BK227 hb; have NB0_241 := Aside0.mk (by rw [hg]; exact Nat.ne_of_lt (IsS97.lt (show IsS97 w0 _ g s0_0 t232 t233 from q3_5)) : g ≠ gb241); have NB241_0 := Aside0.mk (by rw [hg]; exact Nat.ne_of_gt (IsS97.lt (show IsS97 w0 _ g s0_0 t232 t233 from q3_5)) : gb241 ≠ g); replace HI0 := Aside0.mk (IsS97.below q3_5 hb); clear hb hbox hg; obtain ⟨Ao52, co52, eo52⟩ := Kd.R_slice HO239.out; subst eo52; have hnb53 := NB241_210.out; have hnc53 := NB210_241.out; have hnb54 := NB241_227.out; have hnc54 := NB227_241.out; have hnb55 := NB241_0.out; have hnc55 := NB0_241.out; have hcz56_0 : w51.cell? ⟨gb241, 0, none⟩ = some (.slice none 0 0) := (blk_cell BK241.out 0).trans rfl; have hfz56_0 := blk_frozen BK241.out 0) | ((with_reducible refine gate_dst (N := 42) rfl ?_); refine Kd.R_lit (Kd.int .i64) _ 2 ?hg (N := 42) ?hd (xs := ([8, 12, 24] : List Int)) (inner := [.int .i64 8, .int .i64 12, .int .i64 24]) (ok := fun _ => True) (okp := fun _ => True) ?hr ?hp (fun _ hk => hk) trivial (Below.refl _ _) (Nat.le_refl _) (by simp) ?_; (case hd => rfl); (case hg => rfl); (case hr => exact gs); (case hp => exact (Reps.one (show Kd.M (Kd.int .i64) _ _ _ 8 [.int .i64 8] from rfl) (Reps.one (show Kd.M (Kd.int .i64) _ _ _ 12 [.int .i64 12] from rfl) (Reps.one (show Kd.M (Kd.int .i64) _ _ _ 24 [.int .i64 24] from rfl) (Reps.none _ _))))); intro v243 w57 ho58 hb hg_ hnew_; clear hg_ hnew_; (first | rw [← Ny242.out] at ho58 | (simp only [Int.reduceToNat] at ho58; rw [← Ny242.out] at ho58)); replace HO_4 := Aside0.mk (Kd.R_elder' (pe (Kd.R_mono (Kd.R_far (p := ⟨gb241, 0, none⟩) (Kd.R_mono HO_4.out (fun k_ hk => (⟨hk, hk.2⟩ : _ ∧ k_ ≠ gb241))) (fun _ hk => hk.2) (.slice Ao52 t237.length co52)) (fun _ h_ => h_.1))) (Kd.R_base ho58) hb); have HO244 := Aside0.mk (Kd.R_lower (Kd.R_new' (Kd.R_new' ho58 (Kd.R_lt (pe (rf HO_228000 BK241 (.slice Ao52 t237.length co52))))) (Kd.R_lt (pe (rf HO239 BK241 (.slice Ao52 t237.length co52))))) (keep_size (w := w) (g := g) (row := none) q3_9)); replace HO_228000 := Aside0.mk (Kd.R_elder' (pe (rf HO_228000 BK241 (.slice Ao52 t237.length co52))) (Kd.R_base ho58) hb); replace HO239 := Aside0.mk (Kd.R_elder' (pe (rf HO239 BK241 (.slice Ao52 t237.length co52))) (Kd.R_base ho58) hb); replace BK210 := Aside0.mk (blk_below (g := gb210) (o := .cells #[.slice none 0 0] 26 (0, 0)) (by (with_reducible repeat (first | refine blk_drewN ?_ _ | refine blk_drew ?_ | refine blk_alloc ?_ _)); refine blk_far ?_ NB210_241.out _; exact pb BK210.out) hb); replace BK227 := Aside0.mk (blk_below (g := gb227) (o := .cells #[.slice Ao20 t222.length co20] 26 (0, 0)) (by (with_reducible repeat (first | refine blk_drewN ?_ _ | refine blk_drew ?_ | refine blk_alloc ?_ _)); refine blk_far ?_ NB227_241.out _; exact pb BK227.out) hb); replace BK241 := Aside0.mk (blk_below (g := gb241) (o := .cells #[.slice Ao52 t237.length co52] 26 (0, 0)) (by (with_reducible repeat (first | refine blk_drewN ?_ _ | refine blk_drew ?_ | refine blk_alloc ?_ _)); refine blk_put (cs := #[.slice none 0 0]) ?_ 0 _ rfl; exact pb BK241.out) hb); replace HK := Aside0.mk (KeepBut.trans q3_9 (KeepBut.of_below hb g none) (.inl rfl)); replace HB := Aside0.mk (below_step q3_17 hb); replace HI0 := Aside0.mk (IsS97.below (show IsS97 w0 (w51.setCell ⟨gb241, 0, none⟩ (.slice Ao52 t237.length co52)) g s0_0 t232 t233 from q3_2) hb); clear hb ho58; obtain ⟨Ao59, co59, eo59⟩ := Kd.R_slice HO244.out; subst eo59) | ((with_reducible refine gate_callee (f := 54) rfl ?_); refine goesL_ (some 43) rfl rfl Try.func54 (by kernel_rfl) rfl #[.pointer (some ⟨g, 0, none⟩), .slice Ao59 y242.length co59] rfl am ?_; (with_reducible refine (spec_l01Pick.calls g s0_0 t232 t233 _ _ y242 t245 t246 t247 w0 _ ?side1 ?side2 ?side3 ?side4 ?side5 A46.out).mono ?_); (case side1 => repeat (first | (with_reducible first | exact HI0.out | apply IsS97.alloc | apply IsS97.drewN | apply IsS97.drew | apply IsS97.set_1 | apply IsS97.set_2 | refine IsS97.far ?_ NB0_210.out _ | refine IsS97.far ?_ NB0_227.out _ | refine IsS97.far ?_ NB0_241.out _) | exact HI0.out)); (case side2 => repeat (first | (with_reducible first | exact HB.out | apply below_alloc | apply pw_below_drewN | apply below_drew1 | refine below_set ?_ (IsS97.ge HI0.out) | refine below_set ?_ GE210.out | refine below_set ?_ GE227.out | refine below_set ?_ GE241.out) | exact HB.out)); (case side3 => exact pc ((Kd.R_reads' HO244.out).2.2)); (case side4 => exact (Kd.R_reads' HO244.out).2.1); (case side5 => exact far_slice (IsS97.own_ne HI0.out HO244.out (by decide))); rintro e w60 ⟨rfl, hi, hb, hk⟩; refine ⟨_, rfl, ?_⟩; replace HO_4 := Aside0.mk (Kd.R_mono (Kd.R_keep (IsS97.apart (show IsS97 w0 _ g s0_0 t232 t233 from q3_2) (pe HO_4.out) (by decide)) hk (fun _ h => h.2)) (fun _ h => h.1)); replace HO_228000 := Aside0.mk (Kd.R_mono (Kd.R_keep (IsS97.apart (show IsS97 w0 _ g s0_0 t232 t233 from q3_2) (pe HO_228000.out) (by decide)) hk (fun _ h => h.2)) (fun _ h => h.1)); replace BK210 := Aside0.mk (KeepBut.blk hk (g' := gb210) (o := .cells #[.slice none 0 0] 26 (0, 0)) (pb BK210.out) NB210_0.out (by simp)); replace BK227 := Aside0.mk (KeepBut.blk hk (g' := gb227) (o := .cells #[.slice Ao20 t222.length co20] 26 (0, 0)) (pb BK227.out) NB227_0.out (by simp)); replace HO239 := Aside0.mk (Kd.R_mono (Kd.R_keep (IsS97.apart (show IsS97 w0 _ g s0_0 t232 t233 from q3_2) (pe HO239.out) (by decide)) hk (fun _ h => h.2)) (fun _ h => h.1)); replace BK241 := Aside0.mk (KeepBut.blk hk (g' := gb241) (o := .cells #[.slice Ao52 t237.length co52] 26 (0, 0)) (pb BK241.out) NB241_0.out (by simp)); replace HO244 := Aside0.mk (Kd.R_mono (Kd.R_keep (IsS97.apart (show IsS97 w0 _ g s0_0 t232 t233 from q3_2) (pe HO244.out) (by decide)) hk (fun _ h => h.2)) (fun _ h => h.1)); replace HK := Aside0.mk (KeepBut.trans q3_9 hk (.inl rfl)); replace HB := Aside0.mk (hb); replace HI0 := Aside0.mk (hi); (try clear hb); (try clear hb2); (try clear hk); (try clear hi)) | ((with_reducible refine gate_callee (f := 82) rfl ?_); refine goesL_ (some 44) rfl rfl Try.func82 (by kernel_rfl) rfl #[.pointer (some ⟨g, 0, none⟩), .int .i64 t245] rfl am ?_; (with_reducible refine (spec_l01Next.calls g s0_0 t246 t247 t245 t248 t249 t250 w0 _ ?side1 ?side2 A47.out).mono ?_); (case side1 => repeat (first | (with_reducible first | exact HI0.out | apply IsS97.alloc | apply IsS97.drewN | apply IsS97.drew | apply IsS97.set_1 | apply IsS97.set_2 | refine IsS97.far ?_ NB0_210.out _ | refine IsS97.far ?_ NB0_227.out _ | refine IsS97.far ?_ NB0_241.out _) | exact HI0.out)); (case side2 => repeat (first | (with_reducible first | exact HB.out | apply below_alloc | apply pw_below_drewN | apply below_drew1 | refine below_set ?_ (IsS97.ge HI0.out) | refine below_set ?_ GE210.out | refine below_set ?_ GE227.out | refine below_set ?_ GE241.out) | exact HB.out)); rintro e w61 ⟨rfl, hi, hb, hk⟩; refine ⟨_, rfl, ?_⟩; replace HO_4 := Aside0.mk (Kd.R_mono (Kd.R_keep (IsS97.apart (show IsS97 w0 _ g s0_0 t246 t247 from q3_2) (pe HO_4.out) (by decide)) hk (fun _ h => h.2)) (fun _ h => h.1)); replace HO_228000 := Aside0.mk (Kd.R_mono (Kd.R_keep (IsS97.apart (show IsS97 w0 _ g s0_0 t246 t247 from q3_2) (pe HO_228000.out) (by decide)) hk (fun _ h => h.2)) (fun _ h => h.1)); replace BK210 := Aside0.mk (KeepBut.blk hk (g' := gb210) (o := .cells #[.slice none 0 0] 26 (0, 0)) (pb BK210.out) NB210_0.out (by simp)); replace BK227 := Aside0.mk (KeepBut.blk hk (g' := gb227) (o := .cells #[.slice Ao20 t222.length co20] 26 (0, 0)) (pb BK227.out) NB227_0.out (by simp)); replace HO239 := Aside0.mk (Kd.R_mono (Kd.R_keep (IsS97.apart (show IsS97 w0 _ g s0_0 t246 t247 from q3_2) (pe HO239.out) (by decide)) hk (fun _ h => h.2)) (fun _ h => h.1)); replace BK241 := Aside0.mk (KeepBut.blk hk (g' := gb241) (o := .cells #[.slice Ao52 t237.length co52] 26 (0, 0)) (pb BK241.out) NB241_0.out (by simp)); replace HO244 := Aside0.mk (Kd.R_mono (Kd.R_keep (IsS97.apart (show IsS97 w0 _ g s0_0 t246 t247 from q3_2) (pe HO244.out) (by decide)) hk (fun _ h => h.2)) (fun _ h => h.1)); replace HK := Aside0.mk (KeepBut.trans q3_9 hk (.inl rfl)); replace HB := Aside0.mk (hb); replace HI0 := Aside0.mk (hi); (try clear hb); (try clear hb2); (try clear hk); (try clear hi)) | ((with_reducible refine gate_callee (f := 94) rfl ?_); refine goesL_ (some 46) rfl rfl Try.func94 (by kernel_rfl) rfl #[.pointer (some ⟨g, 0, none⟩), .int .i64 (wrap64 (1 + t248))] rfl am ?_; (with_reducible refine (spec_l01DrawOf.calls k1 g s0_0 t249 t250 (wrap64 (1 + t248)) t251 t254 t255 w0 _ ?side1 ?side2 A48.out).mono ?_); (case side1 => repeat (first | (with_reducible first | exact HI0.out | apply IsS97.alloc | apply IsS97.drewN | apply IsS97.drew | apply IsS97.set_1 | apply IsS97.set_2 | refine IsS97.far ?_ NB0_210.out _ | refine IsS97.far ?_ NB0_227.out _ | refine IsS97.far ?_ NB0_241.out _) | exact HI0.out)); (case side2 => repeat (first | (with_reducible first | exact HB.out | apply below_alloc | apply pw_below_drewN | apply below_drew1 | refine below_set ?_ (IsS97.ge HI0.out) | refine below_set ?_ GE210.out | refine below_set ?_ GE227.out | refine below_set ?_ GE241.out) | exact HB.out)); rintro e w62 ⟨v252, rfl, ho0, hi, hb, hk⟩; refine ⟨_, rfl, ?_⟩; replace HO_4 := Aside0.mk (Kd.R_mono (Kd.R_told (Kd.R_oldK (IsS97.apart (show IsS97 w0 _ g s0_0 t249 t250 from q3_2) (pe HO_4.out) (by decide)) hk) (Kd.R_base ho0)) (fun _ h_ => h_.1)); replace BK210 := Aside0.mk (KeepBut.blk hk (g' := gb210) (o := .cells #[.slice none 0 0] 26 (0, 0)) (pb BK210.out) NB210_0.out (by simp)); replace BK227 := Aside0.mk (KeepBut.blk hk (g' := gb227) (o := .cells #[.slice Ao20 t222.length co20] 26 (0, 0)) (pb BK227.out) NB227_0.out (by simp)); replace BK241 := Aside0.mk (KeepBut.blk hk (g' := gb241) (o := .cells #[.slice Ao52 t237.length co52] 26 (0, 0)) (pb BK241.out) NB241_0.out (by simp)); have HO253 := Aside0.mk (Kd.R_lower (Kd.R_new' (Kd.R_new' (Kd.R_new' ho0 (Kd.R_lt (pe HO_228000.out))) (Kd.R_lt (pe HO239.out))) (Kd.R_lt (pe HO244.out))) (keep_size (w := w) (g := g) (row := none) q3_9)); replace HO_228000 := Aside0.mk (Kd.R_mono (Kd.R_told (Kd.R_oldK (IsS97.apart (show IsS97 w0 _ g s0_0 t249 t250 from q3_2) (pe HO_228000.out) (by decide)) hk) (Kd.R_base ho0)) (fun _ h_ => h_.1)); replace HO239 := Aside0.mk (Kd.R_mono (Kd.R_told (Kd.R_oldK (IsS97.apart (show IsS97 w0 _ g s0_0 t249 t250 from q3_2) (pe HO239.out) (by decide)) hk) (Kd.R_base ho0)) (fun _ h_ => h_.1)); replace HO244 := Aside0.mk (Kd.R_mono (Kd.R_told (Kd.R_oldK (IsS97.apart (show IsS97 w0 _ g s0_0 t249 t250 from q3_2) (pe HO244.out) (by decide)) hk) (Kd.R_base ho0)) (fun _ h_ => h_.1)); replace HK := Aside0.mk (KeepBut.trans q3_9 hk (.inl rfl)); replace HB := Aside0.mk (hb); replace HI0 := Aside0.mk (hi); (try clear hb); (try clear hb2); (try clear hk); (try clear hi); (try clear ho0); obtain ⟨Ao63, co63, eo63⟩ := Kd.R_slice HO253.out; subst eo63; have hnb64 := NB210_227.out; have hnc64 := NB227_210.out; have hnb65 := NB210_0.out; have hnc65 := NB0_210.out; have hcz66_0 : w62.cell? ⟨gb210, 0, none⟩ = some (.slice none 0 0) := (blk_cell BK210.out 0).trans rfl; have hfz66_0 := blk_frozen BK210.out 0))
  refine bodyPost_ret (results_cell_row rfl _ _ gb210 26 #[.slice Ao63 t251.length co63] (0, 0) _ rfl q3_22 Try.underlying26 rfl (by kernel_rfl)) rfl ?_
  exact ⟨_, ew, pe (Kd.R_mono (Kd.R_far (p := ⟨gb210, 0, none⟩) (Kd.R_types HO253.out BK210.out (by decide)) (fun _ hk => hk.2) (.slice Ao63 t251.length co63)) (fun _ hk => trivial)), q3_2, q3_17, q3_9⟩

/-! ### spec_l01Spoil: function 36 -/
def spec_l01Spoil.f (k : Nat) (s0_0 : List Int) (s0_1 : Int) (s0_2 : Int) : Option (List Int × Int × Int) := (spec_l01Draw.f k s0_0 s0_1 s0_2).bind fun bt271 => ((spec_l01Bad.f s0_0 bt271.2.1 bt271.2.2 bt271.1).bind fun bt276 => (some (bt276.1, bt276.2.1, bt276.2.2)))
theorem spec_l01Spoil.mono : ∀ a0 a1 a2 k, LeO (spec_l01Spoil.f k a0 a1 a2) (spec_l01Spoil.f (k + 1) a0 a1 a2) := by
 intro a0 a1 a2 k
 unfold spec_l01Spoil.f
 repeat' first
   | (with_reducible exact spec_l01Draw.mono _ _ _ _)
   | (with_reducible exact LeO.refl _)
   | (with_reducible exact LeO.none _)
   | (with_reducible refine LeO.ite ?_ ?_)
   | (with_reducible refine LeO.bind ?_ (fun _ => ?_))
   | exact spec_l01Draw.mono _ _ _ _
   | exact LeO.none _
   | refine LeO.ite ?_ ?_
   | refine LeO.bind ?_ (fun _ => ?_)
set_option maxHeartbeats 8000000 in
set_option maxRecDepth 100000 in
theorem spec_l01Spoil.calls (k : Nat) (g : Nat) (s0_0 : List Int) (s0_1 : Int) (s0_2 : Int) (r1 : List Int) (r2 : Int) (r3 : Int) (w0 w : World) (hI : IsS97 w0 w g s0_0 s0_1 s0_2) (hB : Below w0.heap.size w0 w) (h : spec_l01Spoil.f k s0_0 s0_1 s0_2 = some (r1, r2, r3)) :
  Calls Try.prog 36 #[.pointer (some ⟨g, 0, none⟩)] w fun e w' => ∃ v0_ : Value, e = .returned (.agg #[v0_]) ∧ Kd.R (Kd.int .i64) 2 w' w.heap.size (fun _ => True) v0_ r1 ∧ IsS97 w0 w' g s0_0 r2 r3 ∧ Below w0.heap.size w0 w' ∧ KeepBut w w' g none := by
 have hu26 := Try.underlying26
 have HI0 := Aside0.mk hI
 have HK := Aside0.mk (KeepBut.refl w g none)
 have HL := Aside0.mk hB.size
 clear hI
 have HW0 := Aside0.mk hB.size
 have HB := Aside0.mk hB
 clear hB
 have H : ((spec_l01Draw.f k s0_0 s0_1 s0_2).bind fun bt271 => ((spec_l01Bad.f s0_0 bt271.2.1 bt271.2.2 bt271.1).bind fun bt276 => (some (bt276.1, bt276.2.1, bt276.2.2)))) = some (r1, r2, r3) := h
 clear h
 replace H := Option.bind_eq_some_iff.mp H
 obtain ⟨⟨t271, t274, t275⟩, A20, H⟩ := H
 replace H : ((spec_l01Bad.f s0_0 t274 t275 t271).bind fun bt276 => (some (bt276.1, bt276.2.1, bt276.2.2))) = some (r1, r2, r3) := H
 have A2 := Aside0.mk A20
 clear A20
 replace H := Option.bind_eq_some_iff.mp H
 obtain ⟨⟨t276, t279, t280⟩, A30, H⟩ := H
 replace H : (some (t276, t279, t280)) = some (r1, r2, r3) := H
 have A3 := Aside0.mk A30
 clear A30
 simp only [Option.some.injEq, Prod.mk.injEq] at H
 obtain ⟨rfl, rfl, rfl⟩ := H
 go_enter Try.func36, Try.ntmps36
 go_wp2_with (first | ((with_reducible refine gate_dst (N := 2) rfl ?_); refine box_event ?hg (N := 2) ?hd (cs := #[.slice none 0 0]) (t := 26) ?hr ?_; (case hd => rfl); (case hg => rfl); (case hr => exact gs); intro gb270 hg w4 hbox hb; replace HB := Aside0.mk (below_step q3_13 hb); have BK270 := Aside0.mk (hbox); have GW270 := Aside0.mk (q3_15 : w.heap.size ≤ gb270); have GE270 := Aside0.mk (Nat.le_trans HW0.out (q3_15 : w.heap.size ≤ gb270) : w0.heap.size ≤ gb270); replace HK := Aside0.mk (KeepBut.trans q3_8 (KeepBut.of_below hb g none) (.inl rfl)); have NB0_270 := Aside0.mk (q3_19 : g ≠ gb270); have NB270_0 := Aside0.mk (q3_20 : gb270 ≠ g); replace HI0 := Aside0.mk (IsS97.below q3_6 hb); clear hb hbox hg) | ((with_reducible refine gate_callee (f := 77) rfl ?_); refine goesL_ (some 5) rfl rfl Try.func77 (by kernel_rfl) rfl #[.pointer (some ⟨g, 0, none⟩)] rfl am ?_; (with_reducible refine (spec_l01Draw.calls k g s0_0 s0_1 s0_2 t271 t274 t275 w0 _ ?side1 ?side2 A2.out).mono ?_); (case side1 => repeat (first | (with_reducible first | exact HI0.out | apply IsS97.alloc | apply IsS97.drewN | apply IsS97.drew | apply IsS97.set_1 | apply IsS97.set_2 | refine IsS97.far ?_ NB0_270.out _) | exact HI0.out)); (case side2 => repeat (first | (with_reducible first | exact HB.out | apply below_alloc | apply pw_below_drewN | apply below_drew1 | refine below_set ?_ (IsS97.ge HI0.out) | refine below_set ?_ GE270.out) | exact HB.out)); rintro e w5 ⟨v272, rfl, ho0, hi, hb, hk⟩; refine ⟨_, rfl, ?_⟩; replace BK270 := Aside0.mk (KeepBut.blk hk (g' := gb270) (o := .cells #[.slice none 0 0] 26 (0, 0)) (pb BK270.out) NB270_0.out (by simp)); have HO273 := Aside0.mk (Kd.R_lower ho0 (keep_size (w := w) (g := g) (row := none) q3_14)); replace HK := Aside0.mk (KeepBut.trans q3_14 hk (.inl rfl)); replace HB := Aside0.mk (hb); replace HI0 := Aside0.mk (hi); (try clear hb); (try clear hb2); (try clear hk); (try clear hi); (try clear ho0); obtain ⟨Ao6, co6, eo6⟩ := Kd.R_slice HO273.out; subst eo6) | ((with_reducible refine gate_callee (f := 76) rfl ?_); refine goesL_ (some 6) rfl rfl Try.func76 (by kernel_rfl) rfl #[.pointer (some ⟨g, 0, none⟩), .agg #[.slice Ao6 t271.length co6]] rfl am ?_; (with_reducible refine (spec_l01Bad.calls g s0_0 t274 t275 (fun k_ => some k_ = (.slice Ao6 t271.length co6 : Value).ownBlock) (.slice Ao6 t271.length co6) t271 t276 t279 t280 w0 _ ?side1 ?side2 ?side3 A3.out).mono ?_); (case side1 => repeat (first | (with_reducible first | exact HI0.out | apply IsS97.alloc | apply IsS97.drewN | apply IsS97.drew | apply IsS97.set_1 | apply IsS97.set_2 | refine IsS97.far ?_ NB0_270.out _) | exact HI0.out)); (case side2 => repeat (first | (with_reducible first | exact HB.out | apply below_alloc | apply pw_below_drewN | apply below_drew1 | refine below_set ?_ (IsS97.ge HI0.out) | refine below_set ?_ GE270.out) | exact HB.out)); (case side3 => exact Kd.R_lower (Kd.R_tight rfl HO273.out) HL.out); rintro e w7 ⟨v277, rfl, ho0, hi, hb, hkp⟩; refine ⟨_, rfl, ?_⟩; replace HI0 := Aside0.mk (hi); replace BK270 := Aside0.mk (blk_kept (pb BK270.out) hkp (fun hs_ => Or.elim hs_ (fun hs_ => (fun e_ => (Kd.R_ne HO273.out BK270.out (by decide)) e_) hs_) (fun e_ => NB270_0.out e_))); have HO278 := Aside0.mk (Kd.R_mono (ok' := fun k_ => True) (Kd.R_raise (d := (Kd.int .i64)) (b := w0.heap.size) (b' := w.heap.size) (fun _ _ _ _ h_ => h_) ho0 (fun k_ e_ => Or.elim (ho0.1 k_ e_) (fun hs_ => (fun e_ => Kd.R_base HO273.out k_ e_.symm) hs_) (fun hn_ => Nat.le_trans (keep_size (w := w) (g := g) (row := none) q3_14) hn_))) (fun k_ hk_ => trivial)); replace HK := Aside0.mk (Kept.keepG q3_14 hkp (fun k_ hs_ => Or.elim hs_ (fun hs_ => (fun e_ => .inr (Kd.R_base HO273.out k_ e_.symm)) hs_) (fun e_ => .inl e_))); replace HB := Aside0.mk (hb); clear HO273; (try clear hb); (try clear hkp); (try clear ho0); obtain ⟨Ao8, co8, eo8⟩ := Kd.R_slice HO278.out; subst eo8; have hnb9 := NB270_0.out; have hnc9 := NB0_270.out; have hcz10_0 : w7.cell? ⟨gb270, 0, none⟩ = some (.slice none 0 0) := (blk_cell BK270.out 0).trans rfl; have hfz10_0 := blk_frozen BK270.out 0))
 refine bodyPost_ret (results_cell_row rfl _ _ gb270 26 #[.slice Ao8 t276.length co8] (0, 0) _ rfl (by (with_reducible repeat (first | refine blk_drewN ?_ _ | refine blk_drew ?_ | refine blk_alloc ?_ _)); refine blk_put (cs := #[.slice none 0 0]) ?_ 0 _ rfl; exact pb BK270.out) Try.underlying26 rfl (by kernel_rfl)) rfl ?_
 exact ⟨_, ew, pe (Kd.R_mono (Kd.R_far (p := ⟨gb270, 0, none⟩) (Kd.R_types HO278.out BK270.out (by decide)) (fun _ hk => hk.2) (.slice Ao8 t276.length co8)) (fun _ hk => trivial)), by repeat (first | (with_reducible first | exact HI0.out | apply IsS97.alloc | apply IsS97.drewN | apply IsS97.drew | apply IsS97.set_1 | apply IsS97.set_2 | refine IsS97.far ?_ NB0_270.out _) | exact HI0.out), by repeat (first | (with_reducible first | exact HB.out | apply below_alloc | apply pw_below_drewN | apply below_drew1 | refine below_set ?_ (IsS97.ge HI0.out) | refine below_set ?_ GE270.out) | exact HB.out), q3_14⟩

end Go.Proofs.Ytlppkilencpmeaa.QFnHeavyPaths
