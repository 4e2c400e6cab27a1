/- Functions as Lean functions, with their contracts: written by a program of this claim over the translation; some contracts are proved by hand. -/
import Derived.Test.YtlppkilencpmeaaQFnHeavyPathsx0
import Derived.Test.YtlppkilencpmeaaQFnHeavyPathsx1
import Derived.Test.YtlppkilencpmeaaQFnHeavyPathsx4
import Derived.Test.YtlppkilencpmeaaQFnHeavyPathsx5
import Derived.Test.YtlppkilencpmeaaQFnHeavyPathsx6
import Derived.Test.YtlppkilencpmeaaQFnHeavyPathsx9
import Derived.Test.YtlppkilencpmeaaQFnHeavyPathsx10
import Derived.Test.YtlppkilencpmeaaQFnHeavyPathsx11
namespace Go.Proofs.Ytlppkilencpmeaa.QFnHeavyPaths
open Go.RowKit Go.Proofs.Ytlppkilencpmeaa.Gl Go.Proofs.Ytlppkilencpmeaa.Sz Go.Proofs.YtlppkilencpmeaaW.PrintWords Go.Proofs.YtlppkilencpmeaaW.PrintLast Go.Proofs.YtlppkilencpmeaaW.PrintMore
attribute [local go_sem] max2_int min2_int max_two min_two max_three min_three max_four min_four   -- for this text's walks alone
set_option linter.unusedVariables false
set_option linter.unusedSimpArgs false
theorem q12_0 {P : Prop} (h : P := by repeat (first | (with_reducible first | exact HI545.out | apply IsS97.alloc | apply IsS97.drewN | apply IsS97.drew | apply IsS97.set_1 | apply IsS97.set_2 | refine IsS97.far ?_ NB545_541.out _ | refine IsS97.far ?_ NB545_551.out _) | exact HI545.out)) : P := h
theorem q12_1 {P : Prop} (h : P := by repeat (first | (with_reducible first | exact HB.out | apply below_alloc | apply pw_below_drewN | apply below_drew1 | refine below_set ?_ (IsS97.ge HI545.out) | refine below_set ?_ GE541.out) | exact HB.out)) : P := h
theorem q12_2 {P : Prop} (h : P := by repeat (first | (with_reducible first | exact HB.out | apply below_alloc | apply pw_below_drewN | apply below_drew1 | refine below_set ?_ (IsS97.ge HI545.out) | refine below_set ?_ GE541.out | refine below_set ?_ GE551.out) | exact HB.out)) : P := h
theorem q12_3 {P : Prop} (h : P := by repeat (first | (with_reducible first | exact HI545.out | apply IsS97.alloc | apply IsS97.drewN | apply IsS97.drew | apply IsS97.set_1 | apply IsS97.set_2 | refine IsS97.far ?_ NB545_541.out _) | exact HI545.out)) : P := h
theorem q12_4 {P : Prop} (h : P := by first | rfl | (simp; done) | (simp [*]; done)) : P := h
theorem q12_5 {P : Prop} (h : P := by first | (with_reducible assumption) | assumption) : P := h

/-! ### spec_DrawAncestorOf: function 18 -/
def spec_DrawAncestorOf.f (k : Nat) (l0 : List Int) : Option (List Int × Int × Int) := (spec_l01From.f k l0).bind fun bt542 => ((spec_l01With.f k l0).bind fun bt546 => ((spec_l01Pick.f bt542.1 bt542.2.1 bt542.2.2 ([2, 4, 24] : List Int)).bind fun bt555 => ((spec_l01Near.f bt542.1 bt555.2.1 bt555.2.2 bt555.1).bind fun bt558 => (some (bt546.1, bt546.2.1, bt558.1)))))
theorem spec_DrawAncestorOf.mono : ∀ a0 k, LeO (spec_DrawAncestorOf.f k a0) (spec_DrawAncestorOf.f (k + 1) a0) := by
 intro a0 k
 unfold spec_DrawAncestorOf.f
 repeat' first
   | (with_reducible exact spec_l01From.mono _ _)
   | (with_reducible exact spec_l01With.mono _ _)
   | (with_reducible exact LeO.refl _)
   | (with_reducible exact LeO.none _)
   | (with_reducible refine LeO.ite ?_ ?_)
   | (with_reducible refine LeO.bind ?_ (fun _ => ?_))
   | exact spec_l01From.mono _ _
   | exact spec_l01With.mono _ _
   | exact LeO.none _
   | refine LeO.ite ?_ ?_
   | refine LeO.bind ?_ (fun _ => ?_)
def spec_DrawAncestorOf.T3 : Bool × List (List Nat × List Nat) := (true, [([], []), ([], []), ([], []), ([], []), ([], []), ([3, 4], [3, 4]), ([2, 5, 5], [2, 5]), ([0, 6, 0], [0]), ([1, 7, 0, 1, 7], [1]), ([6, 8, 0, 1, 2, 3, 4, 5, 6, 7, 8], [6])])
def spec_DrawAncestorOf.B3 : List Nat := [0, 0, 0, 0, 0, 24, 60, 125, 255, 511]
theorem spec_DrawAncestorOf.tab3 : rtab .any (opsOf Try.f18 3) = spec_DrawAncestorOf.T3 := by kernel_rfl
theorem spec_DrawAncestorOf.bits3 : waitsOk spec_DrawAncestorOf.T3.2 spec_DrawAncestorOf.B3 = true := by kernel_rfl
set_option maxHeartbeats 8000000 in
set_option maxRecDepth 100000 in
theorem spec_DrawAncestorOf.calls (k : Nat) (A0 : Option Addr) (c0 : Nat) (l0 : List Int) (r1 : List Int) (r2 : Int) (r3 : Int) (w : World) (hr0 : Kd.C (Kd.int .u8) w A0 l0.length l0) (hc0 : l0.length ≤ c0) (h : spec_DrawAncestorOf.f k l0 = some (r1, r2, r3)) :
  Calls Try.prog 18 #[.slice A0 l0.length c0] w fun e w' => ∃ v0_ : Value, e = .returned (.tuple #[.agg #[v0_], .int .i64 r2, .int .i64 r3]) ∧ Kd.R (Kd.int .i64) 2 w' w.heap.size (fun _ => True) v0_ r1 ∧ Below w.heap.size w w' := by
 have hu26 := Try.underlying26
 have HR0 := Aside0.mk hr0
 have HC0 := Aside0.mk hc0
 clear hr0 hc0
 have HB := Aside0.mk (Below.refl w.heap.size w)
 have H : ((spec_l01From.f k l0).bind fun bt542 => ((spec_l01With.f k l0).bind fun bt546 => ((spec_l01Pick.f bt542.1 bt542.2.1 bt542.2.2 ([2, 4, 24] : List Int)).bind fun bt555 => ((spec_l01Near.f bt542.1 bt555.2.1 bt555.2.2 bt555.1).bind fun bt558 => (some (bt546.1, bt546.2.1, bt558.1)))))) = some (r1, r2, r3) := h
 clear h
 replace H := Option.bind_eq_some_iff.mp H
 obtain ⟨⟨t542, t543, t544⟩, A20, H⟩ := H
 replace H : ((spec_l01With.f k l0).bind fun bt546 => ((spec_l01Pick.f t542 t543 t544 ([2, 4, 24] : List Int)).bind fun bt555 => ((spec_l01Near.f t542 bt555.2.1 bt555.2.2 bt555.1).bind fun bt558 => (some (bt546.1, bt546.2.1, bt558.1))))) = some (r1, r2, r3) := H
 have A2 := Aside0.mk A20
 clear A20
 replace H := Option.bind_eq_some_iff.mp H
 obtain ⟨⟨t546, t549, t550⟩, A30, H⟩ := H
 replace H : ((spec_l01Pick.f t542 t543 t544 ([2, 4, 24] : List Int)).bind fun bt555 => ((spec_l01Near.f t542 bt555.2.1 bt555.2.2 bt555.1).bind fun bt558 => (some (t546, t549, bt558.1)))) = some (r1, r2, r3) := H
 have A3 := Aside0.mk A30
 clear A30
 obtain ⟨y552, hy552⟩ : ∃ y_ : List Int, y_ = ([2, 4, 24] : List Int) := ⟨_, rfl⟩
 replace H : ((spec_l01Pick.f t542 t543 t544 y552).bind fun bt555 => ((spec_l01Near.f t542 bt555.2.1 bt555.2.2 bt555.1).bind fun bt558 => (some (t546, t549, bt558.1)))) = some (r1, r2, r3) := by first | (rw [hy552]; with_reducible exact H) | (have H2_ := (Option.bind_some _ _).symm.trans H; rw [hy552]; with_reducible exact H2_) | (have H2_ := (Option.bind_some _ _).symm.trans H; with_reducible exact H2_) | with_reducible exact H | (rw [hy552]; exact H) | exact H
 have Ny552 := Aside0.mk hy552
 clear hy552
 replace H := Option.bind_eq_some_iff.mp H
 obtain ⟨⟨t555, t556, t557⟩, A40, H⟩ := H
 replace H : ((spec_l01Near.f t542 t556 t557 t555).bind fun bt558 => (some (t546, t549, bt558.1))) = some (r1, r2, r3) := H
 have A4 := Aside0.mk A40
 clear A40
 replace H := Option.bind_eq_some_iff.mp H
 obtain ⟨⟨t558, t559, t560⟩, A50, H⟩ := H
 replace H : (some (t546, t549, t558)) = some (r1, r2, r3) := H
 have A5 := Aside0.mk A50
 clear A50
 simp only [Option.some.injEq, Prod.mk.injEq] at H
 obtain ⟨rfl, rfl, rfl⟩ := H
 go_enter Try.func18, Try.ntmps18
 try go_wp2_with (first | ((with_reducible refine gate_dst (N := 2) rfl ?_); refine box_event ?hg (N := 2) ?hd (cs := #[.slice none 0 0]) (t := 26) ?hr ?_; (case hd => rfl); (case hg => rfl); (case hr => exact gs); intro gb541 hg w6 hbox hb; have BK541 := Aside0.mk (hbox); have GW541 := Aside0.mk (geb hg hq : w.heap.size ≤ gb541); have GE541 := Aside0.mk (geb hg hq : w.heap.size ≤ gb541); replace HB := Aside0.mk (below_step hq hb); clear hb hbox hg) | ((with_reducible refine gate_callee (f := 37) rfl ?_); refine goesL_ (some 10) rfl rfl Try.func37 (by kernel_rfl) rfl #[.slice A0 l0.length c0] rfl am ?_; (with_reducible refine (spec_l01From.calls k _ _ l0 t542 t543 t544 w _ ?side1 ?side2 ?side3 A2.out).mono ?_); (case side1 => repeat (first | (with_reducible first | exact HB.out | apply below_alloc | apply pw_below_drewN | apply below_drew1 | refine below_set ?_ GE541.out) | exact HB.out)); (case side2 => exact HR0.out); (case side3 => exact HC0.out); rintro e w7 ⟨g545, rfl, hi, hb, hb2⟩; refine ⟨_, rfl, ?_⟩; replace HB := Aside0.mk (hb); have HI545 := Aside0.mk (hi); have NB545_541 := Aside0.mk (IsS97.ne_blk hi (blk_below (pb BK541.out) hb2) (by decide)); have NB541_545 := Aside0.mk (Ne.symm (IsS97.ne_blk hi (blk_below (pb BK541.out) hb2) (by decide))); replace BK541 := Aside0.mk (blk_below (pb BK541.out) hb2); (try clear hb); (try clear hb2); (try clear hk); (try clear hi)) | ((with_reducible refine gate_callee (f := 52) rfl ?_); refine goesL_ (some 13) rfl rfl Try.func52 (by kernel_rfl) rfl #[.slice A0 l0.length c0] rfl am ?_; (with_reducible refine (spec_l01With.calls k _ _ l0 t546 t549 t550 _ ?side1 ?side2 A3.out).mono ?_); (case side1 => exact pc (Kd.C_below HR0.out HB.out)); (case side2 => exact HC0.out); rintro e w8 ⟨v547, rfl, ho0, hb⟩; refine ⟨_, rfl, ?_⟩; have HO548 := Aside0.mk (Kd.R_lower ho0 (below_size q12_1)); replace BK541 := bb BK541 hb; replace HB := Aside0.mk (below_step q12_1 hb); replace HI545 := Aside0.mk (IsS97.below q12_3 hb); (try clear hb); (try clear hb2); (try clear hk); (try clear hi); (try clear ho0)) | ((with_reducible refine gate_dst (N := 6) rfl ?_); refine box_event ?hg (N := 6) ?hd (cs := #[.slice none 0 0]) (t := 26) ?hr ?_; (case hd => rfl); (case hg => rfl); (case hr => exact gs); intro gb551 hg w9 hbox hb; replace HO548 := rb HO548 hb; have BK551 := Aside0.mk (hbox); have GW551 := Aside0.mk (by rw [hg]; exact (below_size q12_1) : w.heap.size ≤ gb551); have GE551 := Aside0.mk (by rw [hg]; exact (below_size q12_1) : w.heap.size ≤ gb551); replace HB := Aside0.mk (below_step q12_1 hb); have NB541_551 := Aside0.mk (nel hg (blk_lt (pb BK541.out)) : gb541 ≠ gb551); have NB551_541 := Aside0.mk (neg hg (blk_lt (pb BK541.out)) : gb551 ≠ gb541); replace BK541 := bb BK541 hb; have NB545_551 := Aside0.mk (by rw [hg]; exact Nat.ne_of_lt (IsS97.lt (show IsS97 w _ g545 t542 t543 t544 from q12_3)) : g545 ≠ gb551); have NB551_545 := Aside0.mk (by rw [hg]; exact Nat.ne_of_gt (IsS97.lt (show IsS97 w _ g545 t542 t543 t544 from q12_3)) : gb551 ≠ g545); replace HI545 := Aside0.mk (IsS97.below q12_3 hb); clear hb hbox hg; obtain ⟨Ao10, co10, eo10⟩ := Kd.R_slice HO548.out; subst eo10; have hnb11 := NB551_541.out; have hnc11 := NB541_551.out; have hnb12 := NB551_545.out; have hnc12 := NB545_551.out; have hcz13_0 : w9.cell? ⟨gb551, 0, none⟩ = some (.slice none 0 0) := (blk_cell BK551.out 0).trans rfl; have hfz13_0 := blk_frozen BK551.out 0))
 have n0_ : Aside0 (Kd.R (Kd.int .i64) 2 (w9.setCell ⟨gb551, 0, none⟩ (.slice Ao10 t546.length co10)) w.heap.size (fun _ => True) (.slice Ao10 t546.length co10) t546) := ⟨pe (Kd.R_mono (Kd.R_far (p := ⟨gb551, 0, none⟩) (Kd.R_types HO548.out BK551.out (by decide)) (fun _ hk => hk.2) (.slice Ao10 t546.length co10)) (fun _ hk => trivial))⟩
 have n1_ : Aside0 ((w9.setCell ⟨gb551, 0, none⟩ (.slice Ao10 t546.length co10)).heap[gb541]? = some (.cells #[.slice none 0 0] 26 (0, 0))) := ⟨by (with_reducible repeat (first | refine blk_drewN ?_ _ | refine blk_drew ?_ | refine blk_alloc ?_ _)); refine blk_far ?_ NB541_551.out _; exact pb BK541.out⟩
 have n2_ : Aside0 ((w9.setCell ⟨gb551, 0, none⟩ (.slice Ao10 t546.length co10)).heap[gb551]? = some (.cells #[.slice Ao10 t546.length co10] 26 (0, 0))) := ⟨by (with_reducible repeat (first | refine blk_drewN ?_ _ | refine blk_drew ?_ | refine blk_alloc ?_ _)); refine blk_put (cs := #[.slice none 0 0]) ?_ 0 _ rfl; exact pb BK551.out⟩
 have n3_ : Aside0 (IsS97 w (w9.setCell ⟨gb551, 0, none⟩ (.slice Ao10 t546.length co10)) g545 t542 t543 t544) := ⟨q12_0⟩
 have n4_ : Aside0 (Below w.heap.size w (w9.setCell ⟨gb551, 0, none⟩ (.slice Ao10 t546.length co10))) := ⟨q12_2⟩
 (try clear HO548)
 (try clear BK541)
 (try clear BK551)
 (try clear HI545)
 (try clear HB)
 generalize (w9.setCell ⟨gb551, 0, none⟩ (.slice Ao10 t546.length co10)) = w14 at n0_ n1_ n2_ n3_ n4_ ⊢
 have HO548 := n0_
 have BK541 := n1_
 have BK551 := n2_
 have HI545 := n3_
 have HB := n4_
 clear n0_ n1_ n2_ n3_ n4_
 have n0_ := Aside0.mk (Kd.R_drew HO548.out)
 have n1_ := Aside0.mk (blk_drew BK541.out)
 have n2_ := Aside0.mk (blk_drew BK551.out)
 have n3_ := Aside0.mk (IsS97.drew HI545.out)
 have n4_ := Aside0.mk (below_drew1 HB.out)
 clear HO548
 clear BK541
 clear BK551
 clear HI545
 clear HB
 have HO548 := n0_
 have BK541 := n1_
 have BK551 := n2_
 have HI545 := n3_
 have HB := n4_
 clear n0_ n1_ n2_ n3_ n4_
 refine start_ (n := 10) (S := fun w' => w'.cell? ⟨gb551, 0, none⟩ = some (.slice Ao10 t546.length co10)) (ds := []) #[false, false, false, false, false, false, false, false, false, false] (by kernel_rfl) rfl rfl ((blk_cell BK551.out 0).trans rfl) (fun hHeld => ?_); refine with_tabW spec_DrawAncestorOf.tab3 spec_DrawAncestorOf.bits3 (fun HT_ HW_ => ?_)
 generalize w14.drew = w15 at HO548 BK541 BK551 HI545 HB hHeld ⊢
 refine pure_ (i := 1) (N := some 18) (v := ?_) (a' := ?_) #[false, true, false, false, false, false, false, false, false, false] rfl rfl (any_of HT_.out (by kernel_rfl)) (fun _ _ _ h => h) (Or.inl ⟨by rfl, ?_⟩) ?_ ?_
 rotate_left
 ·intro w'
  go_simp
  with_reducible rfl
 rotate_left
 ·simp only [Act.put, sIB, sc0, scs, i64_w, i32_w]
  rfl
 refine pure_ (i := 2) (N := some 19) (v := ?_) (a' := ?_) #[false, true, true, false, false, false, false, false, false, false] rfl rfl (any_of HT_.out (by kernel_rfl)) (fun _ _ _ h => h) (Or.inl ⟨by rfl, ?_⟩) ?_ ?_
 rotate_left
 ·intro w'
  go_simp
  with_reducible rfl
 rotate_left
 ·simp only [Act.put, sIB, sc0, scs, i64_w, i32_w]
  rfl
 refine pure_ (i := 3) (N := some 20) (v := ?_) (a' := ?_) #[false, true, true, true, false, false, false, false, false, false] rfl rfl (any_of HT_.out (by kernel_rfl)) (fun _ _ _ h => h) (Or.inl ⟨by rfl, ?_⟩) ?_ ?_
 rotate_left
 ·intro w'
  go_simp
  with_reducible rfl
 rotate_left
 ·simp only [Act.put, sIB, sc0, scs, i64_w, i32_w]
  rfl
 refine take_ (i := 0) (N := some 17) (v := ?_) (a' := ?_) #[true, true, true, true, false, false, false, false, false, false] rfl rfl (take_ofW HT_.out HW_.out (by kernel_rfl)) (fun _ _ _ h => h) (Or.inl ⟨by rfl, ?_⟩) hHeld ?_ ?_
 rotate_left
 ·intro w' s0
  go_simp
  with_reducible rfl
 rotate_left
 ·simp only [Act.put, sIB, sc0, scs, i64_w, i32_w]
  rfl
 refine one_ (i := 4) (N := some 21) #[true, true, true, true, true, false, false, false, false, false] rfl rfl (one_of HT_.out (by kernel_rfl)) (by decide) (fun K hK => ?_)
 refine Kd.R_lit_step (Kd.int .i64) _ 2 ?hg (N := 21) ?hd (xs := ([2, 4, 24] : List Int)) (inner := [.int .i64 2, .int .i64 4, .int .i64 24]) (ok := fun _ => True) (okp := fun _ => True) ?hr ?hp (fun _ hk => hk) trivial (Below.refl _ _) (Nat.le_refl _) (by simp) ?_; (case hd => rfl); (case hg => rfl); (case hr => exact gs); (case hp => exact (Reps.one (show Kd.M (Kd.int .i64) _ _ _ 2 [.int .i64 2] from rfl) (Reps.one (show Kd.M (Kd.int .i64) _ _ _ 4 [.int .i64 4] from rfl) (Reps.one (show Kd.M (Kd.int .i64) _ _ _ 24 [.int .i64 24] from rfl) (Reps.none _ _)))))
 intro v553 w16 ho17 hb hg_ hnew_
 clear hg_ hnew_
 (first | rw [← Ny552.out] at ho17 | (simp only [Int.reduceToNat] at ho17; rw [← Ny552.out] at ho17))
 have n0_ := rn HO548 ho17 hb
 have n1_ := Aside0.mk (Kd.R_lower (Kd.R_new' ho17 (Kd.R_lt (pe HO548.out))) (below_size q12_2))
 have n2_ := bb BK541 hb
 have n3_ := Aside0.mk (IsS97.below q12_0 hb)
 have n4_ := bb BK551 hb
 have n5_ := Aside0.mk (below_step q12_2 hb)
 clear HO548
 clear BK541
 clear HI545
 clear BK551
 clear HB
 have HO548 := n0_
 have HO554 := n1_
 have BK541 := n2_
 have HI545 := n3_
 have BK551 := n4_
 have HB := n5_
 clear n0_ n1_ n2_ n3_ n4_ n5_
 clear hb ho17
 obtain ⟨Ao18, co18, eo18⟩ := Kd.R_slice HO554.out
 (first | subst eo18 | (injection eo18 with f1_ f2_ f3_; have f4_ := f1_.symm; have f5_ := f3_.symm; clear f1_ f2_ f3_; subst f4_; subst f5_))
 refine hK.out _ _ ((blk_cell BK551.out 0).trans rfl) (fun hHeld => ?_)
 clear hK K
 refine norm_ (a' := ?_) ?_ ?_
 rotate_left
 ·show Act.put _ (some 21) _ = _
  simp only [Act.put, sIB, sc0, scs, i64_w, i32_w]
  rfl
 refine one_ (i := 5) (N := some 22) #[true, true, true, true, true, true, false, false, false, false] rfl rfl (one_of HT_.out (by kernel_rfl)) (by decide) (fun K hK => ?_)
 refine goes_ Try.func54 (by kernel_rfl) rfl #[.pointer (some ⟨g545, 0, none⟩), .slice Ao18 y552.length co18] (by rfl) rfl rfl am ?_
 with_reducible refine (spec_l01Pick.calls g545 t542 t543 t544 _ _ y552 t555 t556 t557 w _ ?side1 ?side2 ?side3 ?side4 ?side5 A4.out).mono ?_
 (case side1 => repeat (first | (with_reducible first | exact HI545.out | apply IsS97.alloc | apply IsS97.drewN | apply IsS97.drew | apply IsS97.set_1 | apply IsS97.set_2 | refine IsS97.far ?_ NB545_541.out _ | refine IsS97.far ?_ NB545_551.out _) | exact HI545.out))
 (case side2 => repeat (first | (with_reducible first | exact HB.out | apply below_alloc | apply pw_below_drewN | apply below_drew1 | refine below_set ?_ (IsS97.ge HI545.out) | refine below_set ?_ GE541.out | refine below_set ?_ GE551.out) | exact HB.out))
 (case side3 => exact pc ((Kd.R_reads' HO554.out).2.2))
 (case side4 => exact (Kd.R_reads' HO554.out).2.1)
 (case side5 => exact far_slice (IsS97.own_ne HI545.out HO554.out (by decide)))
 rintro e w19 ⟨rfl, hi, hb, hk⟩
 refine ⟨_, rfl, ?_⟩
 have n0_ := Aside0.mk (KeepBut.blk hk (g' := gb541) (o := .cells #[.slice none 0 0] 26 (0, 0)) (pb BK541.out) NB541_545.out (by simp))
 have n1_ := Aside0.mk (Kd.R_mono (Kd.R_keep (IsS97.apart (show IsS97 w _ g545 t542 t543 t544 from q12_0) (pe HO548.out) (by decide)) hk (fun _ h => h.2)) (fun _ h => h.1))
 have n2_ := Aside0.mk (KeepBut.blk hk (g' := gb551) (o := .cells #[.slice Ao10 t546.length co10] 26 (0, 0)) (pb BK551.out) NB551_545.out (by simp))
 have n3_ := Aside0.mk (Kd.R_mono (Kd.R_keep (IsS97.apart (show IsS97 w _ g545 t542 t543 t544 from q12_0) (pe HO554.out) (by decide)) hk (fun _ h => h.2)) (fun _ h => h.1))
 have n4_ := Aside0.mk (hb)
 have n5_ := Aside0.mk (hi)
 clear BK541
 clear HO548
 clear BK551
 clear HO554
 clear HB
 clear HI545
 have BK541 := n0_
 have HO548 := n1_
 have BK551 := n2_
 have HO554 := n3_
 have HB := n4_
 have HI545 := n5_
 clear n0_ n1_ n2_ n3_ n4_ n5_
 (try clear hb)
 (try clear hb2)
 (try clear hk)
 (try clear hi)
 refine hK.out _ _ ((blk_cell BK551.out 0).trans rfl) (fun hHeld => ?_)
 clear hK K
 refine norm_ (a' := ?_) ?_ ?_
 rotate_left
 ·show Act.put _ (some 22) _ = _
  simp only [Act.put, sIB, sc0, scs, i64_w, i32_w]
  rfl
 refine one_ (i := 6) (N := some 23) #[true, true, true, true, true, true, true, false, false, false] rfl rfl (one_of HT_.out (by kernel_rfl)) (by decide) (fun K hK => ?_)
 refine goes_ Try.func53 (by kernel_rfl) rfl #[.pointer (some ⟨g545, 0, none⟩), .int .i64 t555] (by rfl) rfl rfl am ?_
 with_reducible refine (spec_l01Near.calls g545 t542 t556 t557 t555 t558 t559 t560 w _ ?side1 ?side2 A5.out).mono ?_
 (case side1 => repeat (first | (with_reducible first | exact HI545.out | apply IsS97.alloc | apply IsS97.drewN | apply IsS97.drew | apply IsS97.set_1 | apply IsS97.set_2 | refine IsS97.far ?_ NB545_541.out _ | refine IsS97.far ?_ NB545_551.out _) | exact HI545.out))
 (case side2 => repeat (first | (with_reducible first | exact HB.out | apply below_alloc | apply pw_below_drewN | apply below_drew1 | refine below_set ?_ (IsS97.ge HI545.out) | refine below_set ?_ GE541.out | refine below_set ?_ GE551.out) | exact HB.out))
 rintro e w20 ⟨rfl, hi, hb, hk⟩
 refine ⟨_, rfl, ?_⟩
 have n0_ := Aside0.mk (KeepBut.blk hk (g' := gb541) (o := .cells #[.slice none 0 0] 26 (0, 0)) (pb BK541.out) NB541_545.out (by simp))
 have n1_ := Aside0.mk (Kd.R_mono (Kd.R_keep (IsS97.apart (show IsS97 w _ g545 t542 t556 t557 from q12_0) (pe HO548.out) (by decide)) hk (fun _ h => h.2)) (fun _ h => h.1))
 have n2_ := Aside0.mk (KeepBut.blk hk (g' := gb551) (o := .cells #[.slice Ao10 t546.length co10] 26 (0, 0)) (pb BK551.out) NB551_545.out (by simp))
 have n3_ := Aside0.mk (Kd.R_mono (Kd.R_keep (IsS97.apart (show IsS97 w _ g545 t542 t556 t557 from q12_0) (pe HO554.out) (by decide)) hk (fun _ h => h.2)) (fun _ h => h.1))
 have n4_ := Aside0.mk (hb)
 have n5_ := Aside0.mk (hi)
 clear BK541
 clear HO548
 clear BK551
 clear HO554
 clear HB
 clear HI545
 have BK541 := n0_
 have HO548 := n1_
 have BK551 := n2_
 have HO554 := n3_
 have HB := n4_
 have HI545 := n5_
 clear n0_ n1_ n2_ n3_ n4_ n5_
 (try clear hb)
 (try clear hb2)
 (try clear hk)
 (try clear hi)
 refine hK.out _ _ ((blk_cell BK551.out 0).trans rfl) (fun hHeld => ?_)
 clear hK K
 refine norm_ (a' := ?_) ?_ ?_
 rotate_left
 ·show Act.put _ (some 23) _ = _
  simp only [Act.put, sIB, sc0, scs, i64_w, i32_w]
  rfl
 refine one_ (i := 7) (N := none) #[true, true, true, true, true, true, true, true, false, false] rfl rfl (one_of HT_.out (by kernel_rfl)) (by decide) (fun K hK => ?_)
 have hs21 : w20.cell? ⟨gb541, 0, none⟩ = some (.slice none 0 0) := (blk_cell BK541.out 0).trans rfl
 have hfs21 := blk_frozen BK541.out 0
 have hns21_1 := NB551_541.out
 have hms21_1 := NB541_551.out
 refine skip_ (w1 := ?_) (by rfl) rfl ?_ ?_
 rotate_left
 ·go_simp
  rfl
 refine hK.out _ _ ((cell_far (p := ⟨gb541, _, none⟩) NB551_541.out _).trans (hHeld)) (fun hHeld => ?_)
 clear hK K
 refine pure_ (i := 8) (N := some 3) (v := ?_) (a' := ?_) #[true, true, true, true, true, true, true, true, true, false] rfl rfl (any_of HT_.out (by kernel_rfl)) (fun _ _ _ h => h) (Or.inl ⟨by rfl, ?_⟩) ?_ ?_
 rotate_left
 ·intro w'
  go_simp
  with_reducible rfl
 rotate_left
 ·simp only [Act.put, sIB, sc0, scs, i64_w, i32_w]
  rfl
 refine pure_ (i := 9) (N := some 4) (v := ?_) (a' := ?_) #[true, true, true, true, true, true, true, true, true, true] rfl rfl (any_of HT_.out (by kernel_rfl)) (fun _ _ _ h => h) (Or.inl ⟨by rfl, ?_⟩) ?_ ?_
 rotate_left
 ·intro w'
  go_simp
  with_reducible rfl
 rotate_left
 ·simp only [Act.put, sIB, sc0, scs, i64_w, i32_w]
  rfl
 refine done_ (done_of HT_.out (by kernel_rfl)) ?_
 try go_wp2
 refine bodyPost_ret (results_ctt rfl _ _ gb541 26 #[.slice Ao10 t546.length co10] (0, 0) _ rfl (by (with_reducible repeat (first | refine blk_drewN ?_ _ | refine blk_drew ?_ | refine blk_alloc ?_ _)); refine blk_put (cs := #[.slice none 0 0]) ?_ 0 _ rfl; exact pb BK541.out) Try.underlying26 rfl (by kernel_rfl)) rfl ?_
 exact ⟨_, ew, pe (Kd.R_mono (Kd.R_far (p := ⟨gb541, 0, none⟩) (Kd.R_types HO548.out BK541.out (by decide)) (fun _ hk => hk.2) (.slice Ao10 t546.length co10)) (fun _ hk => trivial)), q12_2⟩

/-! ### impl_AncestorOf: function 19 -/
mutual
def impl_AncestorOf.j0 : Nat → Int → Int → Bool → List Int → Option (Int × Int)
 | 0, _, _, _, _ => none
 | k + 1, x1, x2, x22, x562000 => if x22 = true then (some (0, 2)) else ((impl_parentsOf.f k x562000).bind fun t566 => (impl_AncestorOf.l0 k x1 x2 t566))
def impl_AncestorOf.l0 : Nat → Int → Int → List Int → Option (Int × Int)
 | 0, _, _, _ => none
 | k + 1, x1, x2, x9 => if x2 > 0 then (if x1 ≥ 0 then (if 0 ≤ x1 then (if x1 < (x9.length : Int) then (impl_AncestorOf.l0 k (rd x9 x1) (wrap64 (x2 - 1)) x9) else (none)) else (none)) else (if x1 < 0 then (some (0, 4)) else (some (x1, 0)))) else (if x1 < 0 then (some (0, 4)) else (some (x1, 0)))
end
def impl_AncestorOf.f (k : Nat) (l0_0 : List Int) (a1 : Int) (a2 : Int) : Option (Int × Int) := (impl_treeCode.f k l0_0 ([a1] : List Int)).bind fun t565 => (if t565 = 0 then (if a2 < 0 then (impl_AncestorOf.j0 k a1 a2 true l0_0) else (impl_AncestorOf.j0 k a1 a2 (decide (a2 > 24)) l0_0)) else (some (0, t565)))
theorem impl_AncestorOf.mo0 {P : Prop} (h : P := by repeat' first  | (with_reducible exact ih0 _ _ _ _) | (with_reducible exact ih1 _ _ _) | (with_reducible exact impl_parentsOf.mono _ _) | (with_reducible exact impl_treeCode.mono _ _ _) | (with_reducible exact LeO.refl _) | (with_reducible exact LeO.none _) | (with_reducible refine LeO.ite ?_ ?_) | (with_reducible refine LeO.bind ?_ (fun _ => ?_)) | exact ih0 _ _ _ _ | exact ih1 _ _ _ | exact impl_parentsOf.mono _ _ | exact impl_treeCode.mono _ _ _ | exact LeO.none _ | refine LeO.ite ?_ ?_ | refine LeO.bind ?_ (fun _ => ?_)) : P := h
theorem impl_AncestorOf.mono_l : ∀ k, (∀ y0 y1 y2 y3, LeO (impl_AncestorOf.j0 k y0 y1 y2 y3) (impl_AncestorOf.j0 (k + 1) y0 y1 y2 y3)) ∧ (∀ y0 y1 y2, LeO (impl_AncestorOf.l0 k y0 y1 y2) (impl_AncestorOf.l0 (k + 1) y0 y1 y2))
 | 0 => ⟨fun _ _ _ _ r h => by simp [impl_AncestorOf.j0] at h, fun _ _ _ r h => by simp [impl_AncestorOf.l0] at h⟩
 | k + 1 => by
  obtain ⟨ih0, ih1⟩ := impl_AncestorOf.mono_l k
  refine ⟨?_, ?_⟩
  ·intro y0 y1 y2 y3
   unfold impl_AncestorOf.j0
   exact impl_AncestorOf.mo0
  ·intro y0 y1 y2
   unfold impl_AncestorOf.l0
   exact impl_AncestorOf.mo0
theorem impl_AncestorOf.mono : ∀ a0 a1 a2 k, LeO (impl_AncestorOf.f k a0 a1 a2) (impl_AncestorOf.f (k + 1) a0 a1 a2) := by
 intro a0 a1 a2 k
 obtain ⟨ih0, ih1⟩ := impl_AncestorOf.mono_l k
 unfold impl_AncestorOf.f
 repeat' first
   | (with_reducible exact ih0 _ _ _ _)
   | (with_reducible exact ih1 _ _ _)
   | (with_reducible exact impl_parentsOf.mono _ _)
   | (with_reducible exact impl_treeCode.mono _ _ _)
   | (with_reducible exact LeO.refl _)
   | (with_reducible exact LeO.none _)
   | (with_reducible refine LeO.ite ?_ ?_)
   | (with_reducible refine LeO.bind ?_ (fun _ => ?_))
   | exact ih0 _ _ _ _
   | exact ih1 _ _ _
   | exact impl_parentsOf.mono _ _
   | exact impl_treeCode.mono _ _ _
   | exact LeO.none _
   | refine LeO.ite ?_ ?_
   | refine LeO.bind ?_ (fun _ => ?_)
set_option maxHeartbeats 8000000 in
set_option maxRecDepth 100000 in
theorem impl_AncestorOf.calls (k : Nat) (A0_0 : Option Addr) (c0_0 : Nat) (l0_0 : List Int) (a1 : Int) (a2 : Int) (r1 : Int) (r2 : Int) (w : World) (hr0_0 : Kd.C (Kd.int .i64) w A0_0 l0_0.length l0_0) (hc0_0 : l0_0.length ≤ c0_0) (h : impl_AncestorOf.f k l0_0 a1 a2 = some (r1, r2)) :
  Calls Try.prog 19 #[.agg #[.slice A0_0 l0_0.length c0_0], .int .i64 a1, .int .i64 a2] w fun e w' => e = .returned (.tuple #[.int .i64 r1, .int .i64 r2]) ∧ Below w.heap.size w w' := by
 have hu26 := Try.underlying26
 have HR0_0 := Aside0.mk hr0_0
 have HC0_0 := Aside0.mk hc0_0
 clear hr0_0 hc0_0
 have HB := Aside0.mk (Below.refl w.heap.size w)
 have H : ((impl_treeCode.f k l0_0 ([a1] : List Int)).bind fun t565 => (if t565 = 0 then (if a2 < 0 then (impl_AncestorOf.j0 k a1 a2 true l0_0) else (impl_AncestorOf.j0 k a1 a2 (decide (a2 > 24)) l0_0)) else (some (0, t565)))) = some (r1, r2) := h
 clear h
 obtain ⟨y562, hy562⟩ : ∃ y_ : List Int, y_ = ([a1] : List Int) := ⟨_, rfl⟩
 replace H : ((impl_treeCode.f k l0_0 y562).bind fun t565 => (if t565 = 0 then (if a2 < 0 then (impl_AncestorOf.j0 k a1 a2 true l0_0) else (impl_AncestorOf.j0 k a1 a2 (decide (a2 > 24)) l0_0)) else (some (0, t565)))) = some (r1, r2) := by first | (rw [hy562]; with_reducible exact H) | (have H2_ := (Option.bind_some _ _).symm.trans H; rw [hy562]; with_reducible exact H2_) | (have H2_ := (Option.bind_some _ _).symm.trans H; with_reducible exact H2_) | with_reducible exact H | (rw [hy562]; exact H) | exact H
 have Ny562 := Aside0.mk hy562
 clear hy562
 replace H := Option.bind_eq_some_iff.mp H
 obtain ⟨t565, A40, H⟩ := H
 replace H : (if t565 = 0 then (if a2 < 0 then (impl_AncestorOf.j0 k a1 a2 true l0_0) else (impl_AncestorOf.j0 k a1 a2 (decide (a2 > 24)) l0_0)) else (some (0, t565))) = some (r1, r2) := H
 have A4 := Aside0.mk A40
 clear A40
 by_cases c5 : t565 = 0
 rotate_left
 ·rw [if_neg c5] at H
  have c5b0 : (t565 == 0) = false := beq_eq_false_iff_ne.mpr c5
  have c5b1 : (t565 != 0) = true := bne_iff_ne.mpr c5
  simp only [Option.some.injEq, Prod.mk.injEq] at H
  obtain ⟨rfl, rfl⟩ := H
  go_enter Try.func19, Try.ntmps19
  go_wp2_with (first | ((with_reducible refine gate_dst (N := 3) rfl ?_); refine box_event ?hg (N := 3) ?hd (cs := #[.slice A0_0 l0_0.length c0_0]) (t := 26) ?hr ?_; (case hd => rfl); (case hg => rfl); (case hr => exact gs); intro gb561 hg w25 hbox hb; have BK561 := Aside0.mk (hbox); have GW561 := Aside0.mk (geb hg hq : w.heap.size ≤ gb561); have GE561 := Aside0.mk (geb hg hq : w.heap.size ≤ gb561); replace HB := Aside0.mk (below_step hq hb); clear hb hbox hg; have hcz26_0 : w25.cell? ⟨gb561, 0, none⟩ = some (.slice A0_0 l0_0.length c0_0) := (blk_cell BK561.out 0).trans rfl; have hfz26_0 := blk_frozen BK561.out 0) | ((with_reducible refine gate_dst (N := 12) rfl ?_); refine Kd.R_lit (Kd.int .i64) _ 2 ?hg (N := 12) ?hd (xs := ([a1] : List Int)) (inner := [.int .i64 a1]) (ok := fun _ => True) (okp := fun _ => True) ?hr ?hp (fun _ hk => hk) trivial (Below.refl _ _) (Nat.le_refl _) (by simp) ?_; (case hd => rfl); (case hg => rfl); (case hr => exact gs); (case hp => exact (Reps.one (show Kd.M (Kd.int .i64) _ _ _ a1 [.int .i64 a1] from rfl) (Reps.none _ _))); intro v563 w27 ho28 hb hg_ hnew_; clear hg_ hnew_; (first | rw [← Ny562.out] at ho28 | (simp only [Int.reduceToNat] at ho28; rw [← Ny562.out] at ho28)); have HO564 := Aside0.mk (Kd.R_lower ho28 (below_size hq)); replace BK561 := bb BK561 hb; replace HB := Aside0.mk (below_step hq hb); clear hb ho28; obtain ⟨Ao29, co29, eo29⟩ := Kd.R_slice HO564.out; subst eo29) | ((with_reducible refine gate_callee (f := 47) rfl ?_); refine goesL_ (some 13) rfl rfl Try.func47 (by kernel_rfl) rfl #[.agg #[.slice A0_0 l0_0.length c0_0], .slice Ao29 y562.length co29] rfl am ?_; (with_reducible refine (impl_treeCode.calls k _ _ l0_0 _ _ y562 t565 _ ?side1 ?side2 ?side3 ?side4 A4.out).mono ?_); (case side1 => exact pc (Kd.C_below HR0_0.out HB.out)); (case side2 => exact HC0_0.out); (case side3 => exact pc ((Kd.R_reads' HO564.out).2.2)); (case side4 => exact (Kd.R_reads' HO564.out).2.1); rintro e w30 ⟨rfl, hb⟩; refine ⟨_, rfl, ?_⟩; replace HO564 := rb HO564 hb; replace BK561 := bb BK561 hb; replace HB := Aside0.mk (below_step hq hb); (try clear hb); (try clear hb2); (try clear hk); (try clear hi)))
  go_ret2
  exact ⟨ew, hq⟩
 rw [if_pos c5] at H
 have c5b0 : (t565 == 0) = true := beq_iff_eq.mpr c5
 have c5b1 : (t565 != 0) = false := bne_eq_false_iff_eq.mpr c5
 clear c5
 have HC6 := Aside0.mk H
 clear H
 go_enter Try.func19, Try.ntmps19
 go_upto_region 4 with (first | ((with_reducible refine gate_dst (N := 3) rfl ?_); refine box_event ?hg (N := 3) ?hd (cs := #[.slice A0_0 l0_0.length c0_0]) (t := 26) ?hr ?_; (case hd => rfl); (case hg => rfl); (case hr => exact gs); intro gb561 hg w7 hbox hb; have BK561 := Aside0.mk (hbox); have GW561 := Aside0.mk (geb hg hq : w.heap.size ≤ gb561); have GE561 := Aside0.mk (geb hg hq : w.heap.size ≤ gb561); replace HB := Aside0.mk (below_step hq hb); clear hb hbox hg; have hcz8_0 : w7.cell? ⟨gb561, 0, none⟩ = some (.slice A0_0 l0_0.length c0_0) := (blk_cell BK561.out 0).trans rfl; have hfz8_0 := blk_frozen BK561.out 0) | ((with_reducible refine gate_dst (N := 12) rfl ?_); refine Kd.R_lit (Kd.int .i64) _ 2 ?hg (N := 12) ?hd (xs := ([a1] : List Int)) (inner := [.int .i64 a1]) (ok := fun _ => True) (okp := fun _ => True) ?hr ?hp (fun _ hk => hk) trivial (Below.refl _ _) (Nat.le_refl _) (by simp) ?_; (case hd => rfl); (case hg => rfl); (case hr => exact gs); (case hp => exact (Reps.one (show Kd.M (Kd.int .i64) _ _ _ a1 [.int .i64 a1] from rfl) (Reps.none _ _))); intro v563 w9 ho10 hb hg_ hnew_; clear hg_ hnew_; (first | rw [← Ny562.out] at ho10 | (simp only [Int.reduceToNat] at ho10; rw [← Ny562.out] at ho10)); have HO564 := Aside0.mk (Kd.R_lower ho10 (below_size hq)); replace BK561 := bb BK561 hb; replace HB := Aside0.mk (below_step hq hb); clear hb ho10; obtain ⟨Ao11, co11, eo11⟩ := Kd.R_slice HO564.out; subst eo11) | ((with_reducible refine gate_callee (f := 47) rfl ?_); refine goesL_ (some 13) rfl rfl Try.func47 (by kernel_rfl) rfl #[.agg #[.slice A0_0 l0_0.length c0_0], .slice Ao11 y562.length co11] rfl am ?_; (with_reducible refine (impl_treeCode.calls k _ _ l0_0 _ _ y562 t565 _ ?side1 ?side2 ?side3 ?side4 A4.out).mono ?_); (case side1 => exact pc (Kd.C_below HR0_0.out HB.out)); (case side2 => exact HC0_0.out); (case side3 => exact pc ((Kd.R_reads' HO564.out).2.2)); (case side4 => exact (Kd.R_reads' HO564.out).2.1); rintro e w12 ⟨rfl, hb⟩; refine ⟨_, rfl, ?_⟩; replace HO564 := rb HO564 hb; replace BK561 := bb BK561 hb; replace HB := Aside0.mk (below_step hq hb); (try clear hb); (try clear hb2); (try clear hk); (try clear hi)))
 (try simp only [Act.put, List.setIfInBounds_toArray, List.set_cons_zero, List.set_cons_succ])
 go_cut [22] (fun v22 wc => ∃ (kq : Nat) (x22_5 : Bool), v22 = .bool x22_5 ∧ Aside0 (impl_AncestorOf.j0 kq a1 a2 x22_5 l0_0 = some (r1, r2)) ∧ Aside0 (kq ≤ k) ∧ Aside0 (wc.heap[gb561]? = some (.cells #[(.slice A0_0 l0_0.length c0_0)] 26 (0, 0))) ∧ Aside0 (Below w.heap.size w wc))
 case first =>
  have H := HC6.out
  clear HC6
  by_cases c13 : a2 < 0
  ·rw [if_pos c13] at H
   have c13b0 : decide (a2 < 0) = true := decide_eq_true c13
   clear c13
   (first | rw [c13b0] | (simp only [i64_w, i32_w]; rw [c13b0]) | skip)
   have H' := Aside0.mk H
   clear H
   go_wp2
   go_meet
   case rel => exact ⟨_, (true), q12_4, H', ⟨by first | omega | exact Nat.le_refl _⟩, ⟨pb BK561.out⟩, ⟨hq⟩⟩
  rw [if_neg c13] at H
  have c13b0 : decide (a2 < 0) = false := decide_eq_false c13
  clear c13
  (first | rw [c13b0] | (simp only [i64_w, i32_w]; rw [c13b0]) | skip)
  have H' := Aside0.mk H
  clear H
  go_wp2
  go_meet
  case rel => exact ⟨_, (decide (a2 > 24)), q12_4, H', ⟨by first | omega | exact Nat.le_refl _⟩, ⟨pb BK561.out⟩, ⟨hq⟩⟩
 clear HC6
 try clear c1
 try clear p2
 try clear c4
 try clear c5
 try clear c5b0
 try clear c5b1
 try clear c13
 try clear c13b0
 try clear hcz8_0
 try clear hfz8_0
 obtain ⟨kq, x22_5, rfl, HA, HJ5, BK561, HB⟩ := hcut
 cases kq with | zero => exact absurd HA.out (by simp [impl_AncestorOf.j0]) | succ kj5 => ?_
 have H := HA.out
 clear HA
 simp only [impl_AncestorOf.j0] at H
 by_cases c14 : x22_5 = true
 ·subst c14
  replace H : (some (0, 2)) = some (r1, r2) := by rw [if_pos rfl] at H; exact H
  simp only [Option.some.injEq, Prod.mk.injEq] at H
  obtain ⟨rfl, rfl⟩ := H
  go_wp2
  go_ret2
  exact ⟨ew, hq⟩
 replace c14 := Bool.eq_false_iff.mpr c14
 subst c14
 have H1 : ((impl_parentsOf.f kj5 l0_0).bind fun t566 => (impl_AncestorOf.l0 kj5 a1 a2 t566)) = some (r1, r2) := by rw [if_neg (show ¬ (false = true) by decide)] at H; exact H
 clear H
 have H := H1
 clear H1
 replace H := Option.bind_eq_some_iff.mp H
 obtain ⟨t566, A150, H⟩ := H
 replace H : (impl_AncestorOf.l0 kj5 a1 a2 t566) = some (r1, r2) := H
 have A15 := Aside0.mk A150
 clear A150
 have H' := Aside0.mk H
 clear H
 have hcz16_0 : wc.cell? ⟨gb561, 0, none⟩ = some (.slice A0_0 l0_0.length c0_0) := (blk_cell BK561.out 0).trans rfl
 have hfz16_0 := blk_frozen BK561.out 0
 go_wp2_with (first | ((with_reducible refine gate_callee (f := 48) rfl ?_); refine goesL_ (some 25) rfl rfl Try.func48 (by kernel_rfl) rfl #[.slice A0_0 l0_0.length c0_0] rfl am ?_; (with_reducible refine (impl_parentsOf.calls kj5 _ _ l0_0 t566 _ ?side1 ?side2 A15.out).mono ?_); (case side1 => exact pc (Kd.C_below HR0_0.out HB.out)); (case side2 => exact HC0_0.out); rintro e w17 ⟨v567, rfl, ho0, hb⟩; refine ⟨_, rfl, ?_⟩; have HO568 := Aside0.mk (Kd.R_lower ho0 (below_size hq)); replace BK561 := bb BK561 hb; replace HB := Aside0.mk (below_step hq hb); (try clear hb); (try clear hb2); (try clear hk); (try clear hi); (try clear ho0)))
 go_loopg [1, 2] kj5 (fun kq v1 v2 w' => ∃ (x1_2 : Int) (x2_2 : Int), v1 = .int .i64 x1_2 ∧ v2 = .int .i64 x2_2 ∧ Aside0 (impl_AncestorOf.l0 kq x1_2 x2_2 t566 = some (r1, r2)) ∧ Aside0 (kq ≤ kj5) ∧ Aside0 (Kd.R (Kd.int .i64) 2 w' w.heap.size (fun _ => True) v567 t566) ∧ Aside0 (w'.heap[gb561]? = some (.cells #[(.slice A0_0 l0_0.length c0_0)] 26 (0, 0))) ∧ Aside0 (Below w.heap.size w w'))
 case atStart => exact ⟨(a1), (a2), q12_4, q12_4, H', ⟨Nat.le_refl _⟩, ⟨pe HO568.out⟩, ⟨pb BK561.out⟩, ⟨hq⟩⟩
 case round =>
  clear H'
  try clear c1
  try clear p2
  try clear c4
  try clear c5
  try clear c5b0
  try clear c5b1
  try clear c13
  try clear c13b0
  try clear c14
  try clear hcz16_0
  try clear hcz8_0
  try clear hfz16_0
  try clear hfz8_0
  try clear p2
  obtain ⟨x1_2, x2_2, rfl, rfl, HA, HK2, HO_9, BK561, HB⟩ := hrel
  cases gk with | zero => exact absurd HA.out (by simp [impl_AncestorOf.l0]) | succ k2 => ?_
  have H := HA.out
  clear HA
  simp only [impl_AncestorOf.l0] at H
  by_cases c18 : x2_2 > 0
  rotate_left
  ·rw [if_neg c18] at H
   have c18b0 : decide (0 < x2_2) = false := decide_eq_false c18
   clear c18
   by_cases c24 : x1_2 < 0
   ·rw [if_pos c24] at H
    have c24b0 : decide (x1_2 < 0) = true := decide_eq_true c24
    clear c24
    simp only [Option.some.injEq, Prod.mk.injEq] at H
    obtain ⟨rfl, rfl⟩ := H
    go_wp2
    go_ret2
    exact ⟨ew, hq⟩
   rw [if_neg c24] at H
   have c24b0 : decide (x1_2 < 0) = false := decide_eq_false c24
   clear c24
   simp only [Option.some.injEq, Prod.mk.injEq] at H
   obtain ⟨rfl, rfl⟩ := H
   go_wp2
   go_ret2
   exact ⟨ew, hq⟩
  rw [if_pos c18] at H
  have c18b0 : decide (0 < x2_2) = true := decide_eq_true c18
  clear c18
  by_cases c19 : x1_2 ≥ 0
  rotate_left
  ·rw [if_neg c19] at H
   have c19b0 : decide (0 ≤ x1_2) = false := decide_eq_false c19
   clear c19
   by_cases c23 : x1_2 < 0
   ·rw [if_pos c23] at H
    have c23b0 : decide (x1_2 < 0) = true := decide_eq_true c23
    clear c23
    simp only [Option.some.injEq, Prod.mk.injEq] at H
    obtain ⟨rfl, rfl⟩ := H
    go_wp2
    go_ret2
    exact ⟨ew, hq⟩
   rw [if_neg c23] at H
   have c23b0 : decide (x1_2 < 0) = false := decide_eq_false c23
   clear c23
   simp only [Option.some.injEq, Prod.mk.injEq] at H
   obtain ⟨rfl, rfl⟩ := H
   go_wp2
   go_ret2
   exact ⟨ew, hq⟩
  rw [if_pos c19] at H
  have c19b0 : decide (0 ≤ x1_2) = true := decide_eq_true c19
  clear c19
  by_cases c20 : 0 ≤ x1_2
  rotate_left
  ·rw [if_neg c20] at H
   exact absurd H (by simp)
  rw [if_pos c20] at H
  have c20b0 : decide (0 ≤ x1_2) = true := decide_eq_true c20
  clear c20
  by_cases c21 : x1_2 < (t566.length : Int)
  rotate_left
  ·rw [if_neg c21] at H
   exact absurd H (by simp)
  rw [if_pos c21] at H
  have c21b0 : decide (x1_2 < (t566.length : Int)) = true := decide_eq_true c21
  clear c21
  have H' := Aside0.mk H
  clear H
  obtain ⟨Ao22, co22, eo22⟩ := Kd.R_slice HO_9.out
  subst eo22
  have p569 : 0 ≤ (x1_2 : Int) := of_decide_eq_true q12_5
  have q569 : x1_2 < (t566.length : Int) := of_decide_eq_true q12_5
  (try (obtain ⟨Aop_, cop_, eop_⟩ := Kd.R_slice HO_9.out; subst eop_))
  obtain ⟨ad569, e569, hx569_0⟩ := Kd.at_int (Kd.R_reads' HO_9.out).2.2 x1_2 p569 q569
  cases e569
  replace p569 := eq_true p569
  replace q569 := eq_true q569
  go_wp2
  go_roundg k2
  case measure => have := HJ5.out; have := HK2.out; omega
  case rel => exact ⟨(rd t566 x1_2), (wrap64 (x2_2 - 1)), q12_4, q12_4, H', ⟨by have := HJ5.out; have := HK2.out; omega⟩, ⟨pe HO_9.out⟩, ⟨pb BK561.out⟩, ⟨hq⟩⟩

/-! ### spec_AncestorOf: function 20 -/
mutual
def spec_AncestorOf.j0 : Nat → Int → Int → Int → Bool → List Int → Option (Int × Int)
 | 0, _, _, _, _, _ => none
 | k + 1, x1, x2, x8, x20, x571000 => if x20 = true then (spec_AncestorOf.j1 k x1 x2 2 x571000) else (spec_AncestorOf.j1 k x1 x2 x8 x571000)
def spec_AncestorOf.j1 : Nat → Int → Int → Int → List Int → Option (Int × Int)
 | 0, _, _, _, _ => none
 | k + 1, x1, x2, x8, x571000 => if x8 = 0 then ((spec_l01Parents.f k x571000).bind fun t576 => (spec_AncestorOf.l0 k x1 x2 t576)) else (some (0, x8))
def spec_AncestorOf.l0 : Nat → Int → Int → List Int → Option (Int × Int)
 | 0, _, _, _ => none
 | k + 1, x1, x2, x9 => if x2 > 0 then (if 0 ≤ x1 then (if x1 < (x9.length : Int) then (if (rd x9 x1) < 0 then (some (0, 4)) else (spec_AncestorOf.l0 k (rd x9 x1) (wrap64 (x2 - 1)) x9)) else (none)) else (none)) else (some (x1, 0))
end
def spec_AncestorOf.f (k : Nat) (l0_0 : List Int) (a1 : Int) (a2 : Int) : Option (Int × Int) := (spec_l01Nodes.f k l0_0 ([a1] : List Int)).bind fun t574 => (if t574 = 0 then ((spec_l01In.f a2 0 24).bind fun t575 => (spec_AncestorOf.j0 k a1 a2 t574 (!t575) l0_0)) else (spec_AncestorOf.j0 k a1 a2 t574 false l0_0))
theorem spec_AncestorOf.mo0 {P : Prop} (h : P := by repeat' first  | (with_reducible exact ih0 _ _ _ _ _) | (with_reducible exact ih1 _ _ _ _) | (with_reducible exact ih2 _ _ _) | (with_reducible exact spec_l01Nodes.mono _ _ _) | (with_reducible exact spec_l01Parents.mono _ _) | (with_reducible exact LeO.refl _) | (with_reducible exact LeO.none _) | (with_reducible refine LeO.ite ?_ ?_) | (with_reducible refine LeO.bind ?_ (fun _ => ?_)) | exact ih0 _ _ _ _ _ | exact ih1 _ _ _ _ | exact ih2 _ _ _ | exact spec_l01Nodes.mono _ _ _ | exact spec_l01Parents.mono _ _ | exact LeO.none _ | refine LeO.ite ?_ ?_ | refine LeO.bind ?_ (fun _ => ?_)) : P := h
theorem spec_AncestorOf.mono_l : ∀ k, (∀ y0 y1 y2 y3 y4, LeO (spec_AncestorOf.j0 k y0 y1 y2 y3 y4) (spec_AncestorOf.j0 (k + 1) y0 y1 y2 y3 y4)) ∧ (∀ y0 y1 y2 y3, LeO (spec_AncestorOf.j1 k y0 y1 y2 y3) (spec_AncestorOf.j1 (k + 1) y0 y1 y2 y3)) ∧ (∀ y0 y1 y2, LeO (spec_AncestorOf.l0 k y0 y1 y2) (spec_AncestorOf.l0 (k + 1) y0 y1 y2))
 | 0 => ⟨fun _ _ _ _ _ r h => by simp [spec_AncestorOf.j0] at h, fun _ _ _ _ r h => by simp [spec_AncestorOf.j1] at h, fun _ _ _ r h => by simp [spec_AncestorOf.l0] at h⟩
 | k + 1 => by
  obtain ⟨ih0, ih1, ih2⟩ := spec_AncestorOf.mono_l k
  refine ⟨?_, ?_, ?_⟩
  ·intro y0 y1 y2 y3 y4
   unfold spec_AncestorOf.j0
   exact spec_AncestorOf.mo0
  ·intro y0 y1 y2 y3
   unfold spec_AncestorOf.j1
   exact spec_AncestorOf.mo0
  ·intro y0 y1 y2
   unfold spec_AncestorOf.l0
   exact spec_AncestorOf.mo0
theorem spec_AncestorOf.mono : ∀ a0 a1 a2 k, LeO (spec_AncestorOf.f k a0 a1 a2) (spec_AncestorOf.f (k + 1) a0 a1 a2) := by
 intro a0 a1 a2 k
 obtain ⟨ih0, ih1, ih2⟩ := spec_AncestorOf.mono_l k
 unfold spec_AncestorOf.f
 repeat' first
   | (with_reducible exact ih0 _ _ _ _ _)
   | (with_reducible exact ih1 _ _ _ _)
   | (with_reducible exact ih2 _ _ _)
   | (with_reducible exact spec_l01Nodes.mono _ _ _)
   | (with_reducible exact spec_l01Parents.mono _ _)
   | (with_reducible exact LeO.refl _)
   | (with_reducible exact LeO.none _)
   | (with_reducible refine LeO.ite ?_ ?_)
   | (with_reducible refine LeO.bind ?_ (fun _ => ?_))
   | exact ih0 _ _ _ _ _
   | exact ih1 _ _ _ _
   | exact ih2 _ _ _
   | exact spec_l01Nodes.mono _ _ _
   | exact spec_l01Parents.mono _ _
   | exact LeO.none _
   | refine LeO.ite ?_ ?_
   | refine LeO.bind ?_ (fun _ => ?_)
set_option maxHeartbeats 8000000 in
set_option maxRecDepth 100000 in
theorem spec_AncestorOf.calls (k : Nat) (A0_0 : Option Addr) (c0_0 : Nat) (l0_0 : List Int) (a1 : Int) (a2 : Int) (r1 : Int) (r2 : Int) (w : World) (hr0_0 : Kd.C (Kd.int .i64) w A0_0 l0_0.length l0_0) (hc0_0 : l0_0.length ≤ c0_0) (h : spec_AncestorOf.f k l0_0 a1 a2 = some (r1, r2)) :
  Calls Try.prog 20 #[.agg #[.slice A0_0 l0_0.length c0_0], .int .i64 a1, .int .i64 a2] w fun e w' => e = .returned (.tuple #[.int .i64 r1, .int .i64 r2]) ∧ Below w.heap.size w w' := by
 have hu26 := Try.underlying26
 have HR0_0 := Aside0.mk hr0_0
 have HC0_0 := Aside0.mk hc0_0
 clear hr0_0 hc0_0
 have HB := Aside0.mk (Below.refl w.heap.size w)
 have H : ((spec_l01Nodes.f k l0_0 ([a1] : List Int)).bind fun t574 => (if t574 = 0 then ((spec_l01In.f a2 0 24).bind fun t575 => (spec_AncestorOf.j0 k a1 a2 t574 (!t575) l0_0)) else (spec_AncestorOf.j0 k a1 a2 t574 false l0_0))) = some (r1, r2) := h
 clear h
 obtain ⟨y571, hy571⟩ : ∃ y_ : List Int, y_ = ([a1] : List Int) := ⟨_, rfl⟩
 replace H : ((spec_l01Nodes.f k l0_0 y571).bind fun t574 => (if t574 = 0 then ((spec_l01In.f a2 0 24).bind fun t575 => (spec_AncestorOf.j0 k a1 a2 t574 (!t575) l0_0)) else (spec_AncestorOf.j0 k a1 a2 t574 false l0_0))) = some (r1, r2) := by first | (rw [hy571]; with_reducible exact H) | (have H2_ := (Option.bind_some _ _).symm.trans H; rw [hy571]; with_reducible exact H2_) | (have H2_ := (Option.bind_some _ _).symm.trans H; with_reducible exact H2_) | with_reducible exact H | (rw [hy571]; exact H) | exact H
 have Ny571 := Aside0.mk hy571
 clear hy571
 replace H := Option.bind_eq_some_iff.mp H
 obtain ⟨t574, A40, H⟩ := H
 replace H : (if t574 = 0 then ((spec_l01In.f a2 0 24).bind fun t575 => (spec_AncestorOf.j0 k a1 a2 t574 (!t575) l0_0)) else (spec_AncestorOf.j0 k a1 a2 t574 false l0_0)) = some (r1, r2) := H
 have A4 := Aside0.mk A40
 clear A40
 have HC5 := Aside0.mk H
 clear H
 go_enter Try.func20, Try.ntmps20
 go_upto_region 2 with (first | ((with_reducible refine gate_dst (N := 3) rfl ?_); refine box_event ?hg (N := 3) ?hd (cs := #[.slice A0_0 l0_0.length c0_0]) (t := 26) ?hr ?_; (case hd => rfl); (case hg => rfl); (case hr => exact gs); intro gb570 hg w6 hbox hb; have BK570 := Aside0.mk (hbox); have GW570 := Aside0.mk (geb hg hq : w.heap.size ≤ gb570); have GE570 := Aside0.mk (geb hg hq : w.heap.size ≤ gb570); replace HB := Aside0.mk (below_step hq hb); clear hb hbox hg; have hcz7_0 : w6.cell? ⟨gb570, 0, none⟩ = some (.slice A0_0 l0_0.length c0_0) := (blk_cell BK570.out 0).trans rfl; have hfz7_0 := blk_frozen BK570.out 0) | ((with_reducible refine gate_dst (N := 12) rfl ?_); refine Kd.R_lit (Kd.int .i64) _ 2 ?hg (N := 12) ?hd (xs := ([a1] : List Int)) (inner := [.int .i64 a1]) (ok := fun _ => True) (okp := fun _ => True) ?hr ?hp (fun _ hk => hk) trivial (Below.refl _ _) (Nat.le_refl _) (by simp) ?_; (case hd => rfl); (case hg => rfl); (case hr => exact gs); (case hp => exact (Reps.one (show Kd.M (Kd.int .i64) _ _ _ a1 [.int .i64 a1] from rfl) (Reps.none _ _))); intro v572 w8 ho9 hb hg_ hnew_; clear hg_ hnew_; (first | rw [← Ny571.out] at ho9 | (simp only [Int.reduceToNat] at ho9; rw [← Ny571.out] at ho9)); have HO573 := Aside0.mk (Kd.R_lower ho9 (below_size hq)); replace BK570 := bb BK570 hb; replace HB := Aside0.mk (below_step hq hb); clear hb ho9; obtain ⟨Ao10, co10, eo10⟩ := Kd.R_slice HO573.out; subst eo10) | ((with_reducible refine gate_callee (f := 49) rfl ?_); refine goesL_ (some 13) rfl rfl Try.func49 (by kernel_rfl) rfl #[.agg #[.slice A0_0 l0_0.length c0_0], .slice Ao10 y571.length co10] rfl am ?_; (with_reducible refine (spec_l01Nodes.calls k _ _ l0_0 _ _ y571 t574 _ ?side1 ?side2 ?side3 ?side4 A4.out).mono ?_); (case side1 => exact pc (Kd.C_below HR0_0.out HB.out)); (case side2 => exact HC0_0.out); (case side3 => exact pc ((Kd.R_reads' HO573.out).2.2)); (case side4 => exact (Kd.R_reads' HO573.out).2.1); rintro e w11 ⟨rfl, hb⟩; refine ⟨_, rfl, ?_⟩; replace HO573 := rb HO573 hb; replace BK570 := bb BK570 hb; replace HB := Aside0.mk (below_step hq hb); (try clear hb); (try clear hb2); (try clear hk); (try clear hi)))
 (try simp only [Act.put, List.setIfInBounds_toArray, List.set_cons_zero, List.set_cons_succ])
 go_cut [20] (fun v20 wc => ∃ (kq : Nat) (x20_4 : Bool), v20 = .bool x20_4 ∧ Aside0 (spec_AncestorOf.j0 kq a1 a2 t574 x20_4 l0_0 = some (r1, r2)) ∧ Aside0 (kq ≤ k) ∧ Aside0 (wc.heap[gb570]? = some (.cells #[(.slice A0_0 l0_0.length c0_0)] 26 (0, 0))) ∧ Aside0 (Below w.heap.size w wc))
 case first =>
  have H := HC5.out
  clear HC5
  by_cases c12 : t574 = 0
  rotate_left
  ·rw [if_neg c12] at H
   have c12b0 : (t574 == 0) = false := beq_eq_false_iff_ne.mpr c12
   have c12b1 : (t574 != 0) = true := bne_iff_ne.mpr c12
   (first | rw [c12b0] | (simp only [i64_w, i32_w]; rw [c12b0]) | skip)
   have H' := Aside0.mk H
   clear H
   go_wp2
   go_meet
   case rel => exact ⟨_, (false), q12_4, H', ⟨by first | omega | exact Nat.le_refl _⟩, ⟨pb BK570.out⟩, ⟨hq⟩⟩
  rw [if_pos c12] at H
  have c12b0 : (t574 == 0) = true := beq_iff_eq.mpr c12
  have c12b1 : (t574 != 0) = false := bne_eq_false_iff_eq.mpr c12
  clear c12
  (first | rw [c12b0] | (simp only [i64_w, i32_w]; rw [c12b0]) | skip)
  replace H := Option.bind_eq_some_iff.mp H
  obtain ⟨t575, A130, H⟩ := H
  replace H : (spec_AncestorOf.j0 k a1 a2 t574 (!t575) l0_0) = some (r1, r2) := H
  have A13 := Aside0.mk A130
  clear A130
  have H' := Aside0.mk H
  clear H
  go_wp2_with (first | (go_at_call 55; (with_reducible refine (spec_l01In.calls a2 0 24 t575 _ A13.out).mono ?_); rintro e w' ⟨rfl, ⟨nd, rfl⟩⟩))
  go_meet
  case rel => exact ⟨_, (!t575), q12_4, H', ⟨by first | omega | exact Nat.le_refl _⟩, ⟨pb BK570.out⟩, ⟨hq⟩⟩
 clear HC5
 try clear c1
 try clear c2
 try clear p2
 try clear c4
 try clear c12
 try clear c12b0
 try clear c12b1
 try clear hcz7_0
 try clear hfz7_0
 obtain ⟨kq, x20_4, rfl, HA, HJ4, BK570, HB⟩ := hcut
 cases kq with | zero => exact absurd HA.out (by simp [spec_AncestorOf.j0]) | succ kj4 => ?_
 have H := HA.out
 clear HA
 simp only [spec_AncestorOf.j0] at H
 have HC14 := Aside0.mk H
 clear H
 go_upto_if 20 with (fail)
 go_cut [8] (fun v8 wc => ∃ (kq : Nat) (x8_13 : Int), v8 = .int .i64 x8_13 ∧ Aside0 (spec_AncestorOf.j1 kq a1 a2 x8_13 l0_0 = some (r1, r2)) ∧ Aside0 (kq ≤ kj4) ∧ Aside0 (wc.heap[gb570]? = some (.cells #[(.slice A0_0 l0_0.length c0_0)] 26 (0, 0))) ∧ Aside0 (Below w.heap.size w wc))
 case first =>
  have H := HC14.out
  clear HC14
  by_cases c15 : x20_4 = true
  ·subst c15
   replace H : (spec_AncestorOf.j1 kj4 a1 a2 2 l0_0) = some (r1, r2) := by rw [if_pos rfl] at H; exact H
   have H' := Aside0.mk H
   clear H
   go_wp2
   go_meet
   case rel => exact ⟨_, (2), q12_4, H', ⟨by have := HJ4.out; first | omega | exact Nat.le_refl _⟩, ⟨pb BK570.out⟩, ⟨hq⟩⟩
  replace c15 := Bool.eq_false_iff.mpr c15
  subst c15
  have H1 : (spec_AncestorOf.j1 kj4 a1 a2 t574 l0_0) = some (r1, r2) := by rw [if_neg (show ¬ (false = true) by decide)] at H; exact H
  clear H
  have H := H1
  clear H1
  have H' := Aside0.mk H
  clear H
  go_wp2
  go_meet
  case rel => exact ⟨_, (t574), q12_4, H', ⟨by have := HJ4.out; first | omega | exact Nat.le_refl _⟩, ⟨pb BK570.out⟩, ⟨hq⟩⟩
 clear HC14
 try clear c1
 try clear c2
 try clear p2
 try clear c4
 try clear c12
 try clear c12b0
 try clear c12b1
 try clear c15
 try clear hcz7_0
 try clear hfz7_0
 try clear p2
 obtain ⟨kq, x8_13, rfl, HA, HJ13, BK570, HB⟩ := hcut
 cases kq with | zero => exact absurd HA.out (by simp [spec_AncestorOf.j1]) | succ kj13 => ?_
 have H := HA.out
 clear HA
 simp only [spec_AncestorOf.j1] at H
 by_cases c16 : x8_13 = 0
 rotate_left
 ·rw [if_neg c16] at H
  have c16b0 : (x8_13 == 0) = false := beq_eq_false_iff_ne.mpr c16
  have c16b1 : (x8_13 != 0) = true := bne_iff_ne.mpr c16
  simp only [Option.some.injEq, Prod.mk.injEq] at H
  obtain ⟨rfl, rfl⟩ := H
  go_wp2
  go_ret2
  exact ⟨ew, hq⟩
 rw [if_pos c16] at H
 have c16b0 : (x8_13 == 0) = true := beq_iff_eq.mpr c16
 have c16b1 : (x8_13 != 0) = false := bne_eq_false_iff_eq.mpr c16
 clear c16
 replace H := Option.bind_eq_some_iff.mp H
 obtain ⟨t576, A170, H⟩ := H
 replace H : (spec_AncestorOf.l0 kj13 a1 a2 t576) = some (r1, r2) := H
 have A17 := Aside0.mk A170
 clear A170
 have H' := Aside0.mk H
 clear H
 have hcz18_0 : wc.cell? ⟨gb570, 0, none⟩ = some (.slice A0_0 l0_0.length c0_0) := (blk_cell BK570.out 0).trans rfl
 have hfz18_0 := blk_frozen BK570.out 0
 go_wp2_with (first | ((with_reducible refine gate_callee (f := 42) rfl ?_); refine goesL_ (some 25) rfl rfl Try.func42 (by kernel_rfl) rfl #[.agg #[.slice A0_0 l0_0.length c0_0]] rfl am ?_; (with_reducible refine (spec_l01Parents.calls kj13 _ _ l0_0 t576 _ ?side1 ?side2 A17.out).mono ?_); (case side1 => exact pc (Kd.C_below HR0_0.out HB.out)); (case side2 => exact HC0_0.out); rintro e w19 ⟨v577, rfl, ho0, hb⟩; refine ⟨_, rfl, ?_⟩; have HO578 := Aside0.mk (Kd.R_lower ho0 (below_size hq)); replace BK570 := bb BK570 hb; replace HB := Aside0.mk (below_step hq hb); (try clear hb); (try clear hb2); (try clear hk); (try clear hi); (try clear ho0)))
 go_loopg [1, 2] kj13 (fun kq v1 v2 w' => ∃ (x1_3 : Int) (x2_3 : Int), v1 = .int .i64 x1_3 ∧ v2 = .int .i64 x2_3 ∧ Aside0 (spec_AncestorOf.l0 kq x1_3 x2_3 t576 = some (r1, r2)) ∧ Aside0 (kq ≤ kj13) ∧ Aside0 (Kd.R (Kd.int .i64) 2 w' w.heap.size (fun _ => True) v577 t576) ∧ Aside0 (w'.heap[gb570]? = some (.cells #[(.slice A0_0 l0_0.length c0_0)] 26 (0, 0))) ∧ Aside0 (Below w.heap.size w w'))
 case atStart => exact ⟨(a1), (a2), q12_4, q12_4, H', ⟨Nat.le_refl _⟩, ⟨pe HO578.out⟩, ⟨pb BK570.out⟩, ⟨hq⟩⟩
 case round =>
  clear H'
  try clear c1
  try clear c2
  try clear p2
  try clear c4
  try clear c12
  try clear c12b0
  try clear c12b1
  try clear c15
  try clear c16
  try clear c16b0
  try clear c16b1
  try clear hcz18_0
  try clear hcz7_0
  try clear hfz18_0
  try clear hfz7_0
  try clear p2
  obtain ⟨x1_3, x2_3, rfl, rfl, HA, HK3, HO_9, BK570, HB⟩ := hrel
  cases gk with | zero => exact absurd HA.out (by simp [spec_AncestorOf.l0]) | succ k3 => ?_
  have H := HA.out
  clear HA
  simp only [spec_AncestorOf.l0] at H
  by_cases c20 : x2_3 > 0
  rotate_left
  ·rw [if_neg c20] at H
   have c20b0 : decide (0 < x2_3) = false := decide_eq_false c20
   clear c20
   simp only [Option.some.injEq, Prod.mk.injEq] at H
   obtain ⟨rfl, rfl⟩ := H
   go_wp2
   go_ret2
   exact ⟨ew, hq⟩
  rw [if_pos c20] at H
  have c20b0 : decide (0 < x2_3) = true := decide_eq_true c20
  clear c20
  by_cases c21 : 0 ≤ x1_3
  rotate_left
  ·rw [if_neg c21] at H
   exact absurd H (by simp)
  rw [if_pos c21] at H
  have c21b0 : decide (0 ≤ x1_3) = true := decide_eq_true c21
  clear c21
  by_cases c22 : x1_3 < (t576.length : Int)
  rotate_left
  ·rw [if_neg c22] at H
   exact absurd H (by simp)
  rw [if_pos c22] at H
  have c22b0 : decide (x1_3 < (t576.length : Int)) = true := decide_eq_true c22
  clear c22
  by_cases c23 : (rd t576 x1_3) < 0
  ·rw [if_pos c23] at H
   have c23b0 : decide ((rd t576 x1_3) < 0) = true := decide_eq_true c23
   clear c23
   simp only [Option.some.injEq, Prod.mk.injEq] at H
   obtain ⟨rfl, rfl⟩ := H
   obtain ⟨Ao24, co24, eo24⟩ := Kd.R_slice HO_9.out
   subst eo24
   have p579 : 0 ≤ (x1_3 : Int) := of_decide_eq_true q12_5
   have q579 : x1_3 < (t576.length : Int) := of_decide_eq_true q12_5
   (try (obtain ⟨Aop_, cop_, eop_⟩ := Kd.R_slice HO_9.out; subst eop_))
   obtain ⟨ad579, e579, hx579_0⟩ := Kd.at_int (Kd.R_reads' HO_9.out).2.2 x1_3 p579 q579
   cases e579
   replace p579 := eq_true p579
   replace q579 := eq_true q579
   go_wp2
   go_ret2
   exact ⟨ew, hq⟩
  rw [if_neg c23] at H
  have c23b0 : decide ((rd t576 x1_3) < 0) = false := decide_eq_false c23
  clear c23
  have H' := Aside0.mk H
  clear H
  obtain ⟨Ao25, co25, eo25⟩ := Kd.R_slice HO_9.out
  subst eo25
  have p579 : 0 ≤ (x1_3 : Int) := of_decide_eq_true q12_5
  have q579 : x1_3 < (t576.length : Int) := of_decide_eq_true q12_5
  (try (obtain ⟨Aop_, cop_, eop_⟩ := Kd.R_slice HO_9.out; subst eop_))
  obtain ⟨ad579, e579, hx579_0⟩ := Kd.at_int (Kd.R_reads' HO_9.out).2.2 x1_3 p579 q579
  cases e579
  replace p579 := eq_true p579
  replace q579 := eq_true q579
  go_wp2
  go_roundg k3
  case measure => have := HJ4.out; have := HJ13.out; have := HK3.out; omega
  case rel => exact ⟨(rd t576 x1_3), (wrap64 (x2_3 - 1)), q12_4, q12_4, H', ⟨by have := HJ4.out; have := HJ13.out; have := HK3.out; omega⟩, ⟨pe HO_9.out⟩, ⟨pb BK570.out⟩, ⟨hq⟩⟩

end Go.Proofs.Ytlppkilencpmeaa.QFnHeavyPaths
