/- Functions as Lean functions, with their contracts: written by a program of this claim over the translation; some contracts are proved by hand. -/
import Derived.Test.YtlppkilencpmeaaQFnHeavyPathsx0
import Derived.Test.YtlppkilencpmeaaQFnHeavyPathsx4
import Derived.Test.YtlppkilencpmeaaQFnHeavyPathsx9
namespace Go.Proofs.Ytlppkilencpmeaa.QFnHeavyPaths
open Go.RowKit Go.Proofs.Ytlppkilencpmeaa.Gl Go.Proofs.Ytlppkilencpmeaa.Sz Go.Proofs.YtlppkilencpmeaaW.PrintWords Go.Proofs.YtlppkilencpmeaaW.PrintLast Go.Proofs.YtlppkilencpmeaaW.PrintMore
attribute [local go_sem] max2_int min2_int max_two min_two max_three min_three max_four min_four   -- for this text's walks alone
set_option linter.unusedVariables false
set_option linter.unusedSimpArgs false

/-! ### impl_isBelow: function 56 -/
def impl_isBelow.f (k : Nat) (l0 : List Int) (a1 : Int) (a2 : Int) : Option (Bool) := if a1 ≥ a2 then ((impl_endOf.f k l0 a2).bind fun t580 => (some (decide (a1 < t580)))) else (some false)
theorem impl_isBelow.mono : ∀ a0 a1 a2 k, LeO (impl_isBelow.f k a0 a1 a2) (impl_isBelow.f (k + 1) a0 a1 a2) := by
 intro a0 a1 a2 k
 unfold impl_isBelow.f
 repeat' first
   | (with_reducible exact impl_endOf.mono _ _ _)
   | (with_reducible exact LeO.refl _)
   | (with_reducible exact LeO.none _)
   | (with_reducible refine LeO.ite ?_ ?_)
   | (with_reducible refine LeO.bind ?_ (fun _ => ?_))
   | exact impl_endOf.mono _ _ _
   | exact LeO.none _
   | refine LeO.ite ?_ ?_
   | refine LeO.bind ?_ (fun _ => ?_)
set_option maxHeartbeats 8000000 in
set_option maxRecDepth 100000 in
theorem impl_isBelow.calls (k : Nat) (A0 : Option Addr) (c0 : Nat) (l0 : List Int) (a1 : Int) (a2 : Int) (r : Bool) (w : World) (hr0 : Kd.C (Kd.int .i64) w A0 l0.length l0) (hc0 : l0.length ≤ c0) (h : impl_isBelow.f k l0 a1 a2 = some r) :
  Calls Try.prog 56 #[.slice A0 l0.length c0, .int .i64 a1, .int .i64 a2] w fun e w' => e = .returned (.bool r) ∧ Drawn0 w w' := by
 have HR0 := Aside0.mk hr0
 have HC0 := Aside0.mk hc0
 clear hr0 hc0
 have H : (if a1 ≥ a2 then ((impl_endOf.f k l0 a2).bind fun t580 => (some (decide (a1 < t580)))) else (some false)) = some r := h
 clear h
 by_cases c4 : a1 ≥ a2
 rotate_left
 ·rw [if_neg c4] at H
  have c4b0 : decide (a2 ≤ a1) = false := decide_eq_false c4
  clear c4
  obtain rfl := Option.some.inj H
  go_enter Try.func56, Try.ntmps56
  go_wp2
  go_ret
  exact ⟨by first | rfl | (simp; done) | (simp [*]; done), by repeat (first | exact Drawn0.refl _ | apply Drawn0.step)⟩
 rw [if_pos c4] at H
 have c4b0 : decide (a2 ≤ a1) = true := decide_eq_true c4
 clear c4
 replace H := Option.bind_eq_some_iff.mp H
 obtain ⟨t580, A50, H⟩ := H
 replace H : (some (decide (a1 < t580))) = some r := H
 have A5 := Aside0.mk A50
 clear A50
 obtain rfl := Option.some.inj H
 go_enter Try.func56, Try.ntmps56
 go_wp2_with (first | (go_at_call 50; (with_reducible refine (impl_endOf.calls k _ _ l0 a2 t580 _ ?side1 ?side2 A5.out).mono ?_); (case side1 => exact pc (HR0.out)); (case side2 => exact HC0.out); rintro e w' ⟨rfl, ⟨nd, rfl⟩⟩))
 go_ret
 exact ⟨by first | rfl | (simp; done) | (simp [*]; done), by repeat (first | exact Drawn0.refl _ | apply Drawn0.step)⟩

/-! ### impl_IsBelow: function 21 -/
def impl_IsBelow.f (k : Nat) (l0_0 : List Int) (a1 : Int) (a2 : Int) : Option (Bool × Int) := (impl_treeCode.f k l0_0 ([a1, a2] : List Int)).bind fun t585 => (if t585 = 0 then ((impl_isBelow.f k l0_0 a1 a2).bind fun t586 => (some (t586, 0))) else (some (false, t585)))
theorem impl_IsBelow.mono : ∀ a0 a1 a2 k, LeO (impl_IsBelow.f k a0 a1 a2) (impl_IsBelow.f (k + 1) a0 a1 a2) := by
 intro a0 a1 a2 k
 unfold impl_IsBelow.f
 repeat' first
   | (with_reducible exact impl_isBelow.mono _ _ _ _)
   | (with_reducible exact impl_treeCode.mono _ _ _)
   | (with_reducible exact LeO.refl _)
   | (with_reducible exact LeO.none _)
   | (with_reducible refine LeO.ite ?_ ?_)
   | (with_reducible refine LeO.bind ?_ (fun _ => ?_))
   | exact impl_isBelow.mono _ _ _ _
   | exact impl_treeCode.mono _ _ _
   | exact LeO.none _
   | refine LeO.ite ?_ ?_
   | refine LeO.bind ?_ (fun _ => ?_)
set_option maxHeartbeats 8000000 in
set_option maxRecDepth 100000 in
theorem impl_IsBelow.calls (k : Nat) (A0_0 : Option Addr) (c0_0 : Nat) (l0_0 : List Int) (a1 : Int) (a2 : Int) (r1 : Bool) (r2 : Int) (w : World) (hr0_0 : Kd.C (Kd.int .i64) w A0_0 l0_0.length l0_0) (hc0_0 : l0_0.length ≤ c0_0) (h : impl_IsBelow.f k l0_0 a1 a2 = some (r1, r2)) :
  Calls Try.prog 21 #[.agg #[.slice A0_0 l0_0.length c0_0], .int .i64 a1, .int .i64 a2] w fun e w' => e = .returned (.tuple #[.bool r1, .int .i64 r2]) ∧ Below w.heap.size w w' := by
 have hu26 := Try.underlying26
 have HR0_0 := Aside0.mk hr0_0
 have HC0_0 := Aside0.mk hc0_0
 clear hr0_0 hc0_0
 have HB := Aside0.mk (Below.refl w.heap.size w)
 have H : ((impl_treeCode.f k l0_0 ([a1, a2] : List Int)).bind fun t585 => (if t585 = 0 then ((impl_isBelow.f k l0_0 a1 a2).bind fun t586 => (some (t586, 0))) else (some (false, t585)))) = some (r1, r2) := h
 clear h
 obtain ⟨y582, hy582⟩ : ∃ y_ : List Int, y_ = ([a1, a2] : List Int) := ⟨_, rfl⟩
 replace H : ((impl_treeCode.f k l0_0 y582).bind fun t585 => (if t585 = 0 then ((impl_isBelow.f k l0_0 a1 a2).bind fun t586 => (some (t586, 0))) else (some (false, t585)))) = some (r1, r2) := by first | (rw [hy582]; with_reducible exact H) | (have H2_ := (Option.bind_some _ _).symm.trans H; rw [hy582]; with_reducible exact H2_) | (have H2_ := (Option.bind_some _ _).symm.trans H; with_reducible exact H2_) | with_reducible exact H | (rw [hy582]; exact H) | exact H
 have Ny582 := Aside0.mk hy582
 clear hy582
 replace H := Option.bind_eq_some_iff.mp H
 obtain ⟨t585, A40, H⟩ := H
 replace H : (if t585 = 0 then ((impl_isBelow.f k l0_0 a1 a2).bind fun t586 => (some (t586, 0))) else (some (false, t585))) = some (r1, r2) := H
 have A4 := Aside0.mk A40
 clear A40
 by_cases c5 : t585 = 0
 rotate_left
 ·rw [if_neg c5] at H
  have c5b0 : (t585 == 0) = false := beq_eq_false_iff_ne.mpr c5
  have c5b1 : (t585 != 0) = true := bne_iff_ne.mpr c5
  simp only [Option.some.injEq, Prod.mk.injEq] at H
  obtain ⟨rfl, rfl⟩ := H
  go_enter Try.func21, Try.ntmps21
  go_wp2_with (first | ((with_reducible refine gate_dst (N := 3) rfl ?_); refine box_event ?hg (N := 3) ?hd (cs := #[.slice A0_0 l0_0.length c0_0]) (t := 26) ?hr ?_; (case hd => rfl); (case hg => rfl); (case hr => exact gs); intro gb581 hg w14 hbox hb; have BK581 := Aside0.mk (hbox); have GW581 := Aside0.mk (geb hg hq : w.heap.size ≤ gb581); have GE581 := Aside0.mk (geb hg hq : w.heap.size ≤ gb581); replace HB := Aside0.mk (below_step hq hb); clear hb hbox hg; have hcz15_0 : w14.cell? ⟨gb581, 0, none⟩ = some (.slice A0_0 l0_0.length c0_0) := (blk_cell BK581.out 0).trans rfl; have hfz15_0 := blk_frozen BK581.out 0) | ((with_reducible refine gate_dst (N := 12) rfl ?_); refine Kd.R_lit (Kd.int .i64) _ 2 ?hg (N := 12) ?hd (xs := ([a1, a2] : List Int)) (inner := [.int .i64 a1, .int .i64 a2]) (ok := fun _ => True) (okp := fun _ => True) ?hr ?hp (fun _ hk => hk) trivial (Below.refl _ _) (Nat.le_refl _) (by simp) ?_; (case hd => rfl); (case hg => rfl); (case hr => exact gs); (case hp => exact (Reps.one (show Kd.M (Kd.int .i64) _ _ _ a1 [.int .i64 a1] from rfl) (Reps.one (show Kd.M (Kd.int .i64) _ _ _ a2 [.int .i64 a2] from rfl) (Reps.none _ _)))); intro v583 w16 ho17 hb hg_ hnew_; clear hg_ hnew_; (first | rw [← Ny582.out] at ho17 | (simp only [Int.reduceToNat] at ho17; rw [← Ny582.out] at ho17)); have HO584 := Aside0.mk (Kd.R_lower ho17 (below_size hq)); replace BK581 := bb BK581 hb; replace HB := Aside0.mk (below_step hq hb); clear hb ho17; obtain ⟨Ao18, co18, eo18⟩ := Kd.R_slice HO584.out; subst eo18) | ((with_reducible refine gate_callee (f := 47) rfl ?_); refine goesL_ (some 13) rfl rfl Try.func47 (by kernel_rfl) rfl #[.agg #[.slice A0_0 l0_0.length c0_0], .slice Ao18 y582.length co18] rfl am ?_; (with_reducible refine (impl_treeCode.calls k _ _ l0_0 _ _ y582 t585 _ ?side1 ?side2 ?side3 ?side4 A4.out).mono ?_); (case side1 => exact pc (Kd.C_below HR0_0.out HB.out)); (case side2 => exact HC0_0.out); (case side3 => exact pc ((Kd.R_reads' HO584.out).2.2)); (case side4 => exact (Kd.R_reads' HO584.out).2.1); rintro e w19 ⟨rfl, hb⟩; refine ⟨_, rfl, ?_⟩; replace HO584 := rb HO584 hb; replace BK581 := bb BK581 hb; replace HB := Aside0.mk (below_step hq hb); (try clear hb); (try clear hb2); (try clear hk); (try clear hi)))
  go_ret2
  exact ⟨ew, hq⟩
 rw [if_pos c5] at H
 have c5b0 : (t585 == 0) = true := beq_iff_eq.mpr c5
 have c5b1 : (t585 != 0) = false := bne_eq_false_iff_eq.mpr c5
 clear c5
 replace H := Option.bind_eq_some_iff.mp H
 obtain ⟨t586, A60, H⟩ := H
 replace H : (some (t586, 0)) = some (r1, r2) := H
 have A6 := Aside0.mk A60
 clear A60
 simp only [Option.some.injEq, Prod.mk.injEq] at H
 obtain ⟨rfl, rfl⟩ := H
 go_enter Try.func21, Try.ntmps21
 go_wp2_with (first | ((with_reducible refine gate_dst (N := 3) rfl ?_); refine box_event ?hg (N := 3) ?hd (cs := #[.slice A0_0 l0_0.length c0_0]) (t := 26) ?hr ?_; (case hd => rfl); (case hg => rfl); (case hr => exact gs); intro gb581 hg w7 hbox hb; have BK581 := Aside0.mk (hbox); have GW581 := Aside0.mk (geb hg hq : w.heap.size ≤ gb581); have GE581 := Aside0.mk (geb hg hq : w.heap.size ≤ gb581); replace HB := Aside0.mk (below_step hq hb); clear hb hbox hg; have hcz8_0 : w7.cell? ⟨gb581, 0, none⟩ = some (.slice A0_0 l0_0.length c0_0) := (blk_cell BK581.out 0).trans rfl; have hfz8_0 := blk_frozen BK581.out 0) | ((with_reducible refine gate_dst (N := 12) rfl ?_); refine Kd.R_lit (Kd.int .i64) _ 2 ?hg (N := 12) ?hd (xs := ([a1, a2] : List Int)) (inner := [.int .i64 a1, .int .i64 a2]) (ok := fun _ => True) (okp := fun _ => True) ?hr ?hp (fun _ hk => hk) trivial (Below.refl _ _) (Nat.le_refl _) (by simp) ?_; (case hd => rfl); (case hg => rfl); (case hr => exact gs); (case hp => exact (Reps.one (show Kd.M (Kd.int .i64) _ _ _ a1 [.int .i64 a1] from rfl) (Reps.one (show Kd.M (Kd.int .i64) _ _ _ a2 [.int .i64 a2] from rfl) (Reps.none _ _)))); intro v583 w9 ho10 hb hg_ hnew_; clear hg_ hnew_; (first | rw [← Ny582.out] at ho10 | (simp only [Int.reduceToNat] at ho10; rw [← Ny582.out] at ho10)); have HO584 := Aside0.mk (Kd.R_lower ho10 (below_size hq)); replace BK581 := bb BK581 hb; replace HB := Aside0.mk (below_step hq hb); clear hb ho10; obtain ⟨Ao11, co11, eo11⟩ := Kd.R_slice HO584.out; subst eo11) | ((with_reducible refine gate_callee (f := 47) rfl ?_); refine goesL_ (some 13) rfl rfl Try.func47 (by kernel_rfl) rfl #[.agg #[.slice A0_0 l0_0.length c0_0], .slice Ao11 y582.length co11] rfl am ?_; (with_reducible refine (impl_treeCode.calls k _ _ l0_0 _ _ y582 t585 _ ?side1 ?side2 ?side3 ?side4 A4.out).mono ?_); (case side1 => exact pc (Kd.C_below HR0_0.out HB.out)); (case side2 => exact HC0_0.out); (case side3 => exact pc ((Kd.R_reads' HO584.out).2.2)); (case side4 => exact (Kd.R_reads' HO584.out).2.1); rintro e w12 ⟨rfl, hb⟩; refine ⟨_, rfl, ?_⟩; replace HO584 := rb HO584 hb; replace BK581 := bb BK581 hb; replace HB := Aside0.mk (below_step hq hb); (try clear hb); (try clear hb2); (try clear hk); (try clear hi); have hcz13_0 : w12.cell? ⟨gb581, 0, none⟩ = some (.slice A0_0 l0_0.length c0_0) := (blk_cell BK581.out 0).trans rfl; have hfz13_0 := blk_frozen BK581.out 0) | ((with_reducible refine gate_callee (f := 56) rfl ?_); refine goesL_ (some 21) rfl rfl Try.func56 (by kernel_rfl) rfl #[.slice A0_0 l0_0.length c0_0, .int .i64 a1, .int .i64 a2] rfl am ?_; (with_reducible refine (impl_isBelow.calls k _ _ l0_0 a1 a2 t586 _ ?side1 ?side2 A6.out).mono ?_); (case side1 => exact pc (Kd.C_below HR0_0.out HB.out)); (case side2 => exact HC0_0.out); rintro e w' ⟨rfl, ⟨nd, rfl⟩⟩; refine ⟨_, rfl, ?_⟩))
 go_ret2
 exact ⟨ew, hq⟩

/-! ### impl_SizesOf: function 22 -/
def impl_SizesOf.f (k : Nat) (l0_0 : List Int) : Option (List Int × Int) := (impl_IsTree.f k l0_0).bind fun t588 => (if t588 = true then ((impl_sizesOf.f k l0_0).bind fun t589 => (some (t589, 0))) else (some (([] : List Int), 1)))
theorem impl_SizesOf.mono : ∀ a0 k, LeO (impl_SizesOf.f k a0) (impl_SizesOf.f (k + 1) a0) := by
 intro a0 k
 unfold impl_SizesOf.f
 repeat' first
   | (with_reducible exact impl_IsTree.mono _ _)
   | (with_reducible exact impl_sizesOf.mono _ _)
   | (with_reducible exact LeO.refl _)
   | (with_reducible exact LeO.none _)
   | (with_reducible refine LeO.ite ?_ ?_)
   | (with_reducible refine LeO.bind ?_ (fun _ => ?_))
   | exact impl_IsTree.mono _ _
   | exact impl_sizesOf.mono _ _
   | exact LeO.none _
   | refine LeO.ite ?_ ?_
   | refine LeO.bind ?_ (fun _ => ?_)
set_option maxHeartbeats 8000000 in
set_option maxRecDepth 100000 in
theorem impl_SizesOf.calls (k : Nat) (A0_0 : Option Addr) (c0_0 : Nat) (l0_0 : List Int) (r1 : List Int) (r2 : Int) (w : World) (hr0_0 : Kd.C (Kd.int .i64) w A0_0 l0_0.length l0_0) (hc0_0 : l0_0.length ≤ c0_0) (h : impl_SizesOf.f k l0_0 = some (r1, r2)) :
  Calls Try.prog 22 #[.agg #[.slice A0_0 l0_0.length c0_0]] w fun e w' => ∃ v0_ : Value, e = .returned (.tuple #[v0_, .int .i64 r2]) ∧ Kd.R (Kd.int .i64) 2 w' w.heap.size (fun _ => True) v0_ r1 ∧ Below w.heap.size w w' := by
 have hu26 := Try.underlying26
 have HR0_0 := Aside0.mk hr0_0
 have HC0_0 := Aside0.mk hc0_0
 clear hr0_0 hc0_0
 have HB := Aside0.mk (Below.refl w.heap.size w)
 have H : ((impl_IsTree.f k l0_0).bind fun t588 => (if t588 = true then ((impl_sizesOf.f k l0_0).bind fun t589 => (some (t589, 0))) else (some (([] : List Int), 1)))) = some (r1, r2) := h
 clear h
 replace H := Option.bind_eq_some_iff.mp H
 obtain ⟨t588, A20, H⟩ := H
 replace H : (if t588 = true then ((impl_sizesOf.f k l0_0).bind fun t589 => (some (t589, 0))) else (some (([] : List Int), 1))) = some (r1, r2) := H
 have A2 := Aside0.mk A20
 clear A20
 by_cases c3 : t588 = true
 rotate_left
 ·replace c3 := Bool.eq_false_iff.mpr c3
  subst c3
  have H1 : (some (([] : List Int), 1)) = some (r1, r2) := by rw [if_neg (show ¬ (false = true) by decide)] at H; exact H
  clear H
  have H := H1
  clear H1
  simp only [Option.some.injEq, Prod.mk.injEq] at H
  obtain ⟨rfl, rfl⟩ := H
  go_enter Try.func22, Try.ntmps22
  go_wp2_with (first | ((with_reducible refine gate_dst (N := 1) rfl ?_); refine box_event ?hg (N := 1) ?hd (cs := #[.slice A0_0 l0_0.length c0_0]) (t := 26) ?hr ?_; (case hd => rfl); (case hg => rfl); (case hr => exact gs); intro gb587 hg w10 hbox hb; have BK587 := Aside0.mk (hbox); have GW587 := Aside0.mk (geb hg hq : w.heap.size ≤ gb587); have GE587 := Aside0.mk (geb hg hq : w.heap.size ≤ gb587); replace HB := Aside0.mk (below_step hq hb); clear hb hbox hg; have hcz11_0 : w10.cell? ⟨gb587, 0, none⟩ = some (.slice A0_0 l0_0.length c0_0) := (blk_cell BK587.out 0).trans rfl; have hfz11_0 := blk_frozen BK587.out 0) | ((with_reducible refine gate_callee (f := 38) rfl ?_); refine goesL_ (some 5) rfl rfl Try.func38 (by kernel_rfl) rfl #[.agg #[.slice A0_0 l0_0.length c0_0]] rfl am ?_; (with_reducible refine (impl_IsTree.calls k _ _ l0_0 false _ ?side1 ?side2 A2.out).mono ?_); (case side1 => exact pc (Kd.C_below HR0_0.out HB.out)); (case side2 => exact HC0_0.out); rintro e w12 ⟨rfl, hb⟩; refine ⟨_, rfl, ?_⟩; replace BK587 := bb BK587 hb; replace HB := Aside0.mk (below_step hq hb); (try clear hb); (try clear hb2); (try clear hk); (try clear hi)))
  go_ret2
  exact ⟨_, ew, by first | exact Kd.R_nil _ _ _ _ _ | exact Kd.N_nil _ _ _ _ _ | exact Kd.V_nil _ _ _ _ _ | exact Kd.Q_nil _ _ _ _ _ | exact Kd.S_nil _ _ _ _ _, hq⟩
 subst c3
 replace H : ((impl_sizesOf.f k l0_0).bind fun t589 => (some (t589, 0))) = some (r1, r2) := by rw [if_pos rfl] at H; exact H
 replace H := Option.bind_eq_some_iff.mp H
 obtain ⟨t589, A40, H⟩ := H
 replace H : (some (t589, 0)) = some (r1, r2) := H
 have A4 := Aside0.mk A40
 clear A40
 simp only [Option.some.injEq, Prod.mk.injEq] at H
 obtain ⟨rfl, rfl⟩ := H
 go_enter Try.func22, Try.ntmps22
 go_wp2_with (first | ((with_reducible refine gate_dst (N := 1) rfl ?_); refine box_event ?hg (N := 1) ?hd (cs := #[.slice A0_0 l0_0.length c0_0]) (t := 26) ?hr ?_; (case hd => rfl); (case hg => rfl); (case hr => exact gs); intro gb587 hg w5 hbox hb; have BK587 := Aside0.mk (hbox); have GW587 := Aside0.mk (geb hg hq : w.heap.size ≤ gb587); have GE587 := Aside0.mk (geb hg hq : w.heap.size ≤ gb587); replace HB := Aside0.mk (below_step hq hb); clear hb hbox hg; have hcz6_0 : w5.cell? ⟨gb587, 0, none⟩ = some (.slice A0_0 l0_0.length c0_0) := (blk_cell BK587.out 0).trans rfl; have hfz6_0 := blk_frozen BK587.out 0) | ((with_reducible refine gate_callee (f := 38) rfl ?_); refine goesL_ (some 5) rfl rfl Try.func38 (by kernel_rfl) rfl #[.agg #[.slice A0_0 l0_0.length c0_0]] rfl am ?_; (with_reducible refine (impl_IsTree.calls k _ _ l0_0 true _ ?side1 ?side2 A2.out).mono ?_); (case side1 => exact pc (Kd.C_below HR0_0.out HB.out)); (case side2 => exact HC0_0.out); rintro e w7 ⟨rfl, hb⟩; refine ⟨_, rfl, ?_⟩; replace BK587 := bb BK587 hb; replace HB := Aside0.mk (below_step hq hb); (try clear hb); (try clear hb2); (try clear hk); (try clear hi); have hcz8_0 : w7.cell? ⟨gb587, 0, none⟩ = some (.slice A0_0 l0_0.length c0_0) := (blk_cell BK587.out 0).trans rfl; have hfz8_0 := blk_frozen BK587.out 0) | ((with_reducible refine gate_callee (f := 57) rfl ?_); refine goesL_ (some 9) rfl rfl Try.func57 (by kernel_rfl) rfl #[.slice A0_0 l0_0.length c0_0] rfl am ?_; (with_reducible refine (impl_sizesOf.calls k _ _ l0_0 t589 _ ?side1 ?side2 A4.out).mono ?_); (case side1 => exact pc (Kd.C_below HR0_0.out HB.out)); (case side2 => exact HC0_0.out); rintro e w9 ⟨v590, rfl, ho0, hb⟩; refine ⟨_, rfl, ?_⟩; have HO591 := Aside0.mk (Kd.R_lower ho0 (below_size hq)); replace BK587 := bb BK587 hb; replace HB := Aside0.mk (below_step hq hb); (try clear hb); (try clear hb2); (try clear hk); (try clear hi); (try clear ho0)))
 go_ret2
 exact ⟨_, ew, pe HO591.out, hq⟩

end Go.Proofs.Ytlppkilencpmeaa.QFnHeavyPaths
