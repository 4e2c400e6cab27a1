/- Functions as Lean functions, with their contracts: written by a program of this claim over the translation; some contracts are proved by hand. -/
import Derived.Test.YtlppkilencpmeaaQFnHeavyPathsx0
import Derived.Test.YtlppkilencpmeaaQFnHeavyPathsx4
import Derived.Test.YtlppkilencpmeaaQFnHeavyPathsx5
import Derived.Test.YtlppkilencpmeaaQFnHeavyPathsx9
namespace Go.Proofs.Ytlppkilencpmeaa.QFnHeavyPaths
open Go.RowKit Go.Proofs.Ytlppkilencpmeaa.Gl Go.Proofs.Ytlppkilencpmeaa.Sz Go.Proofs.YtlppkilencpmeaaW.PrintWords Go.Proofs.YtlppkilencpmeaaW.PrintLast Go.Proofs.YtlppkilencpmeaaW.PrintMore
attribute [local go_sem] max2_int min2_int max_two min_two max_three min_three max_four min_four   -- for this text's walks alone
set_option linter.unusedVariables false
set_option linter.unusedSimpArgs false
theorem q10_0 {P : Prop} (h : P := by first | rfl | (simp; done) | (simp [*]; done)) : P := h
theorem q10_1 {P : Prop} (h : P := by first | (with_reducible assumption) | assumption) : P := h

/-! ### impl_parentsOf: function 48 -/
mutual
def impl_parentsOf.l0 : Nat → List Int → List Int → Int → Int → Option (List Int)
 | 0, _, _, _, _ => none
 | k + 1, x0, x3, x12, x13 => if x13 < x12 then ((impl_kidsOf.f k x0 x13).bind fun t491 => (impl_parentsOf.l1 k x0 x3 x13 x12 x13 t491 (t491.length : Int) 0)) else (some x3)
def impl_parentsOf.l1 : Nat → List Int → List Int → Int → Int → Int → List Int → Int → Int → Option (List Int)
 | 0, _, _, _, _, _, _, _, _ => none
 | k + 1, x0, x3, x4, x12, x13, x18, x19, x20 => if x20 < x19 then (if 0 ≤ x20 then (if x20 < (x18.length : Int) then (if 0 ≤ (rd x18 x20) then (if (rd x18 x20) < (x3.length : Int) then (impl_parentsOf.l1 k x0 (x3.set ((rd x18 x20) : Int).toNat x4) x4 x12 x13 x18 x19 (wrap64 (x20 + 1))) else (none)) else (none)) else (none)) else (none)) else (impl_parentsOf.l0 k x0 x3 x12 (wrap64 (x13 + 1)))
end
def impl_parentsOf.f (k : Nat) (l0 : List Int) : Option (List Int) := (slices_Repeat.f ([(-1)] : List Int) (l0.length : Int)).bind fun t488 => (impl_parentsOf.l0 k l0 t488 (l0.length : Int) 0)
theorem impl_parentsOf.mo0 {P : Prop} (h : P := by repeat' first  | (with_reducible exact ih0 _ _ _ _) | (with_reducible exact ih1 _ _ _ _ _ _ _ _) | (with_reducible exact impl_kidsOf.mono _ _ _) | (with_reducible exact LeO.refl _) | (with_reducible exact LeO.none _) | (with_reducible refine LeO.ite ?_ ?_) | (with_reducible refine LeO.bind ?_ (fun _ => ?_)) | exact ih0 _ _ _ _ | exact ih1 _ _ _ _ _ _ _ _ | exact impl_kidsOf.mono _ _ _ | exact LeO.none _ | refine LeO.ite ?_ ?_ | refine LeO.bind ?_ (fun _ => ?_)) : P := h
theorem impl_parentsOf.mono_l : ∀ k, (∀ y0 y1 y2 y3, LeO (impl_parentsOf.l0 k y0 y1 y2 y3) (impl_parentsOf.l0 (k + 1) y0 y1 y2 y3)) ∧ (∀ y0 y1 y2 y3 y4 y5 y6 y7, LeO (impl_parentsOf.l1 k y0 y1 y2 y3 y4 y5 y6 y7) (impl_parentsOf.l1 (k + 1) y0 y1 y2 y3 y4 y5 y6 y7))
 | 0 => ⟨fun _ _ _ _ r h => by simp [impl_parentsOf.l0] at h, fun _ _ _ _ _ _ _ _ r h => by simp [impl_parentsOf.l1] at h⟩
 | k + 1 => by
  obtain ⟨ih0, ih1⟩ := impl_parentsOf.mono_l k
  refine ⟨?_, ?_⟩
  ·intro y0 y1 y2 y3
   unfold impl_parentsOf.l0
   exact impl_parentsOf.mo0
  ·intro y0 y1 y2 y3 y4 y5 y6 y7
   unfold impl_parentsOf.l1
   exact impl_parentsOf.mo0
theorem impl_parentsOf.mono : ∀ a0 k, LeO (impl_parentsOf.f k a0) (impl_parentsOf.f (k + 1) a0) := by
 intro a0 k
 obtain ⟨ih0, ih1⟩ := impl_parentsOf.mono_l k
 unfold impl_parentsOf.f
 repeat' first
   | (with_reducible exact ih0 _ _ _ _)
   | (with_reducible exact ih1 _ _ _ _ _ _ _ _)
   | (with_reducible exact impl_kidsOf.mono _ _ _)
   | (with_reducible exact LeO.refl _)
   | (with_reducible exact LeO.none _)
   | (with_reducible refine LeO.ite ?_ ?_)
   | (with_reducible refine LeO.bind ?_ (fun _ => ?_))
   | exact ih0 _ _ _ _
   | exact ih1 _ _ _ _ _ _ _ _
   | exact impl_kidsOf.mono _ _ _
   | exact LeO.none _
   | refine LeO.ite ?_ ?_
   | refine LeO.bind ?_ (fun _ => ?_)
set_option maxHeartbeats 8000000 in
set_option maxRecDepth 100000 in
theorem impl_parentsOf.calls (k : Nat) (A0 : Option Addr) (c0 : Nat) (l0 : List Int) (r : List Int) (w : World) (hr0 : Kd.C (Kd.int .i64) w A0 l0.length l0) (hc0 : l0.length ≤ c0) (h : impl_parentsOf.f k l0 = some r) :
  Calls Try.prog 48 #[.slice A0 l0.length c0] w fun e w' => ∃ v0_ : Value, e = .returned (v0_) ∧ Kd.R (Kd.int .i64) 2 w' w.heap.size (fun _ => True) v0_ r ∧ Below w.heap.size w w' := by
 have HR0 := Aside0.mk hr0
 have HC0 := Aside0.mk hc0
 clear hr0 hc0
 have HB := Aside0.mk (Below.refl w.heap.size w)
 have H : ((slices_Repeat.f ([(-1)] : List Int) (l0.length : Int)).bind fun t488 => (impl_parentsOf.l0 k l0 t488 (l0.length : Int) 0)) = some r := h
 clear h
 obtain ⟨y485, hy485⟩ : ∃ y_ : List Int, y_ = ([(-1)] : List Int) := ⟨_, rfl⟩
 replace H : ((slices_Repeat.f y485 (l0.length : Int)).bind fun t488 => (impl_parentsOf.l0 k l0 t488 (l0.length : Int) 0)) = some r := by first | (rw [hy485]; with_reducible exact H) | (have H2_ := (Option.bind_some _ _).symm.trans H; rw [hy485]; with_reducible exact H2_) | (have H2_ := (Option.bind_some _ _).symm.trans H; with_reducible exact H2_) | with_reducible exact H | (rw [hy485]; exact H) | exact H
 have Ny485 := Aside0.mk hy485
 clear hy485
 replace H := Option.bind_eq_some_iff.mp H
 obtain ⟨t488, A20, H⟩ := H
 replace H : (impl_parentsOf.l0 k l0 t488 (l0.length : Int) 0) = some r := H
 have A2 := Aside0.mk A20
 clear A20
 have H' := Aside0.mk H
 clear H
 go_enter Try.func48, Try.ntmps48
 go_wp2_with (first | ((with_reducible refine gate_dst (N := 7) rfl ?_); refine Kd.R_lit (Kd.int .i64) _ 2 ?hg (N := 7) ?hd (xs := ([(-1)] : List Int)) (inner := [.int .i64 (-1)]) (ok := fun _ => True) (okp := fun _ => True) ?hr ?hp (fun _ hk => hk) trivial (Below.refl _ _) (Nat.le_refl _) (by simp) ?_; (case hd => rfl); (case hg => rfl); (case hr => exact gs); (case hp => exact (Reps.one (show Kd.M (Kd.int .i64) _ _ _ (-1) [.int .i64 (-1)] from rfl) (Reps.none _ _))); intro v486 w3 ho4 hb hg_ hnew_; clear hg_ hnew_; (first | rw [← Ny485.out] at ho4 | (simp only [Int.reduceToNat] at ho4; rw [← Ny485.out] at ho4)); have HO487 := Aside0.mk (Kd.R_lower ho4 (below_size hq)); replace HB := Aside0.mk (below_step hq hb); clear hb ho4; obtain ⟨Ao5, co5, eo5⟩ := Kd.R_slice HO487.out; subst eo5) | ((with_reducible refine gate_callee (f := 81) rfl ?_); refine goesL_ (some 10) rfl rfl Try.func81 (by kernel_rfl) rfl #[.slice Ao5 y485.length co5, .int .i64 (l0.length : Int)] rfl am ?_; (with_reducible refine (slices_Repeat.calls _ _ y485 (l0.length : Int) t488 _ ?side1 ?side2 A2.out).mono ?_); (case side1 => exact pc ((Kd.R_reads' HO487.out).2.2)); (case side2 => exact (Kd.R_reads' HO487.out).2.1); rintro e w6 ⟨v489, rfl, ho0, hb⟩; refine ⟨_, rfl, ?_⟩; have HO490 := Aside0.mk (Kd.R_lower (Kd.R_new' ho0 (Kd.R_lt (pe HO487.out))) (below_size hq)); replace HO487 := rn HO487 ho0 hb; replace HB := Aside0.mk (below_step hq hb); (try clear hb); (try clear hb2); (try clear hk); (try clear hi); (try clear ho0)))
 go_loopg [13] k (fun kq v13 w' => ∃ (x3_1 : List Int) (x13_1 : Int), v13 = .int .i64 x13_1 ∧ Aside0 (impl_parentsOf.l0 kq l0 x3_1 (l0.length : Int) x13_1 = some r) ∧ Aside0 (kq ≤ k) ∧ Aside0 (Kd.R (Kd.int .i64) 2 w' w.heap.size (fun _ => True) v489 x3_1) ∧ Aside0 (Below w.heap.size w w'))
 case atStart => exact ⟨(t488), (0), q10_0, H', ⟨Nat.le_refl _⟩, ⟨pe (Kd.R_mono HO490.out (fun _ hk => trivial))⟩, ⟨hq⟩⟩
 case round =>
  clear H'
  try clear p2
  try clear c4
  obtain ⟨x3_1, x13_1, rfl, HA, HK1, HO_3, HB⟩ := hrel
  cases gk with | zero => exact absurd HA.out (by simp [impl_parentsOf.l0]) | succ k1 => ?_
  have H := HA.out
  clear HA
  simp only [impl_parentsOf.l0] at H
  by_cases c7 : x13_1 < (l0.length : Int)
  rotate_left
  ·rw [if_neg c7] at H
   have c7b0 : decide (x13_1 < (l0.length : Int)) = false := decide_eq_false c7
   clear c7
   obtain rfl := Option.some.inj H
   go_wp2
   go_ret
   exact ⟨_, ew, pe HO_3.out, hq⟩
  rw [if_pos c7] at H
  have c7b0 : decide (x13_1 < (l0.length : Int)) = true := decide_eq_true c7
  clear c7
  replace H := Option.bind_eq_some_iff.mp H
  obtain ⟨t491, A80, H⟩ := H
  replace H : (impl_parentsOf.l1 k1 l0 x3_1 x13_1 (l0.length : Int) x13_1 t491 (t491.length : Int) 0) = some r := H
  have A8 := Aside0.mk A80
  clear A80
  have H' := Aside0.mk H
  clear H
  go_wp2_with (first | ((with_reducible refine gate_callee (f := 65) rfl ?_); refine goesL_ (some 18) rfl rfl Try.func65 (by kernel_rfl) rfl #[.slice A0 l0.length c0, .int .i64 x13_1] rfl am ?_; (with_reducible refine (impl_kidsOf.calls k1 _ _ l0 x13_1 t491 _ ?side1 ?side2 A8.out).mono ?_); (case side1 => exact pc (Kd.C_below HR0.out HB.out)); (case side2 => exact HC0.out); rintro e w9 ⟨v492, rfl, ho0, hb⟩; refine ⟨_, rfl, ?_⟩; have HO493 := Aside0.mk (Kd.R_lower (Kd.R_new' ho0 (Kd.R_lt (pe HO_3.out))) (below_size hq)); replace HO_3 := rn HO_3 ho0 hb; replace HB := Aside0.mk (below_step hq hb); (try clear hb); (try clear hb2); (try clear hk); (try clear hi); (try clear ho0); obtain ⟨Ao10, co10, eo10⟩ := Kd.R_slice HO493.out; subst eo10))
  go_loopg [20] k1 (fun kq v20 w' => ∃ (x3_2 : List Int) (x20_2 : Int), v20 = .int .i64 x20_2 ∧ Aside0 (impl_parentsOf.l1 kq l0 x3_2 x13_1 (l0.length : Int) x13_1 t491 (t491.length : Int) x20_2 = some r) ∧ Aside0 (kq ≤ k1) ∧ Aside0 (Kd.R (Kd.int .i64) 2 w' w.heap.size (fun k_ => some k_ ≠ ((.slice Ao10 t491.length co10) : Value).ownBlock) v489 x3_2) ∧ Aside0 (Kd.R (Kd.int .i64) 2 w' w.heap.size (fun k_ => some k_ ≠ (v489 : Value).ownBlock) (.slice Ao10 t491.length co10) t491) ∧ Aside0 (Below w.heap.size w w'))
  case atStart => exact ⟨(x3_1), (0), q10_0, H', ⟨Nat.le_refl _⟩, ⟨pe (Kd.R_mono HO_3.out (fun _ hk => hk.2))⟩, ⟨pe (Kd.R_mono HO493.out (fun _ hk => hk.2))⟩, ⟨hq⟩⟩
  case round =>
   clear H'
   try clear p2
   try clear c4
   try clear c6
   try clear c7
   try clear c7b0
   try clear c8
   try clear p2
   obtain ⟨x3_2, x20_2, rfl, HA, HK2, HO_3, HO_18, HB⟩ := hrel
   cases gk with | zero => exact absurd HA.out (by simp [impl_parentsOf.l1]) | succ k2 => ?_
   have H := HA.out
   clear HA
   simp only [impl_parentsOf.l1] at H
   by_cases c11 : x20_2 < (t491.length : Int)
   rotate_left
   ·rw [if_neg c11] at H
    have c11b0 : decide (x20_2 < (t491.length : Int)) = false := decide_eq_false c11
    clear c11
    have H' := Aside0.mk H
    clear H
    go_wp2
    go_roundg k2
    case measure => have := HK1.out; have := HK2.out; omega
    case rel => exact ⟨(x3_2), (wrap64 (x13_1 + 1)), q10_0, H', ⟨by have := HK1.out; have := HK2.out; omega⟩, ⟨pe (Kd.R_mono HO_3.out (fun _ hk => trivial))⟩, ⟨hq⟩⟩
   rw [if_pos c11] at H
   have c11b0 : decide (x20_2 < (t491.length : Int)) = true := decide_eq_true c11
   clear c11
   by_cases c12 : 0 ≤ x20_2
   rotate_left
   ·rw [if_neg c12] at H
    exact absurd H (by simp)
   rw [if_pos c12] at H
   have c12b0 : decide (0 ≤ x20_2) = true := decide_eq_true c12
   clear c12
   by_cases c13 : x20_2 < (t491.length : Int)
   rotate_left
   ·rw [if_neg c13] at H
    exact absurd H (by simp)
   rw [if_pos c13] at H
   have c13b0 : decide (x20_2 < (t491.length : Int)) = true := decide_eq_true c13
   clear c13
   by_cases c14 : 0 ≤ (rd t491 x20_2)
   rotate_left
   ·rw [if_neg c14] at H
    exact absurd H (by simp)
   rw [if_pos c14] at H
   have c14b0 : decide (0 ≤ (rd t491 x20_2)) = true := decide_eq_true c14
   clear c14
   by_cases c15 : (rd t491 x20_2) < (x3_2.length : Int)
   rotate_left
   ·rw [if_neg c15] at H
    exact absurd H (by simp)
   rw [if_pos c15] at H
   have c15b0 : decide ((rd t491 x20_2) < (x3_2.length : Int)) = true := decide_eq_true c15
   clear c15
   obtain ⟨y495, hy495⟩ : ∃ y_ : List Int, y_ = (x3_2.set ((rd t491 x20_2) : Int).toNat x13_1) := ⟨_, rfl⟩
   replace H : (impl_parentsOf.l1 k2 l0 y495 x13_1 (l0.length : Int) x13_1 t491 (t491.length : Int) (wrap64 (x20_2 + 1))) = some r := by first | (rw [hy495]; with_reducible exact H) | (have H2_ := (Option.bind_some _ _).symm.trans H; rw [hy495]; with_reducible exact H2_) | (have H2_ := (Option.bind_some _ _).symm.trans H; with_reducible exact H2_) | with_reducible exact H | (rw [hy495]; exact H) | exact H
   have Ny495 := Aside0.mk hy495
   clear hy495
   have H' := Aside0.mk H
   clear H
   have p494 : 0 ≤ (x20_2 : Int) := of_decide_eq_true q10_1
   have q494 : x20_2 < (t491.length : Int) := of_decide_eq_true q10_1
   (try (obtain ⟨Aop_, cop_, eop_⟩ := Kd.R_slice HO_18.out; subst eop_))
   obtain ⟨ad494, e494, hx494_0⟩ := Kd.at_int (Kd.R_reads' HO_18.out).2.2 x20_2 p494 q494
   cases e494
   replace p494 := eq_true p494
   replace q494 := eq_true q494
   have p16 : 0 ≤ ((rd t491 x20_2) : Int) := of_decide_eq_true q10_1
   have q16 : ((rd t491 x20_2) : Int) < ((x3_2.length : Int) : Int) := of_decide_eq_true q10_1
   obtain ⟨go16, co16, eo16, gb16, gl16, cl16, HG16⟩ := Kd.R_form HO_3.out (by omega)
   (first | cases eo16 | (injection eo16 with ea_ en_ ec_; (first | subst ea_ | (injection ea_ with ea_; subst ea_)); subst ec_; clear en_))
   have GB16 := Aside0.mk gb16
   have GG16 := Aside0.mk HG16
   clear gb16 gl16 HG16
   obtain ⟨hx16_0, hf16_0⟩ := Kd.R_celln 0 HO_3.out ((rd t491 x20_2) : Int) p16 q16
   replace p16 := eq_true p16
   replace q16 := eq_true q16
   have HP17 := Kd.R_putg HO_3.out ((rd t491 x20_2) : Int) x13_1
   go_wp2_with (first | ((with_reducible refine gate_store (t := 2) (p := 27) rfl ?_); refine store_event (t := 2) (p := 27) (v := ?vo_w18) (w1 := (wr.setCell ⟨go16, ((rd t491 x20_2) : Int).toNat, none⟩ (.int .i64 x13_1))) ?hg ?ho ?hn ?hr ?_; (case ho => rfl); (case hg => rfl); (case hn => rfl); (case hr => exact gs); intro w18 hw; have hg : wr.grownBy w18 (some go16) := (by rw [hw]; exact HP17.2); have hp_ : Kd.R (Kd.int .i64) 2 w18 w.heap.size (fun k_ => some k_ ≠ (.slice (some ad494) t491.length co10 : Value).ownBlock) (.slice (some ⟨go16, 0, none⟩) x3_2.length co16) y495 := (by rw [hw, Ny495.out]; exact HP17.1); clear HP17; replace HO_3 := Aside0.mk (hp_); replace HO_18 := Aside0.mk (Kd.R_after (v := (.slice (some ⟨go16, 0, none⟩) x3_2.length co16)) (v1 := (.slice (some ⟨go16, 0, none⟩) x3_2.length co16)) (ok := (fun _ => True)) (pe (Kd.R_mono HO_18.out (fun _ hk => ⟨trivial, hk⟩))) hg (.inl rfl)); replace HB := Aside0.mk (by rw [hw]; exact below_set (HB.out) GB16.out : Below w.heap.size w w18); clear hg hw hp_))
   go_roundg k2
   case measure => have := HK1.out; have := HK2.out; omega
   case rel => exact ⟨(y495), (wrap64 (x20_2 + 1)), q10_0, H', ⟨by have := HK1.out; have := HK2.out; omega⟩, ⟨pe HO_3.out⟩, ⟨pe (Kd.R_mono HO_18.out (fun _ hk => hk.2))⟩, ⟨hq⟩⟩

/-! ### impl_LightSteps: function 14 -/
def impl_LightSteps.l0 : Nat → Int → List Int → List Int → Int → Option (Int × Int)
 | 0, _, _, _, _ => none
 | k + 1, x1, x7, x8, x9 => if x1 > 0 then ((slices_Contains_int64_int64.f k x7 x1).bind fun t507 => (if t507 = true then (if 0 ≤ x1 then (if x1 < (x8.length : Int) then (impl_LightSteps.l0 k (rd x8 x1) x7 x8 x9) else (none)) else (none)) else (if 0 ≤ x1 then (if x1 < (x8.length : Int) then (impl_LightSteps.l0 k (rd x8 x1) x7 x8 (wrap64 (x9 + 1))) else (none)) else (none)))) else (some (x9, 0))
def impl_LightSteps.f (k : Nat) (l0_0 : List Int) (a1 : Int) : Option (Int × Int) := (impl_treeCode.f k l0_0 ([a1] : List Int)).bind fun t500 => (if t500 = 0 then ((impl_heavyChildren.f k l0_0).bind fun t501 => ((impl_parentsOf.f k l0_0).bind fun t504 => (impl_LightSteps.l0 k a1 t501 t504 0))) else (some (0, t500)))
theorem impl_LightSteps.mono_l : ∀ k, (∀ y0 y1 y2 y3, LeO (impl_LightSteps.l0 k y0 y1 y2 y3) (impl_LightSteps.l0 (k + 1) y0 y1 y2 y3))
 | 0 => fun _ _ _ _ r h => by simp [impl_LightSteps.l0] at h
 | k + 1 => by
  have ih0 := impl_LightSteps.mono_l k
  ·intro y0 y1 y2 y3
   unfold impl_LightSteps.l0
   repeat' first
   | (with_reducible exact ih0 _ _ _ _)
   | (with_reducible exact impl_heavyChildren.mono _ _)
   | (with_reducible exact impl_parentsOf.mono _ _)
   | (with_reducible exact impl_treeCode.mono _ _ _)
   | (with_reducible exact slices_Contains_int64_int64.mono _ _ _)
   | (with_reducible exact LeO.refl _)
   | (with_reducible exact LeO.none _)
   | (with_reducible refine LeO.ite ?_ ?_)
   | (with_reducible refine LeO.bind ?_ (fun _ => ?_))
   | exact ih0 _ _ _ _
   | exact impl_heavyChildren.mono _ _
   | exact impl_parentsOf.mono _ _
   | exact impl_treeCode.mono _ _ _
   | exact slices_Contains_int64_int64.mono _ _ _
   | exact LeO.none _
   | refine LeO.ite ?_ ?_
   | refine LeO.bind ?_ (fun _ => ?_)
theorem impl_LightSteps.mono : ∀ a0 a1 k, LeO (impl_LightSteps.f k a0 a1) (impl_LightSteps.f (k + 1) a0 a1) := by
 intro a0 a1 k
 have ih0 := impl_LightSteps.mono_l k
 unfold impl_LightSteps.f
 repeat' first
   | (with_reducible exact ih0 _ _ _ _)
   | (with_reducible exact impl_heavyChildren.mono _ _)
   | (with_reducible exact impl_parentsOf.mono _ _)
   | (with_reducible exact impl_treeCode.mono _ _ _)
   | (with_reducible exact slices_Contains_int64_int64.mono _ _ _)
   | (with_reducible exact LeO.refl _)
   | (with_reducible exact LeO.none _)
   | (with_reducible refine LeO.ite ?_ ?_)
   | (with_reducible refine LeO.bind ?_ (fun _ => ?_))
   | exact ih0 _ _ _ _
   | exact impl_heavyChildren.mono _ _
   | exact impl_parentsOf.mono _ _
   | exact impl_treeCode.mono _ _ _
   | exact slices_Contains_int64_int64.mono _ _ _
   | exact LeO.none _
   | refine LeO.ite ?_ ?_
   | refine LeO.bind ?_ (fun _ => ?_)
def impl_LightSteps.T4 : Bool × List (List Nat × List Nat) := (true, [([], []), ([0], [0]), ([1], [1]), ([], []), ([3], [3]), ([4, 2], [4]), ([2, 5, 0, 1, 2], [2]), ([5, 6, 0, 1, 2, 3, 4, 5, 6], [5]), ([7, 0, 1, 2, 3, 4, 5, 6, 7], [])])
def impl_LightSteps.B4 : List Nat := [0, 1, 3, 0, 8, 31, 63, 127, 255]
theorem impl_LightSteps.tab4 : rtab .any (opsOf Try.f14 4) = impl_LightSteps.T4 := by kernel_rfl
theorem impl_LightSteps.bits4 : waitsOk impl_LightSteps.T4.2 impl_LightSteps.B4 = true := by kernel_rfl
set_option maxHeartbeats 8000000 in
set_option maxRecDepth 100000 in
theorem impl_LightSteps.calls (k : Nat) (A0_0 : Option Addr) (c0_0 : Nat) (l0_0 : List Int) (a1 : Int) (r1 : Int) (r2 : Int) (w : World) (hr0_0 : Kd.C (Kd.int .i64) w A0_0 l0_0.length l0_0) (hc0_0 : l0_0.length ≤ c0_0) (h : impl_LightSteps.f k l0_0 a1 = some (r1, r2)) :
  Calls Try.prog 14 #[.agg #[.slice A0_0 l0_0.length c0_0], .int .i64 a1] w fun e w' => e = .returned (.tuple #[.int .i64 r1, .int .i64 r2]) ∧ Below w.heap.size w w' := by
 have hu26 := Try.underlying26
 have HR0_0 := Aside0.mk hr0_0
 have HC0_0 := Aside0.mk hc0_0
 clear hr0_0 hc0_0
 have HB := Aside0.mk (Below.refl w.heap.size w)
 have H : ((impl_treeCode.f k l0_0 ([a1] : List Int)).bind fun t500 => (if t500 = 0 then ((impl_heavyChildren.f k l0_0).bind fun t501 => ((impl_parentsOf.f k l0_0).bind fun t504 => (impl_LightSteps.l0 k a1 t501 t504 0))) else (some (0, t500)))) = some (r1, r2) := h
 clear h
 obtain ⟨y497, hy497⟩ : ∃ y_ : List Int, y_ = ([a1] : List Int) := ⟨_, rfl⟩
 replace H : ((impl_treeCode.f k l0_0 y497).bind fun t500 => (if t500 = 0 then ((impl_heavyChildren.f k l0_0).bind fun t501 => ((impl_parentsOf.f k l0_0).bind fun t504 => (impl_LightSteps.l0 k a1 t501 t504 0))) else (some (0, t500)))) = some (r1, r2) := by first | (rw [hy497]; with_reducible exact H) | (have H2_ := (Option.bind_some _ _).symm.trans H; rw [hy497]; with_reducible exact H2_) | (have H2_ := (Option.bind_some _ _).symm.trans H; with_reducible exact H2_) | with_reducible exact H | (rw [hy497]; exact H) | exact H
 have Ny497 := Aside0.mk hy497
 clear hy497
 replace H := Option.bind_eq_some_iff.mp H
 obtain ⟨t500, A30, H⟩ := H
 replace H : (if t500 = 0 then ((impl_heavyChildren.f k l0_0).bind fun t501 => ((impl_parentsOf.f k l0_0).bind fun t504 => (impl_LightSteps.l0 k a1 t501 t504 0))) else (some (0, t500))) = some (r1, r2) := H
 have A3 := Aside0.mk A30
 clear A30
 by_cases c4 : t500 = 0
 rotate_left
 ·rw [if_neg c4] at H
  have c4b0 : (t500 == 0) = false := beq_eq_false_iff_ne.mpr c4
  have c4b1 : (t500 != 0) = true := bne_iff_ne.mpr c4
  simp only [Option.some.injEq, Prod.mk.injEq] at H
  obtain ⟨rfl, rfl⟩ := H
  go_enter Try.func14, Try.ntmps14
  go_wp2_with (first | ((with_reducible refine gate_dst (N := 2) rfl ?_); refine box_event ?hg (N := 2) ?hd (cs := #[.slice A0_0 l0_0.length c0_0]) (t := 26) ?hr ?_; (case hd => rfl); (case hg => rfl); (case hr => exact gs); intro gb496 hg w27 hbox hb; have BK496 := Aside0.mk (hbox); have GW496 := Aside0.mk (geb hg hq : w.heap.size ≤ gb496); have GE496 := Aside0.mk (geb hg hq : w.heap.size ≤ gb496); replace HB := Aside0.mk (below_step hq hb); clear hb hbox hg; have hcz28_0 : w27.cell? ⟨gb496, 0, none⟩ = some (.slice A0_0 l0_0.length c0_0) := (blk_cell BK496.out 0).trans rfl; have hfz28_0 := blk_frozen BK496.out 0) | ((with_reducible refine gate_dst (N := 12) rfl ?_); refine Kd.R_lit (Kd.int .i64) _ 2 ?hg (N := 12) ?hd (xs := ([a1] : List Int)) (inner := [.int .i64 a1]) (ok := fun _ => True) (okp := fun _ => True) ?hr ?hp (fun _ hk => hk) trivial (Below.refl _ _) (Nat.le_refl _) (by simp) ?_; (case hd => rfl); (case hg => rfl); (case hr => exact gs); (case hp => exact (Reps.one (show Kd.M (Kd.int .i64) _ _ _ a1 [.int .i64 a1] from rfl) (Reps.none _ _))); intro v498 w29 ho30 hb hg_ hnew_; clear hg_ hnew_; (first | rw [← Ny497.out] at ho30 | (simp only [Int.reduceToNat] at ho30; rw [← Ny497.out] at ho30)); have HO499 := Aside0.mk (Kd.R_lower ho30 (below_size hq)); replace BK496 := bb BK496 hb; replace HB := Aside0.mk (below_step hq hb); clear hb ho30; obtain ⟨Ao31, co31, eo31⟩ := Kd.R_slice HO499.out; subst eo31) | ((with_reducible refine gate_callee (f := 47) rfl ?_); refine goesL_ (some 13) rfl rfl Try.func47 (by kernel_rfl) rfl #[.agg #[.slice A0_0 l0_0.length c0_0], .slice Ao31 y497.length co31] rfl am ?_; (with_reducible refine (impl_treeCode.calls k _ _ l0_0 _ _ y497 t500 _ ?side1 ?side2 ?side3 ?side4 A3.out).mono ?_); (case side1 => exact pc (Kd.C_below HR0_0.out HB.out)); (case side2 => exact HC0_0.out); (case side3 => exact pc ((Kd.R_reads' HO499.out).2.2)); (case side4 => exact (Kd.R_reads' HO499.out).2.1); rintro e w32 ⟨rfl, hb⟩; refine ⟨_, rfl, ?_⟩; replace HO499 := rb HO499 hb; replace BK496 := bb BK496 hb; replace HB := Aside0.mk (below_step hq hb); (try clear hb); (try clear hb2); (try clear hk); (try clear hi)))
  go_ret2
  exact ⟨ew, hq⟩
 rw [if_pos c4] at H
 have c4b0 : (t500 == 0) = true := beq_iff_eq.mpr c4
 have c4b1 : (t500 != 0) = false := bne_eq_false_iff_eq.mpr c4
 clear c4
 replace H := Option.bind_eq_some_iff.mp H
 obtain ⟨t501, A50, H⟩ := H
 replace H : ((impl_parentsOf.f k l0_0).bind fun t504 => (impl_LightSteps.l0 k a1 t501 t504 0)) = some (r1, r2) := H
 have A5 := Aside0.mk A50
 clear A50
 replace H := Option.bind_eq_some_iff.mp H
 obtain ⟨t504, A60, H⟩ := H
 replace H : (impl_LightSteps.l0 k a1 t501 t504 0) = some (r1, r2) := H
 have A6 := Aside0.mk A60
 clear A60
 have H' := Aside0.mk H
 clear H
 go_enter Try.func14, Try.ntmps14
 try go_wp2_with (first | ((with_reducible refine gate_dst (N := 2) rfl ?_); refine box_event ?hg (N := 2) ?hd (cs := #[.slice A0_0 l0_0.length c0_0]) (t := 26) ?hr ?_; (case hd => rfl); (case hg => rfl); (case hr => exact gs); intro gb496 hg w7 hbox hb; have BK496 := Aside0.mk (hbox); have GW496 := Aside0.mk (geb hg hq : w.heap.size ≤ gb496); have GE496 := Aside0.mk (geb hg hq : w.heap.size ≤ gb496); replace HB := Aside0.mk (below_step hq hb); clear hb hbox hg; have hcz8_0 : w7.cell? ⟨gb496, 0, none⟩ = some (.slice A0_0 l0_0.length c0_0) := (blk_cell BK496.out 0).trans rfl; have hfz8_0 := blk_frozen BK496.out 0) | ((with_reducible refine gate_dst (N := 12) rfl ?_); refine Kd.R_lit (Kd.int .i64) _ 2 ?hg (N := 12) ?hd (xs := ([a1] : List Int)) (inner := [.int .i64 a1]) (ok := fun _ => True) (okp := fun _ => True) ?hr ?hp (fun _ hk => hk) trivial (Below.refl _ _) (Nat.le_refl _) (by simp) ?_; (case hd => rfl); (case hg => rfl); (case hr => exact gs); (case hp => exact (Reps.one (show Kd.M (Kd.int .i64) _ _ _ a1 [.int .i64 a1] from rfl) (Reps.none _ _))); intro v498 w9 ho10 hb hg_ hnew_; clear hg_ hnew_; (first | rw [← Ny497.out] at ho10 | (simp only [Int.reduceToNat] at ho10; rw [← Ny497.out] at ho10)); have HO499 := Aside0.mk (Kd.R_lower ho10 (below_size hq)); replace BK496 := bb BK496 hb; replace HB := Aside0.mk (below_step hq hb); clear hb ho10; obtain ⟨Ao11, co11, eo11⟩ := Kd.R_slice HO499.out; subst eo11) | ((with_reducible refine gate_callee (f := 47) rfl ?_); refine goesL_ (some 13) rfl rfl Try.func47 (by kernel_rfl) rfl #[.agg #[.slice A0_0 l0_0.length c0_0], .slice Ao11 y497.length co11] rfl am ?_; (with_reducible refine (impl_treeCode.calls k _ _ l0_0 _ _ y497 t500 _ ?side1 ?side2 ?side3 ?side4 A3.out).mono ?_); (case side1 => exact pc (Kd.C_below HR0_0.out HB.out)); (case side2 => exact HC0_0.out); (case side3 => exact pc ((Kd.R_reads' HO499.out).2.2)); (case side4 => exact (Kd.R_reads' HO499.out).2.1); rintro e w12 ⟨rfl, hb⟩; refine ⟨_, rfl, ?_⟩; replace HO499 := rb HO499 hb; replace BK496 := bb BK496 hb; replace HB := Aside0.mk (below_step hq hb); (try clear hb); (try clear hb2); (try clear hk); (try clear hi)))
 have n0_ := Aside0.mk (Kd.R_drew HO499.out)
 have n1_ := Aside0.mk (blk_drew BK496.out)
 have n2_ := Aside0.mk (below_drew1 HB.out)
 clear HO499
 clear BK496
 clear HB
 have HO499 := n0_
 have BK496 := n1_
 have HB := n2_
 clear n0_ n1_ n2_
 refine start_ (n := 9) (S := fun w' => w'.cell? ⟨gb496, 0, none⟩ = some (.slice A0_0 l0_0.length c0_0)) (ds := []) #[false, false, false, false, false, false, false, false, false] (by kernel_rfl) rfl rfl ((blk_cell BK496.out 0).trans rfl) (fun hHeld => ?_); refine with_tabW impl_LightSteps.tab4 impl_LightSteps.bits4 (fun HT_ HW_ => ?_)
 generalize w12.drew = w13 at HO499 BK496 HB hHeld ⊢
 refine pure_ (i := 0) (N := some 17) (v := ?_) (a' := ?_) #[true, false, false, false, false, false, false, false, false] rfl rfl (any_of HT_.out (by kernel_rfl)) (fun _ _ _ h => h) (Or.inl ⟨by rfl, ?_⟩) ?_ ?_
 rotate_left
 ·intro w'
  go_simp
  with_reducible rfl
 rotate_left
 ·simp only [Act.put, sIB, sc0, scs, i64_w, i32_w]
  rfl
 refine pure_ (i := 3) (N := some 20) (v := ?_) (a' := ?_) #[true, false, false, true, false, false, false, false, false] rfl rfl (any_of HT_.out (by kernel_rfl)) (fun _ _ _ h => h) (Or.inl ⟨by rfl, ?_⟩) ?_ ?_
 rotate_left
 ·intro w'
  go_simp
  with_reducible rfl
 rotate_left
 ·simp only [Act.put, sIB, sc0, scs, i64_w, i32_w]
  rfl
 refine take_ (i := 1) (N := some 18) (v := ?_) (a' := ?_) #[true, true, false, true, false, false, false, false, false] rfl rfl (take_ofW HT_.out HW_.out (by kernel_rfl)) (fun _ _ _ h => h) (Or.inl ⟨by rfl, ?_⟩) hHeld ?_ ?_
 rotate_left
 ·intro w' s0
  go_simp
  with_reducible rfl
 rotate_left
 ·simp only [Act.put, sIB, sc0, scs, i64_w, i32_w]
  rfl
 refine take_ (i := 4) (N := some 21) (v := ?_) (a' := ?_) #[true, true, false, true, true, false, false, false, false] rfl rfl (take_ofW HT_.out HW_.out (by kernel_rfl)) (fun _ _ _ h => h) (Or.inl ⟨by rfl, ?_⟩) hHeld ?_ ?_
 rotate_left
 ·intro w' s0
  go_simp
  with_reducible rfl
 rotate_left
 ·simp only [Act.put, sIB, sc0, scs, i64_w, i32_w]
  rfl
 refine one_ (i := 2) (N := some 19) #[true, true, true, true, true, false, false, false, false] rfl rfl (one_of HT_.out (by kernel_rfl)) (by decide) (fun K hK => ?_)
 refine goes_ Try.func39 (by kernel_rfl) rfl #[.slice A0_0 l0_0.length c0_0] (by rfl) rfl rfl am ?_
 with_reducible refine (impl_heavyChildren.calls k _ _ l0_0 t501 _ ?side1 ?side2 A5.out).mono ?_
 (case side1 => exact pc (Kd.C_below HR0_0.out HB.out))
 (case side2 => exact HC0_0.out)
 rintro e w14 ⟨v502, rfl, ho0, hb⟩
 refine ⟨_, rfl, ?_⟩
 have n0_ := rn HO499 ho0 hb
 have n1_ := Aside0.mk (Kd.R_lower (Kd.R_new' ho0 (Kd.R_lt (pe HO499.out))) (below_size hq))
 have n2_ := bb BK496 hb
 have n3_ := Aside0.mk (below_step hq hb)
 clear HO499
 clear BK496
 clear HB
 have HO499 := n0_
 have HO503 := n1_
 have BK496 := n2_
 have HB := n3_
 clear n0_ n1_ n2_ n3_
 (try clear hb)
 (try clear hb2)
 (try clear hk)
 (try clear hi)
 (try clear ho0)
 refine hK.out _ _ ((blk_cell BK496.out 0).trans rfl) (fun hHeld => ?_)
 clear hK K
 refine norm_ (a' := ?_) ?_ ?_
 rotate_left
 ·show Act.put _ (some 19) _ = _
  simp only [Act.put, sIB, sc0, scs, i64_w, i32_w]
  rfl
 refine one_ (i := 5) (N := some 22) #[true, true, true, true, true, true, false, false, false] rfl rfl (one_of HT_.out (by kernel_rfl)) (by decide) (fun K hK => ?_)
 refine goes_ Try.func48 (by kernel_rfl) rfl #[.slice A0_0 l0_0.length c0_0] (by rfl) rfl rfl am ?_
 with_reducible refine (impl_parentsOf.calls k _ _ l0_0 t504 _ ?side1 ?side2 A6.out).mono ?_
 (case side1 => exact pc (Kd.C_below HR0_0.out HB.out))
 (case side2 => exact HC0_0.out)
 rintro e w15 ⟨v505, rfl, ho0, hb⟩
 refine ⟨_, rfl, ?_⟩
 have n0_ := rn HO499 ho0 hb
 have n1_ := rn HO503 ho0 hb
 have n2_ := Aside0.mk (Kd.R_lower (Kd.R_new' (Kd.R_new' ho0 (Kd.R_lt (pe HO499.out))) (Kd.R_lt (pe HO503.out))) (below_size hq))
 have n3_ := bb BK496 hb
 have n4_ := Aside0.mk (below_step hq hb)
 clear HO499
 clear HO503
 clear BK496
 clear HB
 have HO499 := n0_
 have HO503 := n1_
 have HO506 := n2_
 have BK496 := n3_
 have HB := n4_
 clear n0_ n1_ n2_ n3_ n4_
 (try clear hb)
 (try clear hb2)
 (try clear hk)
 (try clear hi)
 (try clear ho0)
 refine hK.out _ _ ((blk_cell BK496.out 0).trans rfl) (fun hHeld => ?_)
 clear hK K
 refine norm_ (a' := ?_) ?_ ?_
 rotate_left
 ·show Act.put _ (some 22) _ = _
  simp only [Act.put, sIB, sc0, scs, i64_w, i32_w]
  rfl
 refine pure_ (i := 6) (N := some 7) (v := ?_) (a' := ?_) #[true, true, true, true, true, true, true, false, false] rfl rfl (any_of HT_.out (by kernel_rfl)) (fun _ _ _ h => h) (Or.inl ⟨by rfl, ?_⟩) ?_ ?_
 rotate_left
 ·intro w'
  go_simp
  with_reducible rfl
 rotate_left
 ·simp only [Act.put, sIB, sc0, scs, i64_w, i32_w]
  rfl
 refine pure_ (i := 7) (N := some 8) (v := ?_) (a' := ?_) #[true, true, true, true, true, true, true, true, false] rfl rfl (any_of HT_.out (by kernel_rfl)) (fun _ _ _ h => h) (Or.inl ⟨by rfl, ?_⟩) ?_ ?_
 rotate_left
 ·intro w'
  go_simp
  with_reducible rfl
 rotate_left
 ·simp only [Act.put, sIB, sc0, scs, i64_w, i32_w]
  rfl
 refine pure_ (i := 8) (N := some 9) (v := ?_) (a' := ?_) #[true, true, true, true, true, true, true, true, true] rfl rfl (any_of HT_.out (by kernel_rfl)) (fun _ _ _ h => h) (Or.inl ⟨by rfl, ?_⟩) ?_ ?_
 rotate_left
 ·intro w'
  go_simp
  with_reducible rfl
 rotate_left
 ·simp only [Act.put, sIB, sc0, scs, i64_w, i32_w]
  rfl
 refine done_ (done_of HT_.out (by kernel_rfl)) ?_
 try go_wp2
 go_loopg [1, 9] k (fun kq v1 v9 w' => ∃ (x1_1 : Int) (x9_1 : Int), v1 = .int .i64 x1_1 ∧ v9 = .int .i64 x9_1 ∧ Aside0 (impl_LightSteps.l0 kq x1_1 t501 t504 x9_1 = some (r1, r2)) ∧ Aside0 (kq ≤ k) ∧ Aside0 (Kd.R (Kd.int .i64) 2 w' w.heap.size (fun k_ => some k_ ≠ (v505 : Value).ownBlock) v502 t501) ∧ Aside0 (Kd.R (Kd.int .i64) 2 w' w.heap.size (fun k_ => some k_ ≠ (v502 : Value).ownBlock) v505 t504) ∧ Aside0 (w'.heap[gb496]? = some (.cells #[(.slice A0_0 l0_0.length c0_0)] 26 (0, 0))) ∧ Aside0 (Below w.heap.size w w'))
 case atStart => exact ⟨(a1), (0), q10_0, q10_0, H', ⟨Nat.le_refl _⟩, ⟨pe (Kd.R_mono HO503.out (fun _ hk => hk.2))⟩, ⟨pe (Kd.R_mono HO506.out (fun _ hk => hk.2))⟩, ⟨pb BK496.out⟩, ⟨hq⟩⟩
 case round =>
  clear H'
  try clear c1
  try clear p2
  try clear c3
  try clear c4
  try clear c4b0
  try clear c4b1
  try clear c14
  try clear hcz8_0
  try clear hfz8_0
  obtain ⟨x1_1, x9_1, rfl, rfl, HA, HK1, HO_7, HO_8, BK496, HB⟩ := hrel
  cases gk with | zero => exact absurd HA.out (by simp [impl_LightSteps.l0]) | succ k1 => ?_
  have H := HA.out
  clear HA
  simp only [impl_LightSteps.l0] at H
  by_cases c16 : x1_1 > 0
  rotate_left
  ·rw [if_neg c16] at H
   have c16b0 : decide (0 < x1_1) = false := decide_eq_false c16
   clear c16
   simp only [Option.some.injEq, Prod.mk.injEq] at H
   obtain ⟨rfl, rfl⟩ := H
   go_wp2
   go_ret2
   exact ⟨ew, hq⟩
  rw [if_pos c16] at H
  have c16b0 : decide (0 < x1_1) = true := decide_eq_true c16
  clear c16
  replace H := Option.bind_eq_some_iff.mp H
  obtain ⟨t507, A170, H⟩ := H
  replace H : (if t507 = true then (if 0 ≤ x1_1 then (if x1_1 < (t504.length : Int) then (impl_LightSteps.l0 k1 (rd t504 x1_1) t501 t504 x9_1) else (none)) else (none)) else (if 0 ≤ x1_1 then (if x1_1 < (t504.length : Int) then (impl_LightSteps.l0 k1 (rd t504 x1_1) t501 t504 (wrap64 (x9_1 + 1))) else (none)) else (none))) = some (r1, r2) := H
  have A17 := Aside0.mk A170
  clear A170
  by_cases c18 : t507 = true
  ·subst c18
   replace H : (if 0 ≤ x1_1 then (if x1_1 < (t504.length : Int) then (impl_LightSteps.l0 k1 (rd t504 x1_1) t501 t504 x9_1) else (none)) else (none)) = some (r1, r2) := by rw [if_pos rfl] at H; exact H
   by_cases c19 : 0 ≤ x1_1
   rotate_left
   ·rw [if_neg c19] at H
    exact absurd H (by simp)
   rw [if_pos c19] at H
   have c19b0 : decide (0 ≤ x1_1) = true := decide_eq_true c19
   clear c19
   by_cases c20 : x1_1 < (t504.length : Int)
   rotate_left
   ·rw [if_neg c20] at H
    exact absurd H (by simp)
   rw [if_pos c20] at H
   have c20b0 : decide (x1_1 < (t504.length : Int)) = true := decide_eq_true c20
   clear c20
   have H' := Aside0.mk H
   clear H
   obtain ⟨Ao21, co21, eo21⟩ := Kd.R_slice HO_7.out
   subst eo21
   go_wp2_with (first | ((with_reducible refine gate_callee (f := 40) rfl ?_); refine goesL_ (some 31) rfl rfl Try.func40 (by kernel_rfl) rfl #[.slice Ao21 t501.length co21, .int .i64 x1_1] rfl am ?_; (with_reducible refine (slices_Contains_int64_int64.calls k1 _ _ t501 x1_1 true _ ?side1 ?side2 A17.out).mono ?_); (case side1 => exact pc ((Kd.R_reads' HO_7.out).2.2)); (case side2 => exact (Kd.R_reads' HO_7.out).2.1); rintro e w' ⟨rfl, ⟨nd, rfl⟩⟩; refine ⟨_, rfl, ?_⟩; obtain ⟨Ao22, co22, eo22⟩ := Kd.R_slice HO_8.out; subst eo22; have p508 : 0 ≤ (x1_1 : Int) := of_decide_eq_true q10_1; have q508 : x1_1 < (t504.length : Int) := of_decide_eq_true q10_1; obtain ⟨ad508, e508, hx508_0⟩ := Kd.at_int (Kd.R_reads' HO_8.out).2.2 x1_1 p508 q508; cases e508; replace p508 := eq_true p508; replace q508 := eq_true q508))
   go_roundg k1
   case measure => have := HK1.out; omega
   case rel => exact ⟨(rd t504 x1_1), (x9_1), q10_0, q10_0, H', ⟨by have := HK1.out; omega⟩, ⟨pe HO_7.out⟩, ⟨pe HO_8.out⟩, ⟨pb BK496.out⟩, ⟨hq⟩⟩
  replace c18 := Bool.eq_false_iff.mpr c18
  subst c18
  have H1 : (if 0 ≤ x1_1 then (if x1_1 < (t504.length : Int) then (impl_LightSteps.l0 k1 (rd t504 x1_1) t501 t504 (wrap64 (x9_1 + 1))) else (none)) else (none)) = some (r1, r2) := by rw [if_neg (show ¬ (false = true) by decide)] at H; exact H
  clear H
  have H := H1
  clear H1
  by_cases c23 : 0 ≤ x1_1
  rotate_left
  ·rw [if_neg c23] at H
   exact absurd H (by simp)
  rw [if_pos c23] at H
  have c23b0 : decide (0 ≤ x1_1) = true := decide_eq_true c23
  clear c23
  by_cases c24 : x1_1 < (t504.length : Int)
  rotate_left
  ·rw [if_neg c24] at H
   exact absurd H (by simp)
  rw [if_pos c24] at H
  have c24b0 : decide (x1_1 < (t504.length : Int)) = true := decide_eq_true c24
  clear c24
  have H' := Aside0.mk H
  clear H
  obtain ⟨Ao25, co25, eo25⟩ := Kd.R_slice HO_7.out
  subst eo25
  go_wp2_with (first | ((with_reducible refine gate_callee (f := 40) rfl ?_); refine goesL_ (some 31) rfl rfl Try.func40 (by kernel_rfl) rfl #[.slice Ao25 t501.length co25, .int .i64 x1_1] rfl am ?_; (with_reducible refine (slices_Contains_int64_int64.calls k1 _ _ t501 x1_1 false _ ?side1 ?side2 A17.out).mono ?_); (case side1 => exact pc ((Kd.R_reads' HO_7.out).2.2)); (case side2 => exact (Kd.R_reads' HO_7.out).2.1); rintro e w' ⟨rfl, ⟨nd, rfl⟩⟩; refine ⟨_, rfl, ?_⟩; obtain ⟨Ao26, co26, eo26⟩ := Kd.R_slice HO_8.out; subst eo26; have p509 : 0 ≤ (x1_1 : Int) := of_decide_eq_true q10_1; have q509 : x1_1 < (t504.length : Int) := of_decide_eq_true q10_1; obtain ⟨ad509, e509, hx509_0⟩ := Kd.at_int (Kd.R_reads' HO_8.out).2.2 x1_1 p509 q509; cases e509; replace p509 := eq_true p509; replace q509 := eq_true q509))
  go_roundg k1
  case measure => have := HK1.out; omega
  case rel => exact ⟨(rd t504 x1_1), (wrap64 (x9_1 + 1)), q10_0, q10_0, H', ⟨by have := HK1.out; omega⟩, ⟨pe HO_7.out⟩, ⟨pe HO_8.out⟩, ⟨pb BK496.out⟩, ⟨hq⟩⟩

end Go.Proofs.Ytlppkilencpmeaa.QFnHeavyPaths
