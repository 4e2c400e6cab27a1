/- Functions as Lean functions, with their contracts: written by a program of this claim over the translation; some contracts are proved by hand. -/
import Derived.Test.YtlppkilencpmeaaQFnHeavyPathsx0
import Derived.Test.YtlppkilencpmeaaQFnHeavyPathsx1
import Derived.Test.YtlppkilencpmeaaQFnHeavyPathsx4
import Derived.Test.YtlppkilencpmeaaQFnHeavyPathsx5
import Derived.Test.YtlppkilencpmeaaQFnHeavyPathsx8
import Derived.Test.YtlppkilencpmeaaQFnHeavyPathsx9
import Derived.Test.YtlppkilencpmeaaQFnHeavyPathsx10
import Derived.Test.YtlppkilencpmeaaQFnHeavyPathsx11
import Derived.Test.YtlppkilencpmeaaQFnHeavyPathsx12
import Derived.Test.YtlppkilencpmeaaQFnHeavyPathsx13
namespace Go.Proofs.Ytlppkilencpmeaa.QFnHeavyPaths
open Go.RowKit Go.Proofs.Ytlppkilencpmeaa.Gl Go.Proofs.Ytlppkilencpmeaa.Sz Go.Proofs.YtlppkilencpmeaaW.PrintWords Go.Proofs.YtlppkilencpmeaaW.PrintLast Go.Proofs.YtlppkilencpmeaaW.PrintMore
attribute [local go_sem] max2_int min2_int max_two min_two max_three min_three max_four min_four   -- for this text's walks alone
set_option linter.unusedVariables false
set_option linter.unusedSimpArgs false
theorem q14_0 {P : Prop} (h : P := by first | (with_reducible assumption) | assumption) : P := h
theorem q14_1 {P : Prop} (h : P := by first | rfl | (simp; done) | (simp [*]; done)) : P := h
theorem q14_2 {P : Prop} (h : P := by have := HJ6.out; have := HJ21.out; have := HJ34.out; have := HJ47.out; have := HJ59.out; have := HJ71.out; have := HJ81.out; have := HK8.out; have := HJ115.out; have := HK10.out; first | omega | exact Nat.le_refl _) : P := h
theorem q14_3 {P : Prop} (h : P := by repeat (first | (with_reducible exact HR656_0.out) | (with_reducible refine Kd.C_alloc ?_ _) | (with_reducible refine Kd.C_drewN ?_ _) | (with_reducible refine Kd.C_drew ?_) | exact HR656_0.out)) : P := h
theorem q14_4 {P : Prop} (h : P := by repeat (first | (with_reducible exact HR655_0.out) | (with_reducible refine Kd.C_alloc ?_ _) | (with_reducible refine Kd.C_drewN ?_ _) | (with_reducible refine Kd.C_drew ?_) | exact HR655_0.out)) : P := h
theorem q14_5 {P : Prop} (h : P := by (with_reducible repeat (first | refine blk_drewN ?_ _ | refine blk_drew ?_ | refine blk_alloc ?_ _)); refine blk_put (cs := #[.slice none 0 0]) ?_ 0 _ rfl; exact pb BK635.out) : P := h
theorem q14_6 {P : Prop} (h : P := by (with_reducible repeat (first | refine blk_drewN ?_ _ | refine blk_drew ?_ | refine blk_alloc ?_ _)); refine blk_put (cs := #[.slice none 0 0]) ?_ 0 _ rfl; exact pb BK619.out) : P := h
theorem q14_7 {P : Prop} (h : P := by (with_reducible repeat (first | refine blk_drewN ?_ _ | refine blk_drew ?_ | refine blk_alloc ?_ _)); refine blk_put (cs := #[.slice none 0 0]) ?_ 0 _ rfl; exact pb BK596.out) : P := h
theorem q14_8 {P : Prop} (h : P := by (with_reducible repeat (first | refine blk_drewN ?_ _ | refine blk_drew ?_ | refine blk_alloc ?_ _)); refine blk_far ?_ NB619_635.out _; exact pb BK619.out) : P := h
theorem q14_9 {P : Prop} (h : P := by (with_reducible repeat (first | refine blk_drewN ?_ _ | refine blk_drew ?_ | refine blk_alloc ?_ _)); refine blk_far ?_ NB596_635.out _; exact pb BK596.out) : P := h
theorem q14_10 {P : Prop} (h : P := by (with_reducible repeat (first | refine blk_drewN ?_ _ | refine blk_drew ?_ | refine blk_alloc ?_ _)); refine blk_far ?_ NB596_619.out _; exact pb BK596.out) : P := h
theorem q14_11 {P : Prop} (h : P := by have := HJ6.out; have := HJ21.out; have := HJ34.out; have := HJ47.out; have := HJ59.out; first | omega | exact Nat.le_refl _) : P := h

/-! ### laws_FnHeavyPaths: function 3 -/
mutual
def laws_FnHeavyPaths.j0 : Nat → List Int → List (List Int) → Int → Bool → List Int → Option (Bool)
 | 0, _, _, _, _, _ => none
 | k + 1, x0, x4, x5, x63, x597000 => if x63 = true then (none) else ((impl_HeavyChildren.f k x597000).bind fun bt606 => ((spec_HeavyChildren.f k x597000).bind fun bt610 => (if bt606.2 = bt610.2 then ((laws_likeInts.f k bt606.1 bt610.1).bind fun t614 => (laws_FnHeavyPaths.j1 k x0 x4 x5 bt606.1 bt606.2 (!t614) x597000)) else (none))))
def laws_FnHeavyPaths.j1 : Nat → List Int → List (List Int) → Int → List Int → Int → Bool → List Int → Option (Bool)
 | 0, _, _, _, _, _, _, _ => none
 | k + 1, x0, x4, x5, x8, x9, x82, x597000 => if x82 = true then (none) else ((spec_DrawLightSteps.f k x0).bind fun bt615 => ((impl_LightSteps.f k bt615.1 bt615.2).bind fun bt620 => ((spec_LightSteps.f k bt615.1 bt615.2).bind fun bt622 => (if bt620.2 = bt622.2 then (laws_FnHeavyPaths.j2 k x0 x4 x5 x8 x9 bt615.2 bt620.1 bt620.2 (bt620.1 != bt622.1) x597000 bt615.1) else (none)))))
def laws_FnHeavyPaths.j2 : Nat → List Int → List (List Int) → Int → List Int → Int → Int → Int → Int → Bool → List Int → List Int → Option (Bool)
 | 0, _, _, _, _, _, _, _, _, _, _, _ => none
 | k + 1, x0, x4, x5, x8, x9, x13, x14, x15, x107, x597000, x620000 => if x107 = true then (none) else ((impl_IntervalOf.f k x620000 x13).bind fun bt624 => ((spec_IntervalOf.f k x620000 x13).bind fun bt627 => (if bt624.2.2 = bt627.2.2 then (if bt624.1 = bt627.1 then (laws_FnHeavyPaths.j3 k x0 x4 x5 x8 x9 x13 x14 x15 bt624.1 bt624.2.1 bt624.2.2 (bt624.2.1 != bt627.2.1) x597000 x620000) else (none)) else (none))))
def laws_FnHeavyPaths.j3 : Nat → List Int → List (List Int) → Int → List Int → Int → Int → Int → Int → Int → Int → Int → Bool → List Int → List Int → Option (Bool)
 | 0, _, _, _, _, _, _, _, _, _, _, _, _, _, _ => none
 | k + 1, x0, x4, x5, x8, x9, x13, x14, x15, x18, x19, x20, x134, x597000, x620000 => if x134 = true then (none) else ((spec_DrawAncestorOf.f k x0).bind fun bt630 => ((impl_AncestorOf.f k bt630.1 bt630.2.1 bt630.2.2).bind fun bt636 => ((spec_AncestorOf.f k bt630.1 bt630.2.1 bt630.2.2).bind fun bt638 => (if bt636.2 = bt638.2 then (laws_FnHeavyPaths.j4 k x4 x5 x8 x9 x13 x14 x15 x18 x19 x20 bt630.2.1 bt636.1 bt636.2 (bt636.1 != bt638.1) x597000 x620000 bt630.1) else (none)))))
def laws_FnHeavyPaths.j4 : Nat → List (List Int) → Int → List Int → Int → Int → Int → Int → Int → Int → Int → Int → Int → Int → Bool → List Int → List Int → List Int → Option (Bool)
 | 0, _, _, _, _, _, _, _, _, _, _, _, _, _, _, _, _, _ => none
 | k + 1, x4, x5, x8, x9, x13, x14, x15, x18, x19, x20, x25, x27, x28, x162, x597000, x620000, x636000 => if x162 = true then (none) else (if x28 = 0 then ((impl_IsBelow.f k x636000 x25 x27).bind fun bt640 => (if bt640.2 = 0 then (laws_FnHeavyPaths.j5 k x4 x5 x8 x9 x13 x14 x15 x18 x19 x20 (!bt640.1) x597000 x620000) else (none))) else (laws_FnHeavyPaths.j6 k x4 x5 x8 x9 x13 x14 x15 x18 x19 x20 x597000 x620000))
def laws_FnHeavyPaths.j6 : Nat → List (List Int) → Int → List Int → Int → Int → Int → Int → Int → Int → Int → List Int → List Int → Option (Bool)
 | 0, _, _, _, _, _, _, _, _, _, _, _, _ => none
 | k + 1, x4, x5, x8, x9, x13, x14, x15, x18, x19, x20, x597000, x620000 => if x15 = 0 then (laws_FnHeavyPaths.l0 k x4 x5 x8 x9 x13 x14 x18 x19 x20 1 0 x597000 x620000) else (laws_FnHeavyPaths.j9 k x4 x5 x8 x9 x597000)
def laws_FnHeavyPaths.j9 : Nat → List (List Int) → Int → List Int → Int → List Int → Option (Bool)
 | 0, _, _, _, _, _ => none
 | k + 1, x4, x5, x8, x9, x597000 => if x5 = 0 then (if 0 ≤ (x597000.length : Int) then (if ((x597000.length : Int) : Int).toNat ≤ 281474976710656 then (laws_FnHeavyPaths.l1 k x4 x8 (List.replicate ((x597000.length : Int) : Int).toNat false) 0) else (none)) else (none)) else (if (x4.length : Int) = 0 then (some (x9 == x5)) else (none))
def laws_FnHeavyPaths.l1 : Nat → List (List Int) → List Int → List Bool → Int → Option (Bool)
 | 0, _, _, _, _ => none
 | k + 1, x4, x8, x37, x38 => if x38 < (x4.length : Int) then (if 0 ≤ x38 then (if ((rd_L2 x4 x38).length : Int) = 0 then (none) else (if 0 ≤ (wrap64 (((rd_L2 x4 x38).length : Int) - 1)) then (if (wrap64 (((rd_L2 x4 x38).length : Int) - 1)) < ((rd_L2 x4 x38).length : Int) then (if 0 ≤ (rd (rd_L2 x4 x38) (wrap64 (((rd_L2 x4 x38).length : Int) - 1))) then (if (rd (rd_L2 x4 x38) (wrap64 (((rd_L2 x4 x38).length : Int) - 1))) < (x8.length : Int) then (laws_FnHeavyPaths.j11 k x4 x8 x37 x38 ((rd x8 (rd (rd_L2 x4 x38) (wrap64 (((rd_L2 x4 x38).length : Int) - 1)))) != (-1))) else (none)) else (none)) else (none)) else (none))) else (none)) else (laws_FnHeavyPaths.l3 k x37 0)
def laws_FnHeavyPaths.j11 : Nat → List (List Int) → List Int → List Bool → Int → Bool → Option (Bool)
 | 0, _, _, _, _, _ => none
 | k + 1, x4, x8, x37, x38, x259 => if x259 = true then (none) else (laws_FnHeavyPaths.l2 k x4 x8 x37 x38 0)
def laws_FnHeavyPaths.l2 : Nat → List (List Int) → List Int → List Bool → Int → Int → Option (Bool)
 | 0, _, _, _, _, _ => none
 | k + 1, x4, x8, x37, x38, x39 => if 0 ≤ x38 then (if x38 < (x4.length : Int) then (if x39 < ((rd_L2 x4 x38).length : Int) then (if 0 ≤ x39 then (if 0 ≤ (rd (rd_L2 x4 x38) x39) then (if (rd (rd_L2 x4 x38) x39) < (x37.length : Int) then (if rdOf false x37 (rd (rd_L2 x4 x38) x39) = true then (none) else (if x39 > 0 then (if 0 ≤ (wrap64 (x39 - 1)) then (if (wrap64 (x39 - 1)) < ((rd_L2 x4 x38).length : Int) then (if 0 ≤ (rd (rd_L2 x4 x38) (wrap64 (x39 - 1))) then (if (rd (rd_L2 x4 x38) (wrap64 (x39 - 1))) < (x8.length : Int) then (laws_FnHeavyPaths.j13 k x4 x8 x37 x38 x39 ((rd x8 (rd (rd_L2 x4 x38) (wrap64 (x39 - 1)))) != (rd (rd_L2 x4 x38) x39))) else (none)) else (none)) else (none)) else (none)) else (laws_FnHeavyPaths.j13 k x4 x8 x37 x38 x39 false))) else (none)) else (none)) else (none)) else (laws_FnHeavyPaths.l1 k x4 x8 x37 (wrap64 (x38 + 1)))) else (none)) else (none)
def laws_FnHeavyPaths.j13 : Nat → List (List Int) → List Int → List Bool → Int → Int → Bool → Option (Bool)
 | 0, _, _, _, _, _, _ => none
 | k + 1, x4, x8, x37, x38, x39, x303 => if x303 = true then (none) else (if 0 ≤ x38 then (if x38 < (x4.length : Int) then (if 0 ≤ x39 then (if x39 < ((rd_L2 x4 x38).length : Int) then (if 0 ≤ (rd (rd_L2 x4 x38) x39) then (if (rd (rd_L2 x4 x38) x39) < (x37.length : Int) then (laws_FnHeavyPaths.l2 k x4 x8 (x37.set ((rd (rd_L2 x4 x38) x39) : Int).toNat true) x38 (wrap64 (x39 + 1))) else (none)) else (none)) else (none)) else (none)) else (none)) else (none))
def laws_FnHeavyPaths.l3 : Nat → List Bool → Int → Option (Bool)
 | 0, _, _ => none
 | k + 1, x37, x40 => if x40 < (x37.length : Int) then (if 0 ≤ x40 then (if rdOf false x37 x40 = true then (laws_FnHeavyPaths.l3 k x37 (wrap64 (x40 + 1))) else (none)) else (none)) else (some true)
def laws_FnHeavyPaths.l0 : Nat → List (List Int) → Int → List Int → Int → Int → Int → Int → Int → Int → Int → Int → List Int → List Int → Option (Bool)
 | 0, _, _, _, _, _, _, _, _, _, _, _, _, _ => none
 | k + 1, x4, x5, x8, x9, x13, x14, x18, x19, x20, x33, x34, x597000, x620000 => if x34 < x14 then (laws_FnHeavyPaths.l0 k x4 x5 x8 x9 x13 x14 x18 x19 x20 (wrap64 (x33 * 2)) (wrap64 (x34 + 1)) x597000 x620000) else ((impl_SizesOf.f k x620000).bind fun bt642 => (if bt642.2 = 0 then (if x33 > (x620000.length : Int) then (none) else (if x20 = 0 then (if 0 ≤ x13 then (if x13 < (bt642.1.length : Int) then (laws_FnHeavyPaths.j8 k x4 x5 x8 x9 ((wrap64 ((wrap64 (x19 - x18)) + 1)) != (rd bt642.1 x13)) x597000) else (none)) else (none)) else (none))) else (none)))
def laws_FnHeavyPaths.j8 : Nat → List (List Int) → Int → List Int → Int → Bool → List Int → Option (Bool)
 | 0, _, _, _, _, _, _ => none
 | k + 1, x4, x5, x8, x9, x215, x597000 => if x215 = true then (none) else (laws_FnHeavyPaths.j9 k x4 x5 x8 x9 x597000)
def laws_FnHeavyPaths.j5 : Nat → List (List Int) → Int → List Int → Int → Int → Int → Int → Int → Int → Int → Bool → List Int → List Int → Option (Bool)
 | 0, _, _, _, _, _, _, _, _, _, _, _, _, _ => none
 | k + 1, x4, x5, x8, x9, x13, x14, x15, x18, x19, x20, x177, x597000, x620000 => if x177 = true then (none) else (laws_FnHeavyPaths.j6 k x4 x5 x8 x9 x13 x14 x15 x18 x19 x20 x597000 x620000)
end
def laws_FnHeavyPaths.f (k : Nat) (l0 : List Int) : Option (Bool) := (laws_big.f l0).bind fun t592 => (if t592 = true then (some true) else ((spec_DrawHeavyPaths.f k l0).bind fun t593 => ((impl_HeavyPaths.f k t593).bind fun bt597 => ((spec_HeavyPaths.f k t593).bind fun bt601 => (if bt597.2 = bt601.2 then ((laws_rows9.f k bt597.1 bt601.1).bind fun t605 => (laws_FnHeavyPaths.j0 k l0 bt597.1 bt597.2 (!t605) t593)) else (none))))))
theorem laws_FnHeavyPaths.mo0 {P : Prop} (h : P := by repeat' first  | (with_reducible exact ih0 _ _ _ _ _) | (with_reducible exact ih1 _ _ _ _ _ _ _) | (with_reducible exact ih2 _ _ _ _ _ _ _ _ _ _ _) | (with_reducible exact ih3 _ _ _ _ _ _ _ _ _ _ _ _ _ _) | (with_reducible exact ih4 _ _ _ _ _ _ _ _ _ _ _ _ _ _ _ _ _) | (with_reducible exact ih5 _ _ _ _ _ _ _ _ _ _ _ _) | (with_reducible exact ih6 _ _ _ _ _) | (with_reducible exact ih7 _ _ _ _) | (with_reducible exact ih8 _ _ _ _ _) | (with_reducible exact ih9 _ _ _ _ _) | (with_reducible exact ih10 _ _ _ _ _ _) | (with_reducible exact ih11 _ _) | (with_reducible exact ih12 _ _ _ _ _ _ _ _ _ _ _ _ _) | (with_reducible exact ih13 _ _ _ _ _ _) | (with_reducible exact ih14 _ _ _ _ _ _ _ _ _ _ _ _ _) | (with_reducible exact impl_AncestorOf.mono _ _ _ _) | (with_reducible exact impl_HeavyChildren.mono _ _) | (with_reducible exact impl_HeavyPaths.mono _ _) | (with_reducible exact impl_IntervalOf.mono _ _ _) | (with_reducible exact impl_IsBelow.mono _ _ _ _) | (with_reducible exact impl_LightSteps.mono _ _ _) | (with_reducible exact impl_SizesOf.mono _ _) | (with_reducible exact laws_likeInts.mono _ _ _) | (with_reducible exact laws_rows9.mono _ _ _) | (with_reducible exact spec_AncestorOf.mono _ _ _ _) | (with_reducible exact spec_DrawAncestorOf.mono _ _) | (with_reducible exact spec_DrawHeavyPaths.mono _ _) | (with_reducible exact spec_DrawLightSteps.mono _ _) | (with_reducible exact spec_HeavyChildren.mono _ _) | (with_reducible exact spec_HeavyPaths.mono _ _) | (with_reducible exact spec_IntervalOf.mono _ _ _) | (with_reducible exact spec_LightSteps.mono _ _ _) | (with_reducible exact LeO.refl _) | (with_reducible exact LeO.none _) | (with_reducible refine LeO.ite ?_ ?_) | (with_reducible refine LeO.bind ?_ (fun _ => ?_)) | exact ih0 _ _ _ _ _ | exact ih1 _ _ _ _ _ _ _ | exact ih2 _ _ _ _ _ _ _ _ _ _ _ | exact ih3 _ _ _ _ _ _ _ _ _ _ _ _ _ _ | exact ih4 _ _ _ _ _ _ _ _ _ _ _ _ _ _ _ _ _ | exact ih5 _ _ _ _ _ _ _ _ _ _ _ _ | exact ih6 _ _ _ _ _ | exact ih7 _ _ _ _ | exact ih8 _ _ _ _ _ | exact ih9 _ _ _ _ _ | exact ih10 _ _ _ _ _ _ | exact ih11 _ _ | exact ih12 _ _ _ _ _ _ _ _ _ _ _ _ _ | exact ih13 _ _ _ _ _ _ | exact ih14 _ _ _ _ _ _ _ _ _ _ _ _ _ | exact impl_AncestorOf.mono _ _ _ _ | exact impl_HeavyChildren.mono _ _ | exact impl_HeavyPaths.mono _ _ | exact impl_IntervalOf.mono _ _ _ | exact impl_IsBelow.mono _ _ _ _ | exact impl_LightSteps.mono _ _ _ | exact impl_SizesOf.mono _ _ | exact laws_likeInts.mono _ _ _ | exact laws_rows9.mono _ _ _ | exact spec_AncestorOf.mono _ _ _ _ | exact spec_DrawAncestorOf.mono _ _ | exact spec_DrawHeavyPaths.mono _ _ | exact spec_DrawLightSteps.mono _ _ | exact spec_HeavyChildren.mono _ _ | exact spec_HeavyPaths.mono _ _ | exact spec_IntervalOf.mono _ _ _ | exact spec_LightSteps.mono _ _ _ | exact LeO.none _ | refine LeO.ite ?_ ?_ | refine LeO.bind ?_ (fun _ => ?_)) : P := h
theorem laws_FnHeavyPaths.mono_l : ∀ k, (∀ y0 y1 y2 y3 y4, LeO (laws_FnHeavyPaths.j0 k y0 y1 y2 y3 y4) (laws_FnHeavyPaths.j0 (k + 1) y0 y1 y2 y3 y4)) ∧ (∀ y0 y1 y2 y3 y4 y5 y6, LeO (laws_FnHeavyPaths.j1 k y0 y1 y2 y3 y4 y5 y6) (laws_FnHeavyPaths.j1 (k + 1) y0 y1 y2 y3 y4 y5 y6)) ∧ (∀ y0 y1 y2 y3 y4 y5 y6 y7 y8 y9 y10, LeO (laws_FnHeavyPaths.j2 k y0 y1 y2 y3 y4 y5 y6 y7 y8 y9 y10) (laws_FnHeavyPaths.j2 (k + 1) y0 y1 y2 y3 y4 y5 y6 y7 y8 y9 y10)) ∧ (∀ y0 y1 y2 y3 y4 y5 y6 y7 y8 y9 y10 y11 y12 y13, LeO (laws_FnHeavyPaths.j3 k y0 y1 y2 y3 y4 y5 y6 y7 y8 y9 y10 y11 y12 y13) (laws_FnHeavyPaths.j3 (k + 1) y0 y1 y2 y3 y4 y5 y6 y7 y8 y9 y10 y11 y12 y13)) ∧ (∀ y0 y1 y2 y3 y4 y5 y6 y7 y8 y9 y10 y11 y12 y13 y14 y15 y16, LeO (laws_FnHeavyPaths.j4 k y0 y1 y2 y3 y4 y5 y6 y7 y8 y9 y10 y11 y12 y13 y14 y15 y16) (laws_FnHeavyPaths.j4 (k + 1) y0 y1 y2 y3 y4 y5 y6 y7 y8 y9 y10 y11 y12 y13 y14 y15 y16)) ∧ (∀ y0 y1 y2 y3 y4 y5 y6 y7 y8 y9 y10 y11, LeO (laws_FnHeavyPaths.j6 k y0 y1 y2 y3 y4 y5 y6 y7 y8 y9 y10 y11) (laws_FnHeavyPaths.j6 (k + 1) y0 y1 y2 y3 y4 y5 y6 y7 y8 y9 y10 y11)) ∧ (∀ y0 y1 y2 y3 y4, LeO (laws_FnHeavyPaths.j9 k y0 y1 y2 y3 y4) (laws_FnHeavyPaths.j9 (k + 1) y0 y1 y2 y3 y4)) ∧ (∀ y0 y1 y2 y3, LeO (laws_FnHeavyPaths.l1 k y0 y1 y2 y3) (laws_FnHeavyPaths.l1 (k + 1) y0 y1 y2 y3)) ∧ (∀ y0 y1 y2 y3 y4, LeO (laws_FnHeavyPaths.j11 k y0 y1 y2 y3 y4) (laws_FnHeavyPaths.j11 (k + 1) y0 y1 y2 y3 y4)) ∧ (∀ y0 y1 y2 y3 y4, LeO (laws_FnHeavyPaths.l2 k y0 y1 y2 y3 y4) (laws_FnHeavyPaths.l2 (k + 1) y0 y1 y2 y3 y4)) ∧ (∀ y0 y1 y2 y3 y4 y5, LeO (laws_FnHeavyPaths.j13 k y0 y1 y2 y3 y4 y5) (laws_FnHeavyPaths.j13 (k + 1) y0 y1 y2 y3 y4 y5)) ∧ (∀ y0 y1, LeO (laws_FnHeavyPaths.l3 k y0 y1) (laws_FnHeavyPaths.l3 (k + 1) y0 y1)) ∧ (∀ y0 y1 y2 y3 y4 y5 y6 y7 y8 y9 y10 y11 y12, LeO (laws_FnHeavyPaths.l0 k y0 y1 y2 y3 y4 y5 y6 y7 y8 y9 y10 y11 y12) (laws_FnHeavyPaths.l0 (k + 1) y0 y1 y2 y3 y4 y5 y6 y7 y8 y9 y10 y11 y12)) ∧ (∀ y0 y1 y2 y3 y4 y5, LeO (laws_FnHeavyPaths.j8 k y0 y1 y2 y3 y4 y5) (laws_FnHeavyPaths.j8 (k + 1) y0 y1 y2 y3 y4 y5)) ∧ (∀ y0 y1 y2 y3 y4 y5 y6 y7 y8 y9 y10 y11 y12, LeO (laws_FnHeavyPaths.j5 k y0 y1 y2 y3 y4 y5 y6 y7 y8 y9 y10 y11 y12) (laws_FnHeavyPaths.j5 (k + 1) y0 y1 y2 y3 y4 y5 y6 y7 y8 y9 y10 y11 y12))
 | 0 => ⟨fun _ _ _ _ _ r h => by simp [laws_FnHeavyPaths.j0] at h, fun _ _ _ _ _ _ _ r h => by simp [laws_FnHeavyPaths.j1] at h, fun _ _ _ _ _ _ _ _ _ _ _ r h => by simp [laws_FnHeavyPaths.j2] at h, fun _ _ _ _ _ _ _ _ _ _ _ _ _ _ r h => by simp [laws_FnHeavyPaths.j3] at h, fun _ _ _ _ _ _ _ _ _ _ _ _ _ _ _ _ _ r h => by simp [laws_FnHeavyPaths.j4] at h, fun _ _ _ _ _ _ _ _ _ _ _ _ r h => by simp [laws_FnHeavyPaths.j6] at h, fun _ _ _ _ _ r h => by simp [laws_FnHeavyPaths.j9] at h, fun _ _ _ _ r h => by simp [laws_FnHeavyPaths.l1] at h, fun _ _ _ _ _ r h => by simp [laws_FnHeavyPaths.j11] at h, fun _ _ _ _ _ r h => by simp [laws_FnHeavyPaths.l2] at h, fun _ _ _ _ _ _ r h => by simp [laws_FnHeavyPaths.j13] at h, fun _ _ r h => by simp [laws_FnHeavyPaths.l3] at h, fun _ _ _ _ _ _ _ _ _ _ _ _ _ r h => by simp [laws_FnHeavyPaths.l0] at h, fun _ _ _ _ _ _ r h => by simp [laws_FnHeavyPaths.j8] at h, fun _ _ _ _ _ _ _ _ _ _ _ _ _ r h => by simp [laws_FnHeavyPaths.j5] at h⟩
 | k + 1 => by
  obtain ⟨ih0, ih1, ih2, ih3, ih4, ih5, ih6, ih7, ih8, ih9, ih10, ih11, ih12, ih13, ih14⟩ := laws_FnHeavyPaths.mono_l k
  refine ⟨?_, ?_, ?_, ?_, ?_, ?_, ?_, ?_, ?_, ?_, ?_, ?_, ?_, ?_, ?_⟩
  ·intro y0 y1 y2 y3 y4
   unfold laws_FnHeavyPaths.j0
   exact laws_FnHeavyPaths.mo0
  ·intro y0 y1 y2 y3 y4 y5 y6
   unfold laws_FnHeavyPaths.j1
   exact laws_FnHeavyPaths.mo0
  ·intro y0 y1 y2 y3 y4 y5 y6 y7 y8 y9 y10
   unfold laws_FnHeavyPaths.j2
   exact laws_FnHeavyPaths.mo0
  ·intro y0 y1 y2 y3 y4 y5 y6 y7 y8 y9 y10 y11 y12 y13
   unfold laws_FnHeavyPaths.j3
   exact laws_FnHeavyPaths.mo0
  ·intro y0 y1 y2 y3 y4 y5 y6 y7 y8 y9 y10 y11 y12 y13 y14 y15 y16
   unfold laws_FnHeavyPaths.j4
   exact laws_FnHeavyPaths.mo0
  ·intro y0 y1 y2 y3 y4 y5 y6 y7 y8 y9 y10 y11
   unfold laws_FnHeavyPaths.j6
   exact laws_FnHeavyPaths.mo0
  ·intro y0 y1 y2 y3 y4
   unfold laws_FnHeavyPaths.j9
   exact laws_FnHeavyPaths.mo0
  ·intro y0 y1 y2 y3
   unfold laws_FnHeavyPaths.l1
   exact laws_FnHeavyPaths.mo0
  ·intro y0 y1 y2 y3 y4
   unfold laws_FnHeavyPaths.j11
   exact laws_FnHeavyPaths.mo0
  ·intro y0 y1 y2 y3 y4
   unfold laws_FnHeavyPaths.l2
   exact laws_FnHeavyPaths.mo0
  ·intro y0 y1 y2 y3 y4 y5
   unfold laws_FnHeavyPaths.j13
   exact laws_FnHeavyPaths.mo0
  ·intro y0 y1
   unfold laws_FnHeavyPaths.l3
   exact laws_FnHeavyPaths.mo0
  ·intro y0 y1 y2 y3 y4 y5 y6 y7 y8 y9 y10 y11 y12
   unfold laws_FnHeavyPaths.l0
   exact laws_FnHeavyPaths.mo0
  ·intro y0 y1 y2 y3 y4 y5
   unfold laws_FnHeavyPaths.j8
   exact laws_FnHeavyPaths.mo0
  ·intro y0 y1 y2 y3 y4 y5 y6 y7 y8 y9 y10 y11 y12
   unfold laws_FnHeavyPaths.j5
   exact laws_FnHeavyPaths.mo0
theorem laws_FnHeavyPaths.mono : ∀ a0 k, LeO (laws_FnHeavyPaths.f k a0) (laws_FnHeavyPaths.f (k + 1) a0) := by
 intro a0 k
 obtain ⟨ih0, ih1, ih2, ih3, ih4, ih5, ih6, ih7, ih8, ih9, ih10, ih11, ih12, ih13, ih14⟩ := laws_FnHeavyPaths.mono_l k
 unfold laws_FnHeavyPaths.f
 repeat' first
   | (with_reducible exact ih0 _ _ _ _ _)
   | (with_reducible exact ih1 _ _ _ _ _ _ _)
   | (with_reducible exact ih2 _ _ _ _ _ _ _ _ _ _ _)
   | (with_reducible exact ih3 _ _ _ _ _ _ _ _ _ _ _ _ _ _)
   | (with_reducible exact ih4 _ _ _ _ _ _ _ _ _ _ _ _ _ _ _ _ _)
   | (with_reducible exact ih5 _ _ _ _ _ _ _ _ _ _ _ _)
   | (with_reducible exact ih6 _ _ _ _ _)
   | (with_reducible exact ih7 _ _ _ _)
   | (with_reducible exact ih8 _ _ _ _ _)
   | (with_reducible exact ih9 _ _ _ _ _)
   | (with_reducible exact ih10 _ _ _ _ _ _)
   | (with_reducible exact ih11 _ _)
   | (with_reducible exact ih12 _ _ _ _ _ _ _ _ _ _ _ _ _)
   | (with_reducible exact ih13 _ _ _ _ _ _)
   | (with_reducible exact ih14 _ _ _ _ _ _ _ _ _ _ _ _ _)
   | (with_reducible exact impl_AncestorOf.mono _ _ _ _)
   | (with_reducible exact impl_HeavyChildren.mono _ _)
   | (with_reducible exact impl_HeavyPaths.mono _ _)
   | (with_reducible exact impl_IntervalOf.mono _ _ _)
   | (with_reducible exact impl_IsBelow.mono _ _ _ _)
   | (with_reducible exact impl_LightSteps.mono _ _ _)
   | (with_reducible exact impl_SizesOf.mono _ _)
   | (with_reducible exact laws_likeInts.mono _ _ _)
   | (with_reducible exact laws_rows9.mono _ _ _)
   | (with_reducible exact spec_AncestorOf.mono _ _ _ _)
   | (with_reducible exact spec_DrawAncestorOf.mono _ _)
   | (with_reducible exact spec_DrawHeavyPaths.mono _ _)
   | (with_reducible exact spec_DrawLightSteps.mono _ _)
   | (with_reducible exact spec_HeavyChildren.mono _ _)
   | (with_reducible exact spec_HeavyPaths.mono _ _)
   | (with_reducible exact spec_IntervalOf.mono _ _ _)
   | (with_reducible exact spec_LightSteps.mono _ _ _)
   | (with_reducible exact LeO.refl _)
   | (with_reducible exact LeO.none _)
   | (with_reducible refine LeO.ite ?_ ?_)
   | (with_reducible refine LeO.bind ?_ (fun _ => ?_))
   | exact ih0 _ _ _ _ _
   | exact ih1 _ _ _ _ _ _ _
   | exact ih2 _ _ _ _ _ _ _ _ _ _ _
   | exact ih3 _ _ _ _ _ _ _ _ _ _ _ _ _ _
   | exact ih4 _ _ _ _ _ _ _ _ _ _ _ _ _ _ _ _ _
   | exact ih5 _ _ _ _ _ _ _ _ _ _ _ _
   | exact ih6 _ _ _ _ _
   | exact ih7 _ _ _ _
   | exact ih8 _ _ _ _ _
   | exact ih9 _ _ _ _ _
   | exact ih10 _ _ _ _ _ _
   | exact ih11 _ _
   | exact ih12 _ _ _ _ _ _ _ _ _ _ _ _ _
   | exact ih13 _ _ _ _ _ _
   | exact ih14 _ _ _ _ _ _ _ _ _ _ _ _ _
   | exact impl_AncestorOf.mono _ _ _ _
   | exact impl_HeavyChildren.mono _ _
   | exact impl_HeavyPaths.mono _ _
   | exact impl_IntervalOf.mono _ _ _
   | exact impl_IsBelow.mono _ _ _ _
   | exact impl_LightSteps.mono _ _ _
   | exact impl_SizesOf.mono _ _
   | exact laws_likeInts.mono _ _ _
   | exact laws_rows9.mono _ _ _
   | exact spec_AncestorOf.mono _ _ _ _
   | exact spec_DrawAncestorOf.mono _ _
   | exact spec_DrawHeavyPaths.mono _ _
   | exact spec_DrawLightSteps.mono _ _
   | exact spec_HeavyChildren.mono _ _
   | exact spec_HeavyPaths.mono _ _
   | exact spec_IntervalOf.mono _ _ _
   | exact spec_LightSteps.mono _ _ _
   | exact LeO.none _
   | refine LeO.ite ?_ ?_
   | refine LeO.bind ?_ (fun _ => ?_)
set_option maxHeartbeats 8000000 in
set_option maxRecDepth 100000 in
theorem laws_FnHeavyPaths.calls (k : Nat) (A0 : Option Addr) (c0 : Nat) (l0 : List Int) (r : Bool) (w : World) (hr0 : Kd.C (Kd.int .u8) w A0 l0.length l0) (hc0 : l0.length ≤ c0) (h : laws_FnHeavyPaths.f k l0 = some r) :
  Calls Try.prog 3 #[.slice A0 l0.length c0] w fun e w' => e = .returned (.bool r) ∧ Below w.heap.size w w' := by
 have hu26 := Try.underlying26
 have HR0 := Aside0.mk hr0
 have HC0 := Aside0.mk hc0
 clear hr0 hc0
 have HB := Aside0.mk (Below.refl w.heap.size w)
 have H : ((laws_big.f l0).bind fun t592 => (if t592 = true then (some true) else ((spec_DrawHeavyPaths.f k l0).bind fun t593 => ((impl_HeavyPaths.f k t593).bind fun bt597 => ((spec_HeavyPaths.f k t593).bind fun bt601 => (if bt597.2 = bt601.2 then ((laws_rows9.f k bt597.1 bt601.1).bind fun t605 => (laws_FnHeavyPaths.j0 k l0 bt597.1 bt597.2 (!t605) t593)) else (none))))))) = some r := h
 clear h
 replace H := Option.bind_eq_some_iff.mp H
 obtain ⟨t592, A20, H⟩ := H
 replace H : (if t592 = true then (some true) else ((spec_DrawHeavyPaths.f k l0).bind fun t593 => ((impl_HeavyPaths.f k t593).bind fun bt597 => ((spec_HeavyPaths.f k t593).bind fun bt601 => (if bt597.2 = bt601.2 then ((laws_rows9.f k bt597.1 bt601.1).bind fun t605 => (laws_FnHeavyPaths.j0 k l0 bt597.1 bt597.2 (!t605) t593)) else (none)))))) = some r := H
 have A2 := Aside0.mk A20
 clear A20
 by_cases c3 : t592 = true
 ·subst c3
  replace H : (some true) = some r := by rw [if_pos rfl] at H; exact H
  obtain rfl := Option.some.inj H
  go_enter Try.func3, Try.ntmps3
  as_aux_lemma =>
  go_wp2_with (first | (go_at_call 5; (with_reducible refine (laws_big.calls _ _ l0 true _ ?side1 ?side2 A2.out).mono ?_); (case side1 => exact pc (HR0.out)); (case side2 => exact HC0.out); rintro e w' ⟨rfl, ⟨nd, rfl⟩⟩; try exact dn))
  repeat (go_quiet (first | (go_at_call 5; (with_reducible refine (laws_big.calls _ _ l0 true _ ?side1 ?side2 A2.out).mono ?_); (case side1 => exact pc (HR0.out)); (case side2 => exact HC0.out); rintro e w' ⟨rfl, ⟨nd, rfl⟩⟩; try exact dn)); try go_wp2_with (first | (go_at_call 5; (with_reducible refine (laws_big.calls _ _ l0 true _ ?side1 ?side2 A2.out).mono ?_); (case side1 => exact pc (HR0.out)); (case side2 => exact HC0.out); rintro e w' ⟨rfl, ⟨nd, rfl⟩⟩; try exact dn)))
  go_ret
  exact ⟨ew, hq⟩
 replace c3 := Bool.eq_false_iff.mpr c3
 subst c3
 have H1 : ((spec_DrawHeavyPaths.f k l0).bind fun t593 => ((impl_HeavyPaths.f k t593).bind fun bt597 => ((spec_HeavyPaths.f k t593).bind fun bt601 => (if bt597.2 = bt601.2 then ((laws_rows9.f k bt597.1 bt601.1).bind fun t605 => (laws_FnHeavyPaths.j0 k l0 bt597.1 bt597.2 (!t605) t593)) else (none))))) = some r := by rw [if_neg (show ¬ (false = true) by decide)] at H; exact H
 clear H
 have H := H1
 clear H1
 replace H := Option.bind_eq_some_iff.mp H
 obtain ⟨t593, A40, H⟩ := H
 replace H : ((impl_HeavyPaths.f k t593).bind fun bt597 => ((spec_HeavyPaths.f k t593).bind fun bt601 => (if bt597.2 = bt601.2 then ((laws_rows9.f k bt597.1 bt601.1).bind fun t605 => (laws_FnHeavyPaths.j0 k l0 bt597.1 bt597.2 (!t605) t593)) else (none)))) = some r := H
 have A4 := Aside0.mk A40
 clear A40
 replace H := Option.bind_eq_some_iff.mp H
 obtain ⟨⟨t597, t600⟩, A50, H⟩ := H
 replace H : ((spec_HeavyPaths.f k t593).bind fun bt601 => (if t600 = bt601.2 then ((laws_rows9.f k t597 bt601.1).bind fun t605 => (laws_FnHeavyPaths.j0 k l0 t597 t600 (!t605) t593)) else (none))) = some r := H
 have A5 := Aside0.mk A50
 clear A50
 replace H := Option.bind_eq_some_iff.mp H
 obtain ⟨⟨t601, t604⟩, A60, H⟩ := H
 replace H : (if t600 = t604 then ((laws_rows9.f k t597 t601).bind fun t605 => (laws_FnHeavyPaths.j0 k l0 t597 t600 (!t605) t593)) else (none)) = some r := H
 have A6 := Aside0.mk A60
 clear A60
 have HC7 := Aside0.mk H
 clear H
 go_enter Try.func3, Try.ntmps3
 as_aux_lemma =>
 go_upto_region 6 with (first | (go_at_call 5; (with_reducible refine (laws_big.calls _ _ l0 false _ ?side1 ?side2 A2.out).mono ?_); (case side1 => exact pc (HR0.out)); (case side2 => exact HC0.out); rintro e w' ⟨rfl, ⟨nd, rfl⟩⟩; try exact dn) | (go_at_call 6; (with_reducible refine (spec_DrawHeavyPaths.calls k _ _ l0 t593 _ ?side1 ?side2 A4.out).mono ?_); (case side1 => exact pc (HR0.out)); (case side2 => exact HC0.out); rintro e w8 ⟨v594, rfl, ho0, hb⟩; have HO595 := Aside0.mk (Kd.R_lower ho0 (below_size hq)); replace HB := Aside0.mk (below_step hq hb); (try clear hb); (try clear hb2); (try clear hk); (try clear hi); (try clear ho0)) | ((with_reducible refine gate_dst (N := 3) rfl ?_); (try (refine gate_guard (by rfl) ?_; dsimp only)); refine box_event ?hg (N := 3) ?hd (cs := #[.slice none 0 0]) (t := 26) ?hr ?_; (case hd => rfl); (case hg => rfl); (case hr => exact gs); intro gb596 hg w9 hbox hb; replace HO595 := rb HO595 hb; have BK596 := Aside0.mk (hbox); have GW596 := Aside0.mk (geb hg hq : w.heap.size ≤ gb596); have GE596 := Aside0.mk (geb hg hq : w.heap.size ≤ gb596); replace HB := Aside0.mk (below_step hq hb); clear hb hbox hg; obtain ⟨Ao10, co10, eo10⟩ := Kd.R_slice HO595.out; subst eo10; have hcz11_0 : w9.cell? ⟨gb596, 0, none⟩ = some (.slice none 0 0) := (blk_cell BK596.out 0).trans rfl; have hfz11_0 := blk_frozen BK596.out 0) | (go_at_call 7; (with_reducible refine (impl_HeavyPaths.calls k _ _ t593 t597 t600 _ ?side1 ?side2 A5.out).mono ?_); (case side1 => refine (Kd.R_reads' (e := 2) (base := w.heap.size) (ok := fun k_ => True) (n := t593.length) (c := co10) ?_).2.2; exact (pe (rf HO595 BK596 (.slice Ao10 t593.length co10)))); (case side2 => exact (Kd.R_reads' HO595.out).2.1); rintro e w12 ⟨v598, rfl, ho0, hb⟩; have HO599 := Aside0.mk (Kd.S_lower (Kd.S_new' ho0 (Kd.R_lt (pe (rf HO595 BK596 (.slice Ao10 t593.length co10))))) (below_size hq)); replace HO595 := Aside0.mk (Kd.R_below (pe (rf HO595 BK596 (.slice Ao10 t593.length co10))) hb); replace BK596 := Aside0.mk (blk_below (g := gb596) (o := .cells #[.slice Ao10 t593.length co10] 26 (0, 0)) q14_7 hb); replace HB := Aside0.mk (below_step hq hb); (try clear hb); (try clear hb2); (try clear hk); (try clear hi); (try clear ho0); have hcz13_0 : w12.cell? ⟨gb596, 0, none⟩ = some (.slice Ao10 t593.length co10) := (blk_cell BK596.out 0).trans rfl; have hfz13_0 := blk_frozen BK596.out 0) | (go_at_call 8; (with_reducible refine (spec_HeavyPaths.calls k _ _ t593 t601 t604 _ ?side1 ?side2 A6.out).mono ?_); (case side1 => exact pc ((Kd.R_reads' HO595.out).2.2)); (case side2 => exact (Kd.R_reads' HO595.out).2.1); rintro e w14 ⟨v602, rfl, ho0, hb⟩; have HO603 := Aside0.mk (Kd.S_lower (Kd.S_new' (Kd.S_new' ho0 (Kd.R_lt (pe HO595.out))) (Kd.S_lt (ps HO599.out))) (below_size hq)); replace HO595 := rb HO595 hb; replace HO599 := Aside0.mk (Kd.S_elder' (ps HO599.out) (Kd.S_base ho0) hb); replace BK596 := bb BK596 hb; replace HB := Aside0.mk (below_step hq hb); (try clear hb); (try clear hb2); (try clear hk); (try clear hi); (try clear ho0)))
 repeat (go_quiet (first | (go_at_call 5; (with_reducible refine (laws_big.calls _ _ l0 false _ ?side1 ?side2 A2.out).mono ?_); (case side1 => exact pc (HR0.out)); (case side2 => exact HC0.out); rintro e w' ⟨rfl, ⟨nd, rfl⟩⟩; try exact dn)); go_upto_region 6 with (first | (go_at_call 5; (with_reducible refine (laws_big.calls _ _ l0 false _ ?side1 ?side2 A2.out).mono ?_); (case side1 => exact pc (HR0.out)); (case side2 => exact HC0.out); rintro e w' ⟨rfl, ⟨nd, rfl⟩⟩; try exact dn) | (go_at_call 6; (with_reducible refine (spec_DrawHeavyPaths.calls k _ _ l0 t593 _ ?side1 ?side2 A4.out).mono ?_); (case side1 => exact pc (HR0.out)); (case side2 => exact HC0.out); rintro e w8 ⟨v594, rfl, ho0, hb⟩; have HO595 := Aside0.mk (Kd.R_lower ho0 (below_size hq)); replace HB := Aside0.mk (below_step hq hb); (try clear hb); (try clear hb2); (try clear hk); (try clear hi); (try clear ho0)) | ((with_reducible refine gate_dst (N := 3) rfl ?_); (try (refine gate_guard (by rfl) ?_; dsimp only)); refine box_event ?hg (N := 3) ?hd (cs := #[.slice none 0 0]) (t := 26) ?hr ?_; (case hd => rfl); (case hg => rfl); (case hr => exact gs); intro gb596 hg w9 hbox hb; replace HO595 := rb HO595 hb; have BK596 := Aside0.mk (hbox); have GW596 := Aside0.mk (geb hg hq : w.heap.size ≤ gb596); have GE596 := Aside0.mk (geb hg hq : w.heap.size ≤ gb596); replace HB := Aside0.mk (below_step hq hb); clear hb hbox hg; obtain ⟨Ao10, co10, eo10⟩ := Kd.R_slice HO595.out; subst eo10; have hcz11_0 : w9.cell? ⟨gb596, 0, none⟩ = some (.slice none 0 0) := (blk_cell BK596.out 0).trans rfl; have hfz11_0 := blk_frozen BK596.out 0) | (go_at_call 7; (with_reducible refine (impl_HeavyPaths.calls k _ _ t593 t597 t600 _ ?side1 ?side2 A5.out).mono ?_); (case side1 => refine (Kd.R_reads' (e := 2) (base := w.heap.size) (ok := fun k_ => True) (n := t593.length) (c := co10) ?_).2.2; exact (pe (rf HO595 BK596 (.slice Ao10 t593.length co10)))); (case side2 => exact (Kd.R_reads' HO595.out).2.1); rintro e w12 ⟨v598, rfl, ho0, hb⟩; have HO599 := Aside0.mk (Kd.S_lower (Kd.S_new' ho0 (Kd.R_lt (pe (rf HO595 BK596 (.slice Ao10 t593.length co10))))) (below_size hq)); replace HO595 := Aside0.mk (Kd.R_below (pe (rf HO595 BK596 (.slice Ao10 t593.length co10))) hb); replace BK596 := Aside0.mk (blk_below (g := gb596) (o := .cells #[.slice Ao10 t593.length co10] 26 (0, 0)) q14_7 hb); replace HB := Aside0.mk (below_step hq hb); (try clear hb); (try clear hb2); (try clear hk); (try clear hi); (try clear ho0); have hcz13_0 : w12.cell? ⟨gb596, 0, none⟩ = some (.slice Ao10 t593.length co10) := (blk_cell BK596.out 0).trans rfl; have hfz13_0 := blk_frozen BK596.out 0) | (go_at_call 8; (with_reducible refine (spec_HeavyPaths.calls k _ _ t593 t601 t604 _ ?side1 ?side2 A6.out).mono ?_); (case side1 => exact pc ((Kd.R_reads' HO595.out).2.2)); (case side2 => exact (Kd.R_reads' HO595.out).2.1); rintro e w14 ⟨v602, rfl, ho0, hb⟩; have HO603 := Aside0.mk (Kd.S_lower (Kd.S_new' (Kd.S_new' ho0 (Kd.R_lt (pe HO595.out))) (Kd.S_lt (ps HO599.out))) (below_size hq)); replace HO595 := rb HO595 hb; replace HO599 := Aside0.mk (Kd.S_elder' (ps HO599.out) (Kd.S_base ho0) hb); replace BK596 := bb BK596 hb; replace HB := Aside0.mk (below_step hq hb); (try clear hb); (try clear hb2); (try clear hk); (try clear hi); (try clear ho0))))
 (try simp only [Act.put, List.setIfInBounds_toArray, List.set_cons_zero, List.set_cons_succ])
 as_aux_lemma =>
 go_cut [63] (fun v63 wc => ∃ (kq : Nat) (x63_6 : Bool), v63 = .bool x63_6 ∧ Aside0 (laws_FnHeavyPaths.j0 kq l0 t597 t600 x63_6 t593 = some r) ∧ Aside0 (kq ≤ k) ∧ Aside0 (Kd.S (Kd.slice 2 (Kd.int .i64)) 24 wc w.heap.size (fun k_ => some k_ ≠ ((.slice Ao10 t593.length co10) : Value).ownBlock) v598 t597) ∧ Aside0 (Kd.R (Kd.int .i64) 2 wc w.heap.size (fun _ => True) (.slice Ao10 t593.length co10) t593) ∧ Aside0 (wc.heap[gb596]? = some (.cells #[(.slice Ao10 t593.length co10)] 26 (0, 0))) ∧ Aside0 (Below w.heap.size w wc))
 case first =>
  as_aux_lemma =>
  have H := HC7.out
  clear HC7
  by_cases c15 : t600 = t604
  rotate_left
  ·rw [if_neg c15] at H
   exact absurd H (by simp)
  rw [if_pos c15] at H
  have c15b0 : (t600 == t604) = true := beq_iff_eq.mpr c15
  have c15b1 : (t600 != t604) = false := bne_eq_false_iff_eq.mpr c15
  clear c15
  (first | rw [c15b0] | (simp only [i64_w, i32_w]; rw [c15b0]) | skip)
  replace H := Option.bind_eq_some_iff.mp H
  obtain ⟨t605, A160, H⟩ := H
  replace H : (laws_FnHeavyPaths.j0 k l0 t597 t600 (!t605) t593) = some r := H
  have A16 := Aside0.mk A160
  clear A160
  have H' := Aside0.mk H
  clear H
  obtain ⟨Ao17, co17, eo17⟩ := Kd.S_slice HO599.out
  subst eo17
  obtain ⟨Ao18, co18, eo18⟩ := Kd.S_slice HO603.out
  subst eo18
  as_aux_lemma =>
  go_wp2_with (first | (go_at_call 9; (with_reducible refine (laws_rows9.calls k _ _ t597 _ _ t601 t605 _ ?side1 ?side2 ?side3 ?side4 A16.out).mono ?_); (case side1 => exact pc ((Kd.S_reads' HO599.out).2.2)); (case side2 => exact (Kd.S_reads' HO599.out).2.1); (case side3 => exact pc ((Kd.S_reads' HO603.out).2.2)); (case side4 => exact (Kd.S_reads' HO603.out).2.1); rintro e w' ⟨rfl, ⟨nd, rfl⟩⟩; try exact dn))
  repeat (go_quiet (first | (go_at_call 9; (with_reducible refine (laws_rows9.calls k _ _ t597 _ _ t601 t605 _ ?side1 ?side2 ?side3 ?side4 A16.out).mono ?_); (case side1 => exact pc ((Kd.S_reads' HO599.out).2.2)); (case side2 => exact (Kd.S_reads' HO599.out).2.1); (case side3 => exact pc ((Kd.S_reads' HO603.out).2.2)); (case side4 => exact (Kd.S_reads' HO603.out).2.1); rintro e w' ⟨rfl, ⟨nd, rfl⟩⟩; try exact dn)); try go_wp2_with (first | (go_at_call 9; (with_reducible refine (laws_rows9.calls k _ _ t597 _ _ t601 t605 _ ?side1 ?side2 ?side3 ?side4 A16.out).mono ?_); (case side1 => exact pc ((Kd.S_reads' HO599.out).2.2)); (case side2 => exact (Kd.S_reads' HO599.out).2.1); (case side3 => exact pc ((Kd.S_reads' HO603.out).2.2)); (case side4 => exact (Kd.S_reads' HO603.out).2.1); rintro e w' ⟨rfl, ⟨nd, rfl⟩⟩; try exact dn)))
  go_meet
  case rel => exact ⟨_, (!t605), q14_1, H', ⟨by first | omega | exact Nat.le_refl _⟩, ⟨ps (Kd.S_mono HO599.out (fun _ hk => hk.1.2))⟩, ⟨pe HO595.out⟩, ⟨pb BK596.out⟩, ⟨hq⟩⟩
 as_aux_lemma =>
 clear HC7
 try clear c1
 try clear p2
 try clear c3
 try clear c15
 try clear c15b0
 try clear c15b1
 try clear hcz11_0
 try clear hcz13_0
 try clear hfz11_0
 try clear hfz13_0
 obtain ⟨kq, x63_6, rfl, HA, HJ6, HO_4, HO_597000, BK596, HB⟩ := hcut
 cases kq with | zero => exact absurd HA.out (by simp [laws_FnHeavyPaths.j0]) | succ kj6 => ?_
 have H := HA.out
 clear HA
 simp only [laws_FnHeavyPaths.j0] at H
 by_cases c19 : x63_6 = true
 ·subst c19
  replace H : (none) = some r := by rw [if_pos rfl] at H; exact H
  exact absurd H (by simp)
 replace c19 := Bool.eq_false_iff.mpr c19
 subst c19
 have H1 : ((impl_HeavyChildren.f kj6 t593).bind fun bt606 => ((spec_HeavyChildren.f kj6 t593).bind fun bt610 => (if bt606.2 = bt610.2 then ((laws_likeInts.f kj6 bt606.1 bt610.1).bind fun t614 => (laws_FnHeavyPaths.j1 kj6 l0 t597 t600 bt606.1 bt606.2 (!t614) t593)) else (none)))) = some r := by rw [if_neg (show ¬ (false = true) by decide)] at H; exact H
 clear H
 have H := H1
 clear H1
 replace H := Option.bind_eq_some_iff.mp H
 obtain ⟨⟨t606, t609⟩, A200, H⟩ := H
 replace H : ((spec_HeavyChildren.f kj6 t593).bind fun bt610 => (if t609 = bt610.2 then ((laws_likeInts.f kj6 t606 bt610.1).bind fun t614 => (laws_FnHeavyPaths.j1 kj6 l0 t597 t600 t606 t609 (!t614) t593)) else (none))) = some r := H
 have A20 := Aside0.mk A200
 clear A200
 replace H := Option.bind_eq_some_iff.mp H
 obtain ⟨⟨t610, t613⟩, A210, H⟩ := H
 replace H : (if t609 = t613 then ((laws_likeInts.f kj6 t606 t610).bind fun t614 => (laws_FnHeavyPaths.j1 kj6 l0 t597 t600 t606 t609 (!t614) t593)) else (none)) = some r := H
 have A21 := Aside0.mk A210
 clear A210
 have HC22 := Aside0.mk H
 clear H
 have hcz23_0 : wc.cell? ⟨gb596, 0, none⟩ = some (.slice Ao10 t593.length co10) := (blk_cell BK596.out 0).trans rfl
 have hfz23_0 := blk_frozen BK596.out 0
 as_aux_lemma =>
 go_upto_region 10 with (first | (go_at_call 10; (with_reducible refine (impl_HeavyChildren.calls kj6 _ _ t593 t606 t609 _ ?side1 ?side2 A20.out).mono ?_); (case side1 => exact pc ((Kd.R_reads' HO_597000.out).2.2)); (case side2 => exact (Kd.R_reads' HO_597000.out).2.1); rintro e w24 ⟨v607, rfl, ho0, hb⟩; replace HO_4 := sn HO_4 ho0 hb; have HO608 := Aside0.mk (Kd.R_lower (Kd.R_new' ho0 (Kd.R_lt (pe HO_597000.out))) (below_size hq)); replace HO_597000 := rn HO_597000 ho0 hb; replace BK596 := bb BK596 hb; replace HB := Aside0.mk (below_step hq hb); (try clear hb); (try clear hb2); (try clear hk); (try clear hi); (try clear ho0); have hcz25_0 : w24.cell? ⟨gb596, 0, none⟩ = some (.slice Ao10 t593.length co10) := (blk_cell BK596.out 0).trans rfl; have hfz25_0 := blk_frozen BK596.out 0) | (go_at_call 11; (with_reducible refine (spec_HeavyChildren.calls kj6 _ _ t593 t610 t613 _ ?side1 ?side2 A21.out).mono ?_); (case side1 => exact pc ((Kd.R_reads' HO_597000.out).2.2)); (case side2 => exact (Kd.R_reads' HO_597000.out).2.1); rintro e w26 ⟨v611, rfl, ho0, hb⟩; replace HO_4 := sn HO_4 ho0 hb; have HO612 := Aside0.mk (Kd.R_lower (Kd.R_new' (Kd.R_new' ho0 (Kd.R_lt (pe HO_597000.out))) (Kd.R_lt (pe HO608.out))) (below_size hq)); replace HO_597000 := rn HO_597000 ho0 hb; replace HO608 := rn HO608 ho0 hb; replace BK596 := bb BK596 hb; replace HB := Aside0.mk (below_step hq hb); (try clear hb); (try clear hb2); (try clear hk); (try clear hi); (try clear ho0)))
 repeat (go_quiet (fail); go_upto_region 10 with (first | (go_at_call 10; (with_reducible refine (impl_HeavyChildren.calls kj6 _ _ t593 t606 t609 _ ?side1 ?side2 A20.out).mono ?_); (case side1 => exact pc ((Kd.R_reads' HO_597000.out).2.2)); (case side2 => exact (Kd.R_reads' HO_597000.out).2.1); rintro e w24 ⟨v607, rfl, ho0, hb⟩; replace HO_4 := sn HO_4 ho0 hb; have HO608 := Aside0.mk (Kd.R_lower (Kd.R_new' ho0 (Kd.R_lt (pe HO_597000.out))) (below_size hq)); replace HO_597000 := rn HO_597000 ho0 hb; replace BK596 := bb BK596 hb; replace HB := Aside0.mk (below_step hq hb); (try clear hb); (try clear hb2); (try clear hk); (try clear hi); (try clear ho0); have hcz25_0 : w24.cell? ⟨gb596, 0, none⟩ = some (.slice Ao10 t593.length co10) := (blk_cell BK596.out 0).trans rfl; have hfz25_0 := blk_frozen BK596.out 0) | (go_at_call 11; (with_reducible refine (spec_HeavyChildren.calls kj6 _ _ t593 t610 t613 _ ?side1 ?side2 A21.out).mono ?_); (case side1 => exact pc ((Kd.R_reads' HO_597000.out).2.2)); (case side2 => exact (Kd.R_reads' HO_597000.out).2.1); rintro e w26 ⟨v611, rfl, ho0, hb⟩; replace HO_4 := sn HO_4 ho0 hb; have HO612 := Aside0.mk (Kd.R_lower (Kd.R_new' (Kd.R_new' ho0 (Kd.R_lt (pe HO_597000.out))) (Kd.R_lt (pe HO608.out))) (below_size hq)); replace HO_597000 := rn HO_597000 ho0 hb; replace HO608 := rn HO608 ho0 hb; replace BK596 := bb BK596 hb; replace HB := Aside0.mk (below_step hq hb); (try clear hb); (try clear hb2); (try clear hk); (try clear hi); (try clear ho0))))
 (try simp only [Act.put, List.setIfInBounds_toArray, List.set_cons_zero, List.set_cons_succ])
 as_aux_lemma =>
 go_cut [82] (fun v82 wc => ∃ (kq : Nat) (x82_21 : Bool), v82 = .bool x82_21 ∧ Aside0 (laws_FnHeavyPaths.j1 kq l0 t597 t600 t606 t609 x82_21 t593 = some r) ∧ Aside0 (kq ≤ kj6) ∧ Aside0 (Kd.S (Kd.slice 2 (Kd.int .i64)) 24 wc w.heap.size (fun k_ => some k_ ≠ (v607 : Value).ownBlock ∧ some k_ ≠ ((.slice Ao10 t593.length co10) : Value).ownBlock) v598 t597) ∧ Aside0 (Kd.R (Kd.int .i64) 2 wc w.heap.size (fun k_ => some k_ ≠ ((.slice Ao10 t593.length co10) : Value).ownBlock) v607 t606) ∧ Aside0 (Kd.R (Kd.int .i64) 2 wc w.heap.size (fun k_ => some k_ ≠ (v607 : Value).ownBlock) (.slice Ao10 t593.length co10) t593) ∧ Aside0 (wc.heap[gb596]? = some (.cells #[(.slice Ao10 t593.length co10)] 26 (0, 0))) ∧ Aside0 (Below w.heap.size w wc))
 case first =>
  as_aux_lemma =>
  have H := HC22.out
  clear HC22
  by_cases c27 : t609 = t613
  rotate_left
  ·rw [if_neg c27] at H
   exact absurd H (by simp)
  rw [if_pos c27] at H
  have c27b0 : (t609 == t613) = true := beq_iff_eq.mpr c27
  have c27b1 : (t609 != t613) = false := bne_eq_false_iff_eq.mpr c27
  clear c27
  (first | rw [c27b0] | (simp only [i64_w, i32_w]; rw [c27b0]) | skip)
  replace H := Option.bind_eq_some_iff.mp H
  obtain ⟨t614, A280, H⟩ := H
  replace H : (laws_FnHeavyPaths.j1 kj6 l0 t597 t600 t606 t609 (!t614) t593) = some r := H
  have A28 := Aside0.mk A280
  clear A280
  have H' := Aside0.mk H
  clear H
  obtain ⟨Ao29, co29, eo29⟩ := Kd.R_slice HO608.out
  subst eo29
  obtain ⟨Ao30, co30, eo30⟩ := Kd.R_slice HO612.out
  subst eo30
  as_aux_lemma =>
  go_wp2_with (first | (go_at_call 12; (with_reducible refine (laws_likeInts.calls kj6 _ _ t606 _ _ t610 t614 _ ?side1 ?side2 ?side3 ?side4 A28.out).mono ?_); (case side1 => exact pc ((Kd.R_reads' HO608.out).2.2)); (case side2 => exact (Kd.R_reads' HO608.out).2.1); (case side3 => exact pc ((Kd.R_reads' HO612.out).2.2)); (case side4 => exact (Kd.R_reads' HO612.out).2.1); rintro e w' ⟨rfl, ⟨nd, rfl⟩⟩; try exact dn))
  repeat (go_quiet (first | (go_at_call 12; (with_reducible refine (laws_likeInts.calls kj6 _ _ t606 _ _ t610 t614 _ ?side1 ?side2 ?side3 ?side4 A28.out).mono ?_); (case side1 => exact pc ((Kd.R_reads' HO608.out).2.2)); (case side2 => exact (Kd.R_reads' HO608.out).2.1); (case side3 => exact pc ((Kd.R_reads' HO612.out).2.2)); (case side4 => exact (Kd.R_reads' HO612.out).2.1); rintro e w' ⟨rfl, ⟨nd, rfl⟩⟩; try exact dn)); try go_wp2_with (first | (go_at_call 12; (with_reducible refine (laws_likeInts.calls kj6 _ _ t606 _ _ t610 t614 _ ?side1 ?side2 ?side3 ?side4 A28.out).mono ?_); (case side1 => exact pc ((Kd.R_reads' HO608.out).2.2)); (case side2 => exact (Kd.R_reads' HO608.out).2.1); (case side3 => exact pc ((Kd.R_reads' HO612.out).2.2)); (case side4 => exact (Kd.R_reads' HO612.out).2.1); rintro e w' ⟨rfl, ⟨nd, rfl⟩⟩; try exact dn)))
  go_meet
  case rel => exact ⟨_, (!t614), q14_1, H', ⟨by have := HJ6.out; first | omega | exact Nat.le_refl _⟩, ⟨ps (Kd.S_mono HO_4.out (fun _ hk => ⟨hk.1.2, hk.1.1⟩))⟩, ⟨pe (Kd.R_mono HO608.out (fun _ hk => hk.1.2))⟩, ⟨pe (Kd.R_mono HO_597000.out (fun _ hk => hk.1.2))⟩, ⟨pb BK596.out⟩, ⟨hq⟩⟩
 as_aux_lemma =>
 clear HC22
 try clear c1
 try clear c2
 try clear p2
 try clear c3
 try clear c15
 try clear c15b0
 try clear c15b1
 try clear c19
 try clear c27
 try clear c27b0
 try clear c27b1
 try clear hcz11_0
 try clear hcz13_0
 try clear hcz23_0
 try clear hcz25_0
 try clear hfz11_0
 try clear hfz13_0
 try clear hfz23_0
 try clear hfz25_0
 try clear p2
 obtain ⟨kq, x82_21, rfl, HA, HJ21, HO_4, HO_8, HO_597000, BK596, HB⟩ := hcut
 cases kq with | zero => exact absurd HA.out (by simp [laws_FnHeavyPaths.j1]) | succ kj21 => ?_
 have H := HA.out
 clear HA
 simp only [laws_FnHeavyPaths.j1] at H
 by_cases c31 : x82_21 = true
 ·subst c31
  replace H : (none) = some r := by rw [if_pos rfl] at H; exact H
  exact absurd H (by simp)
 replace c31 := Bool.eq_false_iff.mpr c31
 subst c31
 have H1 : ((spec_DrawLightSteps.f kj21 l0).bind fun bt615 => ((impl_LightSteps.f kj21 bt615.1 bt615.2).bind fun bt620 => ((spec_LightSteps.f kj21 bt615.1 bt615.2).bind fun bt622 => (if bt620.2 = bt622.2 then (laws_FnHeavyPaths.j2 kj21 l0 t597 t600 t606 t609 bt615.2 bt620.1 bt620.2 (bt620.1 != bt622.1) t593 bt615.1) else (none))))) = some r := by rw [if_neg (show ¬ (false = true) by decide)] at H; exact H
 clear H
 have H := H1
 clear H1
 replace H := Option.bind_eq_some_iff.mp H
 obtain ⟨⟨t615, t618⟩, A320, H⟩ := H
 replace H : ((impl_LightSteps.f kj21 t615 t618).bind fun bt620 => ((spec_LightSteps.f kj21 t615 t618).bind fun bt622 => (if bt620.2 = bt622.2 then (laws_FnHeavyPaths.j2 kj21 l0 t597 t600 t606 t609 t618 bt620.1 bt620.2 (bt620.1 != bt622.1) t593 t615) else (none)))) = some r := H
 have A32 := Aside0.mk A320
 clear A320
 replace H := Option.bind_eq_some_iff.mp H
 obtain ⟨⟨t620, t621⟩, A330, H⟩ := H
 replace H : ((spec_LightSteps.f kj21 t615 t618).bind fun bt622 => (if t621 = bt622.2 then (laws_FnHeavyPaths.j2 kj21 l0 t597 t600 t606 t609 t618 t620 t621 (t620 != bt622.1) t593 t615) else (none))) = some r := H
 have A33 := Aside0.mk A330
 clear A330
 replace H := Option.bind_eq_some_iff.mp H
 obtain ⟨⟨t622, t623⟩, A340, H⟩ := H
 replace H : (if t621 = t623 then (laws_FnHeavyPaths.j2 kj21 l0 t597 t600 t606 t609 t618 t620 t621 (t620 != t622) t593 t615) else (none)) = some r := H
 have A34 := Aside0.mk A340
 clear A340
 have HC35 := Aside0.mk H
 clear H
 as_aux_lemma =>
 go_upto_region 15 with (first | (go_at_call 13; (with_reducible refine (spec_DrawLightSteps.calls kj21 _ _ l0 t615 t618 _ ?side1 ?side2 A32.out).mono ?_); (case side1 => exact pc (Kd.C_below HR0.out HB.out)); (case side2 => exact HC0.out); rintro e w36 ⟨v616, rfl, ho0, hb⟩; replace HO_4 := sn HO_4 ho0 hb; have HO617 := Aside0.mk (Kd.R_lower (Kd.R_new' (Kd.R_new' ho0 (Kd.R_lt (pe HO_8.out))) (Kd.R_lt (pe HO_597000.out))) (below_size hq)); replace HO_8 := rn HO_8 ho0 hb; replace HO_597000 := rn HO_597000 ho0 hb; replace BK596 := bb BK596 hb; replace HB := Aside0.mk (below_step hq hb); (try clear hb); (try clear hb2); (try clear hk); (try clear hi); (try clear ho0)) | ((with_reducible refine gate_dst (N := 12) rfl ?_); (try (refine gate_guard (by rfl) ?_; dsimp only)); refine box_event ?hg (N := 12) ?hd (cs := #[.slice none 0 0]) (t := 26) ?hr ?_; (case hd => rfl); (case hg => rfl); (case hr => exact gs); intro gb619 hg w37 hbox hb; replace HO_4 := sb HO_4 hb; replace HO_8 := rb HO_8 hb; replace HO_597000 := rb HO_597000 hb; replace HO617 := rb HO617 hb; have BK619 := Aside0.mk (hbox); have GW619 := Aside0.mk (geb hg hq : w.heap.size ≤ gb619); have GE619 := Aside0.mk (geb hg hq : w.heap.size ≤ gb619); replace HB := Aside0.mk (below_step hq hb); have NB596_619 := Aside0.mk (nel hg (blk_lt (pb BK596.out)) : gb596 ≠ gb619); have NB619_596 := Aside0.mk (neg hg (blk_lt (pb BK596.out)) : gb619 ≠ gb596); replace BK596 := bb BK596 hb; clear hb hbox hg; obtain ⟨Ao38, co38, eo38⟩ := Kd.R_slice HO617.out; subst eo38; have hnb39 := NB619_596.out; have hnc39 := NB596_619.out; have hcz40_0 : w37.cell? ⟨gb619, 0, none⟩ = some (.slice none 0 0) := (blk_cell BK619.out 0).trans rfl; have hfz40_0 := blk_frozen BK619.out 0) | (go_at_call 14; (with_reducible refine (impl_LightSteps.calls kj21 _ _ t615 t618 t620 t621 _ ?side1 ?side2 A33.out).mono ?_); (case side1 => refine (Kd.R_reads' (e := 2) (base := w.heap.size) (ok := fun k_ => ((True ∧ some k_ ≠ (v607 : Value).ownBlock) ∧ some k_ ≠ (.slice Ao10 t593.length co10 : Value).ownBlock)) (n := t615.length) (c := co38) ?_).2.2; exact (pe (rf HO617 BK619 (.slice Ao38 t615.length co38)))); (case side2 => exact (Kd.R_reads' HO617.out).2.1); rintro e w41 ⟨rfl, hb⟩; replace HO_4 := Aside0.mk (Kd.S_below (ps (sf HO_4 BK619 (.slice Ao38 t615.length co38))) hb); replace HO_8 := Aside0.mk (Kd.R_below (pe (rf HO_8 BK619 (.slice Ao38 t615.length co38))) hb); replace HO_597000 := Aside0.mk (Kd.R_below (pe (rf HO_597000 BK619 (.slice Ao38 t615.length co38))) hb); replace HO617 := Aside0.mk (Kd.R_below (pe (rf HO617 BK619 (.slice Ao38 t615.length co38))) hb); replace BK596 := Aside0.mk (blk_below (g := gb596) (o := .cells #[.slice Ao10 t593.length co10] 26 (0, 0)) q14_10 hb); replace BK619 := Aside0.mk (blk_below (g := gb619) (o := .cells #[.slice Ao38 t615.length co38] 26 (0, 0)) q14_6 hb); replace HB := Aside0.mk (below_step hq hb); (try clear hb); (try clear hb2); (try clear hk); (try clear hi); have hcz42_0 : w41.cell? ⟨gb619, 0, none⟩ = some (.slice Ao38 t615.length co38) := (blk_cell BK619.out 0).trans rfl; have hfz42_0 := blk_frozen BK619.out 0) | (go_at_call 15; (with_reducible refine (spec_LightSteps.calls kj21 _ _ t615 t618 t622 t623 _ ?side1 ?side2 A34.out).mono ?_); (case side1 => exact pc ((Kd.R_reads' HO617.out).2.2)); (case side2 => exact (Kd.R_reads' HO617.out).2.1); rintro e w43 ⟨rfl, hb⟩; replace HO_4 := sb HO_4 hb; replace HO_8 := rb HO_8 hb; replace HO_597000 := rb HO_597000 hb; replace HO617 := rb HO617 hb; replace BK596 := bb BK596 hb; replace BK619 := bb BK619 hb; replace HB := Aside0.mk (below_step hq hb); (try clear hb); (try clear hb2); (try clear hk); (try clear hi)))
 repeat (go_quiet (fail); go_upto_region 15 with (first | (go_at_call 13; (with_reducible refine (spec_DrawLightSteps.calls kj21 _ _ l0 t615 t618 _ ?side1 ?side2 A32.out).mono ?_); (case side1 => exact pc (Kd.C_below HR0.out HB.out)); (case side2 => exact HC0.out); rintro e w36 ⟨v616, rfl, ho0, hb⟩; replace HO_4 := sn HO_4 ho0 hb; have HO617 := Aside0.mk (Kd.R_lower (Kd.R_new' (Kd.R_new' ho0 (Kd.R_lt (pe HO_8.out))) (Kd.R_lt (pe HO_597000.out))) (below_size hq)); replace HO_8 := rn HO_8 ho0 hb; replace HO_597000 := rn HO_597000 ho0 hb; replace BK596 := bb BK596 hb; replace HB := Aside0.mk (below_step hq hb); (try clear hb); (try clear hb2); (try clear hk); (try clear hi); (try clear ho0)) | ((with_reducible refine gate_dst (N := 12) rfl ?_); (try (refine gate_guard (by rfl) ?_; dsimp only)); refine box_event ?hg (N := 12) ?hd (cs := #[.slice none 0 0]) (t := 26) ?hr ?_; (case hd => rfl); (case hg => rfl); (case hr => exact gs); intro gb619 hg w37 hbox hb; replace HO_4 := sb HO_4 hb; replace HO_8 := rb HO_8 hb; replace HO_597000 := rb HO_597000 hb; replace HO617 := rb HO617 hb; have BK619 := Aside0.mk (hbox); have GW619 := Aside0.mk (geb hg hq : w.heap.size ≤ gb619); have GE619 := Aside0.mk (geb hg hq : w.heap.size ≤ gb619); replace HB := Aside0.mk (below_step hq hb); have NB596_619 := Aside0.mk (nel hg (blk_lt (pb BK596.out)) : gb596 ≠ gb619); have NB619_596 := Aside0.mk (neg hg (blk_lt (pb BK596.out)) : gb619 ≠ gb596); replace BK596 := bb BK596 hb; clear hb hbox hg; obtain ⟨Ao38, co38, eo38⟩ := Kd.R_slice HO617.out; subst eo38; have hnb39 := NB619_596.out; have hnc39 := NB596_619.out; have hcz40_0 : w37.cell? ⟨gb619, 0, none⟩ = some (.slice none 0 0) := (blk_cell BK619.out 0).trans rfl; have hfz40_0 := blk_frozen BK619.out 0) | (go_at_call 14; (with_reducible refine (impl_LightSteps.calls kj21 _ _ t615 t618 t620 t621 _ ?side1 ?side2 A33.out).mono ?_); (case side1 => refine (Kd.R_reads' (e := 2) (base := w.heap.size) (ok := fun k_ => ((True ∧ some k_ ≠ (v607 : Value).ownBlock) ∧ some k_ ≠ (.slice Ao10 t593.length co10 : Value).ownBlock)) (n := t615.length) (c := co38) ?_).2.2; exact (pe (rf HO617 BK619 (.slice Ao38 t615.length co38)))); (case side2 => exact (Kd.R_reads' HO617.out).2.1); rintro e w41 ⟨rfl, hb⟩; replace HO_4 := Aside0.mk (Kd.S_below (ps (sf HO_4 BK619 (.slice Ao38 t615.length co38))) hb); replace HO_8 := Aside0.mk (Kd.R_below (pe (rf HO_8 BK619 (.slice Ao38 t615.length co38))) hb); replace HO_597000 := Aside0.mk (Kd.R_below (pe (rf HO_597000 BK619 (.slice Ao38 t615.length co38))) hb); replace HO617 := Aside0.mk (Kd.R_below (pe (rf HO617 BK619 (.slice Ao38 t615.length co38))) hb); replace BK596 := Aside0.mk (blk_below (g := gb596) (o := .cells #[.slice Ao10 t593.length co10] 26 (0, 0)) q14_10 hb); replace BK619 := Aside0.mk (blk_below (g := gb619) (o := .cells #[.slice Ao38 t615.length co38] 26 (0, 0)) q14_6 hb); replace HB := Aside0.mk (below_step hq hb); (try clear hb); (try clear hb2); (try clear hk); (try clear hi); have hcz42_0 : w41.cell? ⟨gb619, 0, none⟩ = some (.slice Ao38 t615.length co38) := (blk_cell BK619.out 0).trans rfl; have hfz42_0 := blk_frozen BK619.out 0) | (go_at_call 15; (with_reducible refine (spec_LightSteps.calls kj21 _ _ t615 t618 t622 t623 _ ?side1 ?side2 A34.out).mono ?_); (case side1 => exact pc ((Kd.R_reads' HO617.out).2.2)); (case side2 => exact (Kd.R_reads' HO617.out).2.1); rintro e w43 ⟨rfl, hb⟩; replace HO_4 := sb HO_4 hb; replace HO_8 := rb HO_8 hb; replace HO_597000 := rb HO_597000 hb; replace HO617 := rb HO617 hb; replace BK596 := bb BK596 hb; replace BK619 := bb BK619 hb; replace HB := Aside0.mk (below_step hq hb); (try clear hb); (try clear hb2); (try clear hk); (try clear hi))))
 (try simp only [Act.put, List.setIfInBounds_toArray, List.set_cons_zero, List.set_cons_succ])
 as_aux_lemma =>
 go_cut [107] (fun v107 wc => ∃ (kq : Nat) (x107_34 : Bool), v107 = .bool x107_34 ∧ Aside0 (laws_FnHeavyPaths.j2 kq l0 t597 t600 t606 t609 t618 t620 t621 x107_34 t593 t615 = some r) ∧ Aside0 (kq ≤ kj21) ∧ Aside0 (Kd.S (Kd.slice 2 (Kd.int .i64)) 24 wc w.heap.size (fun k_ => some k_ ≠ (v607 : Value).ownBlock ∧ some k_ ≠ ((.slice Ao10 t593.length co10) : Value).ownBlock ∧ some k_ ≠ ((.slice Ao38 t615.length co38) : Value).ownBlock) v598 t597) ∧ Aside0 (Kd.R (Kd.int .i64) 2 wc w.heap.size (fun k_ => some k_ ≠ ((.slice Ao10 t593.length co10) : Value).ownBlock ∧ some k_ ≠ ((.slice Ao38 t615.length co38) : Value).ownBlock) v607 t606) ∧ Aside0 (Kd.R (Kd.int .i64) 2 wc w.heap.size (fun k_ => some k_ ≠ (v607 : Value).ownBlock ∧ some k_ ≠ ((.slice Ao38 t615.length co38) : Value).ownBlock) (.slice Ao10 t593.length co10) t593) ∧ Aside0 (Kd.R (Kd.int .i64) 2 wc w.heap.size (fun k_ => some k_ ≠ (v607 : Value).ownBlock ∧ some k_ ≠ ((.slice Ao10 t593.length co10) : Value).ownBlock) (.slice Ao38 t615.length co38) t615) ∧ Aside0 (wc.heap[gb596]? = some (.cells #[(.slice Ao10 t593.length co10)] 26 (0, 0))) ∧ Aside0 (wc.heap[gb619]? = some (.cells #[(.slice Ao38 t615.length co38)] 26 (0, 0))) ∧ Aside0 (Below w.heap.size w wc))
 case first =>
  as_aux_lemma =>
  have H := HC35.out
  clear HC35
  by_cases c44 : t621 = t623
  rotate_left
  ·rw [if_neg c44] at H
   exact absurd H (by simp)
  rw [if_pos c44] at H
  have c44b0 : (t621 == t623) = true := beq_iff_eq.mpr c44
  have c44b1 : (t621 != t623) = false := bne_eq_false_iff_eq.mpr c44
  clear c44
  (first | rw [c44b0] | (simp only [i64_w, i32_w]; rw [c44b0]) | skip)
  have H' := Aside0.mk H
  clear H
  as_aux_lemma =>
  go_wp2
  repeat (go_quiet (fail); try go_wp2)
  go_meet
  case rel => exact ⟨_, (t620 != t622), q14_1, H', ⟨by have := HJ6.out; have := HJ21.out; first | omega | exact Nat.le_refl _⟩, ⟨ps (Kd.S_mono HO_4.out (fun _ hk => ⟨hk.1.1, ⟨hk.1.2, hk.2⟩⟩))⟩, ⟨pe HO_8.out⟩, ⟨pe HO_597000.out⟩, ⟨pe (Kd.R_mono HO617.out (fun _ hk => ⟨hk.1.2, hk.2⟩))⟩, ⟨pb BK596.out⟩, ⟨pb BK619.out⟩, ⟨hq⟩⟩
 as_aux_lemma =>
 clear HC35
 try clear c1
 try clear c2
 try clear p2
 try clear c3
 try clear c4
 try clear c15
 try clear c15b0
 try clear c15b1
 try clear c19
 try clear c27
 try clear c27b0
 try clear c27b1
 try clear c31
 try clear c39
 try clear c44
 try clear c44b0
 try clear c44b1
 try clear hcz11_0
 try clear hcz13_0
 try clear hcz23_0
 try clear hcz25_0
 try clear hcz40_0
 try clear hcz42_0
 try clear hfz11_0
 try clear hfz13_0
 try clear hfz23_0
 try clear hfz25_0
 try clear hfz40_0
 try clear hfz42_0
 try clear p2
 obtain ⟨kq, x107_34, rfl, HA, HJ34, HO_4, HO_8, HO_597000, HO_620000, BK596, BK619, HB⟩ := hcut
 cases kq with | zero => exact absurd HA.out (by simp [laws_FnHeavyPaths.j2]) | succ kj34 => ?_
 have H := HA.out
 clear HA
 simp only [laws_FnHeavyPaths.j2] at H
 by_cases c45 : x107_34 = true
 ·subst c45
  replace H : (none) = some r := by rw [if_pos rfl] at H; exact H
  exact absurd H (by simp)
 replace c45 := Bool.eq_false_iff.mpr c45
 subst c45
 have H1 : ((impl_IntervalOf.f kj34 t615 t618).bind fun bt624 => ((spec_IntervalOf.f kj34 t615 t618).bind fun bt627 => (if bt624.2.2 = bt627.2.2 then (if bt624.1 = bt627.1 then (laws_FnHeavyPaths.j3 kj34 l0 t597 t600 t606 t609 t618 t620 t621 bt624.1 bt624.2.1 bt624.2.2 (bt624.2.1 != bt627.2.1) t593 t615) else (none)) else (none)))) = some r := by rw [if_neg (show ¬ (false = true) by decide)] at H; exact H
 clear H
 have H := H1
 clear H1
 replace H := Option.bind_eq_some_iff.mp H
 obtain ⟨⟨t624, t625, t626⟩, A460, H⟩ := H
 replace H : ((spec_IntervalOf.f kj34 t615 t618).bind fun bt627 => (if t626 = bt627.2.2 then (if t624 = bt627.1 then (laws_FnHeavyPaths.j3 kj34 l0 t597 t600 t606 t609 t618 t620 t621 t624 t625 t626 (t625 != bt627.2.1) t593 t615) else (none)) else (none))) = some r := H
 have A46 := Aside0.mk A460
 clear A460
 replace H := Option.bind_eq_some_iff.mp H
 obtain ⟨⟨t627, t628, t629⟩, A470, H⟩ := H
 replace H : (if t626 = t629 then (if t624 = t627 then (laws_FnHeavyPaths.j3 kj34 l0 t597 t600 t606 t609 t618 t620 t621 t624 t625 t626 (t625 != t628) t593 t615) else (none)) else (none)) = some r := H
 have A47 := Aside0.mk A470
 clear A470
 have HC48 := Aside0.mk H
 clear H
 have hnb49 := NB619_596.out
 have hnc49 := NB596_619.out
 have hcz50_0 : wc.cell? ⟨gb619, 0, none⟩ = some (.slice Ao38 t615.length co38) := (blk_cell BK619.out 0).trans rfl
 have hfz50_0 := blk_frozen BK619.out 0
 as_aux_lemma =>
 go_upto_region 19 with (first | (go_at_call 16; (with_reducible refine (impl_IntervalOf.calls kj34 _ _ t615 t618 t624 t625 t626 _ ?side1 ?side2 A46.out).mono ?_); (case side1 => exact pc ((Kd.R_reads' HO_620000.out).2.2)); (case side2 => exact (Kd.R_reads' HO_620000.out).2.1); rintro e w51 ⟨rfl, hb⟩; replace HO_4 := sb HO_4 hb; replace HO_8 := rb HO_8 hb; replace HO_597000 := rb HO_597000 hb; replace HO_620000 := rb HO_620000 hb; replace BK596 := bb BK596 hb; replace BK619 := bb BK619 hb; replace HB := Aside0.mk (below_step hq hb); (try clear hb); (try clear hb2); (try clear hk); (try clear hi); have hcz52_0 : w51.cell? ⟨gb619, 0, none⟩ = some (.slice Ao38 t615.length co38) := (blk_cell BK619.out 0).trans rfl; have hfz52_0 := blk_frozen BK619.out 0) | (go_at_call 17; (with_reducible refine (spec_IntervalOf.calls kj34 _ _ t615 t618 t627 t628 t629 _ ?side1 ?side2 A47.out).mono ?_); (case side1 => exact pc ((Kd.R_reads' HO_620000.out).2.2)); (case side2 => exact (Kd.R_reads' HO_620000.out).2.1); rintro e w53 ⟨rfl, hb⟩; replace HO_4 := sb HO_4 hb; replace HO_8 := rb HO_8 hb; replace HO_597000 := rb HO_597000 hb; replace HO_620000 := rb HO_620000 hb; replace BK596 := bb BK596 hb; replace BK619 := bb BK619 hb; replace HB := Aside0.mk (below_step hq hb); (try clear hb); (try clear hb2); (try clear hk); (try clear hi)))
 repeat (go_quiet (fail); go_upto_region 19 with (first | (go_at_call 16; (with_reducible refine (impl_IntervalOf.calls kj34 _ _ t615 t618 t624 t625 t626 _ ?side1 ?side2 A46.out).mono ?_); (case side1 => exact pc ((Kd.R_reads' HO_620000.out).2.2)); (case side2 => exact (Kd.R_reads' HO_620000.out).2.1); rintro e w51 ⟨rfl, hb⟩; replace HO_4 := sb HO_4 hb; replace HO_8 := rb HO_8 hb; replace HO_597000 := rb HO_597000 hb; replace HO_620000 := rb HO_620000 hb; replace BK596 := bb BK596 hb; replace BK619 := bb BK619 hb; replace HB := Aside0.mk (below_step hq hb); (try clear hb); (try clear hb2); (try clear hk); (try clear hi); have hcz52_0 : w51.cell? ⟨gb619, 0, none⟩ = some (.slice Ao38 t615.length co38) := (blk_cell BK619.out 0).trans rfl; have hfz52_0 := blk_frozen BK619.out 0) | (go_at_call 17; (with_reducible refine (spec_IntervalOf.calls kj34 _ _ t615 t618 t627 t628 t629 _ ?side1 ?side2 A47.out).mono ?_); (case side1 => exact pc ((Kd.R_reads' HO_620000.out).2.2)); (case side2 => exact (Kd.R_reads' HO_620000.out).2.1); rintro e w53 ⟨rfl, hb⟩; replace HO_4 := sb HO_4 hb; replace HO_8 := rb HO_8 hb; replace HO_597000 := rb HO_597000 hb; replace HO_620000 := rb HO_620000 hb; replace BK596 := bb BK596 hb; replace BK619 := bb BK619 hb; replace HB := Aside0.mk (below_step hq hb); (try clear hb); (try clear hb2); (try clear hk); (try clear hi))))
 (try simp only [Act.put, List.setIfInBounds_toArray, List.set_cons_zero, List.set_cons_succ])
 as_aux_lemma =>
 go_cut [134] (fun v134 wc => ∃ (kq : Nat) (x134_47 : Bool), v134 = .bool x134_47 ∧ Aside0 (laws_FnHeavyPaths.j3 kq l0 t597 t600 t606 t609 t618 t620 t621 t624 t625 t626 x134_47 t593 t615 = some r) ∧ Aside0 (kq ≤ kj34) ∧ Aside0 (Kd.S (Kd.slice 2 (Kd.int .i64)) 24 wc w.heap.size (fun k_ => some k_ ≠ (v607 : Value).ownBlock ∧ some k_ ≠ ((.slice Ao10 t593.length co10) : Value).ownBlock ∧ some k_ ≠ ((.slice Ao38 t615.length co38) : Value).ownBlock) v598 t597) ∧ Aside0 (Kd.R (Kd.int .i64) 2 wc w.heap.size (fun k_ => some k_ ≠ ((.slice Ao10 t593.length co10) : Value).ownBlock ∧ some k_ ≠ ((.slice Ao38 t615.length co38) : Value).ownBlock) v607 t606) ∧ Aside0 (Kd.R (Kd.int .i64) 2 wc w.heap.size (fun k_ => some k_ ≠ (v607 : Value).ownBlock ∧ some k_ ≠ ((.slice Ao38 t615.length co38) : Value).ownBlock) (.slice Ao10 t593.length co10) t593) ∧ Aside0 (Kd.R (Kd.int .i64) 2 wc w.heap.size (fun k_ => some k_ ≠ (v607 : Value).ownBlock ∧ some k_ ≠ ((.slice Ao10 t593.length co10) : Value).ownBlock) (.slice Ao38 t615.length co38) t615) ∧ Aside0 (wc.heap[gb596]? = some (.cells #[(.slice Ao10 t593.length co10)] 26 (0, 0))) ∧ Aside0 (wc.heap[gb619]? = some (.cells #[(.slice Ao38 t615.length co38)] 26 (0, 0))) ∧ Aside0 (Below w.heap.size w wc))
 case first =>
  as_aux_lemma =>
  have H := HC48.out
  clear HC48
  by_cases c54 : t626 = t629
  rotate_left
  ·rw [if_neg c54] at H
   exact absurd H (by simp)
  rw [if_pos c54] at H
  have c54b0 : (t626 == t629) = true := beq_iff_eq.mpr c54
  have c54b1 : (t626 != t629) = false := bne_eq_false_iff_eq.mpr c54
  clear c54
  (first | rw [c54b0] | (simp only [i64_w, i32_w]; rw [c54b0]) | skip)
  by_cases c55 : t624 = t627
  rotate_left
  ·rw [if_neg c55] at H
   exact absurd H (by simp)
  rw [if_pos c55] at H
  have c55b0 : (t624 == t627) = true := beq_iff_eq.mpr c55
  have c55b1 : (t624 != t627) = false := bne_eq_false_iff_eq.mpr c55
  clear c55
  have H' := Aside0.mk H
  clear H
  as_aux_lemma =>
  go_wp2
  repeat (go_quiet (fail); try go_wp2)
  go_meet
  case rel => exact ⟨_, (t625 != t628), q14_1, H', ⟨by have := HJ6.out; have := HJ21.out; have := HJ34.out; first | omega | exact Nat.le_refl _⟩, ⟨ps HO_4.out⟩, ⟨pe HO_8.out⟩, ⟨pe HO_597000.out⟩, ⟨pe HO_620000.out⟩, ⟨pb BK596.out⟩, ⟨pb BK619.out⟩, ⟨hq⟩⟩
 as_aux_lemma =>
 clear HC48
 try clear c1
 try clear c2
 try clear p2
 try clear c3
 try clear c4
 try clear c5
 try clear c15
 try clear c15b0
 try clear c15b1
 try clear c19
 try clear c27
 try clear c27b0
 try clear c27b1
 try clear c31
 try clear c39
 try clear c44
 try clear c44b0
 try clear c44b1
 try clear c45
 try clear c49
 try clear c54
 try clear c54b0
 try clear c54b1
 try clear c55
 try clear c55b0
 try clear c55b1
 try clear hcz11_0
 try clear hcz13_0
 try clear hcz23_0
 try clear hcz25_0
 try clear hcz40_0
 try clear hcz42_0
 try clear hcz50_0
 try clear hcz52_0
 try clear hfz11_0
 try clear hfz13_0
 try clear hfz23_0
 try clear hfz25_0
 try clear hfz40_0
 try clear hfz42_0
 try clear hfz50_0
 try clear hfz52_0
 try clear p2
 obtain ⟨kq, x134_47, rfl, HA, HJ47, HO_4, HO_8, HO_597000, HO_620000, BK596, BK619, HB⟩ := hcut
 cases kq with | zero => exact absurd HA.out (by simp [laws_FnHeavyPaths.j3]) | succ kj47 => ?_
 have H := HA.out
 clear HA
 simp only [laws_FnHeavyPaths.j3] at H
 by_cases c56 : x134_47 = true
 ·subst c56
  replace H : (none) = some r := by rw [if_pos rfl] at H; exact H
  exact absurd H (by simp)
 replace c56 := Bool.eq_false_iff.mpr c56
 subst c56
 have H1 : ((spec_DrawAncestorOf.f kj47 l0).bind fun bt630 => ((impl_AncestorOf.f kj47 bt630.1 bt630.2.1 bt630.2.2).bind fun bt636 => ((spec_AncestorOf.f kj47 bt630.1 bt630.2.1 bt630.2.2).bind fun bt638 => (if bt636.2 = bt638.2 then (laws_FnHeavyPaths.j4 kj47 t597 t600 t606 t609 t618 t620 t621 t624 t625 t626 bt630.2.1 bt636.1 bt636.2 (bt636.1 != bt638.1) t593 t615 bt630.1) else (none))))) = some r := by rw [if_neg (show ¬ (false = true) by decide)] at H; exact H
 clear H
 have H := H1
 clear H1
 replace H := Option.bind_eq_some_iff.mp H
 obtain ⟨⟨t630, t633, t634⟩, A570, H⟩ := H
 replace H : ((impl_AncestorOf.f kj47 t630 t633 t634).bind fun bt636 => ((spec_AncestorOf.f kj47 t630 t633 t634).bind fun bt638 => (if bt636.2 = bt638.2 then (laws_FnHeavyPaths.j4 kj47 t597 t600 t606 t609 t618 t620 t621 t624 t625 t626 t633 bt636.1 bt636.2 (bt636.1 != bt638.1) t593 t615 t630) else (none)))) = some r := H
 have A57 := Aside0.mk A570
 clear A570
 replace H := Option.bind_eq_some_iff.mp H
 obtain ⟨⟨t636, t637⟩, A580, H⟩ := H
 replace H : ((spec_AncestorOf.f kj47 t630 t633 t634).bind fun bt638 => (if t637 = bt638.2 then (laws_FnHeavyPaths.j4 kj47 t597 t600 t606 t609 t618 t620 t621 t624 t625 t626 t633 t636 t637 (t636 != bt638.1) t593 t615 t630) else (none))) = some r := H
 have A58 := Aside0.mk A580
 clear A580
 replace H := Option.bind_eq_some_iff.mp H
 obtain ⟨⟨t638, t639⟩, A590, H⟩ := H
 replace H : (if t637 = t639 then (laws_FnHeavyPaths.j4 kj47 t597 t600 t606 t609 t618 t620 t621 t624 t625 t626 t633 t636 t637 (t636 != t638) t593 t615 t630) else (none)) = some r := H
 have A59 := Aside0.mk A590
 clear A590
 have HC60 := Aside0.mk H
 clear H
 as_aux_lemma =>
 go_upto_region 24 with (first | (go_at_call 18; (with_reducible refine (spec_DrawAncestorOf.calls kj47 _ _ l0 t630 t633 t634 _ ?side1 ?side2 A57.out).mono ?_); (case side1 => exact pc (Kd.C_below HR0.out HB.out)); (case side2 => exact HC0.out); rintro e w61 ⟨v631, rfl, ho0, hb⟩; replace HO_4 := sn HO_4 ho0 hb; have HO632 := Aside0.mk (Kd.R_lower (Kd.R_new' (Kd.R_new' (Kd.R_new' ho0 (Kd.R_lt (pe HO_8.out))) (Kd.R_lt (pe HO_597000.out))) (Kd.R_lt (pe HO_620000.out))) (below_size hq)); replace HO_8 := rn HO_8 ho0 hb; replace HO_597000 := rn HO_597000 ho0 hb; replace HO_620000 := rn HO_620000 ho0 hb; replace BK596 := bb BK596 hb; replace BK619 := bb BK619 hb; replace HB := Aside0.mk (below_step hq hb); (try clear hb); (try clear hb2); (try clear hk); (try clear hi); (try clear ho0)) | ((with_reducible refine gate_dst (N := 24) rfl ?_); (try (refine gate_guard (by rfl) ?_; dsimp only)); refine box_event ?hg (N := 24) ?hd (cs := #[.slice none 0 0]) (t := 26) ?hr ?_; (case hd => rfl); (case hg => rfl); (case hr => exact gs); intro gb635 hg w62 hbox hb; replace HO_4 := sb HO_4 hb; replace HO_8 := rb HO_8 hb; replace HO_597000 := rb HO_597000 hb; replace HO_620000 := rb HO_620000 hb; replace HO632 := rb HO632 hb; have BK635 := Aside0.mk (hbox); have GW635 := Aside0.mk (geb hg hq : w.heap.size ≤ gb635); have GE635 := Aside0.mk (geb hg hq : w.heap.size ≤ gb635); replace HB := Aside0.mk (below_step hq hb); have NB596_635 := Aside0.mk (nel hg (blk_lt (pb BK596.out)) : gb596 ≠ gb635); have NB635_596 := Aside0.mk (neg hg (blk_lt (pb BK596.out)) : gb635 ≠ gb596); replace BK596 := bb BK596 hb; have NB619_635 := Aside0.mk (nel hg (blk_lt (pb BK619.out)) : gb619 ≠ gb635); have NB635_619 := Aside0.mk (neg hg (blk_lt (pb BK619.out)) : gb635 ≠ gb619); replace BK619 := bb BK619 hb; clear hb hbox hg; obtain ⟨Ao63, co63, eo63⟩ := Kd.R_slice HO632.out; subst eo63; have hnb64 := NB635_596.out; have hnc64 := NB596_635.out; have hnb65 := NB635_619.out; have hnc65 := NB619_635.out; have hcz66_0 : w62.cell? ⟨gb635, 0, none⟩ = some (.slice none 0 0) := (blk_cell BK635.out 0).trans rfl; have hfz66_0 := blk_frozen BK635.out 0) | (go_at_call 19; (with_reducible refine (impl_AncestorOf.calls kj47 _ _ t630 t633 t634 t636 t637 _ ?side1 ?side2 A58.out).mono ?_); (case side1 => refine (Kd.R_reads' (e := 2) (base := w.heap.size) (ok := fun k_ => (((True ∧ some k_ ≠ (v607 : Value).ownBlock) ∧ some k_ ≠ (.slice Ao10 t593.length co10 : Value).ownBlock) ∧ some k_ ≠ (.slice Ao38 t615.length co38 : Value).ownBlock)) (n := t630.length) (c := co63) ?_).2.2; exact (pe (rf HO632 BK635 (.slice Ao63 t630.length co63)))); (case side2 => exact (Kd.R_reads' HO632.out).2.1); rintro e w67 ⟨rfl, hb⟩; replace HO_4 := Aside0.mk (Kd.S_below (ps (sf HO_4 BK635 (.slice Ao63 t630.length co63))) hb); replace HO_8 := Aside0.mk (Kd.R_below (pe (rf HO_8 BK635 (.slice Ao63 t630.length co63))) hb); replace HO_597000 := Aside0.mk (Kd.R_below (pe (rf HO_597000 BK635 (.slice Ao63 t630.length co63))) hb); replace HO_620000 := Aside0.mk (Kd.R_below (pe (rf HO_620000 BK635 (.slice Ao63 t630.length co63))) hb); replace HO632 := Aside0.mk (Kd.R_below (pe (rf HO632 BK635 (.slice Ao63 t630.length co63))) hb); replace BK596 := Aside0.mk (blk_below (g := gb596) (o := .cells #[.slice Ao10 t593.length co10] 26 (0, 0)) q14_9 hb); replace BK619 := Aside0.mk (blk_below (g := gb619) (o := .cells #[.slice Ao38 t615.length co38] 26 (0, 0)) q14_8 hb); replace BK635 := Aside0.mk (blk_below (g := gb635) (o := .cells #[.slice Ao63 t630.length co63] 26 (0, 0)) q14_5 hb); replace HB := Aside0.mk (below_step hq hb); (try clear hb); (try clear hb2); (try clear hk); (try clear hi); have hcz68_0 : w67.cell? ⟨gb635, 0, none⟩ = some (.slice Ao63 t630.length co63) := (blk_cell BK635.out 0).trans rfl; have hfz68_0 := blk_frozen BK635.out 0) | (go_at_call 20; (with_reducible refine (spec_AncestorOf.calls kj47 _ _ t630 t633 t634 t638 t639 _ ?side1 ?side2 A59.out).mono ?_); (case side1 => exact pc ((Kd.R_reads' HO632.out).2.2)); (case side2 => exact (Kd.R_reads' HO632.out).2.1); rintro e w69 ⟨rfl, hb⟩; replace HO_4 := sb HO_4 hb; replace HO_8 := rb HO_8 hb; replace HO_597000 := rb HO_597000 hb; replace HO_620000 := rb HO_620000 hb; replace HO632 := rb HO632 hb; replace BK596 := bb BK596 hb; replace BK619 := bb BK619 hb; replace BK635 := bb BK635 hb; replace HB := Aside0.mk (below_step hq hb); (try clear hb); (try clear hb2); (try clear hk); (try clear hi)))
 repeat (go_quiet (fail); go_upto_region 24 with (first | (go_at_call 18; (with_reducible refine (spec_DrawAncestorOf.calls kj47 _ _ l0 t630 t633 t634 _ ?side1 ?side2 A57.out).mono ?_); (case side1 => exact pc (Kd.C_below HR0.out HB.out)); (case side2 => exact HC0.out); rintro e w61 ⟨v631, rfl, ho0, hb⟩; replace HO_4 := sn HO_4 ho0 hb; have HO632 := Aside0.mk (Kd.R_lower (Kd.R_new' (Kd.R_new' (Kd.R_new' ho0 (Kd.R_lt (pe HO_8.out))) (Kd.R_lt (pe HO_597000.out))) (Kd.R_lt (pe HO_620000.out))) (below_size hq)); replace HO_8 := rn HO_8 ho0 hb; replace HO_597000 := rn HO_597000 ho0 hb; replace HO_620000 := rn HO_620000 ho0 hb; replace BK596 := bb BK596 hb; replace BK619 := bb BK619 hb; replace HB := Aside0.mk (below_step hq hb); (try clear hb); (try clear hb2); (try clear hk); (try clear hi); (try clear ho0)) | ((with_reducible refine gate_dst (N := 24) rfl ?_); (try (refine gate_guard (by rfl) ?_; dsimp only)); refine box_event ?hg (N := 24) ?hd (cs := #[.slice none 0 0]) (t := 26) ?hr ?_; (case hd => rfl); (case hg => rfl); (case hr => exact gs); intro gb635 hg w62 hbox hb; replace HO_4 := sb HO_4 hb; replace HO_8 := rb HO_8 hb; replace HO_597000 := rb HO_597000 hb; replace HO_620000 := rb HO_620000 hb; replace HO632 := rb HO632 hb; have BK635 := Aside0.mk (hbox); have GW635 := Aside0.mk (geb hg hq : w.heap.size ≤ gb635); have GE635 := Aside0.mk (geb hg hq : w.heap.size ≤ gb635); replace HB := Aside0.mk (below_step hq hb); have NB596_635 := Aside0.mk (nel hg (blk_lt (pb BK596.out)) : gb596 ≠ gb635); have NB635_596 := Aside0.mk (neg hg (blk_lt (pb BK596.out)) : gb635 ≠ gb596); replace BK596 := bb BK596 hb; have NB619_635 := Aside0.mk (nel hg (blk_lt (pb BK619.out)) : gb619 ≠ gb635); have NB635_619 := Aside0.mk (neg hg (blk_lt (pb BK619.out)) : gb635 ≠ gb619); replace BK619 := bb BK619 hb; clear hb hbox hg; obtain ⟨Ao63, co63, eo63⟩ := Kd.R_slice HO632.out; subst eo63; have hnb64 := NB635_596.out; have hnc64 := NB596_635.out; have hnb65 := NB635_619.out; have hnc65 := NB619_635.out; have hcz66_0 : w62.cell? ⟨gb635, 0, none⟩ = some (.slice none 0 0) := (blk_cell BK635.out 0).trans rfl; have hfz66_0 := blk_frozen BK635.out 0) | (go_at_call 19; (with_reducible refine (impl_AncestorOf.calls kj47 _ _ t630 t633 t634 t636 t637 _ ?side1 ?side2 A58.out).mono ?_); (case side1 => refine (Kd.R_reads' (e := 2) (base := w.heap.size) (ok := fun k_ => (((True ∧ some k_ ≠ (v607 : Value).ownBlock) ∧ some k_ ≠ (.slice Ao10 t593.length co10 : Value).ownBlock) ∧ some k_ ≠ (.slice Ao38 t615.length co38 : Value).ownBlock)) (n := t630.length) (c := co63) ?_).2.2; exact (pe (rf HO632 BK635 (.slice Ao63 t630.length co63)))); (case side2 => exact (Kd.R_reads' HO632.out).2.1); rintro e w67 ⟨rfl, hb⟩; replace HO_4 := Aside0.mk (Kd.S_below (ps (sf HO_4 BK635 (.slice Ao63 t630.length co63))) hb); replace HO_8 := Aside0.mk (Kd.R_below (pe (rf HO_8 BK635 (.slice Ao63 t630.length co63))) hb); replace HO_597000 := Aside0.mk (Kd.R_below (pe (rf HO_597000 BK635 (.slice Ao63 t630.length co63))) hb); replace HO_620000 := Aside0.mk (Kd.R_below (pe (rf HO_620000 BK635 (.slice Ao63 t630.length co63))) hb); replace HO632 := Aside0.mk (Kd.R_below (pe (rf HO632 BK635 (.slice Ao63 t630.length co63))) hb); replace BK596 := Aside0.mk (blk_below (g := gb596) (o := .cells #[.slice Ao10 t593.length co10] 26 (0, 0)) q14_9 hb); replace BK619 := Aside0.mk (blk_below (g := gb619) (o := .cells #[.slice Ao38 t615.length co38] 26 (0, 0)) q14_8 hb); replace BK635 := Aside0.mk (blk_below (g := gb635) (o := .cells #[.slice Ao63 t630.length co63] 26 (0, 0)) q14_5 hb); replace HB := Aside0.mk (below_step hq hb); (try clear hb); (try clear hb2); (try clear hk); (try clear hi); have hcz68_0 : w67.cell? ⟨gb635, 0, none⟩ = some (.slice Ao63 t630.length co63) := (blk_cell BK635.out 0).trans rfl; have hfz68_0 := blk_frozen BK635.out 0) | (go_at_call 20; (with_reducible refine (spec_AncestorOf.calls kj47 _ _ t630 t633 t634 t638 t639 _ ?side1 ?side2 A59.out).mono ?_); (case side1 => exact pc ((Kd.R_reads' HO632.out).2.2)); (case side2 => exact (Kd.R_reads' HO632.out).2.1); rintro e w69 ⟨rfl, hb⟩; replace HO_4 := sb HO_4 hb; replace HO_8 := rb HO_8 hb; replace HO_597000 := rb HO_597000 hb; replace HO_620000 := rb HO_620000 hb; replace HO632 := rb HO632 hb; replace BK596 := bb BK596 hb; replace BK619 := bb BK619 hb; replace BK635 := bb BK635 hb; replace HB := Aside0.mk (below_step hq hb); (try clear hb); (try clear hb2); (try clear hk); (try clear hi))))
 (try simp only [Act.put, List.setIfInBounds_toArray, List.set_cons_zero, List.set_cons_succ])
 as_aux_lemma =>
 go_cut [162] (fun v162 wc => ∃ (kq : Nat) (x162_59 : Bool), v162 = .bool x162_59 ∧ Aside0 (laws_FnHeavyPaths.j4 kq t597 t600 t606 t609 t618 t620 t621 t624 t625 t626 t633 t636 t637 x162_59 t593 t615 t630 = some r) ∧ Aside0 (kq ≤ kj47) ∧ Aside0 (Kd.S (Kd.slice 2 (Kd.int .i64)) 24 wc w.heap.size (fun k_ => some k_ ≠ (v607 : Value).ownBlock ∧ some k_ ≠ ((.slice Ao10 t593.length co10) : Value).ownBlock ∧ some k_ ≠ ((.slice Ao38 t615.length co38) : Value).ownBlock ∧ some k_ ≠ ((.slice Ao63 t630.length co63) : Value).ownBlock) v598 t597) ∧ Aside0 (Kd.R (Kd.int .i64) 2 wc w.heap.size (fun k_ => some k_ ≠ ((.slice Ao10 t593.length co10) : Value).ownBlock ∧ some k_ ≠ ((.slice Ao38 t615.length co38) : Value).ownBlock ∧ some k_ ≠ ((.slice Ao63 t630.length co63) : Value).ownBlock) v607 t606) ∧ Aside0 (Kd.R (Kd.int .i64) 2 wc w.heap.size (fun k_ => some k_ ≠ (v607 : Value).ownBlock ∧ some k_ ≠ ((.slice Ao38 t615.length co38) : Value).ownBlock ∧ some k_ ≠ ((.slice Ao63 t630.length co63) : Value).ownBlock) (.slice Ao10 t593.length co10) t593) ∧ Aside0 (Kd.R (Kd.int .i64) 2 wc w.heap.size (fun k_ => some k_ ≠ (v607 : Value).ownBlock ∧ some k_ ≠ ((.slice Ao10 t593.length co10) : Value).ownBlock ∧ some k_ ≠ ((.slice Ao63 t630.length co63) : Value).ownBlock) (.slice Ao38 t615.length co38) t615) ∧ Aside0 (Kd.R (Kd.int .i64) 2 wc w.heap.size (fun k_ => some k_ ≠ (v607 : Value).ownBlock ∧ some k_ ≠ ((.slice Ao10 t593.length co10) : Value).ownBlock ∧ some k_ ≠ ((.slice Ao38 t615.length co38) : Value).ownBlock) (.slice Ao63 t630.length co63) t630) ∧ Aside0 (wc.heap[gb596]? = some (.cells #[(.slice Ao10 t593.length co10)] 26 (0, 0))) ∧ Aside0 (wc.heap[gb619]? = some (.cells #[(.slice Ao38 t615.length co38)] 26 (0, 0))) ∧ Aside0 (wc.heap[gb635]? = some (.cells #[(.slice Ao63 t630.length co63)] 26 (0, 0))) ∧ Aside0 (Below w.heap.size w wc))
 case first =>
  as_aux_lemma =>
  have H := HC60.out
  clear HC60
  by_cases c70 : t637 = t639
  rotate_left
  ·rw [if_neg c70] at H
   exact absurd H (by simp)
  rw [if_pos c70] at H
  have c70b0 : (t637 == t639) = true := beq_iff_eq.mpr c70
  have c70b1 : (t637 != t639) = false := bne_eq_false_iff_eq.mpr c70
  clear c70
  (first | rw [c70b0] | (simp only [i64_w, i32_w]; rw [c70b0]) | skip)
  have H' := Aside0.mk H
  clear H
  as_aux_lemma =>
  go_wp2
  repeat (go_quiet (fail); try go_wp2)
  go_meet
  case rel => exact ⟨_, (t636 != t638), q14_1, H', ⟨by have := HJ6.out; have := HJ21.out; have := HJ34.out; have := HJ47.out; first | omega | exact Nat.le_refl _⟩, ⟨ps (Kd.S_mono HO_4.out (fun _ hk => ⟨hk.1.1, ⟨hk.1.2.1, ⟨hk.1.2.2, hk.2⟩⟩⟩))⟩, ⟨pe (Kd.R_mono HO_8.out (fun _ hk => ⟨hk.1.1, ⟨hk.1.2, hk.2⟩⟩))⟩, ⟨pe (Kd.R_mono HO_597000.out (fun _ hk => ⟨hk.1.1, ⟨hk.1.2, hk.2⟩⟩))⟩, ⟨pe (Kd.R_mono HO_620000.out (fun _ hk => ⟨hk.1.1, ⟨hk.1.2, hk.2⟩⟩))⟩, ⟨pe (Kd.R_mono HO632.out (fun _ hk => ⟨hk.1.1.2, ⟨hk.1.2, hk.2⟩⟩))⟩, ⟨pb BK596.out⟩, ⟨pb BK619.out⟩, ⟨pb BK635.out⟩, ⟨hq⟩⟩
 as_aux_lemma =>
 clear HC60
 try clear c1
 try clear c2
 try clear p2
 try clear c3
 try clear c4
 try clear c5
 try clear c6
 try clear c7
 try clear c15
 try clear c15b0
 try clear c15b1
 try clear c19
 try clear c27
 try clear c27b0
 try clear c27b1
 try clear c31
 try clear c39
 try clear c44
 try clear c44b0
 try clear c44b1
 try clear c45
 try clear c49
 try clear c54
 try clear c54b0
 try clear c54b1
 try clear c55
 try clear c55b0
 try clear c55b1
 try clear c56
 try clear c64
 try clear c65
 try clear c70
 try clear c70b0
 try clear c70b1
 try clear hcz11_0
 try clear hcz13_0
 try clear hcz23_0
 try clear hcz25_0
 try clear hcz40_0
 try clear hcz42_0
 try clear hcz50_0
 try clear hcz52_0
 try clear hcz66_0
 try clear hcz68_0
 try clear hfz11_0
 try clear hfz13_0
 try clear hfz23_0
 try clear hfz25_0
 try clear hfz40_0
 try clear hfz42_0
 try clear hfz50_0
 try clear hfz52_0
 try clear hfz66_0
 try clear hfz68_0
 try clear p2
 obtain ⟨kq, x162_59, rfl, HA, HJ59, HO_4, HO_8, HO_597000, HO_620000, HO_636000, BK596, BK619, BK635, HB⟩ := hcut
 cases kq with | zero => exact absurd HA.out (by simp [laws_FnHeavyPaths.j4]) | succ kj59 => ?_
 have H := HA.out
 clear HA
 simp only [laws_FnHeavyPaths.j4] at H
 by_cases c71 : x162_59 = true
 ·subst c71
  replace H : (none) = some r := by rw [if_pos rfl] at H; exact H
  exact absurd H (by simp)
 replace c71 := Bool.eq_false_iff.mpr c71
 subst c71
 have H1 : (if t637 = 0 then ((impl_IsBelow.f kj59 t630 t633 t636).bind fun bt640 => (if bt640.2 = 0 then (laws_FnHeavyPaths.j5 kj59 t597 t600 t606 t609 t618 t620 t621 t624 t625 t626 (!bt640.1) t593 t615) else (none))) else (laws_FnHeavyPaths.j6 kj59 t597 t600 t606 t609 t618 t620 t621 t624 t625 t626 t593 t615)) = some r := by rw [if_neg (show ¬ (false = true) by decide)] at H; exact H
 clear H
 have H := H1
 clear H1
 have HC72 := Aside0.mk H
 clear H
 go_upto_if 164 with (fail)
 as_aux_lemma =>
 repeat (go_quiet (fail); go_upto_if 164 with (fail))
 as_aux_lemma =>
 go_cut [] (fun wc => ∃ (kq : Nat), Aside0 (laws_FnHeavyPaths.j6 kq t597 t600 t606 t609 t618 t620 t621 t624 t625 t626 t593 t615 = some r) ∧ Aside0 (kq ≤ kj59) ∧ Aside0 (Kd.S (Kd.slice 2 (Kd.int .i64)) 24 wc w.heap.size (fun k_ => some k_ ≠ (v607 : Value).ownBlock ∧ some k_ ≠ ((.slice Ao10 t593.length co10) : Value).ownBlock ∧ some k_ ≠ ((.slice Ao38 t615.length co38) : Value).ownBlock ∧ some k_ ≠ ((.slice Ao63 t630.length co63) : Value).ownBlock) v598 t597) ∧ Aside0 (Kd.R (Kd.int .i64) 2 wc w.heap.size (fun k_ => some k_ ≠ ((.slice Ao10 t593.length co10) : Value).ownBlock ∧ some k_ ≠ ((.slice Ao38 t615.length co38) : Value).ownBlock ∧ some k_ ≠ ((.slice Ao63 t630.length co63) : Value).ownBlock) v607 t606) ∧ Aside0 (Kd.R (Kd.int .i64) 2 wc w.heap.size (fun k_ => some k_ ≠ (v607 : Value).ownBlock ∧ some k_ ≠ ((.slice Ao38 t615.length co38) : Value).ownBlock ∧ some k_ ≠ ((.slice Ao63 t630.length co63) : Value).ownBlock) (.slice Ao10 t593.length co10) t593) ∧ Aside0 (Kd.R (Kd.int .i64) 2 wc w.heap.size (fun k_ => some k_ ≠ (v607 : Value).ownBlock ∧ some k_ ≠ ((.slice Ao10 t593.length co10) : Value).ownBlock ∧ some k_ ≠ ((.slice Ao63 t630.length co63) : Value).ownBlock) (.slice Ao38 t615.length co38) t615) ∧ Aside0 (Kd.R (Kd.int .i64) 2 wc w.heap.size (fun k_ => some k_ ≠ (v607 : Value).ownBlock ∧ some k_ ≠ ((.slice Ao10 t593.length co10) : Value).ownBlock ∧ some k_ ≠ ((.slice Ao38 t615.length co38) : Value).ownBlock) (.slice Ao63 t630.length co63) t630) ∧ Aside0 (wc.heap[gb596]? = some (.cells #[(.slice Ao10 t593.length co10)] 26 (0, 0))) ∧ Aside0 (wc.heap[gb619]? = some (.cells #[(.slice Ao38 t615.length co38)] 26 (0, 0))) ∧ Aside0 (wc.heap[gb635]? = some (.cells #[(.slice Ao63 t630.length co63)] 26 (0, 0))) ∧ Aside0 (Below w.heap.size w wc))
 case first =>
  as_aux_lemma =>
  have H := HC72.out
  clear HC72
  by_cases c73 : t637 = 0
  rotate_left
  ·rw [if_neg c73] at H
   have c73b0 : (t637 == 0) = false := beq_eq_false_iff_ne.mpr c73
   have c73b1 : (t637 != 0) = true := bne_iff_ne.mpr c73
   (first | rw [c73b0] | (simp only [i64_w, i32_w]; rw [c73b0]) | skip)
   have H' := Aside0.mk H
   clear H
   as_aux_lemma =>
   go_wp2
   repeat (go_quiet (fail); try go_wp2)
   go_meet
   case rel => exact ⟨_, H', ⟨q14_11⟩, ⟨ps HO_4.out⟩, ⟨pe HO_8.out⟩, ⟨pe HO_597000.out⟩, ⟨pe HO_620000.out⟩, ⟨pe HO_636000.out⟩, ⟨pb BK596.out⟩, ⟨pb BK619.out⟩, ⟨pb BK635.out⟩, ⟨hq⟩⟩
  rw [if_pos c73] at H
  have c73b0 : (t637 == 0) = true := beq_iff_eq.mpr c73
  have c73b1 : (t637 != 0) = false := bne_eq_false_iff_eq.mpr c73
  clear c73
  (first | rw [c73b0] | (simp only [i64_w, i32_w]; rw [c73b0]) | skip)
  replace H := Option.bind_eq_some_iff.mp H
  obtain ⟨⟨t640, t641⟩, A740, H⟩ := H
  replace H : (if t641 = 0 then (laws_FnHeavyPaths.j5 kj59 t597 t600 t606 t609 t618 t620 t621 t624 t625 t626 (!t640) t593 t615) else (none)) = some r := H
  have A74 := Aside0.mk A740
  clear A740
  have HC75 := Aside0.mk H
  clear H
  have hnb76 := NB635_596.out
  have hnc76 := NB596_635.out
  have hnb77 := NB635_619.out
  have hnc77 := NB619_635.out
  have hcz78_0 : wc.cell? ⟨gb635, 0, none⟩ = some (.slice Ao63 t630.length co63) := (blk_cell BK635.out 0).trans rfl
  have hfz78_0 := blk_frozen BK635.out 0
  as_aux_lemma =>
  go_upto_region 28 with (first | (go_at_call 21; (with_reducible refine (impl_IsBelow.calls kj59 _ _ t630 t633 t636 t640 t641 _ ?side1 ?side2 A74.out).mono ?_); (case side1 => exact pc ((Kd.R_reads' HO_636000.out).2.2)); (case side2 => exact (Kd.R_reads' HO_636000.out).2.1); rintro e w79 ⟨rfl, hb⟩; replace HO_4 := sb HO_4 hb; replace HO_8 := rb HO_8 hb; replace HO_597000 := rb HO_597000 hb; replace HO_620000 := rb HO_620000 hb; replace HO_636000 := rb HO_636000 hb; replace BK596 := bb BK596 hb; replace BK619 := bb BK619 hb; replace BK635 := bb BK635 hb; replace HB := Aside0.mk (below_step hq hb); (try clear hb); (try clear hb2); (try clear hk); (try clear hi)))
  repeat (go_quiet (fail); go_upto_region 28 with (first | (go_at_call 21; (with_reducible refine (impl_IsBelow.calls kj59 _ _ t630 t633 t636 t640 t641 _ ?side1 ?side2 A74.out).mono ?_); (case side1 => exact pc ((Kd.R_reads' HO_636000.out).2.2)); (case side2 => exact (Kd.R_reads' HO_636000.out).2.1); rintro e w79 ⟨rfl, hb⟩; replace HO_4 := sb HO_4 hb; replace HO_8 := rb HO_8 hb; replace HO_597000 := rb HO_597000 hb; replace HO_620000 := rb HO_620000 hb; replace HO_636000 := rb HO_636000 hb; replace BK596 := bb BK596 hb; replace BK619 := bb BK619 hb; replace BK635 := bb BK635 hb; replace HB := Aside0.mk (below_step hq hb); (try clear hb); (try clear hb2); (try clear hk); (try clear hi))))
  (try simp only [Act.put, List.setIfInBounds_toArray, List.set_cons_zero, List.set_cons_succ])
  as_aux_lemma =>
  go_cut [177] (fun v177 wc => ∃ (kq : Nat) (x177_74 : Bool), v177 = .bool x177_74 ∧ Aside0 (laws_FnHeavyPaths.j5 kq t597 t600 t606 t609 t618 t620 t621 t624 t625 t626 x177_74 t593 t615 = some r) ∧ Aside0 (kq ≤ kj59) ∧ Aside0 (Kd.S (Kd.slice 2 (Kd.int .i64)) 24 wc w.heap.size (fun k_ => some k_ ≠ (v607 : Value).ownBlock ∧ some k_ ≠ ((.slice Ao10 t593.length co10) : Value).ownBlock ∧ some k_ ≠ ((.slice Ao38 t615.length co38) : Value).ownBlock ∧ some k_ ≠ ((.slice Ao63 t630.length co63) : Value).ownBlock) v598 t597) ∧ Aside0 (Kd.R (Kd.int .i64) 2 wc w.heap.size (fun k_ => some k_ ≠ ((.slice Ao10 t593.length co10) : Value).ownBlock ∧ some k_ ≠ ((.slice Ao38 t615.length co38) : Value).ownBlock ∧ some k_ ≠ ((.slice Ao63 t630.length co63) : Value).ownBlock) v607 t606) ∧ Aside0 (Kd.R (Kd.int .i64) 2 wc w.heap.size (fun k_ => some k_ ≠ (v607 : Value).ownBlock ∧ some k_ ≠ ((.slice Ao38 t615.length co38) : Value).ownBlock ∧ some k_ ≠ ((.slice Ao63 t630.length co63) : Value).ownBlock) (.slice Ao10 t593.length co10) t593) ∧ Aside0 (Kd.R (Kd.int .i64) 2 wc w.heap.size (fun k_ => some k_ ≠ (v607 : Value).ownBlock ∧ some k_ ≠ ((.slice Ao10 t593.length co10) : Value).ownBlock ∧ some k_ ≠ ((.slice Ao63 t630.length co63) : Value).ownBlock) (.slice Ao38 t615.length co38) t615) ∧ Aside0 (Kd.R (Kd.int .i64) 2 wc w.heap.size (fun k_ => some k_ ≠ (v607 : Value).ownBlock ∧ some k_ ≠ ((.slice Ao10 t593.length co10) : Value).ownBlock ∧ some k_ ≠ ((.slice Ao38 t615.length co38) : Value).ownBlock) (.slice Ao63 t630.length co63) t630) ∧ Aside0 (wc.heap[gb596]? = some (.cells #[(.slice Ao10 t593.length co10)] 26 (0, 0))) ∧ Aside0 (wc.heap[gb619]? = some (.cells #[(.slice Ao38 t615.length co38)] 26 (0, 0))) ∧ Aside0 (wc.heap[gb635]? = some (.cells #[(.slice Ao63 t630.length co63)] 26 (0, 0))) ∧ Aside0 (Below w.heap.size w wc))
  case first =>
   as_aux_lemma =>
   have H := HC75.out
   clear HC75
   by_cases c80 : t641 = 0
   rotate_left
   ·rw [if_neg c80] at H
    exact absurd H (by simp)
   rw [if_pos c80] at H
   have c80b0 : (t641 == 0) = true := beq_iff_eq.mpr c80
   have c80b1 : (t641 != 0) = false := bne_eq_false_iff_eq.mpr c80
   clear c80
   (first | rw [c80b0] | (simp only [i64_w, i32_w]; rw [c80b0]) | skip)
   have H' := Aside0.mk H
   clear H
   as_aux_lemma =>
   go_wp2
   repeat (go_quiet (fail); try go_wp2)
   go_meet
   case rel => exact ⟨_, (!t640), q14_1, H', ⟨q14_11⟩, ⟨ps HO_4.out⟩, ⟨pe HO_8.out⟩, ⟨pe HO_597000.out⟩, ⟨pe HO_620000.out⟩, ⟨pe HO_636000.out⟩, ⟨pb BK596.out⟩, ⟨pb BK619.out⟩, ⟨pb BK635.out⟩, ⟨hq⟩⟩
  as_aux_lemma =>
  clear HC75
  try clear c1
  try clear c2
  try clear p2
  try clear c3
  try clear c4
  try clear c5
  try clear c6
  try clear c7
  try clear c8
  try clear c15
  try clear c15b0
  try clear c15b1
  try clear c19
  try clear c27
  try clear c27b0
  try clear c27b1
  try clear c31
  try clear c39
  try clear c44
  try clear c44b0
  try clear c44b1
  try clear c45
  try clear c49
  try clear c54
  try clear c54b0
  try clear c54b1
  try clear c55
  try clear c55b0
  try clear c55b1
  try clear c56
  try clear c64
  try clear c65
  try clear c70
  try clear c70b0
  try clear c70b1
  try clear c71
  try clear c73
  try clear c73b0
  try clear c73b1
  try clear c76
  try clear c77
  try clear c80
  try clear c80b0
  try clear c80b1
  try clear hcz11_0
  try clear hcz13_0
  try clear hcz23_0
  try clear hcz25_0
  try clear hcz40_0
  try clear hcz42_0
  try clear hcz50_0
  try clear hcz52_0
  try clear hcz66_0
  try clear hcz68_0
  try clear hcz78_0
  try clear hfz11_0
  try clear hfz13_0
  try clear hfz23_0
  try clear hfz25_0
  try clear hfz40_0
  try clear hfz42_0
  try clear hfz50_0
  try clear hfz52_0
  try clear hfz66_0
  try clear hfz68_0
  try clear hfz78_0
  try clear p2
  obtain ⟨kq, x177_74, rfl, HA, HJ74, HO_4, HO_8, HO_597000, HO_620000, HO_636000, BK596, BK619, BK635, HB⟩ := hcut
  cases kq with | zero => exact absurd HA.out (by simp [laws_FnHeavyPaths.j5]) | succ kj74 => ?_
  have H := HA.out
  clear HA
  simp only [laws_FnHeavyPaths.j5] at H
  by_cases c81 : x177_74 = true
  ·subst c81
   replace H : (none) = some r := by rw [if_pos rfl] at H; exact H
   exact absurd H (by simp)
  replace c81 := Bool.eq_false_iff.mpr c81
  subst c81
  have H1 : (laws_FnHeavyPaths.j6 kj74 t597 t600 t606 t609 t618 t620 t621 t624 t625 t626 t593 t615) = some r := by rw [if_neg (show ¬ (false = true) by decide)] at H; exact H
  clear H
  have H := H1
  clear H1
  have H' := Aside0.mk H
  clear H
  as_aux_lemma =>
  go_wp2
  repeat (go_quiet (fail); try go_wp2)
  go_meet
  case rel => exact ⟨_, H', ⟨by have := HJ6.out; have := HJ21.out; have := HJ34.out; have := HJ47.out; have := HJ59.out; have := HJ74.out; first | omega | exact Nat.le_refl _⟩, ⟨ps HO_4.out⟩, ⟨pe HO_8.out⟩, ⟨pe HO_597000.out⟩, ⟨pe HO_620000.out⟩, ⟨pe HO_636000.out⟩, ⟨pb BK596.out⟩, ⟨pb BK619.out⟩, ⟨pb BK635.out⟩, ⟨hq⟩⟩
 as_aux_lemma =>
 clear HC72
 try clear c1
 try clear c2
 try clear p2
 try clear c3
 try clear c4
 try clear c5
 try clear c6
 try clear c7
 try clear c8
 try clear c15
 try clear c15b0
 try clear c15b1
 try clear c19
 try clear c27
 try clear c27b0
 try clear c27b1
 try clear c31
 try clear c39
 try clear c44
 try clear c44b0
 try clear c44b1
 try clear c45
 try clear c49
 try clear c54
 try clear c54b0
 try clear c54b1
 try clear c55
 try clear c55b0
 try clear c55b1
 try clear c56
 try clear c64
 try clear c65
 try clear c70
 try clear c70b0
 try clear c70b1
 try clear c71
 try clear c73
 try clear c73b0
 try clear c73b1
 try clear c76
 try clear c77
 try clear c80
 try clear c80b0
 try clear c80b1
 try clear c81
 try clear hcz11_0
 try clear hcz13_0
 try clear hcz23_0
 try clear hcz25_0
 try clear hcz40_0
 try clear hcz42_0
 try clear hcz50_0
 try clear hcz52_0
 try clear hcz66_0
 try clear hcz68_0
 try clear hcz78_0
 try clear hfz11_0
 try clear hfz13_0
 try clear hfz23_0
 try clear hfz25_0
 try clear hfz40_0
 try clear hfz42_0
 try clear hfz50_0
 try clear hfz52_0
 try clear hfz66_0
 try clear hfz68_0
 try clear hfz78_0
 try clear p2
 obtain ⟨kq, HA, HJ71, HO_4, HO_8, HO_597000, HO_620000, HO_636000, BK596, BK619, BK635, HB⟩ := hcut
 cases kq with | zero => exact absurd HA.out (by simp [laws_FnHeavyPaths.j6]) | succ kj71 => ?_
 have H := HA.out
 clear HA
 simp only [laws_FnHeavyPaths.j6] at H
 have HC82 := Aside0.mk H
 clear H
 go_upto_if 179 with (fail)
 as_aux_lemma =>
 repeat (go_quiet (fail); go_upto_if 179 with (fail))
 as_aux_lemma =>
 go_cut [] (fun wc => ∃ (kq : Nat), Aside0 (laws_FnHeavyPaths.j9 kq t597 t600 t606 t609 t593 = some r) ∧ Aside0 (kq ≤ kj71) ∧ Aside0 (Kd.S (Kd.slice 2 (Kd.int .i64)) 24 wc w.heap.size (fun k_ => some k_ ≠ (v607 : Value).ownBlock ∧ some k_ ≠ ((.slice Ao10 t593.length co10) : Value).ownBlock ∧ some k_ ≠ ((.slice Ao38 t615.length co38) : Value).ownBlock ∧ some k_ ≠ ((.slice Ao63 t630.length co63) : Value).ownBlock) v598 t597) ∧ Aside0 (Kd.R (Kd.int .i64) 2 wc w.heap.size (fun k_ => some k_ ≠ ((.slice Ao10 t593.length co10) : Value).ownBlock ∧ some k_ ≠ ((.slice Ao38 t615.length co38) : Value).ownBlock ∧ some k_ ≠ ((.slice Ao63 t630.length co63) : Value).ownBlock) v607 t606) ∧ Aside0 (Kd.R (Kd.int .i64) 2 wc w.heap.size (fun k_ => some k_ ≠ (v607 : Value).ownBlock ∧ some k_ ≠ ((.slice Ao38 t615.length co38) : Value).ownBlock ∧ some k_ ≠ ((.slice Ao63 t630.length co63) : Value).ownBlock) (.slice Ao10 t593.length co10) t593) ∧ Aside0 (Kd.R (Kd.int .i64) 2 wc w.heap.size (fun k_ => some k_ ≠ (v607 : Value).ownBlock ∧ some k_ ≠ ((.slice Ao10 t593.length co10) : Value).ownBlock ∧ some k_ ≠ ((.slice Ao63 t630.length co63) : Value).ownBlock) (.slice Ao38 t615.length co38) t615) ∧ Aside0 (Kd.R (Kd.int .i64) 2 wc w.heap.size (fun k_ => some k_ ≠ (v607 : Value).ownBlock ∧ some k_ ≠ ((.slice Ao10 t593.length co10) : Value).ownBlock ∧ some k_ ≠ ((.slice Ao38 t615.length co38) : Value).ownBlock) (.slice Ao63 t630.length co63) t630) ∧ Aside0 (wc.heap[gb596]? = some (.cells #[(.slice Ao10 t593.length co10)] 26 (0, 0))) ∧ Aside0 (wc.heap[gb619]? = some (.cells #[(.slice Ao38 t615.length co38)] 26 (0, 0))) ∧ Aside0 (wc.heap[gb635]? = some (.cells #[(.slice Ao63 t630.length co63)] 26 (0, 0))) ∧ Aside0 (Below w.heap.size w wc))
 case first =>
  as_aux_lemma =>
  have H := HC82.out
  clear HC82
  by_cases c83 : t621 = 0
  rotate_left
  ·rw [if_neg c83] at H
   have c83b0 : (t621 == 0) = false := beq_eq_false_iff_ne.mpr c83
   have c83b1 : (t621 != 0) = true := bne_iff_ne.mpr c83
   (first | rw [c83b0] | (simp only [i64_w, i32_w]; rw [c83b0]) | skip)
   have H' := Aside0.mk H
   clear H
   as_aux_lemma =>
   go_wp2
   repeat (go_quiet (fail); try go_wp2)
   go_meet
   case rel => exact ⟨_, H', ⟨by have := HJ6.out; have := HJ21.out; have := HJ34.out; have := HJ47.out; have := HJ59.out; have := HJ71.out; first | omega | exact Nat.le_refl _⟩, ⟨ps HO_4.out⟩, ⟨pe HO_8.out⟩, ⟨pe HO_597000.out⟩, ⟨pe HO_620000.out⟩, ⟨pe HO_636000.out⟩, ⟨pb BK596.out⟩, ⟨pb BK619.out⟩, ⟨pb BK635.out⟩, ⟨hq⟩⟩
  rw [if_pos c83] at H
  have c83b0 : (t621 == 0) = true := beq_iff_eq.mpr c83
  have c83b1 : (t621 != 0) = false := bne_eq_false_iff_eq.mpr c83
  clear c83
  (first | rw [c83b0] | (simp only [i64_w, i32_w]; rw [c83b0]) | skip)
  have H' := Aside0.mk H
  clear H
  as_aux_lemma =>
  go_wp2
  repeat (go_quiet (fail); try go_wp2)
  as_aux_lemma =>
  go_loopg [33, 34] kj71 (fun kq v33 v34 w' => ∃ (x33_7 : Int) (x34_7 : Int), v33 = .int .i64 x33_7 ∧ v34 = .int .i64 x34_7 ∧ Aside0 (laws_FnHeavyPaths.l0 kq t597 t600 t606 t609 t618 t620 t624 t625 t626 x33_7 x34_7 t593 t615 = some r) ∧ Aside0 (kq ≤ kj71) ∧ Aside0 (Kd.S (Kd.slice 2 (Kd.int .i64)) 24 w' w.heap.size (fun k_ => some k_ ≠ (v607 : Value).ownBlock ∧ some k_ ≠ ((.slice Ao10 t593.length co10) : Value).ownBlock ∧ some k_ ≠ ((.slice Ao38 t615.length co38) : Value).ownBlock ∧ some k_ ≠ ((.slice Ao63 t630.length co63) : Value).ownBlock) v598 t597) ∧ Aside0 (Kd.R (Kd.int .i64) 2 w' w.heap.size (fun k_ => some k_ ≠ ((.slice Ao10 t593.length co10) : Value).ownBlock ∧ some k_ ≠ ((.slice Ao38 t615.length co38) : Value).ownBlock ∧ some k_ ≠ ((.slice Ao63 t630.length co63) : Value).ownBlock) v607 t606) ∧ Aside0 (Kd.R (Kd.int .i64) 2 w' w.heap.size (fun k_ => some k_ ≠ (v607 : Value).ownBlock ∧ some k_ ≠ ((.slice Ao38 t615.length co38) : Value).ownBlock ∧ some k_ ≠ ((.slice Ao63 t630.length co63) : Value).ownBlock) (.slice Ao10 t593.length co10) t593) ∧ Aside0 (Kd.R (Kd.int .i64) 2 w' w.heap.size (fun k_ => some k_ ≠ (v607 : Value).ownBlock ∧ some k_ ≠ ((.slice Ao10 t593.length co10) : Value).ownBlock ∧ some k_ ≠ ((.slice Ao63 t630.length co63) : Value).ownBlock) (.slice Ao38 t615.length co38) t615) ∧ Aside0 (Kd.R (Kd.int .i64) 2 w' w.heap.size (fun k_ => some k_ ≠ (v607 : Value).ownBlock ∧ some k_ ≠ ((.slice Ao10 t593.length co10) : Value).ownBlock ∧ some k_ ≠ ((.slice Ao38 t615.length co38) : Value).ownBlock) (.slice Ao63 t630.length co63) t630) ∧ Aside0 (w'.heap[gb596]? = some (.cells #[(.slice Ao10 t593.length co10)] 26 (0, 0))) ∧ Aside0 (w'.heap[gb619]? = some (.cells #[(.slice Ao38 t615.length co38)] 26 (0, 0))) ∧ Aside0 (w'.heap[gb635]? = some (.cells #[(.slice Ao63 t630.length co63)] 26 (0, 0))) ∧ Aside0 (Below w.heap.size w w'))
  case atStart => exact ⟨(1), (0), q14_1, q14_1, H', ⟨Nat.le_refl _⟩, ⟨ps HO_4.out⟩, ⟨pe HO_8.out⟩, ⟨pe HO_597000.out⟩, ⟨pe HO_620000.out⟩, ⟨pe HO_636000.out⟩, ⟨pb BK596.out⟩, ⟨pb BK619.out⟩, ⟨pb BK635.out⟩, ⟨hq⟩⟩
  case round =>
   clear H'
   try clear c1
   try clear c2
   try clear p2
   try clear c3
   try clear c4
   try clear c5
   try clear c6
   try clear c7
   try clear c8
   try clear c15
   try clear c15b0
   try clear c15b1
   try clear c19
   try clear c27
   try clear c27b0
   try clear c27b1
   try clear c31
   try clear c39
   try clear c44
   try clear c44b0
   try clear c44b1
   try clear c45
   try clear c49
   try clear c54
   try clear c54b0
   try clear c54b1
   try clear c55
   try clear c55b0
   try clear c55b1
   try clear c56
   try clear c64
   try clear c65
   try clear c70
   try clear c70b0
   try clear c70b1
   try clear c71
   try clear c73
   try clear c73b0
   try clear c73b1
   try clear c76
   try clear c77
   try clear c80
   try clear c80b0
   try clear c80b1
   try clear c81
   try clear c83
   try clear c83b0
   try clear c83b1
   try clear hcz11_0
   try clear hcz13_0
   try clear hcz23_0
   try clear hcz25_0
   try clear hcz40_0
   try clear hcz42_0
   try clear hcz50_0
   try clear hcz52_0
   try clear hcz66_0
   try clear hcz68_0
   try clear hcz78_0
   try clear hfz11_0
   try clear hfz13_0
   try clear hfz23_0
   try clear hfz25_0
   try clear hfz40_0
   try clear hfz42_0
   try clear hfz50_0
   try clear hfz52_0
   try clear hfz66_0
   try clear hfz68_0
   try clear hfz78_0
   try clear p2
   obtain ⟨x33_7, x34_7, rfl, rfl, HA, HK7, HO_4, HO_8, HO_597000, HO_620000, HO_636000, BK596, BK619, BK635, HB⟩ := hrel
   cases gk with | zero => exact absurd HA.out (by simp [laws_FnHeavyPaths.l0]) | succ k7 => ?_
   have H := HA.out
   clear HA
   simp only [laws_FnHeavyPaths.l0] at H
   by_cases c84 : x34_7 < t620
   ·rw [if_pos c84] at H
    have c84b0 : decide (x34_7 < t620) = true := decide_eq_true c84
    clear c84
    have H' := Aside0.mk H
    clear H
    as_aux_lemma =>
    go_wp2
    repeat (go_quiet (fail); try go_wp2)
    go_roundg k7
    case measure => have := HJ6.out; have := HJ21.out; have := HJ34.out; have := HJ47.out; have := HJ59.out; have := HJ71.out; have := HK7.out; omega
    case rel => exact ⟨(wrap64 (x33_7 * 2)), (wrap64 (x34_7 + 1)), q14_1, q14_1, H', ⟨by have := HJ6.out; have := HJ21.out; have := HJ34.out; have := HJ47.out; have := HJ59.out; have := HJ71.out; have := HK7.out; omega⟩, ⟨ps HO_4.out⟩, ⟨pe HO_8.out⟩, ⟨pe HO_597000.out⟩, ⟨pe HO_620000.out⟩, ⟨pe HO_636000.out⟩, ⟨pb BK596.out⟩, ⟨pb BK619.out⟩, ⟨pb BK635.out⟩, ⟨hq⟩⟩
   rw [if_neg c84] at H
   have c84b0 : decide (x34_7 < t620) = false := decide_eq_false c84
   clear c84
   replace H := Option.bind_eq_some_iff.mp H
   obtain ⟨⟨t642, t645⟩, A850, H⟩ := H
   replace H : (if t645 = 0 then (if x33_7 > (t615.length : Int) then (none) else (if t626 = 0 then (if 0 ≤ t618 then (if t618 < (t642.length : Int) then (laws_FnHeavyPaths.j8 k7 t597 t600 t606 t609 ((wrap64 ((wrap64 (t625 - t624)) + 1)) != (rd t642 t618)) t593) else (none)) else (none)) else (none))) else (none)) = some r := H
   have A85 := Aside0.mk A850
   clear A850
   have HC86 := Aside0.mk H
   clear H
   have hnb87 := NB619_596.out
   have hnc87 := NB596_619.out
   have hnb88 := NB619_635.out
   have hnc88 := NB635_619.out
   have hcz89_0 : wr.cell? ⟨gb619, 0, none⟩ = some (.slice Ao38 t615.length co38) := (blk_cell BK619.out 0).trans rfl
   have hfz89_0 := blk_frozen BK619.out 0
   as_aux_lemma =>
   go_upto_region 37 with (first | (go_at_call 22; (with_reducible refine (impl_SizesOf.calls k7 _ _ t615 t642 t645 _ ?side1 ?side2 A85.out).mono ?_); (case side1 => exact pc ((Kd.R_reads' HO_620000.out).2.2)); (case side2 => exact (Kd.R_reads' HO_620000.out).2.1); rintro e w90 ⟨v643, rfl, ho0, hb⟩; replace HO_4 := sn HO_4 ho0 hb; have HO644 := Aside0.mk (Kd.R_lower (Kd.R_new' (Kd.R_new' (Kd.R_new' (Kd.R_new' ho0 (Kd.R_lt (pe HO_8.out))) (Kd.R_lt (pe HO_597000.out))) (Kd.R_lt (pe HO_620000.out))) (Kd.R_lt (pe HO_636000.out))) (below_size hq)); replace HO_8 := rn HO_8 ho0 hb; replace HO_597000 := rn HO_597000 ho0 hb; replace HO_620000 := rn HO_620000 ho0 hb; replace HO_636000 := rn HO_636000 ho0 hb; replace BK596 := bb BK596 hb; replace BK619 := bb BK619 hb; replace BK635 := bb BK635 hb; replace HB := Aside0.mk (below_step hq hb); (try clear hb); (try clear hb2); (try clear hk); (try clear hi); (try clear ho0)))
   repeat (go_quiet (fail); go_upto_region 37 with (first | (go_at_call 22; (with_reducible refine (impl_SizesOf.calls k7 _ _ t615 t642 t645 _ ?side1 ?side2 A85.out).mono ?_); (case side1 => exact pc ((Kd.R_reads' HO_620000.out).2.2)); (case side2 => exact (Kd.R_reads' HO_620000.out).2.1); rintro e w90 ⟨v643, rfl, ho0, hb⟩; replace HO_4 := sn HO_4 ho0 hb; have HO644 := Aside0.mk (Kd.R_lower (Kd.R_new' (Kd.R_new' (Kd.R_new' (Kd.R_new' ho0 (Kd.R_lt (pe HO_8.out))) (Kd.R_lt (pe HO_597000.out))) (Kd.R_lt (pe HO_620000.out))) (Kd.R_lt (pe HO_636000.out))) (below_size hq)); replace HO_8 := rn HO_8 ho0 hb; replace HO_597000 := rn HO_597000 ho0 hb; replace HO_620000 := rn HO_620000 ho0 hb; replace HO_636000 := rn HO_636000 ho0 hb; replace BK596 := bb BK596 hb; replace BK619 := bb BK619 hb; replace BK635 := bb BK635 hb; replace HB := Aside0.mk (below_step hq hb); (try clear hb); (try clear hb2); (try clear hk); (try clear hi); (try clear ho0))))
   (try simp only [Act.put, List.setIfInBounds_toArray, List.set_cons_zero, List.set_cons_succ])
   as_aux_lemma =>
   go_cut [215] (fun v215 wc => ∃ (kq : Nat) (x215_85 : Bool), v215 = .bool x215_85 ∧ Aside0 (laws_FnHeavyPaths.j8 kq t597 t600 t606 t609 x215_85 t593 = some r) ∧ Aside0 (kq ≤ k7) ∧ Aside0 (Kd.S (Kd.slice 2 (Kd.int .i64)) 24 wc w.heap.size (fun k_ => some k_ ≠ (v607 : Value).ownBlock ∧ some k_ ≠ ((.slice Ao10 t593.length co10) : Value).ownBlock ∧ some k_ ≠ ((.slice Ao38 t615.length co38) : Value).ownBlock ∧ some k_ ≠ ((.slice Ao63 t630.length co63) : Value).ownBlock) v598 t597) ∧ Aside0 (Kd.R (Kd.int .i64) 2 wc w.heap.size (fun k_ => some k_ ≠ ((.slice Ao10 t593.length co10) : Value).ownBlock ∧ some k_ ≠ ((.slice Ao38 t615.length co38) : Value).ownBlock ∧ some k_ ≠ ((.slice Ao63 t630.length co63) : Value).ownBlock) v607 t606) ∧ Aside0 (Kd.R (Kd.int .i64) 2 wc w.heap.size (fun k_ => some k_ ≠ (v607 : Value).ownBlock ∧ some k_ ≠ ((.slice Ao38 t615.length co38) : Value).ownBlock ∧ some k_ ≠ ((.slice Ao63 t630.length co63) : Value).ownBlock) (.slice Ao10 t593.length co10) t593) ∧ Aside0 (Kd.R (Kd.int .i64) 2 wc w.heap.size (fun k_ => some k_ ≠ (v607 : Value).ownBlock ∧ some k_ ≠ ((.slice Ao10 t593.length co10) : Value).ownBlock ∧ some k_ ≠ ((.slice Ao63 t630.length co63) : Value).ownBlock) (.slice Ao38 t615.length co38) t615) ∧ Aside0 (Kd.R (Kd.int .i64) 2 wc w.heap.size (fun k_ => some k_ ≠ (v607 : Value).ownBlock ∧ some k_ ≠ ((.slice Ao10 t593.length co10) : Value).ownBlock ∧ some k_ ≠ ((.slice Ao38 t615.length co38) : Value).ownBlock) (.slice Ao63 t630.length co63) t630) ∧ Aside0 (wc.heap[gb596]? = some (.cells #[(.slice Ao10 t593.length co10)] 26 (0, 0))) ∧ Aside0 (wc.heap[gb619]? = some (.cells #[(.slice Ao38 t615.length co38)] 26 (0, 0))) ∧ Aside0 (wc.heap[gb635]? = some (.cells #[(.slice Ao63 t630.length co63)] 26 (0, 0))) ∧ Aside0 (Below w.heap.size w wc))
   case first =>
    as_aux_lemma =>
    have H := HC86.out
    clear HC86
    by_cases c91 : t645 = 0
    rotate_left
    ·rw [if_neg c91] at H
     exact absurd H (by simp)
    rw [if_pos c91] at H
    have c91b0 : (t645 == 0) = true := beq_iff_eq.mpr c91
    have c91b1 : (t645 != 0) = false := bne_eq_false_iff_eq.mpr c91
    clear c91
    (first | rw [c91b0] | (simp only [i64_w, i32_w]; rw [c91b0]) | skip)
    by_cases c92 : x33_7 > (t615.length : Int)
    ·rw [if_pos c92] at H
     exact absurd H (by simp)
    rw [if_neg c92] at H
    have c92b0 : decide ((t615.length : Int) < x33_7) = false := decide_eq_false c92
    clear c92
    by_cases c96 : t626 = 0
    rotate_left
    ·rw [if_neg c96] at H
     exact absurd H (by simp)
    rw [if_pos c96] at H
    have c96b0 : (t626 == 0) = true := beq_iff_eq.mpr c96
    have c96b1 : (t626 != 0) = false := bne_eq_false_iff_eq.mpr c96
    clear c96
    by_cases c97 : 0 ≤ t618
    rotate_left
    ·rw [if_neg c97] at H
     exact absurd H (by simp)
    rw [if_pos c97] at H
    have c97b0 : decide (0 ≤ t618) = true := decide_eq_true c97
    clear c97
    by_cases c98 : t618 < (t642.length : Int)
    rotate_left
    ·rw [if_neg c98] at H
     exact absurd H (by simp)
    rw [if_pos c98] at H
    have c98b0 : decide (t618 < (t642.length : Int)) = true := decide_eq_true c98
    clear c98
    have H' := Aside0.mk H
    clear H
    have hnb99 := NB619_596.out
    have hnc99 := NB596_619.out
    have hnb100 := NB619_635.out
    have hnc100 := NB635_619.out
    have hcz101_0 : w90.cell? ⟨gb619, 0, none⟩ = some (.slice Ao38 t615.length co38) := (blk_cell BK619.out 0).trans rfl
    have hfz101_0 := blk_frozen BK619.out 0
    obtain ⟨Ao102, co102, eo102⟩ := Kd.R_slice HO644.out
    subst eo102
    have p646 : 0 ≤ (t618 : Int) := of_decide_eq_true q14_0
    have q646 : t618 < (t642.length : Int) := of_decide_eq_true q14_0
    obtain ⟨ad646, e646, hx646_0⟩ := Kd.at_int (Kd.R_reads' HO644.out).2.2 t618 p646 q646
    cases e646
    replace p646 := eq_true p646
    replace q646 := eq_true q646
    as_aux_lemma =>
    go_wp2
    repeat (go_quiet (fail); try go_wp2)
    go_meet
    case rel => exact ⟨_, ((wrap64 ((wrap64 (t625 - t624)) + 1)) != (rd t642 t618)), q14_1, H', ⟨by have := HJ6.out; have := HJ21.out; have := HJ34.out; have := HJ47.out; have := HJ59.out; have := HJ71.out; have := HK7.out; first | omega | exact Nat.le_refl _⟩, ⟨ps (Kd.S_mono HO_4.out (fun _ hk => ⟨hk.1.1, ⟨hk.1.2.1, ⟨hk.1.2.2.1, hk.1.2.2.2⟩⟩⟩))⟩, ⟨pe (Kd.R_mono HO_8.out (fun _ hk => ⟨hk.1.1, ⟨hk.1.2.1, hk.1.2.2⟩⟩))⟩, ⟨pe (Kd.R_mono HO_597000.out (fun _ hk => ⟨hk.1.1, ⟨hk.1.2.1, hk.1.2.2⟩⟩))⟩, ⟨pe (Kd.R_mono HO_620000.out (fun _ hk => ⟨hk.1.1, ⟨hk.1.2.1, hk.1.2.2⟩⟩))⟩, ⟨pe (Kd.R_mono HO_636000.out (fun _ hk => ⟨hk.1.1, ⟨hk.1.2.1, hk.1.2.2⟩⟩))⟩, ⟨pb BK596.out⟩, ⟨pb BK619.out⟩, ⟨pb BK635.out⟩, ⟨hq⟩⟩
   as_aux_lemma =>
   clear HC86
   try clear c1
   try clear c2
   try clear p2
   try clear c3
   try clear c4
   try clear c5
   try clear c6
   try clear p6
   try clear q6
   try clear hx6
   try clear c7
   try clear c8
   try clear c9
   try clear c10
   try clear c15
   try clear c15b0
   try clear c15b1
   try clear c19
   try clear c27
   try clear c27b0
   try clear c27b1
   try clear c31
   try clear c39
   try clear c44
   try clear c44b0
   try clear c44b1
   try clear c45
   try clear c49
   try clear c54
   try clear c54b0
   try clear c54b1
   try clear c55
   try clear c55b0
   try clear c55b1
   try clear c56
   try clear c64
   try clear p64
   try clear q64
   try clear hx64
   try clear c65
   try clear c70
   try clear c70b0
   try clear c70b1
   try clear c71
   try clear c73
   try clear c73b0
   try clear c73b1
   try clear c76
   try clear c77
   try clear c80
   try clear c80b0
   try clear c80b1
   try clear c81
   try clear c83
   try clear c83b0
   try clear c83b1
   try clear c84
   try clear c84b0
   try clear c87
   try clear c88
   try clear c91
   try clear c91b0
   try clear c91b1
   try clear c92
   try clear c92b0
   try clear c93
   try clear c94
   try clear c96
   try clear c96b0
   try clear c96b1
   try clear c97
   try clear c97b0
   try clear c98
   try clear c98b0
   try clear c99
   try clear c100
   try clear c103
   try clear c104
   try clear hcz101_0
   try clear hcz105_0
   try clear hcz11_0
   try clear hcz13_0
   try clear hcz23_0
   try clear hcz25_0
   try clear hcz40_0
   try clear hcz42_0
   try clear hcz50_0
   try clear hcz52_0
   try clear hcz66_0
   try clear hcz68_0
   try clear hcz78_0
   try clear hcz89_0
   try clear hcz95_0
   try clear hfz101_0
   try clear hfz105_0
   try clear hfz11_0
   try clear hfz13_0
   try clear hfz23_0
   try clear hfz25_0
   try clear hfz40_0
   try clear hfz42_0
   try clear hfz50_0
   try clear hfz52_0
   try clear hfz66_0
   try clear hfz68_0
   try clear hfz78_0
   try clear hfz89_0
   try clear hfz95_0
   try clear hx646_0
   try clear p2
   try clear p646
   try clear q646
   obtain ⟨kq, x215_85, rfl, HA, HJ85, HO_4, HO_8, HO_597000, HO_620000, HO_636000, BK596, BK619, BK635, HB⟩ := hcut
   cases kq with | zero => exact absurd HA.out (by simp [laws_FnHeavyPaths.j8]) | succ kj85 => ?_
   have H := HA.out
   clear HA
   simp only [laws_FnHeavyPaths.j8] at H
   by_cases c106 : x215_85 = true
   ·subst c106
    replace H : (none) = some r := by rw [if_pos rfl] at H; exact H
    exact absurd H (by simp)
   replace c106 := Bool.eq_false_iff.mpr c106
   subst c106
   have H1 : (laws_FnHeavyPaths.j9 kj85 t597 t600 t606 t609 t593) = some r := by rw [if_neg (show ¬ (false = true) by decide)] at H; exact H
   clear H
   have H := H1
   clear H1
   have H' := Aside0.mk H
   clear H
   as_aux_lemma =>
   go_wp2
   repeat (go_quiet (fail); try go_wp2)
   go_meet
   case rel => exact ⟨_, H', ⟨by have := HJ6.out; have := HJ21.out; have := HJ34.out; have := HJ47.out; have := HJ59.out; have := HJ71.out; have := HK7.out; have := HJ85.out; first | omega | exact Nat.le_refl _⟩, ⟨ps HO_4.out⟩, ⟨pe HO_8.out⟩, ⟨pe HO_597000.out⟩, ⟨pe HO_620000.out⟩, ⟨pe HO_636000.out⟩, ⟨pb BK596.out⟩, ⟨pb BK619.out⟩, ⟨pb BK635.out⟩, ⟨hq⟩⟩
 as_aux_lemma =>
 clear HC82
 try clear c1
 try clear c2
 try clear p2
 try clear c3
 try clear c4
 try clear c5
 try clear c6
 try clear p6
 try clear q6
 try clear hx6
 try clear c7
 try clear c8
 try clear c9
 try clear c10
 try clear c15
 try clear c15b0
 try clear c15b1
 try clear c19
 try clear c27
 try clear c27b0
 try clear c27b1
 try clear c31
 try clear c39
 try clear c44
 try clear c44b0
 try clear c44b1
 try clear c45
 try clear c49
 try clear c54
 try clear c54b0
 try clear c54b1
 try clear c55
 try clear c55b0
 try clear c55b1
 try clear c56
 try clear c64
 try clear p64
 try clear q64
 try clear hx64
 try clear c65
 try clear c70
 try clear c70b0
 try clear c70b1
 try clear c71
 try clear c73
 try clear c73b0
 try clear c73b1
 try clear c76
 try clear c77
 try clear c80
 try clear c80b0
 try clear c80b1
 try clear c81
 try clear c83
 try clear c83b0
 try clear c83b1
 try clear c84
 try clear c84b0
 try clear c87
 try clear c88
 try clear c91
 try clear c91b0
 try clear c91b1
 try clear c92
 try clear c92b0
 try clear c93
 try clear c94
 try clear c96
 try clear c96b0
 try clear c96b1
 try clear c97
 try clear c97b0
 try clear c98
 try clear c98b0
 try clear c99
 try clear c100
 try clear c103
 try clear c104
 try clear c106
 try clear hcz101_0
 try clear hcz105_0
 try clear hcz11_0
 try clear hcz13_0
 try clear hcz23_0
 try clear hcz25_0
 try clear hcz40_0
 try clear hcz42_0
 try clear hcz50_0
 try clear hcz52_0
 try clear hcz66_0
 try clear hcz68_0
 try clear hcz78_0
 try clear hcz89_0
 try clear hcz95_0
 try clear hfz101_0
 try clear hfz105_0
 try clear hfz11_0
 try clear hfz13_0
 try clear hfz23_0
 try clear hfz25_0
 try clear hfz40_0
 try clear hfz42_0
 try clear hfz50_0
 try clear hfz52_0
 try clear hfz66_0
 try clear hfz68_0
 try clear hfz78_0
 try clear hfz89_0
 try clear hfz95_0
 try clear hx646_0
 try clear p2
 try clear p6
 try clear p64
 try clear p646
 try clear q6
 try clear q64
 try clear q646
 obtain ⟨kq, HA, HJ81, HO_4, HO_8, HO_597000, HO_620000, HO_636000, BK596, BK619, BK635, HB⟩ := hcut
 cases kq with | zero => exact absurd HA.out (by simp [laws_FnHeavyPaths.j9]) | succ kj81 => ?_
 have H := HA.out
 clear HA
 simp only [laws_FnHeavyPaths.j9] at H
 by_cases c107 : t600 = 0
 rotate_left
 ·rw [if_neg c107] at H
  have c107b0 : (t600 == 0) = false := beq_eq_false_iff_ne.mpr c107
  have c107b1 : (t600 != 0) = true := bne_iff_ne.mpr c107
  by_cases c163 : (t597.length : Int) = 0
  rotate_left
  ·rw [if_neg c163] at H
   exact absurd H (by simp)
  rw [if_pos c163] at H
  have c163b0 : ((t597.length : Int) == 0) = true := beq_iff_eq.mpr c163
  have c163b1 : ((t597.length : Int) != 0) = false := bne_eq_false_iff_eq.mpr c163
  clear c163
  obtain rfl := Option.some.inj H
  obtain ⟨Ao164, co164, eo164⟩ := Kd.S_slice HO_4.out
  subst eo164
  as_aux_lemma =>
  go_wp2
  repeat (go_quiet (fail); try go_wp2)
  go_ret
  exact ⟨ew, hq⟩
 rw [if_pos c107] at H
 have c107b0 : (t600 == 0) = true := beq_iff_eq.mpr c107
 have c107b1 : (t600 != 0) = false := bne_eq_false_iff_eq.mpr c107
 clear c107
 by_cases c108 : 0 ≤ (t593.length : Int)
 rotate_left
 ·rw [if_neg c108] at H
  exact absurd H (by simp)
 rw [if_pos c108] at H
 have c108b0 := eq_true c108
 have c108b1 : decide (0 ≤ (t593.length : Int)) = true := decide_eq_true c108
 clear c108
 by_cases c109 : ((t593.length : Int) : Int).toNat ≤ 281474976710656
 rotate_left
 ·rw [if_neg c109] at H
  exact absurd H (by simp)
 rw [if_pos c109] at H
 have c109b0 := eq_true c109
 have c109b1 : decide (((t593.length : Int) : Int).toNat ≤ 281474976710656) = true := decide_eq_true c109
 clear c109
 obtain ⟨y647, hy647⟩ : ∃ y_ : List Bool, y_ = (List.replicate ((t593.length : Int) : Int).toNat false) := ⟨_, rfl⟩
 replace H : (laws_FnHeavyPaths.l1 kj81 t597 t606 y647 0) = some r := by first | (rw [hy647]; with_reducible exact H) | (have H2_ := (Option.bind_some _ _).symm.trans H; rw [hy647]; with_reducible exact H2_) | (have H2_ := (Option.bind_some _ _).symm.trans H; with_reducible exact H2_) | with_reducible exact H | (rw [hy647]; exact H) | exact H
 have Ny647 := Aside0.mk hy647
 clear hy647
 have H' := Aside0.mk H
 clear H
 have hnb110 := NB596_619.out
 have hnc110 := NB619_596.out
 have hnb111 := NB596_635.out
 have hnc111 := NB635_596.out
 have hcz112_0 : wc.cell? ⟨gb596, 0, none⟩ = some (.slice Ao10 t593.length co10) := (blk_cell BK596.out 0).trans rfl
 have hfz112_0 := blk_frozen BK596.out 0
 as_aux_lemma =>
 go_wp2_with (first | ((with_reducible refine gate_dst (N := 229) rfl ?_); (try (refine gate_guard (by rfl) ?_; dsimp only)); refine Kd.R_make Kd.bool _ 4 rfl (N := 229) rfl 46 _ _ rfl (t593.length : Int) rfl rfl Try.underlying46 (.bool false) 1 info4 rfl (by decide) (by omega) false (ok := fun _ => True) (okp := fun _ => True) rfl (fun _ hk => hk) trivial (of_decide_eq_true q14_0) (Nat.le_trans (Nat.mul_le_mul_right _ (of_decide_eq_true q14_0 : (t593.length : Int).toNat ≤ 281474976710656)) (by omega)) (Below.refl _ _) (Nat.le_refl _) ?_; intro v648 w113 ho114 hb hg_ hnew_; clear hg_ hnew_; (first | rw [← Ny647.out] at ho114 | (simp only [Int.reduceToNat] at ho114; rw [← Ny647.out] at ho114)); replace HO_4 := sb HO_4 hb; replace HO_8 := rb HO_8 hb; replace HO_597000 := rb HO_597000 hb; replace HO_620000 := rb HO_620000 hb; replace HO_636000 := rb HO_636000 hb; have HO649 := Aside0.mk (Kd.R_lower ho114 (below_size hq)); replace BK596 := bb BK596 hb; replace BK619 := bb BK619 hb; replace BK635 := bb BK635 hb; replace HB := Aside0.mk (below_step hq hb); clear hb ho114))
 repeat (go_quiet (fail); try go_wp2_with (first | ((with_reducible refine gate_dst (N := 229) rfl ?_); (try (refine gate_guard (by rfl) ?_; dsimp only)); refine Kd.R_make Kd.bool _ 4 rfl (N := 229) rfl 46 _ _ rfl (t593.length : Int) rfl rfl Try.underlying46 (.bool false) 1 info4 rfl (by decide) (by omega) false (ok := fun _ => True) (okp := fun _ => True) rfl (fun _ hk => hk) trivial (of_decide_eq_true q14_0) (Nat.le_trans (Nat.mul_le_mul_right _ (of_decide_eq_true q14_0 : (t593.length : Int).toNat ≤ 281474976710656)) (by omega)) (Below.refl _ _) (Nat.le_refl _) ?_; intro v648 w113 ho114 hb hg_ hnew_; clear hg_ hnew_; (first | rw [← Ny647.out] at ho114 | (simp only [Int.reduceToNat] at ho114; rw [← Ny647.out] at ho114)); replace HO_4 := sb HO_4 hb; replace HO_8 := rb HO_8 hb; replace HO_597000 := rb HO_597000 hb; replace HO_620000 := rb HO_620000 hb; replace HO_636000 := rb HO_636000 hb; have HO649 := Aside0.mk (Kd.R_lower ho114 (below_size hq)); replace BK596 := bb BK596 hb; replace BK619 := bb BK619 hb; replace BK635 := bb BK635 hb; replace HB := Aside0.mk (below_step hq hb); clear hb ho114)))
 as_aux_lemma =>
 go_loopg [38] kj81 (fun kq v38 w' => ∃ (x37_8 : List Bool) (x38_8 : Int), v38 = .int .i64 x38_8 ∧ Aside0 (laws_FnHeavyPaths.l1 kq t597 t606 x37_8 x38_8 = some r) ∧ Aside0 (kq ≤ kj81) ∧ Aside0 (Kd.S (Kd.slice 2 (Kd.int .i64)) 24 w' w.heap.size (fun k_ => some k_ ≠ (v607 : Value).ownBlock ∧ some k_ ≠ ((.slice Ao10 t593.length co10) : Value).ownBlock ∧ some k_ ≠ ((.slice Ao38 t615.length co38) : Value).ownBlock ∧ some k_ ≠ ((.slice Ao63 t630.length co63) : Value).ownBlock) v598 t597) ∧ Aside0 (Kd.R (Kd.int .i64) 2 w' w.heap.size (fun k_ => some k_ ≠ ((.slice Ao10 t593.length co10) : Value).ownBlock ∧ some k_ ≠ ((.slice Ao38 t615.length co38) : Value).ownBlock ∧ some k_ ≠ ((.slice Ao63 t630.length co63) : Value).ownBlock) v607 t606) ∧ Aside0 (Kd.R Kd.bool 4 w' w.heap.size (fun _ => True) v648 x37_8) ∧ Aside0 (Kd.R (Kd.int .i64) 2 w' w.heap.size (fun k_ => some k_ ≠ (v607 : Value).ownBlock ∧ some k_ ≠ ((.slice Ao38 t615.length co38) : Value).ownBlock ∧ some k_ ≠ ((.slice Ao63 t630.length co63) : Value).ownBlock) (.slice Ao10 t593.length co10) t593) ∧ Aside0 (Kd.R (Kd.int .i64) 2 w' w.heap.size (fun k_ => some k_ ≠ (v607 : Value).ownBlock ∧ some k_ ≠ ((.slice Ao10 t593.length co10) : Value).ownBlock ∧ some k_ ≠ ((.slice Ao63 t630.length co63) : Value).ownBlock) (.slice Ao38 t615.length co38) t615) ∧ Aside0 (Kd.R (Kd.int .i64) 2 w' w.heap.size (fun k_ => some k_ ≠ (v607 : Value).ownBlock ∧ some k_ ≠ ((.slice Ao10 t593.length co10) : Value).ownBlock ∧ some k_ ≠ ((.slice Ao38 t615.length co38) : Value).ownBlock) (.slice Ao63 t630.length co63) t630) ∧ Aside0 (w'.heap[gb596]? = some (.cells #[(.slice Ao10 t593.length co10)] 26 (0, 0))) ∧ Aside0 (w'.heap[gb619]? = some (.cells #[(.slice Ao38 t615.length co38)] 26 (0, 0))) ∧ Aside0 (w'.heap[gb635]? = some (.cells #[(.slice Ao63 t630.length co63)] 26 (0, 0))) ∧ Aside0 (Below w.heap.size w w'))
 case atStart => exact ⟨(y647), (0), q14_1, H', ⟨Nat.le_refl _⟩, ⟨ps HO_4.out⟩, ⟨pe HO_8.out⟩, ⟨pe HO649.out⟩, ⟨pe HO_597000.out⟩, ⟨pe HO_620000.out⟩, ⟨pe HO_636000.out⟩, ⟨pb BK596.out⟩, ⟨pb BK619.out⟩, ⟨pb BK635.out⟩, ⟨hq⟩⟩
 case round =>
  clear H'
  try clear c1
  try clear c2
  try clear p2
  try clear c3
  try clear c4
  try clear c5
  try clear c6
  try clear p6
  try clear q6
  try clear hx6
  try clear c7
  try clear c8
  try clear c9
  try clear c10
  try clear c11
  try clear c15
  try clear c15b0
  try clear c15b1
  try clear c19
  try clear c27
  try clear c27b0
  try clear c27b1
  try clear c31
  try clear c39
  try clear c44
  try clear c44b0
  try clear c44b1
  try clear c45
  try clear c49
  try clear c54
  try clear c54b0
  try clear c54b1
  try clear c55
  try clear c55b0
  try clear c55b1
  try clear c56
  try clear c64
  try clear p64
  try clear q64
  try clear hx64
  try clear c65
  try clear c70
  try clear c70b0
  try clear c70b1
  try clear c71
  try clear c73
  try clear c73b0
  try clear c73b1
  try clear c76
  try clear c77
  try clear c80
  try clear c80b0
  try clear c80b1
  try clear c81
  try clear c83
  try clear c83b0
  try clear c83b1
  try clear c84
  try clear c84b0
  try clear c87
  try clear c88
  try clear c91
  try clear c91b0
  try clear c91b1
  try clear c92
  try clear c92b0
  try clear c93
  try clear c94
  try clear c96
  try clear c96b0
  try clear c96b1
  try clear c97
  try clear c97b0
  try clear c98
  try clear c98b0
  try clear c99
  try clear c100
  try clear c103
  try clear c104
  try clear c106
  try clear c107
  try clear c107b0
  try clear c107b1
  try clear c108
  try clear c108b0
  try clear c108b1
  try clear c109
  try clear c109b0
  try clear c109b1
  try clear c110
  try clear c111
  try clear hcz101_0
  try clear hcz105_0
  try clear hcz112_0
  try clear hcz11_0
  try clear hcz13_0
  try clear hcz23_0
  try clear hcz25_0
  try clear hcz40_0
  try clear hcz42_0
  try clear hcz50_0
  try clear hcz52_0
  try clear hcz66_0
  try clear hcz68_0
  try clear hcz78_0
  try clear hcz89_0
  try clear hcz95_0
  try clear hfz101_0
  try clear hfz105_0
  try clear hfz112_0
  try clear hfz11_0
  try clear hfz13_0
  try clear hfz23_0
  try clear hfz25_0
  try clear hfz40_0
  try clear hfz42_0
  try clear hfz50_0
  try clear hfz52_0
  try clear hfz66_0
  try clear hfz68_0
  try clear hfz78_0
  try clear hfz89_0
  try clear hfz95_0
  try clear hx646_0
  try clear p2
  try clear p6
  try clear p64
  try clear p646
  try clear q6
  try clear q64
  try clear q646
  obtain ⟨x37_8, x38_8, rfl, HA, HK8, HO_4, HO_8, HO_37, HO_597000, HO_620000, HO_636000, BK596, BK619, BK635, HB⟩ := hrel
  cases gk with | zero => exact absurd HA.out (by simp [laws_FnHeavyPaths.l1]) | succ k8 => ?_
  have H := HA.out
  clear HA
  simp only [laws_FnHeavyPaths.l1] at H
  by_cases c115 : x38_8 < (t597.length : Int)
  rotate_left
  ·rw [if_neg c115] at H
   have c115b0 : decide (x38_8 < (t597.length : Int)) = false := decide_eq_false c115
   clear c115
   have H' := Aside0.mk H
   clear H
   obtain ⟨Ao156, co156, eo156⟩ := Kd.S_slice HO_4.out
   subst eo156
   as_aux_lemma =>
   go_wp2
   repeat (go_quiet (fail); try go_wp2)
   as_aux_lemma =>
   go_loopg [40] k8 (fun kq v40 w' => ∃ (x40_9 : Int), v40 = .int .i64 x40_9 ∧ Aside0 (laws_FnHeavyPaths.l3 kq x37_8 x40_9 = some r) ∧ Aside0 (kq ≤ k8) ∧ Aside0 (Kd.R Kd.bool 4 w' w.heap.size (fun _ => True) v648 x37_8) ∧ Aside0 (Kd.R (Kd.int .i64) 2 w' w.heap.size (fun k_ => some k_ ≠ ((.slice Ao38 t615.length co38) : Value).ownBlock ∧ some k_ ≠ ((.slice Ao63 t630.length co63) : Value).ownBlock) (.slice Ao10 t593.length co10) t593) ∧ Aside0 (Kd.R (Kd.int .i64) 2 w' w.heap.size (fun k_ => some k_ ≠ ((.slice Ao10 t593.length co10) : Value).ownBlock ∧ some k_ ≠ ((.slice Ao63 t630.length co63) : Value).ownBlock) (.slice Ao38 t615.length co38) t615) ∧ Aside0 (Kd.R (Kd.int .i64) 2 w' w.heap.size (fun k_ => some k_ ≠ ((.slice Ao10 t593.length co10) : Value).ownBlock ∧ some k_ ≠ ((.slice Ao38 t615.length co38) : Value).ownBlock) (.slice Ao63 t630.length co63) t630) ∧ Aside0 (w'.heap[gb596]? = some (.cells #[(.slice Ao10 t593.length co10)] 26 (0, 0))) ∧ Aside0 (w'.heap[gb619]? = some (.cells #[(.slice Ao38 t615.length co38)] 26 (0, 0))) ∧ Aside0 (w'.heap[gb635]? = some (.cells #[(.slice Ao63 t630.length co63)] 26 (0, 0))) ∧ Aside0 (Below w.heap.size w w'))
   case atStart => exact ⟨(0), q14_1, H', ⟨Nat.le_refl _⟩, ⟨pe HO_37.out⟩, ⟨pe (Kd.R_mono HO_597000.out (fun _ hk => ⟨hk.2.1, hk.2.2⟩))⟩, ⟨pe (Kd.R_mono HO_620000.out (fun _ hk => ⟨hk.2.1, hk.2.2⟩))⟩, ⟨pe (Kd.R_mono HO_636000.out (fun _ hk => ⟨hk.2.1, hk.2.2⟩))⟩, ⟨pb BK596.out⟩, ⟨pb BK619.out⟩, ⟨pb BK635.out⟩, ⟨hq⟩⟩
   case round =>
    clear H'
    try clear c1
    try clear p1
    try clear q1
    try clear hx1
    try clear hf1
    try clear c2
    try clear p2
    try clear c3
    try clear c4
    try clear c5
    try clear c6
    try clear p6
    try clear q6
    try clear hx6
    try clear c7
    try clear c8
    try clear c9
    try clear c10
    try clear c11
    try clear c12
    try clear c13
    try clear q13
    try clear c14
    try clear c15
    try clear c15b0
    try clear c15b1
    try clear p15
    try clear q15
    try clear hx15
    try clear hf15
    try clear c19
    try clear c27
    try clear c27b0
    try clear c27b1
    try clear c31
    try clear c39
    try clear c44
    try clear c44b0
    try clear c44b1
    try clear c45
    try clear c49
    try clear c54
    try clear c54b0
    try clear c54b1
    try clear c55
    try clear c55b0
    try clear c55b1
    try clear c56
    try clear c64
    try clear p64
    try clear q64
    try clear hx64
    try clear c65
    try clear p65
    try clear q65
    try clear hx65
    try clear c66
    try clear p66
    try clear q66
    try clear hx66
    try clear c70
    try clear c70b0
    try clear c70b1
    try clear c71
    try clear c73
    try clear c73b0
    try clear c73b1
    try clear c76
    try clear c77
    try clear c80
    try clear c80b0
    try clear c80b1
    try clear c81
    try clear c83
    try clear c83b0
    try clear c83b1
    try clear c84
    try clear c84b0
    try clear c87
    try clear c88
    try clear c91
    try clear c91b0
    try clear c91b1
    try clear c92
    try clear c92b0
    try clear c93
    try clear c94
    try clear c96
    try clear c96b0
    try clear c96b1
    try clear c97
    try clear c97b0
    try clear c98
    try clear c98b0
    try clear c99
    try clear c100
    try clear c103
    try clear c104
    try clear c106
    try clear c107
    try clear c107b0
    try clear c107b1
    try clear c108
    try clear c108b0
    try clear c108b1
    try clear c109
    try clear c109b0
    try clear c109b1
    try clear c110
    try clear c111
    try clear c115
    try clear c115b0
    try clear c118
    try clear c118b0
    try clear c119
    try clear c119b0
    try clear c119b1
    try clear c119b2
    try clear c121
    try clear c121b0
    try clear c122
    try clear c122b0
    try clear c123
    try clear c123b0
    try clear c124
    try clear c124b0
    try clear c126
    try clear c127
    try clear c127b0
    try clear c128
    try clear c128b0
    try clear c129
    try clear c129b0
    try clear c131
    try clear c131b0
    try clear c132
    try clear c132b0
    try clear c133
    try clear c133b0
    try clear q134
    try clear c135
    try clear c137
    try clear c137b0
    try clear c139
    try clear c139b0
    try clear c140
    try clear c140b0
    try clear c141
    try clear c141b0
    try clear c142
    try clear c142b0
    try clear c146
    try clear c147
    try clear c147b0
    try clear c148
    try clear c148b0
    try clear c149
    try clear c149b0
    try clear c150
    try clear c150b0
    try clear c151
    try clear c151b0
    try clear c152
    try clear c152b0
    try clear p153
    try clear q153
    try clear hx153
    try clear hf153
    try clear hcz101_0
    try clear hcz105_0
    try clear hcz112_0
    try clear hcz11_0
    try clear hcz13_0
    try clear hcz23_0
    try clear hcz25_0
    try clear hcz40_0
    try clear hcz42_0
    try clear hcz50_0
    try clear hcz52_0
    try clear hcz66_0
    try clear hcz68_0
    try clear hcz78_0
    try clear hcz89_0
    try clear hcz95_0
    try clear hfz101_0
    try clear hfz105_0
    try clear hfz112_0
    try clear hfz11_0
    try clear hfz13_0
    try clear hfz23_0
    try clear hfz25_0
    try clear hfz40_0
    try clear hfz42_0
    try clear hfz50_0
    try clear hfz52_0
    try clear hfz66_0
    try clear hfz68_0
    try clear hfz78_0
    try clear hfz89_0
    try clear hfz95_0
    try clear hx153_0
    try clear hx646_0
    try clear hx650_0
    try clear hx651_0
    try clear hx652_0
    try clear hx653_0
    try clear hx654_0
    try clear hx655_0
    try clear hx656_0
    try clear hx657_0
    try clear hx658_0
    try clear hx659_0
    try clear hx660_0
    try clear hx661_0
    try clear hx662_0
    try clear hx663_0
    try clear hx664_0
    try clear hx665_0
    try clear p153
    try clear p2
    try clear p6
    try clear p64
    try clear p646
    try clear p65
    try clear p650
    try clear p651
    try clear p652
    try clear p653
    try clear p654
    try clear p655
    try clear p656
    try clear p657
    try clear p658
    try clear p659
    try clear p66
    try clear p660
    try clear p661
    try clear p662
    try clear p663
    try clear p664
    try clear p665
    try clear q1
    try clear q13
    try clear q134
    try clear q153
    try clear q6
    try clear q64
    try clear q646
    try clear q65
    try clear q650
    try clear q651
    try clear q652
    try clear q653
    try clear q654
    try clear q655
    try clear q656
    try clear q657
    try clear q658
    try clear q659
    try clear q66
    try clear q660
    try clear q661
    try clear q662
    try clear q663
    try clear q664
    try clear q665
    obtain ⟨x40_9, rfl, HA, HK9, HO_37, HO_597000, HO_620000, HO_636000, BK596, BK619, BK635, HB⟩ := hrel
    cases gk with | zero => exact absurd HA.out (by simp [laws_FnHeavyPaths.l3]) | succ k9 => ?_
    have H := HA.out
    clear HA
    simp only [laws_FnHeavyPaths.l3] at H
    by_cases c157 : x40_9 < (x37_8.length : Int)
    rotate_left
    ·rw [if_neg c157] at H
     have c157b0 : decide (x40_9 < (x37_8.length : Int)) = false := decide_eq_false c157
     clear c157
     obtain rfl := Option.some.inj H
     obtain ⟨Ao162, co162, eo162⟩ := Kd.R_slice HO_37.out
     subst eo162
     as_aux_lemma =>
     go_wp2
     repeat (go_quiet (fail); try go_wp2)
     go_ret
     exact ⟨ew, hq⟩
    rw [if_pos c157] at H
    have c157b0 : decide (x40_9 < (x37_8.length : Int)) = true := decide_eq_true c157
    clear c157
    by_cases c158 : 0 ≤ x40_9
    rotate_left
    ·rw [if_neg c158] at H
     exact absurd H (by simp)
    rw [if_pos c158] at H
    have c158b0 : decide (0 ≤ x40_9) = true := decide_eq_true c158
    clear c158
    obtain ⟨bq159, hbq159⟩ : ∃ b_ : Bool, b_ = (rdOf false x37_8 x40_9) := ⟨_, rfl⟩
    replace H : (if bq159 = true then (laws_FnHeavyPaths.l3 k9 x37_8 (wrap64 (x40_9 + 1))) else (none)) = some r := by rw [← hbq159] at H; exact H
    have Nbq159 := Aside0.mk hbq159
    clear hbq159
    by_cases c160 : bq159 = true
    rotate_left
    ·replace c160 := Bool.eq_false_iff.mpr c160
     subst c160
     have H1 : (none) = some r := by rw [if_neg (show ¬ (false = true) by decide)] at H; exact H
     clear H
     have H := H1
     clear H1
     exact absurd H (by simp)
    subst c160
    replace H : (laws_FnHeavyPaths.l3 k9 x37_8 (wrap64 (x40_9 + 1))) = some r := by rw [if_pos rfl] at H; exact H
    have H' := Aside0.mk H
    clear H
    obtain ⟨Ao161, co161, eo161⟩ := Kd.R_slice HO_37.out
    subst eo161
    have p667 : 0 ≤ (x40_9 : Int) := of_decide_eq_true q14_0
    have q667 : x40_9 < (x37_8.length : Int) := of_decide_eq_true q14_0
    (try (obtain ⟨Aop_, cop_, eop_⟩ := Kd.R_slice HO_37.out; subst eop_))
    obtain ⟨ad667, e667, hx667_0⟩ := Kd.at_bool (Kd.R_reads' HO_37.out).2.2 x40_9 p667 q667
    (try rw [← Nbq159.out] at hx667_0)
    cases e667
    replace p667 := eq_true p667
    replace q667 := eq_true q667
    as_aux_lemma =>
    go_wp2
    repeat (go_quiet (fail); try go_wp2)
    go_roundg k9
    case measure => have := HJ6.out; have := HJ21.out; have := HJ34.out; have := HJ47.out; have := HJ59.out; have := HJ71.out; have := HJ81.out; have := HK8.out; have := HK9.out; omega
    case rel => exact ⟨(wrap64 (x40_9 + 1)), q14_1, H', ⟨by have := HJ6.out; have := HJ21.out; have := HJ34.out; have := HJ47.out; have := HJ59.out; have := HJ71.out; have := HJ81.out; have := HK8.out; have := HK9.out; omega⟩, ⟨pe HO_37.out⟩, ⟨pe HO_597000.out⟩, ⟨pe HO_620000.out⟩, ⟨pe HO_636000.out⟩, ⟨pb BK596.out⟩, ⟨pb BK619.out⟩, ⟨pb BK635.out⟩, ⟨hq⟩⟩
  rw [if_pos c115] at H
  have c115b0 : decide (x38_8 < (t597.length : Int)) = true := decide_eq_true c115
  clear c115
  have HC116 := Aside0.mk H
  clear H
  obtain ⟨Ao117, co117, eo117⟩ := Kd.S_slice HO_4.out
  subst eo117
  as_aux_lemma =>
  go_upto_region 45 with (fail)
  repeat (go_quiet (fail); go_upto_region 45 with (fail))
  as_aux_lemma =>
  go_cut [259] (fun v259 wc => ∃ (kq : Nat) (x259_115 : Bool), v259 = .bool x259_115 ∧ Aside0 (laws_FnHeavyPaths.j11 kq t597 t606 x37_8 x38_8 x259_115 = some r) ∧ Aside0 (kq ≤ k8) ∧ Aside0 (Kd.S (Kd.slice 2 (Kd.int .i64)) 24 wc w.heap.size (fun k_ => some k_ ≠ (v607 : Value).ownBlock ∧ some k_ ≠ ((.slice Ao10 t593.length co10) : Value).ownBlock ∧ some k_ ≠ ((.slice Ao38 t615.length co38) : Value).ownBlock ∧ some k_ ≠ ((.slice Ao63 t630.length co63) : Value).ownBlock) (.slice Ao117 t597.length co117) t597) ∧ Aside0 (Kd.R (Kd.int .i64) 2 wc w.heap.size (fun k_ => some k_ ≠ ((.slice Ao10 t593.length co10) : Value).ownBlock ∧ some k_ ≠ ((.slice Ao38 t615.length co38) : Value).ownBlock ∧ some k_ ≠ ((.slice Ao63 t630.length co63) : Value).ownBlock) v607 t606) ∧ Aside0 (Kd.R Kd.bool 4 wc w.heap.size (fun _ => True) v648 x37_8) ∧ Aside0 (Kd.R (Kd.int .i64) 2 wc w.heap.size (fun k_ => some k_ ≠ (v607 : Value).ownBlock ∧ some k_ ≠ ((.slice Ao38 t615.length co38) : Value).ownBlock ∧ some k_ ≠ ((.slice Ao63 t630.length co63) : Value).ownBlock) (.slice Ao10 t593.length co10) t593) ∧ Aside0 (Kd.R (Kd.int .i64) 2 wc w.heap.size (fun k_ => some k_ ≠ (v607 : Value).ownBlock ∧ some k_ ≠ ((.slice Ao10 t593.length co10) : Value).ownBlock ∧ some k_ ≠ ((.slice Ao63 t630.length co63) : Value).ownBlock) (.slice Ao38 t615.length co38) t615) ∧ Aside0 (Kd.R (Kd.int .i64) 2 wc w.heap.size (fun k_ => some k_ ≠ (v607 : Value).ownBlock ∧ some k_ ≠ ((.slice Ao10 t593.length co10) : Value).ownBlock ∧ some k_ ≠ ((.slice Ao38 t615.length co38) : Value).ownBlock) (.slice Ao63 t630.length co63) t630) ∧ Aside0 (wc.heap[gb596]? = some (.cells #[(.slice Ao10 t593.length co10)] 26 (0, 0))) ∧ Aside0 (wc.heap[gb619]? = some (.cells #[(.slice Ao38 t615.length co38)] 26 (0, 0))) ∧ Aside0 (wc.heap[gb635]? = some (.cells #[(.slice Ao63 t630.length co63)] 26 (0, 0))) ∧ Aside0 (Below w.heap.size w wc))
  case first =>
   as_aux_lemma =>
   have H := HC116.out
   clear HC116
   by_cases c118 : 0 ≤ x38_8
   rotate_left
   ·rw [if_neg c118] at H
    exact absurd H (by simp)
   rw [if_pos c118] at H
   have c118b0 : decide (0 ≤ x38_8) = true := decide_eq_true c118
   clear c118
   (first | rw [c118b0] | (simp only [i64_w, i32_w]; rw [c118b0]) | skip)
   by_cases c119 : ((rd_L2 t597 x38_8).length : Int) = 0
   ·rw [if_pos c119] at H
    exact absurd H (by simp)
   rw [if_neg c119] at H
   have c119b0 : (((rd_L2 t597 x38_8).length : Int) == 0) = false := beq_eq_false_iff_ne.mpr c119
   have c119b1 : (((rd_L2 t597 x38_8).length : Int) != 0) = true := bne_iff_ne.mpr c119
   have c119b2 : ¬ ((rd_L2 t597 x38_8) = []) := fun h_ => c119 (by rw [h_]; rfl)
   obtain ⟨ji120, hji120⟩ : ∃ j_ : Int, (wrap64 (((rd_L2 t597 x38_8).length : Int) - 1)) = j_ := ⟨_, rfl⟩
   replace H : (if 0 ≤ (ji120) then (if (ji120) < ((rd_L2 t597 x38_8).length : Int) then (if 0 ≤ (rd (rd_L2 t597 x38_8) (ji120)) then (if (rd (rd_L2 t597 x38_8) (ji120)) < (t606.length : Int) then (laws_FnHeavyPaths.j11 k8 t597 t606 x37_8 x38_8 ((rd t606 (rd (rd_L2 t597 x38_8) (ji120))) != (-1))) else (none)) else (none)) else (none)) else (none)) = some r := by first | (rw [hji120] at H; exact H) | (simp only [hji120] at H ⊢; exact H)
   have hji120w : (IntKind.i64.wrap (((rd_L2 t597 x38_8).length : Int) - 1)) = ji120 := (i64_w _).trans hji120
   by_cases c121 : 0 ≤ (ji120)
   rotate_left
   ·rw [if_neg c121] at H
    exact absurd H (by simp)
   rw [if_pos c121] at H
   have c121b0 : decide (0 ≤ (ji120)) = true := decide_eq_true c121
   clear c121
   by_cases c122 : (ji120) < ((rd_L2 t597 x38_8).length : Int)
   rotate_left
   ·rw [if_neg c122] at H
    exact absurd H (by simp)
   rw [if_pos c122] at H
   have c122b0 : decide ((ji120) < ((rd_L2 t597 x38_8).length : Int)) = true := decide_eq_true c122
   clear c122
   by_cases c123 : 0 ≤ (rd (rd_L2 t597 x38_8) (ji120))
   rotate_left
   ·rw [if_neg c123] at H
    exact absurd H (by simp)
   rw [if_pos c123] at H
   have c123b0 : decide (0 ≤ (rd (rd_L2 t597 x38_8) (ji120))) = true := decide_eq_true c123
   clear c123
   by_cases c124 : (rd (rd_L2 t597 x38_8) (ji120)) < (t606.length : Int)
   rotate_left
   ·rw [if_neg c124] at H
    exact absurd H (by simp)
   rw [if_pos c124] at H
   have c124b0 : decide ((rd (rd_L2 t597 x38_8) (ji120)) < (t606.length : Int)) = true := decide_eq_true c124
   clear c124
   have H' := Aside0.mk H
   clear H
   have p650 : 0 ≤ (x38_8 : Int) := of_decide_eq_true q14_0
   have q650 : x38_8 < (t597.length : Int) := of_decide_eq_true q14_0
   obtain ⟨ad650, A650_0, c650_0, e650, hx650_0, hl650_0, hi650_0⟩ := at_L2 (Kd.S_reads' HO_4.out).2.2 x38_8 p650 q650
   cases e650
   obtain ⟨ce650, hce650, hMe650, hcc650⟩ := Kd.S_get HO_4.out [] x38_8 p650 (by first | exact q650 | exact of_decide_eq_true q14_0 | (have e_ := (Kd.S_reads' HO_4.out).1; omega))
   obtain ⟨ve650_0, rfl, ge650_0⟩ := hMe650
   have hv650_0 := hcc650 0 _ rfl
   rw [Nat.add_zero, show (Kd.slice 2 (Kd.int .i64)).sz = 1 from rfl, Nat.mul_one] at hv650_0
   replace hv650_0 := Option.some.inj (hv650_0.symm.trans hx650_0)
   rw [hv650_0] at ge650_0
   have HL650_0 := Aside0.mk (show Kd.R (Kd.int .i64) 2 _ _ _ _ (rd_L2 t597 x38_8) from ge650_0)
   clear hv650_0 ge650_0
   clear hcc650 hce650
   have HR650_0 := Aside0.mk hi650_0
   have HC650_0 := Aside0.mk hl650_0
   clear hi650_0 hl650_0
   replace p650 := eq_true p650
   replace q650 := eq_true q650
   have p651 : 0 ≤ (x38_8 : Int) := of_decide_eq_true q14_0
   have q651 : x38_8 < (t597.length : Int) := of_decide_eq_true q14_0
   obtain ⟨ad651, A651_0, c651_0, e651, hx651_0, hl651_0, hi651_0⟩ := at_L2 (Kd.S_reads' HO_4.out).2.2 x38_8 p651 q651
   obtain rfl : ad650 = ad651 := (by injection e651)
   obtain ⟨ce651, hce651, hMe651, hcc651⟩ := Kd.S_get HO_4.out [] x38_8 p651 (by first | exact q651 | exact of_decide_eq_true q14_0 | (have e_ := (Kd.S_reads' HO_4.out).1; omega))
   obtain ⟨ve651_0, rfl, ge651_0⟩ := hMe651
   have hv651_0 := hcc651 0 _ rfl
   rw [Nat.add_zero, show (Kd.slice 2 (Kd.int .i64)).sz = 1 from rfl, Nat.mul_one] at hv651_0
   replace hv651_0 := Option.some.inj (hv651_0.symm.trans hx651_0)
   rw [hv651_0] at ge651_0
   have HL651_0 := Aside0.mk (show Kd.R (Kd.int .i64) 2 _ _ _ _ (rd_L2 t597 x38_8) from ge651_0)
   clear hv651_0 ge651_0
   clear hcc651 hce651
   have HR651_0 := Aside0.mk hi651_0
   have HC651_0 := Aside0.mk hl651_0
   clear hi651_0 hl651_0
   replace p651 := eq_true p651
   replace q651 := eq_true q651
   have ea_ := Option.some.inj (hx650_0.symm.trans hx651_0)
   injection ea_ with ea_ en_ ec_
   subst ea_
   subst ec_
   clear en_
   have p652 : 0 ≤ (x38_8 : Int) := of_decide_eq_true q14_0
   have q652 : x38_8 < (t597.length : Int) := of_decide_eq_true q14_0
   obtain ⟨ad652, A652_0, c652_0, e652, hx652_0, hl652_0, hi652_0⟩ := at_L2 (Kd.S_reads' HO_4.out).2.2 x38_8 p652 q652
   obtain rfl : ad650 = ad652 := (by injection e652)
   obtain ⟨ce652, hce652, hMe652, hcc652⟩ := Kd.S_get HO_4.out [] x38_8 p652 (by first | exact q652 | exact of_decide_eq_true q14_0 | (have e_ := (Kd.S_reads' HO_4.out).1; omega))
   obtain ⟨ve652_0, rfl, ge652_0⟩ := hMe652
   have hv652_0 := hcc652 0 _ rfl
   rw [Nat.add_zero, show (Kd.slice 2 (Kd.int .i64)).sz = 1 from rfl, Nat.mul_one] at hv652_0
   replace hv652_0 := Option.some.inj (hv652_0.symm.trans hx652_0)
   rw [hv652_0] at ge652_0
   have HL652_0 := Aside0.mk (show Kd.R (Kd.int .i64) 2 _ _ _ _ (rd_L2 t597 x38_8) from ge652_0)
   clear hv652_0 ge652_0
   clear hcc652 hce652
   have HR652_0 := Aside0.mk hi652_0
   have HC652_0 := Aside0.mk hl652_0
   clear hi652_0 hl652_0
   replace p652 := eq_true p652
   replace q652 := eq_true q652
   have ea_ := Option.some.inj (hx650_0.symm.trans hx652_0)
   injection ea_ with ea_ en_ ec_
   subst ea_
   subst ec_
   clear en_
   have p653 : 0 ≤ ((ji120) : Int) := of_decide_eq_true q14_0
   have q653 : (ji120) < ((rd_L2 t597 x38_8).length : Int) := of_decide_eq_true q14_0
   obtain ⟨ad653, e653, hx653_0⟩ := Kd.at_int (by repeat (first | (with_reducible exact HR651_0.out) | (with_reducible refine Kd.C_alloc ?_ _) | (with_reducible refine Kd.C_drewN ?_ _) | (with_reducible refine Kd.C_drew ?_) | exact HR651_0.out)) (ji120) p653 q653
   cases e653
   replace p653 := eq_true p653
   replace q653 := eq_true q653
   obtain ⟨Ao125, co125, eo125⟩ := Kd.R_slice HO_8.out
   subst eo125
   have p654 : 0 ≤ ((rd (rd_L2 t597 x38_8) (ji120)) : Int) := of_decide_eq_true q14_0
   have q654 : (rd (rd_L2 t597 x38_8) (ji120)) < (t606.length : Int) := of_decide_eq_true q14_0
   (try (obtain ⟨Aop_, cop_, eop_⟩ := Kd.R_slice HO_8.out; subst eop_))
   obtain ⟨ad654, e654, hx654_0⟩ := Kd.at_int (Kd.R_reads' HO_8.out).2.2 (rd (rd_L2 t597 x38_8) (ji120)) p654 q654
   cases e654
   replace p654 := eq_true p654
   replace q654 := eq_true q654
   as_aux_lemma =>
   go_wp2
   repeat (go_quiet (fail); try go_wp2)
   go_meet
   case rel => exact ⟨_, ((rd t606 (rd (rd_L2 t597 x38_8) (ji120))) != (-1)), (by first | rfl | (simp; done) | (simp only [← hji120] <;> (first | rfl | simp)) | (simp [*]; done)), H', ⟨by have := HJ6.out; have := HJ21.out; have := HJ34.out; have := HJ47.out; have := HJ59.out; have := HJ71.out; have := HJ81.out; have := HK8.out; first | omega | exact Nat.le_refl _⟩, ⟨ps HO_4.out⟩, ⟨pe HO_8.out⟩, ⟨pe HO_37.out⟩, ⟨pe HO_597000.out⟩, ⟨pe HO_620000.out⟩, ⟨pe HO_636000.out⟩, ⟨pb BK596.out⟩, ⟨pb BK619.out⟩, ⟨pb BK635.out⟩, ⟨hq⟩⟩
  as_aux_lemma =>
  clear HC116
  try clear c1
  try clear c2
  try clear p2
  try clear c3
  try clear c4
  try clear c5
  try clear c6
  try clear p6
  try clear q6
  try clear hx6
  try clear c7
  try clear c8
  try clear c9
  try clear c10
  try clear c11
  try clear c12
  try clear c15
  try clear c15b0
  try clear c15b1
  try clear c19
  try clear c27
  try clear c27b0
  try clear c27b1
  try clear c31
  try clear c39
  try clear c44
  try clear c44b0
  try clear c44b1
  try clear c45
  try clear c49
  try clear c54
  try clear c54b0
  try clear c54b1
  try clear c55
  try clear c55b0
  try clear c55b1
  try clear c56
  try clear c64
  try clear p64
  try clear q64
  try clear hx64
  try clear c65
  try clear p65
  try clear q65
  try clear hx65
  try clear c70
  try clear c70b0
  try clear c70b1
  try clear c71
  try clear c73
  try clear c73b0
  try clear c73b1
  try clear c76
  try clear c77
  try clear c80
  try clear c80b0
  try clear c80b1
  try clear c81
  try clear c83
  try clear c83b0
  try clear c83b1
  try clear c84
  try clear c84b0
  try clear c87
  try clear c88
  try clear c91
  try clear c91b0
  try clear c91b1
  try clear c92
  try clear c92b0
  try clear c93
  try clear c94
  try clear c96
  try clear c96b0
  try clear c96b1
  try clear c97
  try clear c97b0
  try clear c98
  try clear c98b0
  try clear c99
  try clear c100
  try clear c103
  try clear c104
  try clear c106
  try clear c107
  try clear c107b0
  try clear c107b1
  try clear c108
  try clear c108b0
  try clear c108b1
  try clear c109
  try clear c109b0
  try clear c109b1
  try clear c110
  try clear c111
  try clear c115
  try clear c115b0
  try clear c118
  try clear c118b0
  try clear c119
  try clear c119b0
  try clear c119b1
  try clear c119b2
  try clear c121
  try clear c121b0
  try clear c122
  try clear c122b0
  try clear c123
  try clear c123b0
  try clear c124
  try clear c124b0
  try clear hcz101_0
  try clear hcz105_0
  try clear hcz112_0
  try clear hcz11_0
  try clear hcz13_0
  try clear hcz23_0
  try clear hcz25_0
  try clear hcz40_0
  try clear hcz42_0
  try clear hcz50_0
  try clear hcz52_0
  try clear hcz66_0
  try clear hcz68_0
  try clear hcz78_0
  try clear hcz89_0
  try clear hcz95_0
  try clear hfz101_0
  try clear hfz105_0
  try clear hfz112_0
  try clear hfz11_0
  try clear hfz13_0
  try clear hfz23_0
  try clear hfz25_0
  try clear hfz40_0
  try clear hfz42_0
  try clear hfz50_0
  try clear hfz52_0
  try clear hfz66_0
  try clear hfz68_0
  try clear hfz78_0
  try clear hfz89_0
  try clear hfz95_0
  try clear hx646_0
  try clear hx650_0
  try clear hx651_0
  try clear hx652_0
  try clear hx653_0
  try clear hx654_0
  try clear p2
  try clear p6
  try clear p64
  try clear p646
  try clear p650
  try clear p651
  try clear p652
  try clear p653
  try clear p654
  try clear q6
  try clear q64
  try clear q646
  try clear q650
  try clear q651
  try clear q652
  try clear q653
  try clear q654
  obtain ⟨kq, x259_115, rfl, HA, HJ115, HO_4, HO_8, HO_37, HO_597000, HO_620000, HO_636000, BK596, BK619, BK635, HB⟩ := hcut
  cases kq with | zero => exact absurd HA.out (by simp [laws_FnHeavyPaths.j11]) | succ kj115 => ?_
  have H := HA.out
  clear HA
  simp only [laws_FnHeavyPaths.j11] at H
  by_cases c126 : x259_115 = true
  ·subst c126
   replace H : (none) = some r := by rw [if_pos rfl] at H; exact H
   exact absurd H (by simp)
  replace c126 := Bool.eq_false_iff.mpr c126
  subst c126
  have H1 : (laws_FnHeavyPaths.l2 kj115 t597 t606 x37_8 x38_8 0) = some r := by rw [if_neg (show ¬ (false = true) by decide)] at H; exact H
  clear H
  have H := H1
  clear H1
  have H' := Aside0.mk H
  clear H
  as_aux_lemma =>
  go_wp2
  repeat (go_quiet (fail); try go_wp2)
  as_aux_lemma =>
  go_loopg [39] kj115 (fun kq v39 w' => ∃ (x37_10 : List Bool) (x39_10 : Int), v39 = .int .i64 x39_10 ∧ Aside0 (laws_FnHeavyPaths.l2 kq t597 t606 x37_10 x38_8 x39_10 = some r) ∧ Aside0 (kq ≤ kj115) ∧ Aside0 (Kd.S (Kd.slice 2 (Kd.int .i64)) 24 w' w.heap.size (fun k_ => some k_ ≠ (v607 : Value).ownBlock ∧ some k_ ≠ ((.slice Ao10 t593.length co10) : Value).ownBlock ∧ some k_ ≠ ((.slice Ao38 t615.length co38) : Value).ownBlock ∧ some k_ ≠ ((.slice Ao63 t630.length co63) : Value).ownBlock) (.slice Ao117 t597.length co117) t597) ∧ Aside0 (Kd.R (Kd.int .i64) 2 w' w.heap.size (fun k_ => some k_ ≠ ((.slice Ao10 t593.length co10) : Value).ownBlock ∧ some k_ ≠ ((.slice Ao38 t615.length co38) : Value).ownBlock ∧ some k_ ≠ ((.slice Ao63 t630.length co63) : Value).ownBlock) v607 t606) ∧ Aside0 (Kd.R Kd.bool 4 w' w.heap.size (fun _ => True) v648 x37_10) ∧ Aside0 (Kd.R (Kd.int .i64) 2 w' w.heap.size (fun k_ => some k_ ≠ (v607 : Value).ownBlock ∧ some k_ ≠ ((.slice Ao38 t615.length co38) : Value).ownBlock ∧ some k_ ≠ ((.slice Ao63 t630.length co63) : Value).ownBlock) (.slice Ao10 t593.length co10) t593) ∧ Aside0 (Kd.R (Kd.int .i64) 2 w' w.heap.size (fun k_ => some k_ ≠ (v607 : Value).ownBlock ∧ some k_ ≠ ((.slice Ao10 t593.length co10) : Value).ownBlock ∧ some k_ ≠ ((.slice Ao63 t630.length co63) : Value).ownBlock) (.slice Ao38 t615.length co38) t615) ∧ Aside0 (Kd.R (Kd.int .i64) 2 w' w.heap.size (fun k_ => some k_ ≠ (v607 : Value).ownBlock ∧ some k_ ≠ ((.slice Ao10 t593.length co10) : Value).ownBlock ∧ some k_ ≠ ((.slice Ao38 t615.length co38) : Value).ownBlock) (.slice Ao63 t630.length co63) t630) ∧ Aside0 (w'.heap[gb596]? = some (.cells #[(.slice Ao10 t593.length co10)] 26 (0, 0))) ∧ Aside0 (w'.heap[gb619]? = some (.cells #[(.slice Ao38 t615.length co38)] 26 (0, 0))) ∧ Aside0 (w'.heap[gb635]? = some (.cells #[(.slice Ao63 t630.length co63)] 26 (0, 0))) ∧ Aside0 (Below w.heap.size w w'))
  case atStart => exact ⟨(x37_8), (0), q14_1, H', ⟨Nat.le_refl _⟩, ⟨ps HO_4.out⟩, ⟨pe HO_8.out⟩, ⟨pe HO_37.out⟩, ⟨pe HO_597000.out⟩, ⟨pe HO_620000.out⟩, ⟨pe HO_636000.out⟩, ⟨pb BK596.out⟩, ⟨pb BK619.out⟩, ⟨pb BK635.out⟩, ⟨hq⟩⟩
  case round =>
   clear H'
   try clear c1
   try clear c2
   try clear p2
   try clear c3
   try clear c4
   try clear c5
   try clear c6
   try clear p6
   try clear q6
   try clear hx6
   try clear c7
   try clear c8
   try clear c9
   try clear c10
   try clear c11
   try clear c12
   try clear c15
   try clear c15b0
   try clear c15b1
   try clear c19
   try clear c27
   try clear c27b0
   try clear c27b1
   try clear c31
   try clear c39
   try clear c44
   try clear c44b0
   try clear c44b1
   try clear c45
   try clear c49
   try clear c54
   try clear c54b0
   try clear c54b1
   try clear c55
   try clear c55b0
   try clear c55b1
   try clear c56
   try clear c64
   try clear p64
   try clear q64
   try clear hx64
   try clear c65
   try clear p65
   try clear q65
   try clear hx65
   try clear c70
   try clear c70b0
   try clear c70b1
   try clear c71
   try clear c73
   try clear c73b0
   try clear c73b1
   try clear c76
   try clear c77
   try clear c80
   try clear c80b0
   try clear c80b1
   try clear c81
   try clear c83
   try clear c83b0
   try clear c83b1
   try clear c84
   try clear c84b0
   try clear c87
   try clear c88
   try clear c91
   try clear c91b0
   try clear c91b1
   try clear c92
   try clear c92b0
   try clear c93
   try clear c94
   try clear c96
   try clear c96b0
   try clear c96b1
   try clear c97
   try clear c97b0
   try clear c98
   try clear c98b0
   try clear c99
   try clear c100
   try clear c103
   try clear c104
   try clear c106
   try clear c107
   try clear c107b0
   try clear c107b1
   try clear c108
   try clear c108b0
   try clear c108b1
   try clear c109
   try clear c109b0
   try clear c109b1
   try clear c110
   try clear c111
   try clear c115
   try clear c115b0
   try clear c118
   try clear c118b0
   try clear c119
   try clear c119b0
   try clear c119b1
   try clear c119b2
   try clear c121
   try clear c121b0
   try clear c122
   try clear c122b0
   try clear c123
   try clear c123b0
   try clear c124
   try clear c124b0
   try clear c126
   try clear hcz101_0
   try clear hcz105_0
   try clear hcz112_0
   try clear hcz11_0
   try clear hcz13_0
   try clear hcz23_0
   try clear hcz25_0
   try clear hcz40_0
   try clear hcz42_0
   try clear hcz50_0
   try clear hcz52_0
   try clear hcz66_0
   try clear hcz68_0
   try clear hcz78_0
   try clear hcz89_0
   try clear hcz95_0
   try clear hfz101_0
   try clear hfz105_0
   try clear hfz112_0
   try clear hfz11_0
   try clear hfz13_0
   try clear hfz23_0
   try clear hfz25_0
   try clear hfz40_0
   try clear hfz42_0
   try clear hfz50_0
   try clear hfz52_0
   try clear hfz66_0
   try clear hfz68_0
   try clear hfz78_0
   try clear hfz89_0
   try clear hfz95_0
   try clear hx646_0
   try clear hx650_0
   try clear hx651_0
   try clear hx652_0
   try clear hx653_0
   try clear hx654_0
   try clear p2
   try clear p6
   try clear p64
   try clear p646
   try clear p65
   try clear p650
   try clear p651
   try clear p652
   try clear p653
   try clear p654
   try clear q6
   try clear q64
   try clear q646
   try clear q65
   try clear q650
   try clear q651
   try clear q652
   try clear q653
   try clear q654
   obtain ⟨x37_10, x39_10, rfl, HA, HK10, HO_4, HO_8, HO_37, HO_597000, HO_620000, HO_636000, BK596, BK619, BK635, HB⟩ := hrel
   cases gk with | zero => exact absurd HA.out (by simp [laws_FnHeavyPaths.l2]) | succ k10 => ?_
   have H := HA.out
   clear HA
   simp only [laws_FnHeavyPaths.l2] at H
   by_cases c127 : 0 ≤ x38_8
   rotate_left
   ·rw [if_neg c127] at H
    exact absurd H (by simp)
   rw [if_pos c127] at H
   have c127b0 : decide (0 ≤ x38_8) = true := decide_eq_true c127
   clear c127
   by_cases c128 : x38_8 < (t597.length : Int)
   rotate_left
   ·rw [if_neg c128] at H
    exact absurd H (by simp)
   rw [if_pos c128] at H
   have c128b0 : decide (x38_8 < (t597.length : Int)) = true := decide_eq_true c128
   clear c128
   by_cases c129 : x39_10 < ((rd_L2 t597 x38_8).length : Int)
   rotate_left
   ·rw [if_neg c129] at H
    have c129b0 : decide (x39_10 < ((rd_L2 t597 x38_8).length : Int)) = false := decide_eq_false c129
    clear c129
    have H' := Aside0.mk H
    clear H
    have p655 : 0 ≤ (x38_8 : Int) := of_decide_eq_true q14_0
    have q655 : x38_8 < (t597.length : Int) := of_decide_eq_true q14_0
    obtain ⟨ad655, A655_0, c655_0, e655, hx655_0, hl655_0, hi655_0⟩ := at_L2 (Kd.S_reads' HO_4.out).2.2 x38_8 p655 q655
    cases e655
    obtain ⟨ce655, hce655, hMe655, hcc655⟩ := Kd.S_get HO_4.out [] x38_8 p655 (by first | exact q655 | exact of_decide_eq_true q14_0 | (have e_ := (Kd.S_reads' HO_4.out).1; omega))
    obtain ⟨ve655_0, rfl, ge655_0⟩ := hMe655
    have hv655_0 := hcc655 0 _ rfl
    rw [Nat.add_zero, show (Kd.slice 2 (Kd.int .i64)).sz = 1 from rfl, Nat.mul_one] at hv655_0
    replace hv655_0 := Option.some.inj (hv655_0.symm.trans hx655_0)
    rw [hv655_0] at ge655_0
    have HL655_0 := Aside0.mk (show Kd.R (Kd.int .i64) 2 _ _ _ _ (rd_L2 t597 x38_8) from ge655_0)
    clear hv655_0 ge655_0
    clear hcc655 hce655
    have HR655_0 := Aside0.mk hi655_0
    have HC655_0 := Aside0.mk hl655_0
    clear hi655_0 hl655_0
    replace p655 := eq_true p655
    replace q655 := eq_true q655
    as_aux_lemma =>
    go_wp2
    repeat (go_quiet (fail); try go_wp2)
    go_roundg k10
    case measure => have := HJ6.out; have := HJ21.out; have := HJ34.out; have := HJ47.out; have := HJ59.out; have := HJ71.out; have := HJ81.out; have := HK8.out; have := HJ115.out; have := HK10.out; omega
    case rel => exact ⟨(x37_10), (wrap64 (x38_8 + 1)), q14_1, H', ⟨by have := HJ6.out; have := HJ21.out; have := HJ34.out; have := HJ47.out; have := HJ59.out; have := HJ71.out; have := HJ81.out; have := HK8.out; have := HJ115.out; have := HK10.out; omega⟩, ⟨ps HO_4.out⟩, ⟨pe HO_8.out⟩, ⟨pe HO_37.out⟩, ⟨pe HO_597000.out⟩, ⟨pe HO_620000.out⟩, ⟨pe HO_636000.out⟩, ⟨pb BK596.out⟩, ⟨pb BK619.out⟩, ⟨pb BK635.out⟩, ⟨hq⟩⟩
   rw [if_pos c129] at H
   have c129b0 : decide (x39_10 < ((rd_L2 t597 x38_8).length : Int)) = true := decide_eq_true c129
   clear c129
   have HC130 := Aside0.mk H
   clear H
   have p655 : 0 ≤ (x38_8 : Int) := of_decide_eq_true q14_0
   have q655 : x38_8 < (t597.length : Int) := of_decide_eq_true q14_0
   obtain ⟨ad655, A655_0, c655_0, e655, hx655_0, hl655_0, hi655_0⟩ := at_L2 (Kd.S_reads' HO_4.out).2.2 x38_8 p655 q655
   cases e655
   obtain ⟨ce655, hce655, hMe655, hcc655⟩ := Kd.S_get HO_4.out [] x38_8 p655 (by first | exact q655 | exact of_decide_eq_true q14_0 | (have e_ := (Kd.S_reads' HO_4.out).1; omega))
   obtain ⟨ve655_0, rfl, ge655_0⟩ := hMe655
   have hv655_0 := hcc655 0 _ rfl
   rw [Nat.add_zero, show (Kd.slice 2 (Kd.int .i64)).sz = 1 from rfl, Nat.mul_one] at hv655_0
   replace hv655_0 := Option.some.inj (hv655_0.symm.trans hx655_0)
   rw [hv655_0] at ge655_0
   have HL655_0 := Aside0.mk (show Kd.R (Kd.int .i64) 2 _ _ _ _ (rd_L2 t597 x38_8) from ge655_0)
   clear hv655_0 ge655_0
   clear hcc655 hce655
   have HR655_0 := Aside0.mk hi655_0
   have HC655_0 := Aside0.mk hl655_0
   clear hi655_0 hl655_0
   replace p655 := eq_true p655
   replace q655 := eq_true q655
   as_aux_lemma =>
   go_upto_region 50 with (fail)
   repeat (go_quiet (fail); go_upto_region 50 with (fail))
   as_aux_lemma =>
   go_cut [303] (fun v303 wc => ∃ (kq : Nat) (x303_129 : Bool), v303 = .bool x303_129 ∧ Aside0 (laws_FnHeavyPaths.j13 kq t597 t606 x37_10 x38_8 x39_10 x303_129 = some r) ∧ Aside0 (kq ≤ k10) ∧ Aside0 (Kd.S (Kd.slice 2 (Kd.int .i64)) 24 wc w.heap.size (fun k_ => some k_ ≠ (v607 : Value).ownBlock ∧ some k_ ≠ ((.slice Ao10 t593.length co10) : Value).ownBlock ∧ some k_ ≠ ((.slice Ao38 t615.length co38) : Value).ownBlock ∧ some k_ ≠ ((.slice Ao63 t630.length co63) : Value).ownBlock) (.slice (some ad655) t597.length co117) t597) ∧ Aside0 (Kd.R (Kd.int .i64) 2 wc w.heap.size (fun k_ => some k_ ≠ ((.slice Ao10 t593.length co10) : Value).ownBlock ∧ some k_ ≠ ((.slice Ao38 t615.length co38) : Value).ownBlock ∧ some k_ ≠ ((.slice Ao63 t630.length co63) : Value).ownBlock) v607 t606) ∧ Aside0 (Kd.R Kd.bool 4 wc w.heap.size (fun _ => True) v648 x37_10) ∧ Aside0 (Kd.R (Kd.int .i64) 2 wc w.heap.size (fun k_ => some k_ ≠ (v607 : Value).ownBlock ∧ some k_ ≠ ((.slice Ao38 t615.length co38) : Value).ownBlock ∧ some k_ ≠ ((.slice Ao63 t630.length co63) : Value).ownBlock) (.slice Ao10 t593.length co10) t593) ∧ Aside0 (Kd.R (Kd.int .i64) 2 wc w.heap.size (fun k_ => some k_ ≠ (v607 : Value).ownBlock ∧ some k_ ≠ ((.slice Ao10 t593.length co10) : Value).ownBlock ∧ some k_ ≠ ((.slice Ao63 t630.length co63) : Value).ownBlock) (.slice Ao38 t615.length co38) t615) ∧ Aside0 (Kd.R (Kd.int .i64) 2 wc w.heap.size (fun k_ => some k_ ≠ (v607 : Value).ownBlock ∧ some k_ ≠ ((.slice Ao10 t593.length co10) : Value).ownBlock ∧ some k_ ≠ ((.slice Ao38 t615.length co38) : Value).ownBlock) (.slice Ao63 t630.length co63) t630) ∧ Aside0 (wc.heap[gb596]? = some (.cells #[(.slice Ao10 t593.length co10)] 26 (0, 0))) ∧ Aside0 (wc.heap[gb619]? = some (.cells #[(.slice Ao38 t615.length co38)] 26 (0, 0))) ∧ Aside0 (wc.heap[gb635]? = some (.cells #[(.slice Ao63 t630.length co63)] 26 (0, 0))) ∧ Aside0 (Kd.C (Kd.int .i64) wc A655_0 (rd_L2 t597 x38_8).length (rd_L2 t597 x38_8)) ∧ Aside0 (Below w.heap.size w wc))
   case first =>
    as_aux_lemma =>
    have H := HC130.out
    clear HC130
    by_cases c131 : 0 ≤ x39_10
    rotate_left
    ·rw [if_neg c131] at H
     exact absurd H (by simp)
    rw [if_pos c131] at H
    have c131b0 : decide (0 ≤ x39_10) = true := decide_eq_true c131
    clear c131
    (first | rw [c131b0] | (simp only [i64_w, i32_w]; rw [c131b0]) | skip)
    by_cases c132 : 0 ≤ (rd (rd_L2 t597 x38_8) x39_10)
    rotate_left
    ·rw [if_neg c132] at H
     exact absurd H (by simp)
    rw [if_pos c132] at H
    have c132b0 : decide (0 ≤ (rd (rd_L2 t597 x38_8) x39_10)) = true := decide_eq_true c132
    clear c132
    by_cases c133 : (rd (rd_L2 t597 x38_8) x39_10) < (x37_10.length : Int)
    rotate_left
    ·rw [if_neg c133] at H
     exact absurd H (by simp)
    rw [if_pos c133] at H
    have c133b0 : decide ((rd (rd_L2 t597 x38_8) x39_10) < (x37_10.length : Int)) = true := decide_eq_true c133
    clear c133
    obtain ⟨bq134, hbq134⟩ : ∃ b_ : Bool, b_ = (rdOf false x37_10 (rd (rd_L2 t597 x38_8) x39_10)) := ⟨_, rfl⟩
    replace H : (if bq134 = true then (none) else (if x39_10 > 0 then (if 0 ≤ (wrap64 (x39_10 - 1)) then (if (wrap64 (x39_10 - 1)) < ((rd_L2 t597 x38_8).length : Int) then (if 0 ≤ (rd (rd_L2 t597 x38_8) (wrap64 (x39_10 - 1))) then (if (rd (rd_L2 t597 x38_8) (wrap64 (x39_10 - 1))) < (t606.length : Int) then (laws_FnHeavyPaths.j13 k10 t597 t606 x37_10 x38_8 x39_10 ((rd t606 (rd (rd_L2 t597 x38_8) (wrap64 (x39_10 - 1)))) != (rd (rd_L2 t597 x38_8) x39_10))) else (none)) else (none)) else (none)) else (none)) else (laws_FnHeavyPaths.j13 k10 t597 t606 x37_10 x38_8 x39_10 false))) = some r := by rw [← hbq134] at H; exact H
    have Nbq134 := Aside0.mk hbq134
    clear hbq134
    by_cases c135 : bq134 = true
    ·subst c135
     have H1 : (none) = some r := by rw [if_pos rfl] at H; exact H
     exact absurd H1 (by simp)
    replace c135 := Bool.eq_false_iff.mpr c135
    subst c135
    have H1 : (if x39_10 > 0 then (if 0 ≤ (wrap64 (x39_10 - 1)) then (if (wrap64 (x39_10 - 1)) < ((rd_L2 t597 x38_8).length : Int) then (if 0 ≤ (rd (rd_L2 t597 x38_8) (wrap64 (x39_10 - 1))) then (if (rd (rd_L2 t597 x38_8) (wrap64 (x39_10 - 1))) < (t606.length : Int) then (laws_FnHeavyPaths.j13 k10 t597 t606 x37_10 x38_8 x39_10 ((rd t606 (rd (rd_L2 t597 x38_8) (wrap64 (x39_10 - 1)))) != (rd (rd_L2 t597 x38_8) x39_10))) else (none)) else (none)) else (none)) else (none)) else (laws_FnHeavyPaths.j13 k10 t597 t606 x37_10 x38_8 x39_10 false)) = some r := by rw [if_neg (show ¬ (false = true) by decide)] at H; exact H
    clear H
    have H := H1
    clear H1
    by_cases c137 : x39_10 > 0
    rotate_left
    ·rw [if_neg c137] at H
     have c137b0 : decide (0 < x39_10) = false := decide_eq_false c137
     clear c137
     have H' := Aside0.mk H
     clear H
     have p656 : 0 ≤ (x38_8 : Int) := of_decide_eq_true q14_0
     have q656 : x38_8 < (t597.length : Int) := of_decide_eq_true q14_0
     obtain ⟨ad656, A656_0, c656_0, e656, hx656_0, hl656_0, hi656_0⟩ := at_L2 (Kd.S_reads' HO_4.out).2.2 x38_8 p656 q656
     obtain rfl : ad655 = ad656 := (by injection e656)
     obtain ⟨ce656, hce656, hMe656, hcc656⟩ := Kd.S_get HO_4.out [] x38_8 p656 (by first | exact q656 | exact of_decide_eq_true q14_0 | (have e_ := (Kd.S_reads' HO_4.out).1; omega))
     obtain ⟨ve656_0, rfl, ge656_0⟩ := hMe656
     have hv656_0 := hcc656 0 _ rfl
     rw [Nat.add_zero, show (Kd.slice 2 (Kd.int .i64)).sz = 1 from rfl, Nat.mul_one] at hv656_0
     replace hv656_0 := Option.some.inj (hv656_0.symm.trans hx656_0)
     rw [hv656_0] at ge656_0
     have HL656_0 := Aside0.mk (show Kd.R (Kd.int .i64) 2 _ _ _ _ (rd_L2 t597 x38_8) from ge656_0)
     clear hv656_0 ge656_0
     clear hcc656 hce656
     have HR656_0 := Aside0.mk hi656_0
     have HC656_0 := Aside0.mk hl656_0
     clear hi656_0 hl656_0
     replace p656 := eq_true p656
     replace q656 := eq_true q656
     (try (have ea_ := Option.some.inj (hx655_0.symm.trans hx656_0); injection ea_ with ea_ en_ ec_; subst ea_; subst ec_; clear en_))
     have p657 : 0 ≤ (x39_10 : Int) := of_decide_eq_true q14_0
     have q657 : x39_10 < ((rd_L2 t597 x38_8).length : Int) := of_decide_eq_true q14_0
     obtain ⟨ad657, e657, hx657_0⟩ := Kd.at_int q14_3 x39_10 p657 q657
     cases e657
     replace p657 := eq_true p657
     replace q657 := eq_true q657
     obtain ⟨Ao145, co145, eo145⟩ := Kd.R_slice HO_37.out
     subst eo145
     have p658 : 0 ≤ ((rd (rd_L2 t597 x38_8) x39_10) : Int) := of_decide_eq_true q14_0
     have q658 : (rd (rd_L2 t597 x38_8) x39_10) < (x37_10.length : Int) := of_decide_eq_true q14_0
     (try (obtain ⟨Aop_, cop_, eop_⟩ := Kd.R_slice HO_37.out; subst eop_))
     obtain ⟨ad658, e658, hx658_0⟩ := Kd.at_bool (Kd.R_reads' HO_37.out).2.2 (rd (rd_L2 t597 x38_8) x39_10) p658 q658
     (try rw [← Nbq134.out] at hx658_0)
     cases e658
     replace p658 := eq_true p658
     replace q658 := eq_true q658
     as_aux_lemma =>
     go_wp2
     repeat (go_quiet (fail); try go_wp2)
     go_meet
     case rel => exact ⟨_, (false), q14_1, H', ⟨q14_2⟩, ⟨ps HO_4.out⟩, ⟨pe HO_8.out⟩, ⟨pe HO_37.out⟩, ⟨pe HO_597000.out⟩, ⟨pe HO_620000.out⟩, ⟨pe HO_636000.out⟩, ⟨pb BK596.out⟩, ⟨pb BK619.out⟩, ⟨pb BK635.out⟩, ⟨q14_4⟩, ⟨hq⟩⟩
    rw [if_pos c137] at H
    have c137b0 : decide (0 < x39_10) = true := decide_eq_true c137
    clear c137
    obtain ⟨ji138, hji138⟩ : ∃ j_ : Int, (wrap64 (x39_10 - 1)) = j_ := ⟨_, rfl⟩
    replace H : (if 0 ≤ (ji138) then (if (ji138) < ((rd_L2 t597 x38_8).length : Int) then (if 0 ≤ (rd (rd_L2 t597 x38_8) (ji138)) then (if (rd (rd_L2 t597 x38_8) (ji138)) < (t606.length : Int) then (laws_FnHeavyPaths.j13 k10 t597 t606 x37_10 x38_8 x39_10 ((rd t606 (rd (rd_L2 t597 x38_8) (ji138))) != (rd (rd_L2 t597 x38_8) x39_10))) else (none)) else (none)) else (none)) else (none)) = some r := by first | (rw [hji138] at H; exact H) | (simp only [hji138] at H ⊢; exact H)
    have hji138w : (IntKind.i64.wrap (x39_10 - 1)) = ji138 := (i64_w _).trans hji138
    by_cases c139 : 0 ≤ (ji138)
    rotate_left
    ·rw [if_neg c139] at H
     exact absurd H (by simp)
    rw [if_pos c139] at H
    have c139b0 : decide (0 ≤ (ji138)) = true := decide_eq_true c139
    clear c139
    by_cases c140 : (ji138) < ((rd_L2 t597 x38_8).length : Int)
    rotate_left
    ·rw [if_neg c140] at H
     exact absurd H (by simp)
    rw [if_pos c140] at H
    have c140b0 : decide ((ji138) < ((rd_L2 t597 x38_8).length : Int)) = true := decide_eq_true c140
    clear c140
    by_cases c141 : 0 ≤ (rd (rd_L2 t597 x38_8) (ji138))
    rotate_left
    ·rw [if_neg c141] at H
     exact absurd H (by simp)
    rw [if_pos c141] at H
    have c141b0 : decide (0 ≤ (rd (rd_L2 t597 x38_8) (ji138))) = true := decide_eq_true c141
    clear c141
    by_cases c142 : (rd (rd_L2 t597 x38_8) (ji138)) < (t606.length : Int)
    rotate_left
    ·rw [if_neg c142] at H
     exact absurd H (by simp)
    rw [if_pos c142] at H
    have c142b0 : decide ((rd (rd_L2 t597 x38_8) (ji138)) < (t606.length : Int)) = true := decide_eq_true c142
    clear c142
    have H' := Aside0.mk H
    clear H
    have p656 : 0 ≤ (x38_8 : Int) := of_decide_eq_true q14_0
    have q656 : x38_8 < (t597.length : Int) := of_decide_eq_true q14_0
    obtain ⟨ad656, A656_0, c656_0, e656, hx656_0, hl656_0, hi656_0⟩ := at_L2 (Kd.S_reads' HO_4.out).2.2 x38_8 p656 q656
    obtain rfl : ad655 = ad656 := (by injection e656)
    obtain ⟨ce656, hce656, hMe656, hcc656⟩ := Kd.S_get HO_4.out [] x38_8 p656 (by first | exact q656 | exact of_decide_eq_true q14_0 | (have e_ := (Kd.S_reads' HO_4.out).1; omega))
    obtain ⟨ve656_0, rfl, ge656_0⟩ := hMe656
    have hv656_0 := hcc656 0 _ rfl
    rw [Nat.add_zero, show (Kd.slice 2 (Kd.int .i64)).sz = 1 from rfl, Nat.mul_one] at hv656_0
    replace hv656_0 := Option.some.inj (hv656_0.symm.trans hx656_0)
    rw [hv656_0] at ge656_0
    have HL656_0 := Aside0.mk (show Kd.R (Kd.int .i64) 2 _ _ _ _ (rd_L2 t597 x38_8) from ge656_0)
    clear hv656_0 ge656_0
    clear hcc656 hce656
    have HR656_0 := Aside0.mk hi656_0
    have HC656_0 := Aside0.mk hl656_0
    clear hi656_0 hl656_0
    replace p656 := eq_true p656
    replace q656 := eq_true q656
    (try (have ea_ := Option.some.inj (hx655_0.symm.trans hx656_0); injection ea_ with ea_ en_ ec_; subst ea_; subst ec_; clear en_))
    have p657 : 0 ≤ (x39_10 : Int) := of_decide_eq_true q14_0
    have q657 : x39_10 < ((rd_L2 t597 x38_8).length : Int) := of_decide_eq_true q14_0
    obtain ⟨ad657, e657, hx657_0⟩ := Kd.at_int q14_3 x39_10 p657 q657
    cases e657
    replace p657 := eq_true p657
    replace q657 := eq_true q657
    obtain ⟨Ao143, co143, eo143⟩ := Kd.R_slice HO_37.out
    subst eo143
    have p658 : 0 ≤ ((rd (rd_L2 t597 x38_8) x39_10) : Int) := of_decide_eq_true q14_0
    have q658 : (rd (rd_L2 t597 x38_8) x39_10) < (x37_10.length : Int) := of_decide_eq_true q14_0
    (try (obtain ⟨Aop_, cop_, eop_⟩ := Kd.R_slice HO_37.out; subst eop_))
    obtain ⟨ad658, e658, hx658_0⟩ := Kd.at_bool (Kd.R_reads' HO_37.out).2.2 (rd (rd_L2 t597 x38_8) x39_10) p658 q658
    (try rw [← Nbq134.out] at hx658_0)
    cases e658
    replace p658 := eq_true p658
    replace q658 := eq_true q658
    have p659 : 0 ≤ (x38_8 : Int) := of_decide_eq_true q14_0
    have q659 : x38_8 < (t597.length : Int) := of_decide_eq_true q14_0
    obtain ⟨ad659, A659_0, c659_0, e659, hx659_0, hl659_0, hi659_0⟩ := at_L2 (Kd.S_reads' HO_4.out).2.2 x38_8 p659 q659
    obtain rfl : ad655 = ad659 := (by injection e659)
    obtain ⟨ce659, hce659, hMe659, hcc659⟩ := Kd.S_get HO_4.out [] x38_8 p659 (by first | exact q659 | exact of_decide_eq_true q14_0 | (have e_ := (Kd.S_reads' HO_4.out).1; omega))
    obtain ⟨ve659_0, rfl, ge659_0⟩ := hMe659
    have hv659_0 := hcc659 0 _ rfl
    rw [Nat.add_zero, show (Kd.slice 2 (Kd.int .i64)).sz = 1 from rfl, Nat.mul_one] at hv659_0
    replace hv659_0 := Option.some.inj (hv659_0.symm.trans hx659_0)
    rw [hv659_0] at ge659_0
    have HL659_0 := Aside0.mk (show Kd.R (Kd.int .i64) 2 _ _ _ _ (rd_L2 t597 x38_8) from ge659_0)
    clear hv659_0 ge659_0
    clear hcc659 hce659
    have HR659_0 := Aside0.mk hi659_0
    have HC659_0 := Aside0.mk hl659_0
    clear hi659_0 hl659_0
    replace p659 := eq_true p659
    replace q659 := eq_true q659
    have ea_ := Option.some.inj (hx656_0.symm.trans hx659_0)
    injection ea_ with ea_ en_ ec_
    subst ea_
    subst ec_
    clear en_
    have p660 : 0 ≤ ((ji138) : Int) := of_decide_eq_true q14_0
    have q660 : (ji138) < ((rd_L2 t597 x38_8).length : Int) := of_decide_eq_true q14_0
    obtain ⟨ad660, e660, hx660_0⟩ := Kd.at_int (by repeat (first | (with_reducible exact HR659_0.out) | (with_reducible refine Kd.C_alloc ?_ _) | (with_reducible refine Kd.C_drewN ?_ _) | (with_reducible refine Kd.C_drew ?_) | exact HR659_0.out)) (ji138) p660 q660
    cases e660
    replace p660 := eq_true p660
    replace q660 := eq_true q660
    obtain ⟨Ao144, co144, eo144⟩ := Kd.R_slice HO_8.out
    subst eo144
    have p661 : 0 ≤ ((rd (rd_L2 t597 x38_8) (ji138)) : Int) := of_decide_eq_true q14_0
    have q661 : (rd (rd_L2 t597 x38_8) (ji138)) < (t606.length : Int) := of_decide_eq_true q14_0
    (try (obtain ⟨Aop_, cop_, eop_⟩ := Kd.R_slice HO_8.out; subst eop_))
    obtain ⟨ad661, e661, hx661_0⟩ := Kd.at_int (Kd.R_reads' HO_8.out).2.2 (rd (rd_L2 t597 x38_8) (ji138)) p661 q661
    cases e661
    replace p661 := eq_true p661
    replace q661 := eq_true q661
    have p662 : 0 ≤ (x38_8 : Int) := of_decide_eq_true q14_0
    have q662 : x38_8 < (t597.length : Int) := of_decide_eq_true q14_0
    obtain ⟨ad662, A662_0, c662_0, e662, hx662_0, hl662_0, hi662_0⟩ := at_L2 (Kd.S_reads' HO_4.out).2.2 x38_8 p662 q662
    obtain rfl : ad655 = ad662 := (by injection e662)
    obtain ⟨ce662, hce662, hMe662, hcc662⟩ := Kd.S_get HO_4.out [] x38_8 p662 (by first | exact q662 | exact of_decide_eq_true q14_0 | (have e_ := (Kd.S_reads' HO_4.out).1; omega))
    obtain ⟨ve662_0, rfl, ge662_0⟩ := hMe662
    have hv662_0 := hcc662 0 _ rfl
    rw [Nat.add_zero, show (Kd.slice 2 (Kd.int .i64)).sz = 1 from rfl, Nat.mul_one] at hv662_0
    replace hv662_0 := Option.some.inj (hv662_0.symm.trans hx662_0)
    rw [hv662_0] at ge662_0
    have HL662_0 := Aside0.mk (show Kd.R (Kd.int .i64) 2 _ _ _ _ (rd_L2 t597 x38_8) from ge662_0)
    clear hv662_0 ge662_0
    clear hcc662 hce662
    have HR662_0 := Aside0.mk hi662_0
    have HC662_0 := Aside0.mk hl662_0
    clear hi662_0 hl662_0
    replace p662 := eq_true p662
    replace q662 := eq_true q662
    have ea_ := Option.some.inj (hx656_0.symm.trans hx662_0)
    injection ea_ with ea_ en_ ec_
    subst ea_
    subst ec_
    clear en_
    have p663 : 0 ≤ (x39_10 : Int) := of_decide_eq_true q14_0
    have q663 : x39_10 < ((rd_L2 t597 x38_8).length : Int) := of_decide_eq_true q14_0
    obtain ⟨ad663, e663, hx663_0⟩ := Kd.at_int (by repeat (first | (with_reducible exact HR662_0.out) | (with_reducible refine Kd.C_alloc ?_ _) | (with_reducible refine Kd.C_drewN ?_ _) | (with_reducible refine Kd.C_drew ?_) | exact HR662_0.out)) x39_10 p663 q663
    cases e663
    replace p663 := eq_true p663
    replace q663 := eq_true q663
    as_aux_lemma =>
    go_wp2
    repeat (go_quiet (fail); try go_wp2)
    go_meet
    case rel => exact ⟨_, ((rd t606 (rd (rd_L2 t597 x38_8) (ji138))) != (rd (rd_L2 t597 x38_8) x39_10)), (by first | rfl | (simp; done) | (simp only [← hji138] <;> (first | rfl | simp)) | (simp [*]; done)), H', ⟨q14_2⟩, ⟨ps HO_4.out⟩, ⟨pe HO_8.out⟩, ⟨pe HO_37.out⟩, ⟨pe HO_597000.out⟩, ⟨pe HO_620000.out⟩, ⟨pe HO_636000.out⟩, ⟨pb BK596.out⟩, ⟨pb BK619.out⟩, ⟨pb BK635.out⟩, ⟨q14_4⟩, ⟨hq⟩⟩
   as_aux_lemma =>
   clear HC130
   try clear c1
   try clear q1
   try clear c2
   try clear p2
   try clear c3
   try clear c4
   try clear c5
   try clear c6
   try clear p6
   try clear q6
   try clear hx6
   try clear c7
   try clear c8
   try clear c9
   try clear c10
   try clear c11
   try clear c12
   try clear c13
   try clear q13
   try clear c14
   try clear c15
   try clear c15b0
   try clear c15b1
   try clear c19
   try clear c27
   try clear c27b0
   try clear c27b1
   try clear c31
   try clear c39
   try clear c44
   try clear c44b0
   try clear c44b1
   try clear c45
   try clear c49
   try clear c54
   try clear c54b0
   try clear c54b1
   try clear c55
   try clear c55b0
   try clear c55b1
   try clear c56
   try clear c64
   try clear p64
   try clear q64
   try clear hx64
   try clear c65
   try clear p65
   try clear q65
   try clear hx65
   try clear c66
   try clear p66
   try clear q66
   try clear hx66
   try clear c70
   try clear c70b0
   try clear c70b1
   try clear c71
   try clear c73
   try clear c73b0
   try clear c73b1
   try clear c76
   try clear c77
   try clear c80
   try clear c80b0
   try clear c80b1
   try clear c81
   try clear c83
   try clear c83b0
   try clear c83b1
   try clear c84
   try clear c84b0
   try clear c87
   try clear c88
   try clear c91
   try clear c91b0
   try clear c91b1
   try clear c92
   try clear c92b0
   try clear c93
   try clear c94
   try clear c96
   try clear c96b0
   try clear c96b1
   try clear c97
   try clear c97b0
   try clear c98
   try clear c98b0
   try clear c99
   try clear c100
   try clear c103
   try clear c104
   try clear c106
   try clear c107
   try clear c107b0
   try clear c107b1
   try clear c108
   try clear c108b0
   try clear c108b1
   try clear c109
   try clear c109b0
   try clear c109b1
   try clear c110
   try clear c111
   try clear c115
   try clear c115b0
   try clear c118
   try clear c118b0
   try clear c119
   try clear c119b0
   try clear c119b1
   try clear c119b2
   try clear c121
   try clear c121b0
   try clear c122
   try clear c122b0
   try clear c123
   try clear c123b0
   try clear c124
   try clear c124b0
   try clear c126
   try clear c127
   try clear c127b0
   try clear c128
   try clear c128b0
   try clear c129
   try clear c129b0
   try clear c131
   try clear c131b0
   try clear c132
   try clear c132b0
   try clear c133
   try clear c133b0
   try clear q134
   try clear c135
   try clear c137
   try clear c137b0
   try clear c139
   try clear c139b0
   try clear c140
   try clear c140b0
   try clear c141
   try clear c141b0
   try clear c142
   try clear c142b0
   try clear hcz101_0
   try clear hcz105_0
   try clear hcz112_0
   try clear hcz11_0
   try clear hcz13_0
   try clear hcz23_0
   try clear hcz25_0
   try clear hcz40_0
   try clear hcz42_0
   try clear hcz50_0
   try clear hcz52_0
   try clear hcz66_0
   try clear hcz68_0
   try clear hcz78_0
   try clear hcz89_0
   try clear hcz95_0
   try clear hfz101_0
   try clear hfz105_0
   try clear hfz112_0
   try clear hfz11_0
   try clear hfz13_0
   try clear hfz23_0
   try clear hfz25_0
   try clear hfz40_0
   try clear hfz42_0
   try clear hfz50_0
   try clear hfz52_0
   try clear hfz66_0
   try clear hfz68_0
   try clear hfz78_0
   try clear hfz89_0
   try clear hfz95_0
   try clear hx646_0
   try clear hx650_0
   try clear hx651_0
   try clear hx652_0
   try clear hx653_0
   try clear hx654_0
   try clear hx655_0
   try clear hx656_0
   try clear hx657_0
   try clear hx658_0
   try clear hx659_0
   try clear hx660_0
   try clear hx661_0
   try clear hx662_0
   try clear hx663_0
   try clear p2
   try clear p6
   try clear p64
   try clear p646
   try clear p65
   try clear p650
   try clear p651
   try clear p652
   try clear p653
   try clear p654
   try clear p655
   try clear p656
   try clear p657
   try clear p658
   try clear p659
   try clear p660
   try clear p661
   try clear p662
   try clear p663
   try clear q6
   try clear q64
   try clear q646
   try clear q65
   try clear q650
   try clear q651
   try clear q652
   try clear q653
   try clear q654
   try clear q655
   try clear q656
   try clear q657
   try clear q658
   try clear q659
   try clear q660
   try clear q661
   try clear q662
   try clear q663
   obtain ⟨kq, x303_129, rfl, HA, HJ129, HO_4, HO_8, HO_37, HO_597000, HO_620000, HO_636000, BK596, BK619, BK635, HR655_0, HB⟩ := hcut
   cases kq with | zero => exact absurd HA.out (by simp [laws_FnHeavyPaths.j13]) | succ kj129 => ?_
   have H := HA.out
   clear HA
   simp only [laws_FnHeavyPaths.j13] at H
   by_cases c146 : x303_129 = true
   ·subst c146
    replace H : (none) = some r := by rw [if_pos rfl] at H; exact H
    exact absurd H (by simp)
   replace c146 := Bool.eq_false_iff.mpr c146
   subst c146
   have H1 : (if 0 ≤ x38_8 then (if x38_8 < (t597.length : Int) then (if 0 ≤ x39_10 then (if x39_10 < ((rd_L2 t597 x38_8).length : Int) then (if 0 ≤ (rd (rd_L2 t597 x38_8) x39_10) then (if (rd (rd_L2 t597 x38_8) x39_10) < (x37_10.length : Int) then (laws_FnHeavyPaths.l2 kj129 t597 t606 (x37_10.set ((rd (rd_L2 t597 x38_8) x39_10) : Int).toNat true) x38_8 (wrap64 (x39_10 + 1))) else (none)) else (none)) else (none)) else (none)) else (none)) else (none)) = some r := by rw [if_neg (show ¬ (false = true) by decide)] at H; exact H
   clear H
   have H := H1
   clear H1
   by_cases c147 : 0 ≤ x38_8
   rotate_left
   ·rw [if_neg c147] at H
    exact absurd H (by simp)
   rw [if_pos c147] at H
   have c147b0 : decide (0 ≤ x38_8) = true := decide_eq_true c147
   clear c147
   by_cases c148 : x38_8 < (t597.length : Int)
   rotate_left
   ·rw [if_neg c148] at H
    exact absurd H (by simp)
   rw [if_pos c148] at H
   have c148b0 : decide (x38_8 < (t597.length : Int)) = true := decide_eq_true c148
   clear c148
   by_cases c149 : 0 ≤ x39_10
   rotate_left
   ·rw [if_neg c149] at H
    exact absurd H (by simp)
   rw [if_pos c149] at H
   have c149b0 : decide (0 ≤ x39_10) = true := decide_eq_true c149
   clear c149
   by_cases c150 : x39_10 < ((rd_L2 t597 x38_8).length : Int)
   rotate_left
   ·rw [if_neg c150] at H
    exact absurd H (by simp)
   rw [if_pos c150] at H
   have c150b0 : decide (x39_10 < ((rd_L2 t597 x38_8).length : Int)) = true := decide_eq_true c150
   clear c150
   by_cases c151 : 0 ≤ (rd (rd_L2 t597 x38_8) x39_10)
   rotate_left
   ·rw [if_neg c151] at H
    exact absurd H (by simp)
   rw [if_pos c151] at H
   have c151b0 : decide (0 ≤ (rd (rd_L2 t597 x38_8) x39_10)) = true := decide_eq_true c151
   clear c151
   by_cases c152 : (rd (rd_L2 t597 x38_8) x39_10) < (x37_10.length : Int)
   rotate_left
   ·rw [if_neg c152] at H
    exact absurd H (by simp)
   rw [if_pos c152] at H
   have c152b0 : decide ((rd (rd_L2 t597 x38_8) x39_10) < (x37_10.length : Int)) = true := decide_eq_true c152
   clear c152
   obtain ⟨y666, hy666⟩ : ∃ y_ : List Bool, y_ = (x37_10.set ((rd (rd_L2 t597 x38_8) x39_10) : Int).toNat true) := ⟨_, rfl⟩
   replace H : (laws_FnHeavyPaths.l2 kj129 t597 t606 y666 x38_8 (wrap64 (x39_10 + 1))) = some r := by first | (rw [hy666]; with_reducible exact H) | (have H2_ := (Option.bind_some _ _).symm.trans H; rw [hy666]; with_reducible exact H2_) | (have H2_ := (Option.bind_some _ _).symm.trans H; with_reducible exact H2_) | with_reducible exact H | (rw [hy666]; exact H) | exact H
   have Ny666 := Aside0.mk hy666
   clear hy666
   have H' := Aside0.mk H
   clear H
   have p664 : 0 ≤ (x38_8 : Int) := of_decide_eq_true q14_0
   have q664 : x38_8 < (t597.length : Int) := of_decide_eq_true q14_0
   obtain ⟨ad664, A664_0, c664_0, e664, hx664_0, hl664_0, hi664_0⟩ := at_L2 (Kd.S_reads' HO_4.out).2.2 x38_8 p664 q664
   obtain rfl : ad655 = ad664 := (by injection e664)
   obtain ⟨ce664, hce664, hMe664, hcc664⟩ := Kd.S_get HO_4.out [] x38_8 p664 (by first | exact q664 | exact of_decide_eq_true q14_0 | (have e_ := (Kd.S_reads' HO_4.out).1; omega))
   obtain ⟨ve664_0, rfl, ge664_0⟩ := hMe664
   have hv664_0 := hcc664 0 _ rfl
   rw [Nat.add_zero, show (Kd.slice 2 (Kd.int .i64)).sz = 1 from rfl, Nat.mul_one] at hv664_0
   replace hv664_0 := Option.some.inj (hv664_0.symm.trans hx664_0)
   rw [hv664_0] at ge664_0
   have HL664_0 := Aside0.mk (show Kd.R (Kd.int .i64) 2 _ _ _ _ (rd_L2 t597 x38_8) from ge664_0)
   clear hv664_0 ge664_0
   clear hcc664 hce664
   have HR664_0 := Aside0.mk hi664_0
   have HC664_0 := Aside0.mk hl664_0
   clear hi664_0 hl664_0
   replace p664 := eq_true p664
   replace q664 := eq_true q664
   (try (have ea_ := Option.some.inj (hx655_0.symm.trans hx664_0); injection ea_ with ea_ en_ ec_; subst ea_; subst ec_; clear en_))
   have p665 : 0 ≤ (x39_10 : Int) := of_decide_eq_true q14_0
   have q665 : x39_10 < ((rd_L2 t597 x38_8).length : Int) := of_decide_eq_true q14_0
   obtain ⟨ad665, e665, hx665_0⟩ := Kd.at_int (by repeat (first | (with_reducible exact HR664_0.out) | (with_reducible refine Kd.C_alloc ?_ _) | (with_reducible refine Kd.C_drewN ?_ _) | (with_reducible refine Kd.C_drew ?_) | exact HR664_0.out)) x39_10 p665 q665
   cases e665
   replace p665 := eq_true p665
   replace q665 := eq_true q665
   have p153 : 0 ≤ ((rd (rd_L2 t597 x38_8) x39_10) : Int) := of_decide_eq_true q14_0
   have q153 : ((rd (rd_L2 t597 x38_8) x39_10) : Int) < ((x37_10.length : Int) : Int) := of_decide_eq_true q14_0
   obtain ⟨go153, co153, eo153, gb153, gl153, cl153, HG153⟩ := Kd.R_form HO_37.out (by omega)
   (first | cases eo153 | (injection eo153 with ea_ en_ ec_; (first | subst ea_ | (injection ea_ with ea_; subst ea_)); subst ec_; clear en_))
   have GB153 := Aside0.mk gb153
   have GG153 := Aside0.mk HG153
   clear gb153 gl153 HG153
   obtain ⟨hx153_0, hf153_0⟩ := Kd.R_celln false HO_37.out ((rd (rd_L2 t597 x38_8) x39_10) : Int) p153 q153
   replace p153 := eq_true p153
   replace q153 := eq_true q153
   have HP154 := Kd.R_putg HO_37.out ((rd (rd_L2 t597 x38_8) x39_10) : Int) true
   as_aux_lemma =>
   go_wp2_with (first | ((with_reducible refine gate_store (t := 4) (p := 312) rfl ?_); (try (rw [drewN_self wc]; generalize hq_ : World.drewN wc _ = wc; have n0_ := Aside0.mk (Kd.S_at hq_ HO_4.out); have n1_ := Aside0.mk (Kd.R_at hq_ HO_8.out); have n2_ := Aside0.mk (Kd.R_at hq_ HO_37.out); have n3_ := Aside0.mk (Kd.R_at hq_ HO_597000.out); have n4_ := Aside0.mk (Kd.R_at hq_ HO_620000.out); have n5_ := Aside0.mk (Kd.R_at hq_ HO_636000.out); have n6_ := Aside0.mk (Kd.R_at hq_ HL664_0.out); have n7_ := Aside0.mk (blk_at hq_ BK596.out); have n8_ := Aside0.mk (blk_at hq_ BK619.out); have n9_ := Aside0.mk (blk_at hq_ BK635.out); have n10_ := Aside0.mk (below_at hq_ HB.out); clear hq_ HO_4 HO_8 HO_37 HO_597000 HO_620000 HO_636000 HL664_0 BK596 BK619 BK635 HB; have HO_4 := n0_; have HO_8 := n1_; have HO_37 := n2_; have HO_597000 := n3_; have HO_620000 := n4_; have HO_636000 := n5_; have HL664_0 := n6_; have BK596 := n7_; have BK619 := n8_; have BK635 := n9_; have HB := n10_; clear n0_ n1_ n2_ n3_ n4_ n5_ n6_ n7_ n8_ n9_ n10_; (try (have HP154 := Kd.R_putg HO_37.out ((rd (rd_L2 t597 x38_8) x39_10) : Int) true)))); refine store_event (t := 4) (p := 312) (v := ?vo_w155) (w1 := (wc.setCell ⟨go153, ((rd (rd_L2 t597 x38_8) x39_10) : Int).toNat, none⟩ (.bool true))) ?hg ?ho ?hn ?hr ?_; (case ho => rfl); (case hg => rfl); (case hn => rfl); (case hr => exact gs); intro w155 hw; have hg : wc.grownBy w155 (some go153) := (by rw [hw]; exact HP154.2); have hp_ : Kd.R Kd.bool 4 w155 w.heap.size (fun _ => True) (.slice (some ⟨go153, 0, none⟩) x37_10.length co153) y666 := (by rw [hw, Ny666.out]; exact HP154.1); clear HP154; replace HO_4 := Aside0.mk (Kd.S_over' (v := (.slice (some ⟨go153, 0, none⟩) x37_10.length co153)) (ps HO_4.out) (Kd.R_typed HO_37.out) (by decide) hg); replace HO_8 := Aside0.mk (Kd.R_over' (v := (.slice (some ⟨go153, 0, none⟩) x37_10.length co153)) (pe HO_8.out) (Kd.R_typed HO_37.out) (by decide) hg); replace HO_597000 := Aside0.mk (Kd.R_over' (v := (.slice (some ⟨go153, 0, none⟩) x37_10.length co153)) (pe HO_597000.out) (Kd.R_typed HO_37.out) (by decide) hg); replace HO_620000 := Aside0.mk (Kd.R_over' (v := (.slice (some ⟨go153, 0, none⟩) x37_10.length co153)) (pe HO_620000.out) (Kd.R_typed HO_37.out) (by decide) hg); replace HO_636000 := Aside0.mk (Kd.R_over' (v := (.slice (some ⟨go153, 0, none⟩) x37_10.length co153)) (pe HO_636000.out) (Kd.R_typed HO_37.out) (by decide) hg); replace BK596 := Aside0.mk (blk_grown (g := gb596) (o := .cells #[.slice Ao10 t593.length co10] 26 (0, 0)) (pb BK596.out) hg (Kd.R_ne HO_37.out BK596.out (by decide))); replace BK619 := Aside0.mk (blk_grown (g := gb619) (o := .cells #[.slice Ao38 t615.length co38] 26 (0, 0)) (pb BK619.out) hg (Kd.R_ne HO_37.out BK619.out (by decide))); replace BK635 := Aside0.mk (blk_grown (g := gb635) (o := .cells #[.slice Ao63 t630.length co63] 26 (0, 0)) (pb BK635.out) hg (Kd.R_ne HO_37.out BK635.out (by decide))); replace HL664_0 := Aside0.mk (Kd.R_over' (v := (.slice (some ⟨go153, 0, none⟩) x37_10.length co153)) (pe HL664_0.out) (Kd.R_typed HO_37.out) (by decide) hg); replace HO_37 := Aside0.mk (hp_); replace HB := Aside0.mk (by rw [hw]; exact below_set (HB.out) GB153.out : Below w.heap.size w w155); clear hg hw hp_))
   repeat (go_quiet (first | ((with_reducible refine gate_store (t := 4) (p := 312) rfl ?_); (try (rw [drewN_self wc]; generalize hq_ : World.drewN wc _ = wc; have n0_ := Aside0.mk (Kd.S_at hq_ HO_4.out); have n1_ := Aside0.mk (Kd.R_at hq_ HO_8.out); have n2_ := Aside0.mk (Kd.R_at hq_ HO_37.out); have n3_ := Aside0.mk (Kd.R_at hq_ HO_597000.out); have n4_ := Aside0.mk (Kd.R_at hq_ HO_620000.out); have n5_ := Aside0.mk (Kd.R_at hq_ HO_636000.out); have n6_ := Aside0.mk (Kd.R_at hq_ HL664_0.out); have n7_ := Aside0.mk (blk_at hq_ BK596.out); have n8_ := Aside0.mk (blk_at hq_ BK619.out); have n9_ := Aside0.mk (blk_at hq_ BK635.out); have n10_ := Aside0.mk (below_at hq_ HB.out); clear hq_ HO_4 HO_8 HO_37 HO_597000 HO_620000 HO_636000 HL664_0 BK596 BK619 BK635 HB; have HO_4 := n0_; have HO_8 := n1_; have HO_37 := n2_; have HO_597000 := n3_; have HO_620000 := n4_; have HO_636000 := n5_; have HL664_0 := n6_; have BK596 := n7_; have BK619 := n8_; have BK635 := n9_; have HB := n10_; clear n0_ n1_ n2_ n3_ n4_ n5_ n6_ n7_ n8_ n9_ n10_; (try (have HP154 := Kd.R_putg HO_37.out ((rd (rd_L2 t597 x38_8) x39_10) : Int) true)))); refine store_event (t := 4) (p := 312) (v := ?vo_w155) (w1 := (wc.setCell ⟨go153, ((rd (rd_L2 t597 x38_8) x39_10) : Int).toNat, none⟩ (.bool true))) ?hg ?ho ?hn ?hr ?_; (case ho => rfl); (case hg => rfl); (case hn => rfl); (case hr => exact gs); intro w155 hw; have hg : wc.grownBy w155 (some go153) := (by rw [hw]; exact HP154.2); have hp_ : Kd.R Kd.bool 4 w155 w.heap.size (fun _ => True) (.slice (some ⟨go153, 0, none⟩) x37_10.length co153) y666 := (by rw [hw, Ny666.out]; exact HP154.1); clear HP154; replace HO_4 := Aside0.mk (Kd.S_over' (v := (.slice (some ⟨go153, 0, none⟩) x37_10.length co153)) (ps HO_4.out) (Kd.R_typed HO_37.out) (by decide) hg); replace HO_8 := Aside0.mk (Kd.R_over' (v := (.slice (some ⟨go153, 0, none⟩) x37_10.length co153)) (pe HO_8.out) (Kd.R_typed HO_37.out) (by decide) hg); replace HO_597000 := Aside0.mk (Kd.R_over' (v := (.slice (some ⟨go153, 0, none⟩) x37_10.length co153)) (pe HO_597000.out) (Kd.R_typed HO_37.out) (by decide) hg); replace HO_620000 := Aside0.mk (Kd.R_over' (v := (.slice (some ⟨go153, 0, none⟩) x37_10.length co153)) (pe HO_620000.out) (Kd.R_typed HO_37.out) (by decide) hg); replace HO_636000 := Aside0.mk (Kd.R_over' (v := (.slice (some ⟨go153, 0, none⟩) x37_10.length co153)) (pe HO_636000.out) (Kd.R_typed HO_37.out) (by decide) hg); replace BK596 := Aside0.mk (blk_grown (g := gb596) (o := .cells #[.slice Ao10 t593.length co10] 26 (0, 0)) (pb BK596.out) hg (Kd.R_ne HO_37.out BK596.out (by decide))); replace BK619 := Aside0.mk (blk_grown (g := gb619) (o := .cells #[.slice Ao38 t615.length co38] 26 (0, 0)) (pb BK619.out) hg (Kd.R_ne HO_37.out BK619.out (by decide))); replace BK635 := Aside0.mk (blk_grown (g := gb635) (o := .cells #[.slice Ao63 t630.length co63] 26 (0, 0)) (pb BK635.out) hg (Kd.R_ne HO_37.out BK635.out (by decide))); replace HL664_0 := Aside0.mk (Kd.R_over' (v := (.slice (some ⟨go153, 0, none⟩) x37_10.length co153)) (pe HL664_0.out) (Kd.R_typed HO_37.out) (by decide) hg); replace HO_37 := Aside0.mk (hp_); replace HB := Aside0.mk (by rw [hw]; exact below_set (HB.out) GB153.out : Below w.heap.size w w155); clear hg hw hp_)); try go_wp2_with (first | ((with_reducible refine gate_store (t := 4) (p := 312) rfl ?_); (try (rw [drewN_self wc]; generalize hq_ : World.drewN wc _ = wc; have n0_ := Aside0.mk (Kd.S_at hq_ HO_4.out); have n1_ := Aside0.mk (Kd.R_at hq_ HO_8.out); have n2_ := Aside0.mk (Kd.R_at hq_ HO_37.out); have n3_ := Aside0.mk (Kd.R_at hq_ HO_597000.out); have n4_ := Aside0.mk (Kd.R_at hq_ HO_620000.out); have n5_ := Aside0.mk (Kd.R_at hq_ HO_636000.out); have n6_ := Aside0.mk (Kd.R_at hq_ HL664_0.out); have n7_ := Aside0.mk (blk_at hq_ BK596.out); have n8_ := Aside0.mk (blk_at hq_ BK619.out); have n9_ := Aside0.mk (blk_at hq_ BK635.out); have n10_ := Aside0.mk (below_at hq_ HB.out); clear hq_ HO_4 HO_8 HO_37 HO_597000 HO_620000 HO_636000 HL664_0 BK596 BK619 BK635 HB; have HO_4 := n0_; have HO_8 := n1_; have HO_37 := n2_; have HO_597000 := n3_; have HO_620000 := n4_; have HO_636000 := n5_; have HL664_0 := n6_; have BK596 := n7_; have BK619 := n8_; have BK635 := n9_; have HB := n10_; clear n0_ n1_ n2_ n3_ n4_ n5_ n6_ n7_ n8_ n9_ n10_; (try (have HP154 := Kd.R_putg HO_37.out ((rd (rd_L2 t597 x38_8) x39_10) : Int) true)))); refine store_event (t := 4) (p := 312) (v := ?vo_w155) (w1 := (wc.setCell ⟨go153, ((rd (rd_L2 t597 x38_8) x39_10) : Int).toNat, none⟩ (.bool true))) ?hg ?ho ?hn ?hr ?_; (case ho => rfl); (case hg => rfl); (case hn => rfl); (case hr => exact gs); intro w155 hw; have hg : wc.grownBy w155 (some go153) := (by rw [hw]; exact HP154.2); have hp_ : Kd.R Kd.bool 4 w155 w.heap.size (fun _ => True) (.slice (some ⟨go153, 0, none⟩) x37_10.length co153) y666 := (by rw [hw, Ny666.out]; exact HP154.1); clear HP154; replace HO_4 := Aside0.mk (Kd.S_over' (v := (.slice (some ⟨go153, 0, none⟩) x37_10.length co153)) (ps HO_4.out) (Kd.R_typed HO_37.out) (by decide) hg); replace HO_8 := Aside0.mk (Kd.R_over' (v := (.slice (some ⟨go153, 0, none⟩) x37_10.length co153)) (pe HO_8.out) (Kd.R_typed HO_37.out) (by decide) hg); replace HO_597000 := Aside0.mk (Kd.R_over' (v := (.slice (some ⟨go153, 0, none⟩) x37_10.length co153)) (pe HO_597000.out) (Kd.R_typed HO_37.out) (by decide) hg); replace HO_620000 := Aside0.mk (Kd.R_over' (v := (.slice (some ⟨go153, 0, none⟩) x37_10.length co153)) (pe HO_620000.out) (Kd.R_typed HO_37.out) (by decide) hg); replace HO_636000 := Aside0.mk (Kd.R_over' (v := (.slice (some ⟨go153, 0, none⟩) x37_10.length co153)) (pe HO_636000.out) (Kd.R_typed HO_37.out) (by decide) hg); replace BK596 := Aside0.mk (blk_grown (g := gb596) (o := .cells #[.slice Ao10 t593.length co10] 26 (0, 0)) (pb BK596.out) hg (Kd.R_ne HO_37.out BK596.out (by decide))); replace BK619 := Aside0.mk (blk_grown (g := gb619) (o := .cells #[.slice Ao38 t615.length co38] 26 (0, 0)) (pb BK619.out) hg (Kd.R_ne HO_37.out BK619.out (by decide))); replace BK635 := Aside0.mk (blk_grown (g := gb635) (o := .cells #[.slice Ao63 t630.length co63] 26 (0, 0)) (pb BK635.out) hg (Kd.R_ne HO_37.out BK635.out (by decide))); replace HL664_0 := Aside0.mk (Kd.R_over' (v := (.slice (some ⟨go153, 0, none⟩) x37_10.length co153)) (pe HL664_0.out) (Kd.R_typed HO_37.out) (by decide) hg); replace HO_37 := Aside0.mk (hp_); replace HB := Aside0.mk (by rw [hw]; exact below_set (HB.out) GB153.out : Below w.heap.size w w155); clear hg hw hp_)))
   go_roundg kj129
   case measure => have := HJ6.out; have := HJ21.out; have := HJ34.out; have := HJ47.out; have := HJ59.out; have := HJ71.out; have := HJ81.out; have := HK8.out; have := HJ115.out; have := HK10.out; have := HJ129.out; omega
   case rel => exact ⟨(y666), (wrap64 (x39_10 + 1)), q14_1, H', ⟨by have := HJ6.out; have := HJ21.out; have := HJ34.out; have := HJ47.out; have := HJ59.out; have := HJ71.out; have := HJ81.out; have := HK8.out; have := HJ115.out; have := HK10.out; have := HJ129.out; omega⟩, ⟨ps HO_4.out⟩, ⟨pe HO_8.out⟩, ⟨pe HO_37.out⟩, ⟨pe HO_597000.out⟩, ⟨pe HO_620000.out⟩, ⟨pe HO_636000.out⟩, ⟨pb BK596.out⟩, ⟨pb BK619.out⟩, ⟨pb BK635.out⟩, ⟨hq⟩⟩

/-- THE ONE PURE STATEMENT of laws_FnHeavyPaths: yours. -/
def laws_FnHeavyPaths.Pure : Prop := ∀ (l0 : List Int), l0.length ≤ maxLen → l0.length * 1 ≤ 140737488351232 → (∀ x ∈ l0, (Lit.int .u8 x).wf = true) → ∃ k, laws_FnHeavyPaths.f k l0 = some true
theorem laws_FnHeavyPaths.walk (P : laws_FnHeavyPaths.Pure) (a0 : Option Addr) (len0 cap0 : Nat) (z0 : List Int) (w : World) (w0 : (a0 = none ∧ len0 = 0 ∧ cap0 = 0 ∧ z0 = []) ∨ ∃ x, a0 = some x ∧ len0 ≤ cap0 ∧ cap0 ≤ maxLen ∧ z0.length = cap0 ∧ (∀ i, i < z0.length → w.cell? (x.add i) = some (.int .u8 (z0.getD i 0))) ∧ ∀ n ∈ z0, (Lit.int .u8 n).wf = true) (y0 : len0 * 1 ≤ 140737488351232) :
  Calls Try.prog 3 #[.slice a0 len0 cap0] w fun e w' => e = .returned (.bool true) ∧ Below w.heap.size w w' := by
 obtain ⟨l0, rfl, hr0, hm0, hw0, hc0⟩ := ReadsInt.ofRowC w0
 obtain ⟨k, h⟩ := P l0 hm0 y0 hw0
 refine (laws_FnHeavyPaths.calls k _ _ l0 true w (Kd.C_of_reads (d := (0 : Int)) (h1 := fun _ => rfl) hr0) hc0 h).mono ?_
 rintro e w' ⟨rfl, hd⟩
 exact ⟨rfl, hd⟩

end Go.Proofs.Ytlppkilencpmeaa.QFnHeavyPaths
