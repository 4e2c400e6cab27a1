/- Functions as Lean functions, with their contracts: written by a program of this claim over the translation; some contracts are proved by hand. -/
import Derived.Test.YtlppkilencpmeaaQFnHeavyPathsx0
import Derived.Test.YtlppkilencpmeaaQFnHeavyPathsx1
import Derived.Test.YtlppkilencpmeaaQFnHeavyPathsx4
namespace Go.Proofs.Ytlppkilencpmeaa.QFnHeavyPaths
open Go.RowKit Go.Proofs.Ytlppkilencpmeaa.Gl Go.Proofs.Ytlppkilencpmeaa.Sz Go.Proofs.YtlppkilencpmeaaW.PrintWords Go.Proofs.YtlppkilencpmeaaW.PrintLast Go.Proofs.YtlppkilencpmeaaW.PrintMore
attribute [local go_sem] max2_int min2_int max_two min_two max_three min_three max_four min_four   -- for this text's walks alone
set_option linter.unusedVariables false
set_option linter.unusedSimpArgs false
theorem q5_0 {P : Prop} (h : P := by first | (with_reducible assumption) | assumption) : P := h
theorem q5_1 {P : Prop} (h : P := by first | rfl | (simp; done) | (simp [*]; done)) : P := h
theorem q5_2 {P : Prop} (h : P := by repeat (first | exact Drawn0.refl _ | apply Drawn0.step)) : P := h
theorem q5_3 {P : Prop} (h : P := by have := HK1.out; have := HK2.out; omega) : P := h

/-! ### impl_heavyChildren: function 39 -/
mutual
def impl_heavyChildren.l0 : Nat → List Int → List Int → List Int → Int → Int → Option (List Int)
 | 0, _, _, _, _, _ => none
 | k + 1, x0, x3, x4, x13, x14 => if x14 < x13 then ((impl_kidsOf.f k x0 x14).bind fun t318 => (impl_heavyChildren.l1 k x0 x3 x4 (-1) x13 x14 t318 (t318.length : Int) 0)) else (some x4)
def impl_heavyChildren.l1 : Nat → List Int → List Int → List Int → Int → Int → Int → List Int → Int → Int → Option (List Int)
 | 0, _, _, _, _, _, _, _, _, _ => none
 | k + 1, x0, x3, x4, x6, x13, x14, x19, x20, x21 => if x21 < x20 then (if 0 ≤ x21 then (if x21 < (x19.length : Int) then (if x6 < 0 then (impl_heavyChildren.l1 k x0 x3 x4 (rd x19 x21) x13 x14 x19 x20 (wrap64 (x21 + 1))) else (if 0 ≤ (rd x19 x21) then (if (rd x19 x21) < (x3.length : Int) then (if 0 ≤ x6 then (if x6 < (x3.length : Int) then (if (rd x3 (rd x19 x21)) > (rd x3 x6) then (impl_heavyChildren.l1 k x0 x3 x4 (rd x19 x21) x13 x14 x19 x20 (wrap64 (x21 + 1))) else (impl_heavyChildren.l1 k x0 x3 x4 x6 x13 x14 x19 x20 (wrap64 (x21 + 1)))) else (none)) else (none)) else (none)) else (none))) else (none)) else (none)) else (if x4.length < 17592186044416 then (impl_heavyChildren.l0 k x0 x3 (x4 ++ [x6]) x13 (wrap64 (x14 + 1))) else (none))
end
def impl_heavyChildren.f (k : Nat) (l0 : List Int) : Option (List Int) := (impl_sizesOf.f k l0).bind fun t312 => (impl_heavyChildren.l0 k l0 t312 ([] : List Int) (l0.length : Int) 0)
theorem impl_heavyChildren.mo0 {P : Prop} (h : P := by repeat' first  | (with_reducible exact ih0 _ _ _ _ _) | (with_reducible exact ih1 _ _ _ _ _ _ _ _ _) | (with_reducible exact impl_kidsOf.mono _ _ _) | (with_reducible exact impl_sizesOf.mono _ _) | (with_reducible exact LeO.refl _) | (with_reducible exact LeO.none _) | (with_reducible refine LeO.ite ?_ ?_) | (with_reducible refine LeO.bind ?_ (fun _ => ?_)) | exact ih0 _ _ _ _ _ | exact ih1 _ _ _ _ _ _ _ _ _ | exact impl_kidsOf.mono _ _ _ | exact impl_sizesOf.mono _ _ | exact LeO.none _ | refine LeO.ite ?_ ?_ | refine LeO.bind ?_ (fun _ => ?_)) : P := h
theorem impl_heavyChildren.mono_l : ∀ k, (∀ y0 y1 y2 y3 y4, LeO (impl_heavyChildren.l0 k y0 y1 y2 y3 y4) (impl_heavyChildren.l0 (k + 1) y0 y1 y2 y3 y4)) ∧ (∀ y0 y1 y2 y3 y4 y5 y6 y7 y8, LeO (impl_heavyChildren.l1 k y0 y1 y2 y3 y4 y5 y6 y7 y8) (impl_heavyChildren.l1 (k + 1) y0 y1 y2 y3 y4 y5 y6 y7 y8))
 | 0 => ⟨fun _ _ _ _ _ r h => by simp [impl_heavyChildren.l0] at h, fun _ _ _ _ _ _ _ _ _ r h => by simp [impl_heavyChildren.l1] at h⟩
 | k + 1 => by
  obtain ⟨ih0, ih1⟩ := impl_heavyChildren.mono_l k
  refine ⟨?_, ?_⟩
  ·intro y0 y1 y2 y3 y4
   unfold impl_heavyChildren.l0
   exact impl_heavyChildren.mo0
  ·intro y0 y1 y2 y3 y4 y5 y6 y7 y8
   unfold impl_heavyChildren.l1
   exact impl_heavyChildren.mo0
theorem impl_heavyChildren.mono : ∀ a0 k, LeO (impl_heavyChildren.f k a0) (impl_heavyChildren.f (k + 1) a0) := by
 intro a0 k
 obtain ⟨ih0, ih1⟩ := impl_heavyChildren.mono_l k
 unfold impl_heavyChildren.f
 repeat' first
   | (with_reducible exact ih0 _ _ _ _ _)
   | (with_reducible exact ih1 _ _ _ _ _ _ _ _ _)
   | (with_reducible exact impl_kidsOf.mono _ _ _)
   | (with_reducible exact impl_sizesOf.mono _ _)
   | (with_reducible exact LeO.refl _)
   | (with_reducible exact LeO.none _)
   | (with_reducible refine LeO.ite ?_ ?_)
   | (with_reducible refine LeO.bind ?_ (fun _ => ?_))
   | exact ih0 _ _ _ _ _
   | exact ih1 _ _ _ _ _ _ _ _ _
   | exact impl_kidsOf.mono _ _ _
   | exact impl_sizesOf.mono _ _
   | exact LeO.none _
   | refine LeO.ite ?_ ?_
   | refine LeO.bind ?_ (fun _ => ?_)
set_option maxHeartbeats 8000000 in
set_option maxRecDepth 100000 in
theorem impl_heavyChildren.calls (k : Nat) (A0 : Option Addr) (c0 : Nat) (l0 : List Int) (r : List Int) (w : World) (hr0 : Kd.C (Kd.int .i64) w A0 l0.length l0) (hc0 : l0.length ≤ c0) (h : impl_heavyChildren.f k l0 = some r) :
  Calls Try.prog 39 #[.slice A0 l0.length c0] w fun e w' => ∃ v0_ : Value, e = .returned (v0_) ∧ Kd.R (Kd.int .i64) 2 w' w.heap.size (fun _ => True) v0_ r ∧ Below w.heap.size w w' := by
 have HR0 := Aside0.mk hr0
 have HC0 := Aside0.mk hc0
 clear hr0 hc0
 have HB := Aside0.mk (Below.refl w.heap.size w)
 have H : ((impl_sizesOf.f k l0).bind fun t312 => (impl_heavyChildren.l0 k l0 t312 ([] : List Int) (l0.length : Int) 0)) = some r := h
 clear h
 replace H := Option.bind_eq_some_iff.mp H
 obtain ⟨t312, A20, H⟩ := H
 replace H : (impl_heavyChildren.l0 k l0 t312 ([] : List Int) (l0.length : Int) 0) = some r := H
 have A2 := Aside0.mk A20
 clear A20
 obtain ⟨y315, hy315⟩ : ∃ y_ : List Int, y_ = ([] : List Int) := ⟨_, rfl⟩
 replace H : (impl_heavyChildren.l0 k l0 t312 y315 (l0.length : Int) 0) = some r := by first | (rw [hy315]; with_reducible exact H) | (have H2_ := (Option.bind_some _ _).symm.trans H; rw [hy315]; with_reducible exact H2_) | (have H2_ := (Option.bind_some _ _).symm.trans H; with_reducible exact H2_) | with_reducible exact H | (rw [hy315]; exact H) | exact H
 have Ny315 := Aside0.mk hy315
 clear hy315
 have H' := Aside0.mk H
 clear H
 go_enter Try.func39, Try.ntmps39
 go_wp2_with (first | (go_at_call 57; (with_reducible refine (impl_sizesOf.calls k _ _ l0 t312 _ ?side1 ?side2 A2.out).mono ?_); (case side1 => exact pc (HR0.out)); (case side2 => exact HC0.out); rintro e w3 ⟨v313, rfl, ho0, hb⟩; have HO314 := Aside0.mk (Kd.R_lower ho0 (below_size hq)); replace HB := Aside0.mk (below_step hq hb); (try clear hb); (try clear hb2); (try clear hk); (try clear hi); (try clear ho0)) | ((with_reducible refine gate_dst (N := 11) rfl ?_); refine Kd.R_lit (Kd.int .i64) _ 2 ?hg (N := 11) ?hd (xs := ([] : List Int)) (inner := []) (ok := fun _ => True) (okp := fun _ => True) ?hr ?hp (fun _ hk => hk) trivial (Below.refl _ _) (Nat.le_refl _) (by simp) ?_; (case hd => rfl); (case hg => rfl); (case hr => exact gs); (case hp => exact (Reps.none _ _)); intro v316 w4 ho5 hb hg_ hnew_; clear hg_ hnew_; (first | rw [← Ny315.out] at ho5 | (simp only [Int.reduceToNat] at ho5; rw [← Ny315.out] at ho5)); have HO317 := Aside0.mk (Kd.R_lower (Kd.R_new' ho5 (Kd.R_lt (pe HO314.out))) (below_size hq)); replace HO314 := rn HO314 ho5 hb; replace HB := Aside0.mk (below_step hq hb); clear hb ho5))
 repeat (go_quiet (fail); try go_wp2_with (first | (go_at_call 57; (with_reducible refine (impl_sizesOf.calls k _ _ l0 t312 _ ?side1 ?side2 A2.out).mono ?_); (case side1 => exact pc (HR0.out)); (case side2 => exact HC0.out); rintro e w3 ⟨v313, rfl, ho0, hb⟩; have HO314 := Aside0.mk (Kd.R_lower ho0 (below_size hq)); replace HB := Aside0.mk (below_step hq hb); (try clear hb); (try clear hb2); (try clear hk); (try clear hi); (try clear ho0)) | ((with_reducible refine gate_dst (N := 11) rfl ?_); refine Kd.R_lit (Kd.int .i64) _ 2 ?hg (N := 11) ?hd (xs := ([] : List Int)) (inner := []) (ok := fun _ => True) (okp := fun _ => True) ?hr ?hp (fun _ hk => hk) trivial (Below.refl _ _) (Nat.le_refl _) (by simp) ?_; (case hd => rfl); (case hg => rfl); (case hr => exact gs); (case hp => exact (Reps.none _ _)); intro v316 w4 ho5 hb hg_ hnew_; clear hg_ hnew_; (first | rw [← Ny315.out] at ho5 | (simp only [Int.reduceToNat] at ho5; rw [← Ny315.out] at ho5)); have HO317 := Aside0.mk (Kd.R_lower (Kd.R_new' ho5 (Kd.R_lt (pe HO314.out))) (below_size hq)); replace HO314 := rn HO314 ho5 hb; replace HB := Aside0.mk (below_step hq hb); clear hb ho5)))
 go_loopg [4, 14] k (fun kq v4 v14 w' => ∃ (x4_1 : List Int) (x14_1 : Int), v14 = .int .i64 x14_1 ∧ Aside0 (impl_heavyChildren.l0 kq l0 t312 x4_1 (l0.length : Int) x14_1 = some r) ∧ Aside0 (kq ≤ k) ∧ Aside0 (Kd.R (Kd.int .i64) 2 w' w.heap.size (fun k_ => some k_ ≠ (v4 : Value).ownBlock) v313 t312) ∧ Aside0 (Kd.R (Kd.int .i64) 2 w' w.heap.size (fun k_ => some k_ ≠ (v313 : Value).ownBlock) v4 x4_1) ∧ Aside0 (Below w.heap.size w w'))
 case atStart => exact ⟨(y315), (0), q5_1, H', ⟨Nat.le_refl _⟩, ⟨pe (Kd.R_mono HO314.out (fun _ hk => hk.2))⟩, ⟨pe (Kd.R_mono HO317.out (fun _ hk => hk.2))⟩, ⟨hq⟩⟩
 case round =>
  clear H'
  try clear p2
  try clear c3
  obtain ⟨x4_1, x14_1, rfl, HA, HK1, HO_3, HO_4, HB⟩ := hrel
  cases gk with | zero => exact absurd HA.out (by simp [impl_heavyChildren.l0]) | succ k1 => ?_
  have H := HA.out
  clear HA
  simp only [impl_heavyChildren.l0] at H
  by_cases c6 : x14_1 < (l0.length : Int)
  rotate_left
  ·rw [if_neg c6] at H
   have c6b0 : decide (x14_1 < (l0.length : Int)) = false := decide_eq_false c6
   clear c6
   obtain rfl := Option.some.inj H
   go_wp2
   repeat (go_quiet (fail); try go_wp2)
   go_ret
   exact ⟨_, ew, pe (Kd.R_mono HO_4.out (fun _ hk => trivial)), hq⟩
  rw [if_pos c6] at H
  have c6b0 : decide (x14_1 < (l0.length : Int)) = true := decide_eq_true c6
  clear c6
  replace H := Option.bind_eq_some_iff.mp H
  obtain ⟨t318, A70, H⟩ := H
  replace H : (impl_heavyChildren.l1 k1 l0 t312 x4_1 (-1) (l0.length : Int) x14_1 t318 (t318.length : Int) 0) = some r := H
  have A7 := Aside0.mk A70
  clear A70
  have H' := Aside0.mk H
  clear H
  go_wp2_with (first | (go_at_call 65; (with_reducible refine (impl_kidsOf.calls k1 _ _ l0 x14_1 t318 _ ?side1 ?side2 A7.out).mono ?_); (case side1 => exact pc (Kd.C_below HR0.out HB.out)); (case side2 => exact HC0.out); rintro e w8 ⟨v319, rfl, ho0, hb⟩; have HO320 := Aside0.mk (Kd.R_lower (Kd.R_new' (Kd.R_new' ho0 (Kd.R_lt (pe HO_3.out))) (Kd.R_lt (pe HO_4.out))) (below_size hq)); replace HO_3 := rn HO_3 ho0 hb; replace HO_4 := rn HO_4 ho0 hb; replace HB := Aside0.mk (below_step hq hb); (try clear hb); (try clear hb2); (try clear hk); (try clear hi); (try clear ho0); obtain ⟨Ao9, co9, eo9⟩ := Kd.R_slice HO320.out; subst eo9))
  repeat (go_quiet (fail); try go_wp2_with (first | (go_at_call 65; (with_reducible refine (impl_kidsOf.calls k1 _ _ l0 x14_1 t318 _ ?side1 ?side2 A7.out).mono ?_); (case side1 => exact pc (Kd.C_below HR0.out HB.out)); (case side2 => exact HC0.out); rintro e w8 ⟨v319, rfl, ho0, hb⟩; have HO320 := Aside0.mk (Kd.R_lower (Kd.R_new' (Kd.R_new' ho0 (Kd.R_lt (pe HO_3.out))) (Kd.R_lt (pe HO_4.out))) (below_size hq)); replace HO_3 := rn HO_3 ho0 hb; replace HO_4 := rn HO_4 ho0 hb; replace HB := Aside0.mk (below_step hq hb); (try clear hb); (try clear hb2); (try clear hk); (try clear hi); (try clear ho0); obtain ⟨Ao9, co9, eo9⟩ := Kd.R_slice HO320.out; subst eo9)))
  go_loopg [6, 21] k1 (fun kq v6 v21 w' => ∃ (x6_2 : Int) (x21_2 : Int), v6 = .int .i64 x6_2 ∧ v21 = .int .i64 x21_2 ∧ Aside0 (impl_heavyChildren.l1 kq l0 t312 x4_1 x6_2 (l0.length : Int) x14_1 t318 (t318.length : Int) x21_2 = some r) ∧ Aside0 (kq ≤ k1) ∧ Aside0 (Kd.R (Kd.int .i64) 2 w' w.heap.size (fun k_ => some k_ ≠ (u4 : Value).ownBlock ∧ some k_ ≠ ((.slice Ao9 t318.length co9) : Value).ownBlock) v313 t312) ∧ Aside0 (Kd.R (Kd.int .i64) 2 w' w.heap.size (fun k_ => some k_ ≠ (v313 : Value).ownBlock ∧ some k_ ≠ ((.slice Ao9 t318.length co9) : Value).ownBlock) u4 x4_1) ∧ Aside0 (Kd.R (Kd.int .i64) 2 w' w.heap.size (fun k_ => some k_ ≠ (v313 : Value).ownBlock ∧ some k_ ≠ (u4 : Value).ownBlock) (.slice Ao9 t318.length co9) t318) ∧ Aside0 (Below w.heap.size w w'))
  case atStart => exact ⟨(-1), (0), q5_1, q5_1, H', ⟨Nat.le_refl _⟩, ⟨pe HO_3.out⟩, ⟨pe HO_4.out⟩, ⟨pe (Kd.R_mono HO320.out (fun _ hk => ⟨hk.1.2, hk.2⟩))⟩, ⟨hq⟩⟩
  case round =>
   clear H'
   try clear p2
   try clear c3
   try clear c6
   try clear c6b0
   try clear p2
   obtain ⟨x6_2, x21_2, rfl, rfl, HA, HK2, HO_3, HO_4, HO_19, HB⟩ := hrel
   cases gk with | zero => exact absurd HA.out (by simp [impl_heavyChildren.l1]) | succ k2 => ?_
   have H := HA.out
   clear HA
   simp only [impl_heavyChildren.l1] at H
   by_cases c10 : x21_2 < (t318.length : Int)
   rotate_left
   ·rw [if_neg c10] at H
    have c10b0 : decide (x21_2 < (t318.length : Int)) = false := decide_eq_false c10
    clear c10
    by_cases c21 : x4_1.length < 17592186044416
    rotate_left
    ·rw [if_neg c21] at H
     exact absurd H (by simp)
    rw [if_pos c21] at H
    have LMc21 := Aside0.mk c21
    clear c21
    obtain ⟨y324, hy324⟩ : ∃ y_ : List Int, y_ = (x4_1 ++ [x6_2]) := ⟨_, rfl⟩
    replace H : (impl_heavyChildren.l0 k2 l0 t312 y324 (l0.length : Int) (wrap64 (x14_1 + 1))) = some r := by first | (rw [hy324]; with_reducible exact H) | (have H2_ := (Option.bind_some _ _).symm.trans H; rw [hy324]; with_reducible exact H2_) | (have H2_ := (Option.bind_some _ _).symm.trans H; with_reducible exact H2_) | with_reducible exact H | (rw [hy324]; exact H) | exact H
    have Ny324 := Aside0.mk hy324
    clear hy324
    have H' := Aside0.mk H
    clear H
    go_wp2_with (first | ((with_reducible refine gate_builtin (b := .append) (xs := #[.tmp 40, .tmp 42]) rfl ?_); at_builtin; refine Kd.R_append (Kd.int .i64) (w0 := w) w.heap.size rfl (.tmp 40) (.tmp 42) 24 2 (.int .i64 0) 8 rfl Try.underlying24 info2 rfl (by decide) (by omega) u4 x4_1 x6_2 [.int .i64 x6_2] (fun k_ => some k_ ≠ (v313 : Value).ownBlock ∧ some k_ ≠ (.slice Ao9 t318.length co9 : Value).ownBlock) (fun _ => False) rfl rfl ?aP (fun _ hk => hk.elim) ?aF ?aO ?aB ?aS ?aL ?_; (case aP => exact rfl); (case aB => exact hq); (case aF => exact (fun k_ hk => ⟨Kd.fresh' (Kd.R_lt (pe HO_3.out)) k_ hk, Kd.fresh' (Kd.R_lt (pe HO_19.out)) k_ hk⟩)); (case aO => exact (pe HO_4.out)); (case aS => exact (below_size hq)); (case aL => have := LMc21.out; omega); intro v325 w22 ho hb hg hat; rw [← Ny324.out] at ho; replace HO_3 := Aside0.mk (Kd.R_after (ok := (fun k_ => some k_ ≠ (.slice Ao9 t318.length co9 : Value).ownBlock)) (pe (Kd.R_mono HO_3.out (fun _ hk => ⟨hk.2, hk.1⟩))) hg hat); replace HO_19 := Aside0.mk (Kd.R_after (ok := (fun k_ => some k_ ≠ (v313 : Value).ownBlock)) (pe HO_19.out) hg hat); replace HB := Aside0.mk (hb); have HO326 := Aside0.mk (ho); clear HO_4; clear ho hb hg hat))
    repeat (go_quiet (fail); try go_wp2_with (first | ((with_reducible refine gate_builtin (b := .append) (xs := #[.tmp 40, .tmp 42]) rfl ?_); at_builtin; refine Kd.R_append (Kd.int .i64) (w0 := w) w.heap.size rfl (.tmp 40) (.tmp 42) 24 2 (.int .i64 0) 8 rfl Try.underlying24 info2 rfl (by decide) (by omega) u4 x4_1 x6_2 [.int .i64 x6_2] (fun k_ => some k_ ≠ (v313 : Value).ownBlock ∧ some k_ ≠ (.slice Ao9 t318.length co9 : Value).ownBlock) (fun _ => False) rfl rfl ?aP (fun _ hk => hk.elim) ?aF ?aO ?aB ?aS ?aL ?_; (case aP => exact rfl); (case aB => exact hq); (case aF => exact (fun k_ hk => ⟨Kd.fresh' (Kd.R_lt (pe HO_3.out)) k_ hk, Kd.fresh' (Kd.R_lt (pe HO_19.out)) k_ hk⟩)); (case aO => exact (pe HO_4.out)); (case aS => exact (below_size hq)); (case aL => have := LMc21.out; omega); intro v325 w22 ho hb hg hat; rw [← Ny324.out] at ho; replace HO_3 := Aside0.mk (Kd.R_after (ok := (fun k_ => some k_ ≠ (.slice Ao9 t318.length co9 : Value).ownBlock)) (pe (Kd.R_mono HO_3.out (fun _ hk => ⟨hk.2, hk.1⟩))) hg hat); replace HO_19 := Aside0.mk (Kd.R_after (ok := (fun k_ => some k_ ≠ (v313 : Value).ownBlock)) (pe HO_19.out) hg hat); replace HB := Aside0.mk (hb); have HO326 := Aside0.mk (ho); clear HO_4; clear ho hb hg hat)))
    go_roundg k2
    case measure => have := HK1.out; have := HK2.out; omega
    case rel => exact ⟨(y324), (wrap64 (x14_1 + 1)), q5_1, H', ⟨q5_3⟩, ⟨pe (Kd.R_mono HO_3.out (fun _ hk => hk.2))⟩, ⟨pe (Kd.R_mono HO326.out (fun _ hk => hk.1))⟩, ⟨hq⟩⟩
   rw [if_pos c10] at H
   have c10b0 : decide (x21_2 < (t318.length : Int)) = true := decide_eq_true c10
   clear c10
   by_cases c11 : 0 ≤ x21_2
   rotate_left
   ·rw [if_neg c11] at H
    exact absurd H (by simp)
   rw [if_pos c11] at H
   have c11b0 : decide (0 ≤ x21_2) = true := decide_eq_true c11
   clear c11
   by_cases c12 : x21_2 < (t318.length : Int)
   rotate_left
   ·rw [if_neg c12] at H
    exact absurd H (by simp)
   rw [if_pos c12] at H
   have c12b0 : decide (x21_2 < (t318.length : Int)) = true := decide_eq_true c12
   clear c12
   by_cases c13 : x6_2 < 0
   ·rw [if_pos c13] at H
    have c13b0 : decide (x6_2 < 0) = true := decide_eq_true c13
    clear c13
    have H' := Aside0.mk H
    clear H
    have p321 : 0 ≤ (x21_2 : Int) := of_decide_eq_true q5_0
    have q321 : x21_2 < (t318.length : Int) := of_decide_eq_true q5_0
    (try (obtain ⟨Aop_, cop_, eop_⟩ := Kd.R_slice HO_19.out; subst eop_))
    obtain ⟨ad321, e321, hx321_0⟩ := Kd.at_int (Kd.R_reads' HO_19.out).2.2 x21_2 p321 q321
    cases e321
    replace p321 := eq_true p321
    replace q321 := eq_true q321
    go_wp2
    repeat (go_quiet (fail); try go_wp2)
    go_roundg k2
    case measure => have := HK1.out; have := HK2.out; omega
    case rel => exact ⟨(rd t318 x21_2), (wrap64 (x21_2 + 1)), q5_1, q5_1, H', ⟨q5_3⟩, ⟨pe HO_3.out⟩, ⟨pe HO_4.out⟩, ⟨pe HO_19.out⟩, ⟨hq⟩⟩
   rw [if_neg c13] at H
   have c13b0 : decide (x6_2 < 0) = false := decide_eq_false c13
   clear c13
   by_cases c14 : 0 ≤ (rd t318 x21_2)
   rotate_left
   ·rw [if_neg c14] at H
    exact absurd H (by simp)
   rw [if_pos c14] at H
   have c14b0 : decide (0 ≤ (rd t318 x21_2)) = true := decide_eq_true c14
   clear c14
   by_cases c15 : (rd t318 x21_2) < (t312.length : Int)
   rotate_left
   ·rw [if_neg c15] at H
    exact absurd H (by simp)
   rw [if_pos c15] at H
   have c15b0 : decide ((rd t318 x21_2) < (t312.length : Int)) = true := decide_eq_true c15
   clear c15
   by_cases c16 : 0 ≤ x6_2
   rotate_left
   ·rw [if_neg c16] at H
    exact absurd H (by simp)
   rw [if_pos c16] at H
   have c16b0 : decide (0 ≤ x6_2) = true := decide_eq_true c16
   clear c16
   by_cases c17 : x6_2 < (t312.length : Int)
   rotate_left
   ·rw [if_neg c17] at H
    exact absurd H (by simp)
   rw [if_pos c17] at H
   have c17b0 : decide (x6_2 < (t312.length : Int)) = true := decide_eq_true c17
   clear c17
   by_cases c18 : (rd t312 (rd t318 x21_2)) > (rd t312 x6_2)
   ·rw [if_pos c18] at H
    have c18b0 : decide ((rd t312 x6_2) < (rd t312 (rd t318 x21_2))) = true := decide_eq_true c18
    clear c18
    have H' := Aside0.mk H
    clear H
    have p321 : 0 ≤ (x21_2 : Int) := of_decide_eq_true q5_0
    have q321 : x21_2 < (t318.length : Int) := of_decide_eq_true q5_0
    (try (obtain ⟨Aop_, cop_, eop_⟩ := Kd.R_slice HO_19.out; subst eop_))
    obtain ⟨ad321, e321, hx321_0⟩ := Kd.at_int (Kd.R_reads' HO_19.out).2.2 x21_2 p321 q321
    cases e321
    replace p321 := eq_true p321
    replace q321 := eq_true q321
    obtain ⟨Ao19, co19, eo19⟩ := Kd.R_slice HO_3.out
    subst eo19
    have p322 : 0 ≤ ((rd t318 x21_2) : Int) := of_decide_eq_true q5_0
    have q322 : (rd t318 x21_2) < (t312.length : Int) := of_decide_eq_true q5_0
    (try (obtain ⟨Aop_, cop_, eop_⟩ := Kd.R_slice HO_3.out; subst eop_))
    obtain ⟨ad322, e322, hx322_0⟩ := Kd.at_int (Kd.R_reads' HO_3.out).2.2 (rd t318 x21_2) p322 q322
    cases e322
    replace p322 := eq_true p322
    replace q322 := eq_true q322
    have p323 : 0 ≤ (x6_2 : Int) := of_decide_eq_true q5_0
    have q323 : x6_2 < (t312.length : Int) := of_decide_eq_true q5_0
    (try (obtain ⟨Aop_, cop_, eop_⟩ := Kd.R_slice HO_3.out; subst eop_))
    obtain ⟨ad323, e323, hx323_0⟩ := Kd.at_int (Kd.R_reads' HO_3.out).2.2 x6_2 p323 q323
    obtain rfl : ad322 = ad323 := (by injection e323)
    replace p323 := eq_true p323
    replace q323 := eq_true q323
    go_wp2
    repeat (go_quiet (fail); try go_wp2)
    go_roundg k2
    case measure => have := HK1.out; have := HK2.out; omega
    case rel => exact ⟨(rd t318 x21_2), (wrap64 (x21_2 + 1)), q5_1, q5_1, H', ⟨q5_3⟩, ⟨pe HO_3.out⟩, ⟨pe HO_4.out⟩, ⟨pe HO_19.out⟩, ⟨hq⟩⟩
   rw [if_neg c18] at H
   have c18b0 : decide ((rd t312 x6_2) < (rd t312 (rd t318 x21_2))) = false := decide_eq_false c18
   clear c18
   have H' := Aside0.mk H
   clear H
   have p321 : 0 ≤ (x21_2 : Int) := of_decide_eq_true q5_0
   have q321 : x21_2 < (t318.length : Int) := of_decide_eq_true q5_0
   (try (obtain ⟨Aop_, cop_, eop_⟩ := Kd.R_slice HO_19.out; subst eop_))
   obtain ⟨ad321, e321, hx321_0⟩ := Kd.at_int (Kd.R_reads' HO_19.out).2.2 x21_2 p321 q321
   cases e321
   replace p321 := eq_true p321
   replace q321 := eq_true q321
   obtain ⟨Ao20, co20, eo20⟩ := Kd.R_slice HO_3.out
   subst eo20
   have p322 : 0 ≤ ((rd t318 x21_2) : Int) := of_decide_eq_true q5_0
   have q322 : (rd t318 x21_2) < (t312.length : Int) := of_decide_eq_true q5_0
   (try (obtain ⟨Aop_, cop_, eop_⟩ := Kd.R_slice HO_3.out; subst eop_))
   obtain ⟨ad322, e322, hx322_0⟩ := Kd.at_int (Kd.R_reads' HO_3.out).2.2 (rd t318 x21_2) p322 q322
   cases e322
   replace p322 := eq_true p322
   replace q322 := eq_true q322
   have p323 : 0 ≤ (x6_2 : Int) := of_decide_eq_true q5_0
   have q323 : x6_2 < (t312.length : Int) := of_decide_eq_true q5_0
   (try (obtain ⟨Aop_, cop_, eop_⟩ := Kd.R_slice HO_3.out; subst eop_))
   obtain ⟨ad323, e323, hx323_0⟩ := Kd.at_int (Kd.R_reads' HO_3.out).2.2 x6_2 p323 q323
   obtain rfl : ad322 = ad323 := (by injection e323)
   replace p323 := eq_true p323
   replace q323 := eq_true q323
   go_wp2
   repeat (go_quiet (fail); try go_wp2)
   go_roundg k2
   case measure => have := HK1.out; have := HK2.out; omega
   case rel => exact ⟨(x6_2), (wrap64 (x21_2 + 1)), q5_1, q5_1, H', ⟨q5_3⟩, ⟨pe HO_3.out⟩, ⟨pe HO_4.out⟩, ⟨pe HO_19.out⟩, ⟨hq⟩⟩

/-! ### slices_Index_int64_int64: function 79 -/
def slices_Index_int64_int64.l0 : Nat → List Int → Int → Int → Int → Option (Int)
 | 0, _, _, _, _ => none
 | k + 1, x0, x1, x7, x8 => if x8 < x7 then (if 0 ≤ x8 then (if x8 < (x0.length : Int) then (if x1 = (rd x0 x8) then (some x8) else (slices_Index_int64_int64.l0 k x0 x1 x7 (wrap64 (x8 + 1)))) else (none)) else (none)) else (some (-1))
def slices_Index_int64_int64.f (k : Nat) (l0 : List Int) (a1 : Int) : Option (Int) := slices_Index_int64_int64.l0 k l0 a1 (l0.length : Int) 0
theorem slices_Index_int64_int64.mono_l : ∀ k, (∀ y0 y1 y2 y3, LeO (slices_Index_int64_int64.l0 k y0 y1 y2 y3) (slices_Index_int64_int64.l0 (k + 1) y0 y1 y2 y3))
 | 0 => fun _ _ _ _ r h => by simp [slices_Index_int64_int64.l0] at h
 | k + 1 => by
  have ih0 := slices_Index_int64_int64.mono_l k
  ·intro y0 y1 y2 y3
   unfold slices_Index_int64_int64.l0
   repeat' first
   | (with_reducible exact ih0 _ _ _ _)
   | (with_reducible exact LeO.refl _)
   | (with_reducible exact LeO.none _)
   | (with_reducible refine LeO.ite ?_ ?_)
   | (with_reducible refine LeO.bind ?_ (fun _ => ?_))
   | exact ih0 _ _ _ _
   | exact LeO.none _
   | refine LeO.ite ?_ ?_
   | refine LeO.bind ?_ (fun _ => ?_)
theorem slices_Index_int64_int64.mono : ∀ a0 a1 k, LeO (slices_Index_int64_int64.f k a0 a1) (slices_Index_int64_int64.f (k + 1) a0 a1) := by
 intro a0 a1 k
 have ih0 := slices_Index_int64_int64.mono_l k
 unfold slices_Index_int64_int64.f
 repeat' first
   | (with_reducible exact ih0 _ _ _ _)
   | (with_reducible exact LeO.refl _)
   | (with_reducible exact LeO.none _)
   | (with_reducible refine LeO.ite ?_ ?_)
   | (with_reducible refine LeO.bind ?_ (fun _ => ?_))
   | exact ih0 _ _ _ _
   | exact LeO.none _
   | refine LeO.ite ?_ ?_
   | refine LeO.bind ?_ (fun _ => ?_)
set_option maxHeartbeats 8000000 in
set_option maxRecDepth 100000 in
theorem slices_Index_int64_int64.calls (k : Nat) (A0 : Option Addr) (c0 : Nat) (l0 : List Int) (a1 : Int) (r : Int) (w : World) (hr0 : Kd.C (Kd.int .i64) w A0 l0.length l0) (hc0 : l0.length ≤ c0) (h : slices_Index_int64_int64.f k l0 a1 = some r) :
  Calls Try.prog 79 #[.slice A0 l0.length c0, .int .i64 a1] w fun e w' => e = .returned (.int .i64 r) ∧ Drawn0 w w' := by
 have HR0 := Aside0.mk hr0
 have HC0 := Aside0.mk hc0
 clear hr0 hc0
 have H : (slices_Index_int64_int64.l0 k l0 a1 (l0.length : Int) 0) = some r := h
 clear h
 have H' := Aside0.mk H
 clear H
 go_enter Try.func79, Try.ntmps79
 go_wp2
 go_loopg [8] k (fun kq v8 w' => ∃ (x8_1 : Int), v8 = .int .i64 x8_1 ∧ Aside0 (slices_Index_int64_int64.l0 kq l0 a1 (l0.length : Int) x8_1 = some r) ∧ Aside0 (kq ≤ k) ∧ Drawn0 w w')
 case atStart => exact ⟨(0), q5_1, H', ⟨Nat.le_refl _⟩, q5_2⟩
 case round =>
  clear H'
  try clear p2
  obtain ⟨x8_1, rfl, HA, HK1, ⟨m1, rfl⟩⟩ := hrel
  cases gk with | zero => exact absurd HA.out (by simp [slices_Index_int64_int64.l0]) | succ k1 => ?_
  have H := HA.out
  clear HA
  simp only [slices_Index_int64_int64.l0] at H
  by_cases c3 : x8_1 < (l0.length : Int)
  rotate_left
  ·rw [if_neg c3] at H
   have c3b0 : decide (x8_1 < (l0.length : Int)) = false := decide_eq_false c3
   clear c3
   obtain rfl := Option.some.inj H
   go_wp2
   go_ret
   exact ⟨q5_1, q5_2⟩
  rw [if_pos c3] at H
  have c3b0 : decide (x8_1 < (l0.length : Int)) = true := decide_eq_true c3
  clear c3
  by_cases c4 : 0 ≤ x8_1
  rotate_left
  ·rw [if_neg c4] at H
   exact absurd H (by simp)
  rw [if_pos c4] at H
  have c4b0 : decide (0 ≤ x8_1) = true := decide_eq_true c4
  clear c4
  by_cases c5 : x8_1 < (l0.length : Int)
  rotate_left
  ·rw [if_neg c5] at H
   exact absurd H (by simp)
  rw [if_pos c5] at H
  have c5b0 : decide (x8_1 < (l0.length : Int)) = true := decide_eq_true c5
  clear c5
  by_cases c6 : a1 = (rd l0 x8_1)
  ·rw [if_pos c6] at H
   have c6b0 : (a1 == (rd l0 x8_1)) = true := beq_iff_eq.mpr c6
   have c6b1 : (a1 != (rd l0 x8_1)) = false := bne_eq_false_iff_eq.mpr c6
   clear c6
   obtain rfl := Option.some.inj H
   have p327 : 0 ≤ (x8_1 : Int) := of_decide_eq_true q5_0
   have q327 : x8_1 < (l0.length : Int) := of_decide_eq_true q5_0
   obtain ⟨ad327, e327, hx327_0⟩ := Kd.at_int HR0.out x8_1 p327 q327
   cases e327
   replace p327 := eq_true p327
   replace q327 := eq_true q327
   go_wp2
   go_ret
   exact ⟨q5_1, q5_2⟩
  rw [if_neg c6] at H
  have c6b0 : (a1 == (rd l0 x8_1)) = false := beq_eq_false_iff_ne.mpr c6
  have c6b1 : (a1 != (rd l0 x8_1)) = true := bne_iff_ne.mpr c6
  have H' := Aside0.mk H
  clear H
  have p327 : 0 ≤ (x8_1 : Int) := of_decide_eq_true q5_0
  have q327 : x8_1 < (l0.length : Int) := of_decide_eq_true q5_0
  obtain ⟨ad327, e327, hx327_0⟩ := Kd.at_int HR0.out x8_1 p327 q327
  cases e327
  replace p327 := eq_true p327
  replace q327 := eq_true q327
  go_wp2
  go_roundg k1
  case measure => have := HK1.out; omega
  case rel => exact ⟨(wrap64 (x8_1 + 1)), q5_1, H', ⟨by have := HK1.out; omega⟩, q5_2⟩

/-! ### slices_Contains_int64_int64: function 40 -/
def slices_Contains_int64_int64.f (k : Nat) (l0 : List Int) (a1 : Int) : Option (Bool) := (slices_Index_int64_int64.f k l0 a1).bind fun t328 => (some (decide (t328 ≥ 0)))
theorem slices_Contains_int64_int64.mono : ∀ a0 a1 k, LeO (slices_Contains_int64_int64.f k a0 a1) (slices_Contains_int64_int64.f (k + 1) a0 a1) := by
 intro a0 a1 k
 unfold slices_Contains_int64_int64.f
 repeat' first
   | (with_reducible exact slices_Index_int64_int64.mono _ _ _)
   | (with_reducible exact LeO.refl _)
   | (with_reducible exact LeO.none _)
   | (with_reducible refine LeO.ite ?_ ?_)
   | (with_reducible refine LeO.bind ?_ (fun _ => ?_))
   | exact slices_Index_int64_int64.mono _ _ _
   | exact LeO.none _
   | refine LeO.ite ?_ ?_
   | refine LeO.bind ?_ (fun _ => ?_)
set_option maxHeartbeats 8000000 in
set_option maxRecDepth 100000 in
theorem slices_Contains_int64_int64.calls (k : Nat) (A0 : Option Addr) (c0 : Nat) (l0 : List Int) (a1 : Int) (r : Bool) (w : World) (hr0 : Kd.C (Kd.int .i64) w A0 l0.length l0) (hc0 : l0.length ≤ c0) (h : slices_Contains_int64_int64.f k l0 a1 = some r) :
  Calls Try.prog 40 #[.slice A0 l0.length c0, .int .i64 a1] w fun e w' => e = .returned (.bool r) ∧ Drawn0 w w' := by
 have HR0 := Aside0.mk hr0
 have HC0 := Aside0.mk hc0
 clear hr0 hc0
 have H : ((slices_Index_int64_int64.f k l0 a1).bind fun t328 => (some (decide (t328 ≥ 0)))) = some r := h
 clear h
 replace H := Option.bind_eq_some_iff.mp H
 obtain ⟨t328, A30, H⟩ := H
 replace H : (some (decide (t328 ≥ 0))) = some r := H
 have A3 := Aside0.mk A30
 clear A30
 obtain rfl := Option.some.inj H
 go_enter Try.func40, Try.ntmps40
 go_wp2_with (first | ((with_reducible refine gate_callee (f := 79) rfl ?_); refine goesL_ (some 7) rfl rfl Try.func79 (by kernel_rfl) rfl #[.slice A0 l0.length c0, .int .i64 a1] rfl am ?_; (with_reducible refine (slices_Index_int64_int64.calls k _ _ l0 a1 t328 _ ?side1 ?side2 A3.out).mono ?_); (case side1 => exact pc (HR0.out)); (case side2 => exact HC0.out); rintro e w' ⟨rfl, ⟨nd, rfl⟩⟩; refine ⟨_, rfl, ?_⟩))
 go_ret
 exact ⟨q5_1, q5_2⟩

/-! ### impl_HeavyPaths: function 7 -/
mutual
def impl_HeavyPaths.l0 : Nat → List Int → List (List Int) → Int → Int → Option ((List (List Int)) × Int)
 | 0, _, _, _, _ => none
 | k + 1, x4, x5, x17, x18 => if x18 < x17 then ((slices_Contains_int64_int64.f k x4 x18).bind fun t337 => (if t337 = true then (impl_HeavyPaths.l0 k x4 x5 x17 (wrap64 (x18 + 1))) else (impl_HeavyPaths.l1 k x4 x5 ([] : List Int) x18 x17 x18))) else (some (x5, 0))
def impl_HeavyPaths.l1 : Nat → List Int → List (List Int) → List Int → Int → Int → Int → Option ((List (List Int)) × Int)
 | 0, _, _, _, _, _, _ => none
 | k + 1, x4, x5, x7, x8, x17, x18 => if x8 ≥ 0 then (if x7.length < 17592186044416 then (if 0 ≤ x8 then (if x8 < (x4.length : Int) then (impl_HeavyPaths.l1 k x4 x5 (x7 ++ [x8]) (rd x4 x8) x17 x18) else (none)) else (none)) else (none)) else (if x5.length < 5864062014805 then (impl_HeavyPaths.l0 k x4 (x5 ++ [x7]) x17 (wrap64 (x18 + 1))) else (none))
end
def impl_HeavyPaths.f (k : Nat) (l0_0 : List Int) : Option ((List (List Int)) × Int) := (impl_IsTree.f k l0_0).bind fun t330 => (if t330 = true then ((impl_heavyChildren.f k l0_0).bind fun t331 => (impl_HeavyPaths.l0 k t331 ([] : List (List Int)) (t331.length : Int) 0)) else (some (([] : List (List Int)), 1)))
theorem impl_HeavyPaths.mo0 {P : Prop} (h : P := by repeat' first  | (with_reducible exact ih0 _ _ _ _) | (with_reducible exact ih1 _ _ _ _ _ _) | (with_reducible exact impl_IsTree.mono _ _) | (with_reducible exact impl_heavyChildren.mono _ _) | (with_reducible exact slices_Contains_int64_int64.mono _ _ _) | (with_reducible exact LeO.refl _) | (with_reducible exact LeO.none _) | (with_reducible refine LeO.ite ?_ ?_) | (with_reducible refine LeO.bind ?_ (fun _ => ?_)) | exact ih0 _ _ _ _ | exact ih1 _ _ _ _ _ _ | exact impl_IsTree.mono _ _ | exact impl_heavyChildren.mono _ _ | exact slices_Contains_int64_int64.mono _ _ _ | exact LeO.none _ | refine LeO.ite ?_ ?_ | refine LeO.bind ?_ (fun _ => ?_)) : P := h
theorem impl_HeavyPaths.mono_l : ∀ k, (∀ y0 y1 y2 y3, LeO (impl_HeavyPaths.l0 k y0 y1 y2 y3) (impl_HeavyPaths.l0 (k + 1) y0 y1 y2 y3)) ∧ (∀ y0 y1 y2 y3 y4 y5, LeO (impl_HeavyPaths.l1 k y0 y1 y2 y3 y4 y5) (impl_HeavyPaths.l1 (k + 1) y0 y1 y2 y3 y4 y5))
 | 0 => ⟨fun _ _ _ _ r h => by simp [impl_HeavyPaths.l0] at h, fun _ _ _ _ _ _ r h => by simp [impl_HeavyPaths.l1] at h⟩
 | k + 1 => by
  obtain ⟨ih0, ih1⟩ := impl_HeavyPaths.mono_l k
  refine ⟨?_, ?_⟩
  ·intro y0 y1 y2 y3
   unfold impl_HeavyPaths.l0
   exact impl_HeavyPaths.mo0
  ·intro y0 y1 y2 y3 y4 y5
   unfold impl_HeavyPaths.l1
   exact impl_HeavyPaths.mo0
theorem impl_HeavyPaths.mono : ∀ a0 k, LeO (impl_HeavyPaths.f k a0) (impl_HeavyPaths.f (k + 1) a0) := by
 intro a0 k
 obtain ⟨ih0, ih1⟩ := impl_HeavyPaths.mono_l k
 unfold impl_HeavyPaths.f
 repeat' first
   | (with_reducible exact ih0 _ _ _ _)
   | (with_reducible exact ih1 _ _ _ _ _ _)
   | (with_reducible exact impl_IsTree.mono _ _)
   | (with_reducible exact impl_heavyChildren.mono _ _)
   | (with_reducible exact slices_Contains_int64_int64.mono _ _ _)
   | (with_reducible exact LeO.refl _)
   | (with_reducible exact LeO.none _)
   | (with_reducible refine LeO.ite ?_ ?_)
   | (with_reducible refine LeO.bind ?_ (fun _ => ?_))
   | exact ih0 _ _ _ _
   | exact ih1 _ _ _ _ _ _
   | exact impl_IsTree.mono _ _
   | exact impl_heavyChildren.mono _ _
   | exact slices_Contains_int64_int64.mono _ _ _
   | exact LeO.none _
   | refine LeO.ite ?_ ?_
   | refine LeO.bind ?_ (fun _ => ?_)
set_option maxHeartbeats 8000000 in
set_option maxRecDepth 100000 in
theorem impl_HeavyPaths.calls (k : Nat) (A0_0 : Option Addr) (c0_0 : Nat) (l0_0 : List Int) (r1 : List (List Int)) (r2 : Int) (w : World) (hr0_0 : Kd.C (Kd.int .i64) w A0_0 l0_0.length l0_0) (hc0_0 : l0_0.length ≤ c0_0) (h : impl_HeavyPaths.f k l0_0 = some (r1, r2)) :
  Calls Try.prog 7 #[.agg #[.slice A0_0 l0_0.length c0_0]] w fun e w' => ∃ v0_ : Value, e = .returned (.tuple #[v0_, .int .i64 r2]) ∧ Kd.S (Kd.slice 2 (Kd.int .i64)) 24 w' w.heap.size (fun _ => True) v0_ r1 ∧ Below w.heap.size w w' := by
 have hu26 := Try.underlying26
 have HR0_0 := Aside0.mk hr0_0
 have HC0_0 := Aside0.mk hc0_0
 clear hr0_0 hc0_0
 have HB := Aside0.mk (Below.refl w.heap.size w)
 have H : ((impl_IsTree.f k l0_0).bind fun t330 => (if t330 = true then ((impl_heavyChildren.f k l0_0).bind fun t331 => (impl_HeavyPaths.l0 k t331 ([] : List (List Int)) (t331.length : Int) 0)) else (some (([] : List (List Int)), 1)))) = some (r1, r2) := h
 clear h
 replace H := Option.bind_eq_some_iff.mp H
 obtain ⟨t330, A20, H⟩ := H
 replace H : (if t330 = true then ((impl_heavyChildren.f k l0_0).bind fun t331 => (impl_HeavyPaths.l0 k t331 ([] : List (List Int)) (t331.length : Int) 0)) else (some (([] : List (List Int)), 1))) = some (r1, r2) := H
 have A2 := Aside0.mk A20
 clear A20
 by_cases c3 : t330 = true
 rotate_left
 ·replace c3 := Bool.eq_false_iff.mpr c3
  subst c3
  have H1 : (some (([] : List (List Int)), 1)) = some (r1, r2) := by rw [if_neg (show ¬ (false = true) by decide)] at H; exact H
  clear H
  have H := H1
  clear H1
  simp only [Option.some.injEq, Prod.mk.injEq] at H
  obtain ⟨rfl, rfl⟩ := H
  go_enter Try.func7, Try.ntmps7
  go_wp2_with (first | ((with_reducible refine gate_dst (N := 1) rfl ?_); refine box_event ?hg (N := 1) ?hd (cs := #[.slice A0_0 l0_0.length c0_0]) (t := 26) ?hr ?_; (case hd => rfl); (case hg => rfl); (case hr => exact gs); intro gb329 hg w26 hbox hb; have BK329 := Aside0.mk (hbox); have GW329 := Aside0.mk (geb hg hq : w.heap.size ≤ gb329); have GE329 := Aside0.mk (geb hg hq : w.heap.size ≤ gb329); replace HB := Aside0.mk (below_step hq hb); clear hb hbox hg; have hcz27_0 : w26.cell? ⟨gb329, 0, none⟩ = some (.slice A0_0 l0_0.length c0_0) := (blk_cell BK329.out 0).trans rfl; have hfz27_0 := blk_frozen BK329.out 0) | ((with_reducible refine gate_callee (f := 38) rfl ?_); refine goesL_ (some 10) rfl rfl Try.func38 (by kernel_rfl) rfl #[.agg #[.slice A0_0 l0_0.length c0_0]] rfl am ?_; (with_reducible refine (impl_IsTree.calls k _ _ l0_0 false _ ?side1 ?side2 A2.out).mono ?_); (case side1 => exact pc (Kd.C_below HR0_0.out HB.out)); (case side2 => exact HC0_0.out); rintro e w28 ⟨rfl, hb⟩; refine ⟨_, rfl, ?_⟩; replace BK329 := bb BK329 hb; replace HB := Aside0.mk (below_step hq hb); (try clear hb); (try clear hb2); (try clear hk); (try clear hi)))
  go_ret2
  exact ⟨_, ew, by first | exact Kd.S_nil _ _ _ _ _ | exact Kd.N_nil _ _ _ _ _ | exact Kd.V_nil _ _ _ _ _ | exact Kd.Q_nil _ _ _ _ _ | exact Kd.R_nil _ _ _ _ _, hq⟩
 subst c3
 replace H : ((impl_heavyChildren.f k l0_0).bind fun t331 => (impl_HeavyPaths.l0 k t331 ([] : List (List Int)) (t331.length : Int) 0)) = some (r1, r2) := by rw [if_pos rfl] at H; exact H
 replace H := Option.bind_eq_some_iff.mp H
 obtain ⟨t331, A40, H⟩ := H
 replace H : (impl_HeavyPaths.l0 k t331 ([] : List (List Int)) (t331.length : Int) 0) = some (r1, r2) := H
 have A4 := Aside0.mk A40
 clear A40
 obtain ⟨y334, hy334⟩ : ∃ y_ : List (List Int), y_ = ([] : List (List Int)) := ⟨_, rfl⟩
 replace H : (impl_HeavyPaths.l0 k t331 y334 (t331.length : Int) 0) = some (r1, r2) := by first | (rw [hy334]; with_reducible exact H) | (have H2_ := (Option.bind_some _ _).symm.trans H; rw [hy334]; with_reducible exact H2_) | (have H2_ := (Option.bind_some _ _).symm.trans H; with_reducible exact H2_) | with_reducible exact H | (rw [hy334]; exact H) | exact H
 have Ny334 := Aside0.mk hy334
 clear hy334
 have H' := Aside0.mk H
 clear H
 go_enter Try.func7, Try.ntmps7
 go_wp2_with (first | ((with_reducible refine gate_dst (N := 1) rfl ?_); refine box_event ?hg (N := 1) ?hd (cs := #[.slice A0_0 l0_0.length c0_0]) (t := 26) ?hr ?_; (case hd => rfl); (case hg => rfl); (case hr => exact gs); intro gb329 hg w5 hbox hb; have BK329 := Aside0.mk (hbox); have GW329 := Aside0.mk (geb hg hq : w.heap.size ≤ gb329); have GE329 := Aside0.mk (geb hg hq : w.heap.size ≤ gb329); replace HB := Aside0.mk (below_step hq hb); clear hb hbox hg; have hcz6_0 : w5.cell? ⟨gb329, 0, none⟩ = some (.slice A0_0 l0_0.length c0_0) := (blk_cell BK329.out 0).trans rfl; have hfz6_0 := blk_frozen BK329.out 0) | ((with_reducible refine gate_callee (f := 38) rfl ?_); refine goesL_ (some 10) rfl rfl Try.func38 (by kernel_rfl) rfl #[.agg #[.slice A0_0 l0_0.length c0_0]] rfl am ?_; (with_reducible refine (impl_IsTree.calls k _ _ l0_0 true _ ?side1 ?side2 A2.out).mono ?_); (case side1 => exact pc (Kd.C_below HR0_0.out HB.out)); (case side2 => exact HC0_0.out); rintro e w7 ⟨rfl, hb⟩; refine ⟨_, rfl, ?_⟩; replace BK329 := bb BK329 hb; replace HB := Aside0.mk (below_step hq hb); (try clear hb); (try clear hb2); (try clear hk); (try clear hi); have hcz8_0 : w7.cell? ⟨gb329, 0, none⟩ = some (.slice A0_0 l0_0.length c0_0) := (blk_cell BK329.out 0).trans rfl; have hfz8_0 := blk_frozen BK329.out 0) | ((with_reducible refine gate_callee (f := 39) rfl ?_); refine goesL_ (some 14) rfl rfl Try.func39 (by kernel_rfl) rfl #[.slice A0_0 l0_0.length c0_0] rfl am ?_; (with_reducible refine (impl_heavyChildren.calls k _ _ l0_0 t331 _ ?side1 ?side2 A4.out).mono ?_); (case side1 => exact pc (Kd.C_below HR0_0.out HB.out)); (case side2 => exact HC0_0.out); rintro e w9 ⟨v332, rfl, ho0, hb⟩; refine ⟨_, rfl, ?_⟩; have HO333 := Aside0.mk (Kd.R_lower ho0 (below_size hq)); replace BK329 := bb BK329 hb; replace HB := Aside0.mk (below_step hq hb); (try clear hb); (try clear hb2); (try clear hk); (try clear hi); (try clear ho0)) | ((with_reducible refine gate_dst (N := 15) rfl ?_); refine Kd.S_lit (Kd.slice 2 (Kd.int .i64)) _ 24 ?hg (N := 15) ?hd (xs := ([] : List (List Int))) (inner := []) (ok := fun _ => True) (okp := fun _ => True) ?hr ?hp (fun _ hk => hk) trivial (Below.refl _ _) (Nat.le_refl _) (by simp) ?_; (case hd => rfl); (case hg => rfl); (case hr => exact gs); (case hp => exact (Reps.none _ _)); intro v335 w10 ho11 hb hg_ hnew_; clear hg_ hnew_; (first | rw [← Ny334.out] at ho11 | (simp only [Int.reduceToNat] at ho11; rw [← Ny334.out] at ho11)); have HO336 := Aside0.mk (Kd.S_lower (Kd.S_new' ho11 (Kd.R_lt (pe HO333.out))) (below_size hq)); replace HO333 := rb HO333 hb; replace BK329 := bb BK329 hb; replace HB := Aside0.mk (below_step hq hb); clear hb ho11; obtain ⟨Ao12, co12, eo12⟩ := Kd.R_slice HO333.out; subst eo12))
 go_loopg [5, 18] k (fun kq v5 v18 w' => ∃ (x5_1 : List (List Int)) (x18_1 : Int), v18 = .int .i64 x18_1 ∧ Aside0 (impl_HeavyPaths.l0 kq t331 x5_1 (t331.length : Int) x18_1 = some (r1, r2)) ∧ Aside0 (kq ≤ k) ∧ Aside0 (Kd.R (Kd.int .i64) 2 w' w.heap.size (fun _ => True) (.slice Ao12 t331.length co12) t331) ∧ Aside0 (Kd.S (Kd.slice 2 (Kd.int .i64)) 24 w' w.heap.size (fun k_ => some k_ ≠ ((.slice Ao12 t331.length co12) : Value).ownBlock) v5 x5_1) ∧ Aside0 (w'.heap[gb329]? = some (.cells #[(.slice A0_0 l0_0.length c0_0)] 26 (0, 0))) ∧ Aside0 (Below w.heap.size w w'))
 case atStart => exact ⟨(y334), (0), q5_1, H', ⟨Nat.le_refl _⟩, ⟨pe HO333.out⟩, ⟨ps (Kd.S_mono HO336.out (fun _ hk => hk.2))⟩, ⟨pb BK329.out⟩, ⟨hq⟩⟩
 case round =>
  clear H'
  try clear p2
  try clear c3
  try clear c7
  try clear hcz6_0
  try clear hcz8_0
  try clear hfz6_0
  try clear hfz8_0
  obtain ⟨x5_1, x18_1, rfl, HA, HK1, HO_4, HO_5, BK329, HB⟩ := hrel
  cases gk with | zero => exact absurd HA.out (by simp [impl_HeavyPaths.l0]) | succ k1 => ?_
  have H := HA.out
  clear HA
  simp only [impl_HeavyPaths.l0] at H
  by_cases c13 : x18_1 < (t331.length : Int)
  rotate_left
  ·rw [if_neg c13] at H
   have c13b0 : decide (x18_1 < (t331.length : Int)) = false := decide_eq_false c13
   clear c13
   simp only [Option.some.injEq, Prod.mk.injEq] at H
   obtain ⟨rfl, rfl⟩ := H
   go_wp2
   go_ret2
   exact ⟨_, ew, ps (Kd.S_mono HO_5.out (fun _ hk => trivial)), hq⟩
  rw [if_pos c13] at H
  have c13b0 : decide (x18_1 < (t331.length : Int)) = true := decide_eq_true c13
  clear c13
  replace H := Option.bind_eq_some_iff.mp H
  obtain ⟨t337, A140, H⟩ := H
  replace H : (if t337 = true then (impl_HeavyPaths.l0 k1 t331 x5_1 (t331.length : Int) (wrap64 (x18_1 + 1))) else (impl_HeavyPaths.l1 k1 t331 x5_1 ([] : List Int) x18_1 (t331.length : Int) x18_1)) = some (r1, r2) := H
  have A14 := Aside0.mk A140
  clear A140
  by_cases c15 : t337 = true
  ·subst c15
   replace H : (impl_HeavyPaths.l0 k1 t331 x5_1 (t331.length : Int) (wrap64 (x18_1 + 1))) = some (r1, r2) := by rw [if_pos rfl] at H; exact H
   have H' := Aside0.mk H
   clear H
   go_wp2_with (first | ((with_reducible refine gate_callee (f := 40) rfl ?_); refine goesL_ (some 23) rfl rfl Try.func40 (by kernel_rfl) rfl #[.slice Ao12 t331.length co12, .int .i64 x18_1] rfl am ?_; (with_reducible refine (slices_Contains_int64_int64.calls k1 _ _ t331 x18_1 true _ ?side1 ?side2 A14.out).mono ?_); (case side1 => exact pc ((Kd.R_reads' HO_4.out).2.2)); (case side2 => exact (Kd.R_reads' HO_4.out).2.1); rintro e w' ⟨rfl, ⟨nd, rfl⟩⟩; refine ⟨_, rfl, ?_⟩))
   go_roundg k1
   case measure => have := HK1.out; omega
   case rel => exact ⟨(x5_1), (wrap64 (x18_1 + 1)), q5_1, H', ⟨by have := HK1.out; omega⟩, ⟨pe HO_4.out⟩, ⟨ps HO_5.out⟩, ⟨pb BK329.out⟩, ⟨hq⟩⟩
  replace c15 := Bool.eq_false_iff.mpr c15
  subst c15
  have H1 : (impl_HeavyPaths.l1 k1 t331 x5_1 ([] : List Int) x18_1 (t331.length : Int) x18_1) = some (r1, r2) := by rw [if_neg (show ¬ (false = true) by decide)] at H; exact H
  clear H
  have H := H1
  clear H1
  obtain ⟨y338, hy338⟩ : ∃ y_ : List Int, y_ = ([] : List Int) := ⟨_, rfl⟩
  replace H : (impl_HeavyPaths.l1 k1 t331 x5_1 y338 x18_1 (t331.length : Int) x18_1) = some (r1, r2) := by first | (rw [hy338]; with_reducible exact H) | (have H2_ := (Option.bind_some _ _).symm.trans H; rw [hy338]; with_reducible exact H2_) | (have H2_ := (Option.bind_some _ _).symm.trans H; with_reducible exact H2_) | with_reducible exact H | (rw [hy338]; exact H) | exact H
  have Ny338 := Aside0.mk hy338
  clear hy338
  have H' := Aside0.mk H
  clear H
  go_wp2_with (first | ((with_reducible refine gate_callee (f := 40) rfl ?_); refine goesL_ (some 23) rfl rfl Try.func40 (by kernel_rfl) rfl #[.slice Ao12 t331.length co12, .int .i64 x18_1] rfl am ?_; (with_reducible refine (slices_Contains_int64_int64.calls k1 _ _ t331 x18_1 false _ ?side1 ?side2 A14.out).mono ?_); (case side1 => exact pc ((Kd.R_reads' HO_4.out).2.2)); (case side2 => exact (Kd.R_reads' HO_4.out).2.1); rintro e w' ⟨rfl, ⟨nd, rfl⟩⟩; refine ⟨_, rfl, ?_⟩) | ((with_reducible refine gate_dst (N := 24) rfl ?_); refine Kd.R_lit (Kd.int .i64) _ 2 ?hg (N := 24) ?hd (xs := ([] : List Int)) (inner := []) (ok := fun _ => True) (okp := fun _ => True) ?hr ?hp (fun _ hk => hk) trivial (Below.refl _ _) (Nat.le_refl _) (by simp) ?_; (case hd => rfl); (case hg => rfl); (case hr => exact gs); (case hp => exact (Reps.none _ _)); intro v339 w16 ho17 hb hg_ hnew_; clear hg_ hnew_; (first | rw [← Ny338.out] at ho17 | (simp only [Int.reduceToNat] at ho17; rw [← Ny338.out] at ho17)); replace HO_5 := sn HO_5 ho17 hb; have HO340 := Aside0.mk (Kd.R_lower (Kd.R_new' ho17 (Kd.R_lt (pe HO_4.out))) (below_size hq)); replace HO_4 := rn HO_4 ho17 hb; replace BK329 := bb BK329 hb; replace HB := Aside0.mk (below_step hq hb); clear hb ho17))
  go_loopg [7, 8] k1 (fun kq v7 v8 w' => ∃ (x7_2 : List Int) (x8_2 : Int), v8 = .int .i64 x8_2 ∧ Aside0 (impl_HeavyPaths.l1 kq t331 x5_1 x7_2 x8_2 (t331.length : Int) x18_1 = some (r1, r2)) ∧ Aside0 (kq ≤ k1) ∧ Aside0 (Kd.R (Kd.int .i64) 2 w' w.heap.size (fun k_ => some k_ ≠ (v7 : Value).ownBlock) (.slice Ao12 t331.length co12) t331) ∧ Aside0 (Kd.S (Kd.slice 2 (Kd.int .i64)) 24 w' w.heap.size (fun k_ => some k_ ≠ ((.slice Ao12 t331.length co12) : Value).ownBlock ∧ some k_ ≠ (v7 : Value).ownBlock) u5 x5_1) ∧ Aside0 (Kd.R (Kd.int .i64) 2 w' w.heap.size (fun k_ => some k_ ≠ ((.slice Ao12 t331.length co12) : Value).ownBlock) v7 x7_2) ∧ Aside0 (w'.heap[gb329]? = some (.cells #[(.slice A0_0 l0_0.length c0_0)] 26 (0, 0))) ∧ Aside0 (Below w.heap.size w w'))
  case atStart => exact ⟨(y338), (x18_1), q5_1, H', ⟨Nat.le_refl _⟩, ⟨pe (Kd.R_mono HO_4.out (fun _ hk => hk.2))⟩, ⟨ps HO_5.out⟩, ⟨pe (Kd.R_mono HO340.out (fun _ hk => hk.2))⟩, ⟨pb BK329.out⟩, ⟨hq⟩⟩
  case round =>
   clear H'
   try clear c1
   try clear p2
   try clear c3
   try clear c4
   try clear p6
   try clear c7
   try clear c13
   try clear c13b0
   try clear c15
   try clear hcz6_0
   try clear hcz8_0
   try clear hfz6_0
   try clear hfz8_0
   try clear p2
   obtain ⟨x7_2, x8_2, rfl, HA, HK2, HO_4, HO_5, HO_7, BK329, HB⟩ := hrel
   cases gk with | zero => exact absurd HA.out (by simp [impl_HeavyPaths.l1]) | succ k2 => ?_
   have H := HA.out
   clear HA
   simp only [impl_HeavyPaths.l1] at H
   by_cases c18 : x8_2 ≥ 0
   rotate_left
   ·rw [if_neg c18] at H
    have c18b0 : decide (0 ≤ x8_2) = false := decide_eq_false c18
    clear c18
    by_cases c23 : x5_1.length < 5864062014805
    rotate_left
    ·rw [if_neg c23] at H
     exact absurd H (by simp)
    rw [if_pos c23] at H
    have LMc23 := Aside0.mk c23
    clear c23
    obtain ⟨y345, hy345⟩ : ∃ y_ : List (List Int), y_ = (x5_1 ++ [x7_2]) := ⟨_, rfl⟩
    replace H : (impl_HeavyPaths.l0 k2 t331 y345 (t331.length : Int) (wrap64 (x18_1 + 1))) = some (r1, r2) := by first | (rw [hy345]; with_reducible exact H) | (have H2_ := (Option.bind_some _ _).symm.trans H; rw [hy345]; with_reducible exact H2_) | (have H2_ := (Option.bind_some _ _).symm.trans H; with_reducible exact H2_) | with_reducible exact H | (rw [hy345]; exact H) | exact H
    have Ny345 := Aside0.mk hy345
    clear hy345
    have H' := Aside0.mk H
    clear H
    obtain ⟨Ao25, co25, eo25⟩ := Kd.R_slice HO_7.out
    subst eo25
    go_wp2_with (first | ((with_reducible refine gate_builtin (b := .append) (xs := #[.tmp 36, .tmp 38]) rfl ?_); at_builtin; refine Kd.S_append (Kd.slice 2 (Kd.int .i64)) (w0 := w) w.heap.size rfl (.tmp 36) (.tmp 38) 28 24 (.slice none 0 0) 24 rfl Try.underlying28 info24 rfl (by decide) (by omega) u5 x5_1 x7_2 [.slice Ao25 x7_2.length co25] (fun k_ => some k_ ≠ (.slice Ao12 t331.length co12 : Value).ownBlock) (fun k_ => some k_ = (.slice Ao25 x7_2.length co25 : Value).ownBlock) rfl rfl ?aP (fun k_ hk_ => (Kd.R_mono (ok' := fun k_ => (fun k_ => some k_ ≠ (.slice Ao12 t331.length co12 : Value).ownBlock) k_ ∧ some k_ ≠ (u5 : Value).ownBlock) (Kd.R_apart' (HO_7.out) (Kd.S_typed HO_5.out) (by decide)) (fun k_ hk => ⟨hk.1, hk.2⟩)).1 k_ hk_.symm) ?aF ?aO ?aB ?aS ?aL ?_; (case aP => exact Kd.M_row (Kd.R_mono (Kd.R_tight rfl (Kd.R_mono (ok' := fun k_ => (fun k_ => some k_ ≠ (.slice Ao12 t331.length co12 : Value).ownBlock) k_ ∧ some k_ ≠ (u5 : Value).ownBlock) (Kd.R_apart' (HO_7.out) (Kd.S_typed HO_5.out) (by decide)) (fun k_ hk => ⟨hk.1, hk.2⟩))) (fun _ h_ => h_))); (case aB => exact hq); (case aF => exact (fun k_ hk => Kd.fresh' (Kd.R_lt (pe HO_4.out)) k_ hk)); (case aO => exact (ps (Kd.S_mono HO_5.out (fun k_ hk => ⟨hk.1, fun e_ => hk.2 e_⟩)))); (case aS => exact (below_size hq)); (case aL => have := LMc23.out; omega); intro v346 w24 ho hb hg hat; rw [← Ny345.out] at ho; replace HO_4 := Aside0.mk (Kd.R_over' (pe HO_4.out) (Kd.S_typed (ps HO_5.out)) (by decide) hg); replace BK329 := Aside0.mk (blk_grown (g := gb329) (o := .cells #[.slice A0_0 l0_0.length c0_0] 26 (0, 0)) (pb BK329.out) hg (Kd.S_ne HO_5.out BK329.out (by decide))); replace HB := Aside0.mk (hb); have HO347 := Aside0.mk (ho); clear HO_5 HO_7; clear ho hb hg hat))
    go_roundg k2
    case measure => have := HK1.out; have := HK2.out; omega
    case rel => exact ⟨(y345), (wrap64 (x18_1 + 1)), q5_1, H', ⟨q5_3⟩, ⟨pe (Kd.R_mono HO_4.out (fun _ hk => trivial))⟩, ⟨ps HO347.out⟩, ⟨pb BK329.out⟩, ⟨hq⟩⟩
   rw [if_pos c18] at H
   have c18b0 : decide (0 ≤ x8_2) = true := decide_eq_true c18
   clear c18
   by_cases c19 : x7_2.length < 17592186044416
   rotate_left
   ·rw [if_neg c19] at H
    exact absurd H (by simp)
   rw [if_pos c19] at H
   have LMc19 := Aside0.mk c19
   clear c19
   obtain ⟨y341, hy341⟩ : ∃ y_ : List Int, y_ = (x7_2 ++ [x8_2]) := ⟨_, rfl⟩
   replace H : (if 0 ≤ x8_2 then (if x8_2 < (t331.length : Int) then (impl_HeavyPaths.l1 k2 t331 x5_1 y341 (rd t331 x8_2) (t331.length : Int) x18_1) else (none)) else (none)) = some (r1, r2) := by first | (rw [hy341]; with_reducible exact H) | (have H2_ := (Option.bind_some _ _).symm.trans H; rw [hy341]; with_reducible exact H2_) | (have H2_ := (Option.bind_some _ _).symm.trans H; with_reducible exact H2_) | with_reducible exact H | (rw [hy341]; exact H) | exact H
   have Ny341 := Aside0.mk hy341
   clear hy341
   by_cases c20 : 0 ≤ x8_2
   rotate_left
   ·rw [if_neg c20] at H
    exact absurd H (by simp)
   rw [if_pos c20] at H
   have c20b0 : decide (0 ≤ x8_2) = true := decide_eq_true c20
   clear c20
   by_cases c21 : x8_2 < (t331.length : Int)
   rotate_left
   ·rw [if_neg c21] at H
    exact absurd H (by simp)
   rw [if_pos c21] at H
   have c21b0 : decide (x8_2 < (t331.length : Int)) = true := decide_eq_true c21
   clear c21
   have H' := Aside0.mk H
   clear H
   go_wp2_with (first | ((with_reducible refine gate_builtin (b := .append) (xs := #[.tmp 32, .tmp 34]) rfl ?_); at_builtin; refine Kd.R_append (Kd.int .i64) (w0 := w) w.heap.size rfl (.tmp 32) (.tmp 34) 24 2 (.int .i64 0) 8 rfl Try.underlying24 info2 rfl (by decide) (by omega) u7 x7_2 x8_2 [.int .i64 x8_2] (fun k_ => some k_ ≠ (.slice Ao12 t331.length co12 : Value).ownBlock) (fun _ => False) rfl rfl ?aP (fun _ hk => hk.elim) ?aF ?aO ?aB ?aS ?aL ?_; (case aP => exact rfl); (case aB => exact hq); (case aF => exact (fun k_ hk => Kd.fresh' (Kd.R_lt (pe HO_4.out)) k_ hk)); (case aO => exact (pe HO_7.out)); (case aS => exact (below_size hq)); (case aL => have := LMc19.out; omega); intro v342 w22 ho hb hg hat; rw [← Ny341.out] at ho; replace HO_4 := Aside0.mk (Kd.R_after (ok := (fun _ => True)) (pe (Kd.R_mono HO_4.out (fun _ hk => ⟨trivial, hk⟩))) hg hat); replace HO_5 := Aside0.mk (Kd.S_after (ok := (fun k_ => some k_ ≠ (.slice Ao12 t331.length co12 : Value).ownBlock)) (ps HO_5.out) hg hat); replace BK329 := Aside0.mk (blk_grown (g := gb329) (o := .cells #[.slice A0_0 l0_0.length c0_0] 26 (0, 0)) (pb BK329.out) hg (Kd.R_ne HO_7.out BK329.out (by decide))); replace HB := Aside0.mk (hb); have HO343 := Aside0.mk (ho); clear HO_7; clear ho hb hg hat; have p344 : 0 ≤ (x8_2 : Int) := of_decide_eq_true q5_0; have q344 : x8_2 < (t331.length : Int) := of_decide_eq_true q5_0; obtain ⟨ad344, e344, hx344_0⟩ := Kd.at_int (Kd.R_reads' HO_4.out).2.2 x8_2 p344 q344; cases e344; replace p344 := eq_true p344; replace q344 := eq_true q344))
   go_roundg k2
   case measure => have := HK1.out; have := HK2.out; omega
   case rel => exact ⟨(y341), (rd t331 x8_2), q5_1, H', ⟨q5_3⟩, ⟨pe (Kd.R_mono HO_4.out (fun _ hk => hk.2))⟩, ⟨ps HO_5.out⟩, ⟨pe HO343.out⟩, ⟨pb BK329.out⟩, ⟨hq⟩⟩

/-! ### spec_l01In: function 55 -/
def spec_l01In.f (a0 : Int) (a1 : Int) (a2 : Int) : Option (Bool) := if a0 ≥ a1 then (some (decide (a0 ≤ a2))) else (some false)
set_option maxHeartbeats 8000000 in
set_option maxRecDepth 100000 in
theorem spec_l01In.calls (a0 : Int) (a1 : Int) (a2 : Int) (r : Bool) (w : World) (h : spec_l01In.f a0 a1 a2 = some r) :
  Calls Try.prog 55 #[.int .i64 a0, .int .i64 a1, .int .i64 a2] w fun e w' => e = .returned (.bool r) ∧ Drawn0 w w' := by
 have H : (if a0 ≥ a1 then (some (decide (a0 ≤ a2))) else (some false)) = some r := h
 clear h
 by_cases c4 : a0 ≥ a1
 ·rw [if_pos c4] at H
  have c4b0 : decide (a1 ≤ a0) = true := decide_eq_true c4
  clear c4
  obtain rfl := Option.some.inj H
  go_enter Try.func55, Try.ntmps55
  go_wp2
  go_ret
  exact ⟨q5_1, q5_2⟩
 rw [if_neg c4] at H
 have c4b0 : decide (a1 ≤ a0) = false := decide_eq_false c4
 clear c4
 obtain rfl := Option.some.inj H
 go_enter Try.func55, Try.ntmps55
 go_wp2
 go_ret
 exact ⟨q5_1, q5_2⟩

/-! ### spec_l01Is: function 41 -/
def spec_l01Is.l0 : Nat → Int → Int → List Int → Option (Bool)
 | 0, _, _, _ => none
 | k + 1, x3, x4, x349000 => if x4 < (x349000.length : Int) then (if x3 = 0 then (some false) else (if 0 ≤ x4 then ((spec_l01In.f (rd x349000 x4) 0 24).bind fun t352 => (if t352 = true then (spec_l01Is.l0 k (wrap64 ((wrap64 (x3 - 1)) + (rd x349000 x4))) (wrap64 (x4 + 1)) x349000) else (some false))) else (none))) else (some (x3 == 0))
def spec_l01Is.f (k : Nat) (l0_0 : List Int) : Option (Bool) := (spec_l01N.f l0_0).bind fun t349 => ((spec_l01In.f t349 1 24).bind fun t350 => (if t350 = true then (spec_l01Is.l0 k 1 0 l0_0) else (some false)))
theorem spec_l01Is.mono_l : ∀ k, (∀ y0 y1 y2, LeO (spec_l01Is.l0 k y0 y1 y2) (spec_l01Is.l0 (k + 1) y0 y1 y2))
 | 0 => fun _ _ _ r h => by simp [spec_l01Is.l0] at h
 | k + 1 => by
  have ih0 := spec_l01Is.mono_l k
  ·intro y0 y1 y2
   unfold spec_l01Is.l0
   repeat' first
   | (with_reducible exact ih0 _ _ _)
   | (with_reducible exact LeO.refl _)
   | (with_reducible exact LeO.none _)
   | (with_reducible refine LeO.ite ?_ ?_)
   | (with_reducible refine LeO.bind ?_ (fun _ => ?_))
   | exact ih0 _ _ _
   | exact LeO.none _
   | refine LeO.ite ?_ ?_
   | refine LeO.bind ?_ (fun _ => ?_)
theorem spec_l01Is.mono : ∀ a0 k, LeO (spec_l01Is.f k a0) (spec_l01Is.f (k + 1) a0) := by
 intro a0 k
 have ih0 := spec_l01Is.mono_l k
 unfold spec_l01Is.f
 repeat' first
   | (with_reducible exact ih0 _ _ _)
   | (with_reducible exact LeO.refl _)
   | (with_reducible exact LeO.none _)
   | (with_reducible refine LeO.ite ?_ ?_)
   | (with_reducible refine LeO.bind ?_ (fun _ => ?_))
   | exact ih0 _ _ _
   | exact LeO.none _
   | refine LeO.ite ?_ ?_
   | refine LeO.bind ?_ (fun _ => ?_)
set_option maxHeartbeats 8000000 in
set_option maxRecDepth 100000 in
theorem spec_l01Is.calls (k : Nat) (A0_0 : Option Addr) (c0_0 : Nat) (l0_0 : List Int) (r : Bool) (w : World) (hr0_0 : Kd.C (Kd.int .i64) w A0_0 l0_0.length l0_0) (hc0_0 : l0_0.length ≤ c0_0) (h : spec_l01Is.f k l0_0 = some r) :
  Calls Try.prog 41 #[.agg #[.slice A0_0 l0_0.length c0_0]] w fun e w' => e = .returned (.bool r) ∧ Below w.heap.size w w' := by
 have hu26 := Try.underlying26
 have HR0_0 := Aside0.mk hr0_0
 have HC0_0 := Aside0.mk hc0_0
 clear hr0_0 hc0_0
 have HB := Aside0.mk (Below.refl w.heap.size w)
 have H : ((spec_l01N.f l0_0).bind fun t349 => ((spec_l01In.f t349 1 24).bind fun t350 => (if t350 = true then (spec_l01Is.l0 k 1 0 l0_0) else (some false)))) = some r := h
 clear h
 replace H := Option.bind_eq_some_iff.mp H
 obtain ⟨t349, A20, H⟩ := H
 replace H : ((spec_l01In.f t349 1 24).bind fun t350 => (if t350 = true then (spec_l01Is.l0 k 1 0 l0_0) else (some false))) = some r := H
 have A2 := Aside0.mk A20
 clear A20
 replace H := Option.bind_eq_some_iff.mp H
 obtain ⟨t350, A30, H⟩ := H
 replace H : (if t350 = true then (spec_l01Is.l0 k 1 0 l0_0) else (some false)) = some r := H
 have A3 := Aside0.mk A30
 clear A30
 by_cases c4 : t350 = true
 rotate_left
 ·replace c4 := Bool.eq_false_iff.mpr c4
  subst c4
  have H1 : (some false) = some r := by rw [if_neg (show ¬ (false = true) by decide)] at H; exact H
  clear H
  have H := H1
  clear H1
  obtain rfl := Option.some.inj H
  go_enter Try.func41, Try.ntmps41
  go_wp2_with (first | ((with_reducible refine gate_dst (N := 1) rfl ?_); refine box_event ?hg (N := 1) ?hd (cs := #[.slice A0_0 l0_0.length c0_0]) (t := 26) ?hr ?_; (case hd => rfl); (case hg => rfl); (case hr => exact gs); intro gb348 hg w17 hbox hb; have BK348 := Aside0.mk (hbox); have GW348 := Aside0.mk (geb hg hq : w.heap.size ≤ gb348); have GE348 := Aside0.mk (geb hg hq : w.heap.size ≤ gb348); replace HB := Aside0.mk (below_step hq hb); clear hb hbox hg; have hcz18_0 : w17.cell? ⟨gb348, 0, none⟩ = some (.slice A0_0 l0_0.length c0_0) := (blk_cell BK348.out 0).trans rfl; have hfz18_0 := blk_frozen BK348.out 0) | ((with_reducible refine gate_callee (f := 44) rfl ?_); refine goesL_ (some 6) rfl rfl Try.func44 (by kernel_rfl) rfl #[.agg #[.slice A0_0 l0_0.length c0_0]] rfl am ?_; (with_reducible refine (spec_l01N.calls _ _ l0_0 t349 _ ?side1 ?side2 A2.out).mono ?_); (case side1 => exact pc (Kd.C_below HR0_0.out HB.out)); (case side2 => exact HC0_0.out); rintro e w19 ⟨rfl, hb⟩; refine ⟨_, rfl, ?_⟩; replace BK348 := bb BK348 hb; replace HB := Aside0.mk (below_step hq hb); (try clear hb); (try clear hb2); (try clear hk); (try clear hi)) | ((with_reducible refine gate_callee (f := 55) rfl ?_); refine goesL_ (some 7) rfl rfl Try.func55 (by kernel_rfl) rfl #[.int .i64 t349, .int .i64 1, .int .i64 24] rfl am ?_; (with_reducible refine (spec_l01In.calls t349 1 24 false _ A3.out).mono ?_); rintro e w' ⟨rfl, ⟨nd, rfl⟩⟩; refine ⟨_, rfl, ?_⟩))
  go_ret
  exact ⟨ew, hq⟩
 subst c4
 replace H : (spec_l01Is.l0 k 1 0 l0_0) = some r := by rw [if_pos rfl] at H; exact H
 have H' := Aside0.mk H
 clear H
 go_enter Try.func41, Try.ntmps41
 go_wp2_with (first | ((with_reducible refine gate_dst (N := 1) rfl ?_); refine box_event ?hg (N := 1) ?hd (cs := #[.slice A0_0 l0_0.length c0_0]) (t := 26) ?hr ?_; (case hd => rfl); (case hg => rfl); (case hr => exact gs); intro gb348 hg w5 hbox hb; have BK348 := Aside0.mk (hbox); have GW348 := Aside0.mk (geb hg hq : w.heap.size ≤ gb348); have GE348 := Aside0.mk (geb hg hq : w.heap.size ≤ gb348); replace HB := Aside0.mk (below_step hq hb); clear hb hbox hg; have hcz6_0 : w5.cell? ⟨gb348, 0, none⟩ = some (.slice A0_0 l0_0.length c0_0) := (blk_cell BK348.out 0).trans rfl; have hfz6_0 := blk_frozen BK348.out 0) | ((with_reducible refine gate_callee (f := 44) rfl ?_); refine goesL_ (some 6) rfl rfl Try.func44 (by kernel_rfl) rfl #[.agg #[.slice A0_0 l0_0.length c0_0]] rfl am ?_; (with_reducible refine (spec_l01N.calls _ _ l0_0 t349 _ ?side1 ?side2 A2.out).mono ?_); (case side1 => exact pc (Kd.C_below HR0_0.out HB.out)); (case side2 => exact HC0_0.out); rintro e w7 ⟨rfl, hb⟩; refine ⟨_, rfl, ?_⟩; replace BK348 := bb BK348 hb; replace HB := Aside0.mk (below_step hq hb); (try clear hb); (try clear hb2); (try clear hk); (try clear hi)) | ((with_reducible refine gate_callee (f := 55) rfl ?_); refine goesL_ (some 7) rfl rfl Try.func55 (by kernel_rfl) rfl #[.int .i64 t349, .int .i64 1, .int .i64 24] rfl am ?_; (with_reducible refine (spec_l01In.calls t349 1 24 true _ A3.out).mono ?_); rintro e w' ⟨rfl, ⟨nd, rfl⟩⟩; refine ⟨_, rfl, ?_⟩))
 go_loopg [3, 4] k (fun kq v3 v4 w' => ∃ (x3_1 : Int) (x4_1 : Int), v3 = .int .i64 x3_1 ∧ v4 = .int .i64 x4_1 ∧ Aside0 (spec_l01Is.l0 kq x3_1 x4_1 l0_0 = some r) ∧ Aside0 (kq ≤ k) ∧ Aside0 (w'.heap[gb348]? = some (.cells #[(.slice A0_0 l0_0.length c0_0)] 26 (0, 0))) ∧ Aside0 (Below w.heap.size w w'))
 case atStart => exact ⟨(1), (0), q5_1, q5_1, H', ⟨Nat.le_refl _⟩, ⟨pb BK348.out⟩, ⟨hq⟩⟩
 case round =>
  clear H'
  try clear p2
  try clear c4
  try clear c5
  try clear hcz6_0
  try clear hfz6_0
  obtain ⟨x3_1, x4_1, rfl, rfl, HA, HK1, BK348, HB⟩ := hrel
  cases gk with | zero => exact absurd HA.out (by simp [spec_l01Is.l0]) | succ k1 => ?_
  have H := HA.out
  clear HA
  simp only [spec_l01Is.l0] at H
  by_cases c8 : x4_1 < (l0_0.length : Int)
  rotate_left
  ·rw [if_neg c8] at H
   have c8b0 : decide (x4_1 < (l0_0.length : Int)) = false := decide_eq_false c8
   clear c8
   obtain rfl := Option.some.inj H
   have hcz16_0 : wr.cell? ⟨gb348, 0, none⟩ = some (.slice A0_0 l0_0.length c0_0) := (blk_cell BK348.out 0).trans rfl
   have hfz16_0 := blk_frozen BK348.out 0
   go_wp2
   go_ret
   exact ⟨ew, hq⟩
  rw [if_pos c8] at H
  have c8b0 : decide (x4_1 < (l0_0.length : Int)) = true := decide_eq_true c8
  clear c8
  by_cases c9 : x3_1 = 0
  ·rw [if_pos c9] at H
   have c9b0 : (x3_1 == 0) = true := beq_iff_eq.mpr c9
   have c9b1 : (x3_1 != 0) = false := bne_eq_false_iff_eq.mpr c9
   clear c9
   obtain rfl := Option.some.inj H
   have hcz10_0 : wr.cell? ⟨gb348, 0, none⟩ = some (.slice A0_0 l0_0.length c0_0) := (blk_cell BK348.out 0).trans rfl
   have hfz10_0 := blk_frozen BK348.out 0
   go_wp2
   go_ret
   exact ⟨ew, hq⟩
  rw [if_neg c9] at H
  have c9b0 : (x3_1 == 0) = false := beq_eq_false_iff_ne.mpr c9
  have c9b1 : (x3_1 != 0) = true := bne_iff_ne.mpr c9
  by_cases c11 : 0 ≤ x4_1
  rotate_left
  ·rw [if_neg c11] at H
   exact absurd H (by simp)
  rw [if_pos c11] at H
  have c11b0 : decide (0 ≤ x4_1) = true := decide_eq_true c11
  clear c11
  replace H := Option.bind_eq_some_iff.mp H
  obtain ⟨t352, A120, H⟩ := H
  replace H : (if t352 = true then (spec_l01Is.l0 k1 (wrap64 ((wrap64 (x3_1 - 1)) + (rd l0_0 x4_1))) (wrap64 (x4_1 + 1)) l0_0) else (some false)) = some r := H
  have A12 := Aside0.mk A120
  clear A120
  by_cases c13 : t352 = true
  ·subst c13
   replace H : (spec_l01Is.l0 k1 (wrap64 ((wrap64 (x3_1 - 1)) + (rd l0_0 x4_1))) (wrap64 (x4_1 + 1)) l0_0) = some r := by rw [if_pos rfl] at H; exact H
   have H' := Aside0.mk H
   clear H
   have hcz14_0 : wr.cell? ⟨gb348, 0, none⟩ = some (.slice A0_0 l0_0.length c0_0) := (blk_cell BK348.out 0).trans rfl
   have hfz14_0 := blk_frozen BK348.out 0
   have p351 : 0 ≤ (x4_1 : Int) := of_decide_eq_true q5_0
   have q351 : x4_1 < (l0_0.length : Int) := of_decide_eq_true q5_0
   obtain ⟨ad351, e351, hx351_0⟩ := Kd.at_int HR0_0.out x4_1 p351 q351
   cases e351
   replace hx351_0 := (HB.out.cell (World.block_lt_of_cell? w _ hx351_0)).trans hx351_0
   replace p351 := eq_true p351
   replace q351 := eq_true q351
   go_wp2_with (first | (go_at_call 55; (with_reducible refine (spec_l01In.calls (rd l0_0 x4_1) 0 24 true _ A12.out).mono ?_); rintro e w' ⟨rfl, ⟨nd, rfl⟩⟩; have p353 : 0 ≤ (x4_1 : Int) := of_decide_eq_true q5_0; have q353 : x4_1 < (l0_0.length : Int) := of_decide_eq_true q5_0; obtain ⟨ad353, e353, hx353_0⟩ := Kd.at_int HR0_0.out x4_1 p353 q353; obtain rfl : ad351 = ad353 := (by injection e353); replace hx353_0 := (HB.out.cell (World.block_lt_of_cell? w _ hx353_0)).trans hx353_0; replace p353 := eq_true p353; replace q353 := eq_true q353))
   go_roundg k1
   case measure => have := HK1.out; omega
   case rel => exact ⟨(wrap64 ((wrap64 (x3_1 - 1)) + (rd l0_0 x4_1))), (wrap64 (x4_1 + 1)), q5_1, q5_1, H', ⟨by have := HK1.out; omega⟩, ⟨pb BK348.out⟩, ⟨hq⟩⟩
  replace c13 := Bool.eq_false_iff.mpr c13
  subst c13
  have H1 : (some false) = some r := by rw [if_neg (show ¬ (false = true) by decide)] at H; exact H
  clear H
  have H := H1
  clear H1
  obtain rfl := Option.some.inj H
  have hcz15_0 : wr.cell? ⟨gb348, 0, none⟩ = some (.slice A0_0 l0_0.length c0_0) := (blk_cell BK348.out 0).trans rfl
  have hfz15_0 := blk_frozen BK348.out 0
  have p351 : 0 ≤ (x4_1 : Int) := of_decide_eq_true q5_0
  have q351 : x4_1 < (l0_0.length : Int) := of_decide_eq_true q5_0
  obtain ⟨ad351, e351, hx351_0⟩ := Kd.at_int HR0_0.out x4_1 p351 q351
  cases e351
  replace hx351_0 := (HB.out.cell (World.block_lt_of_cell? w _ hx351_0)).trans hx351_0
  replace p351 := eq_true p351
  replace q351 := eq_true q351
  go_wp2_with (first | (go_at_call 55; (with_reducible refine (spec_l01In.calls (rd l0_0 x4_1) 0 24 false _ A12.out).mono ?_); rintro e w' ⟨rfl, ⟨nd, rfl⟩⟩))
  go_ret
  exact ⟨ew, hq⟩

end Go.Proofs.Ytlppkilencpmeaa.QFnHeavyPaths
