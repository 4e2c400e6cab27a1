/- Functions as Lean functions, with their contracts: written by a program of this claim over the translation; some contracts are proved by hand. -/
import Derived.Test.YtlppkilencpmeaaQFnHeavyPathsx0
import Derived.Test.YtlppkilencpmeaaQFnHeavyPathsx1
import Derived.Test.YtlppkilencpmeaaQFnHeavyPathsx4
import Derived.Test.YtlppkilencpmeaaQFnHeavyPathsx5
import Derived.Test.YtlppkilencpmeaaQFnHeavyPathsx6
import Derived.Test.YtlppkilencpmeaaQFnHeavyPathsx7
import Derived.Test.YtlppkilencpmeaaQFnHeavyPathsx9
namespace Go.Proofs.Ytlppkilencpmeaa.QFnHeavyPaths
open Go.RowKit Go.Proofs.Ytlppkilencpmeaa.Gl Go.Proofs.Ytlppkilencpmeaa.Sz Go.Proofs.YtlppkilencpmeaaW.PrintWords Go.Proofs.YtlppkilencpmeaaW.PrintLast Go.Proofs.YtlppkilencpmeaaW.PrintMore
attribute [local go_sem] max2_int min2_int max_two min_two max_three min_three max_four min_four   -- for this text's walks alone
set_option linter.unusedVariables false
set_option linter.unusedSimpArgs false
theorem q11_0 {P : Prop} (h : P := by first | (with_reducible assumption) | assumption) : P := h
theorem q11_1 {P : Prop} (h : P := by first | rfl | (simp; done) | (simp [*]; done)) : P := h

/-! ### spec_l01Nodes: function 49 -/
def spec_l01Nodes.l0 : Nat → List Int → Int → List Int → Option (Int)
 | 0, _, _, _ => none
 | k + 1, x1, x5, x511000 => if x5 < (x1.length : Int) then (if 0 ≤ x5 then ((spec_l01N.f x511000).bind fun t513 => ((spec_l01In.f (rd x1 x5) 0 (wrap64 (t513 - 1))).bind fun t514 => (if t514 = true then (spec_l01Nodes.l0 k x1 (wrap64 (x5 + 1)) x511000) else (some 2)))) else (none)) else (some 0)
def spec_l01Nodes.f (k : Nat) (l0_0 : List Int) (l1 : List Int) : Option (Int) := (spec_l01Is.f k l0_0).bind fun t511 => (if t511 = true then (spec_l01Nodes.l0 k l1 0 l0_0) else (some 1))
theorem spec_l01Nodes.mono_l : ∀ k, (∀ y0 y1 y2, LeO (spec_l01Nodes.l0 k y0 y1 y2) (spec_l01Nodes.l0 (k + 1) y0 y1 y2))
 | 0 => fun _ _ _ r h => by simp [spec_l01Nodes.l0] at h
 | k + 1 => by
  have ih0 := spec_l01Nodes.mono_l k
  ·intro y0 y1 y2
   unfold spec_l01Nodes.l0
   repeat' first
   | (with_reducible exact ih0 _ _ _)
   | (with_reducible exact spec_l01Is.mono _ _)
   | (with_reducible exact LeO.refl _)
   | (with_reducible exact LeO.none _)
   | (with_reducible refine LeO.ite ?_ ?_)
   | (with_reducible refine LeO.bind ?_ (fun _ => ?_))
   | exact ih0 _ _ _
   | exact spec_l01Is.mono _ _
   | exact LeO.none _
   | refine LeO.ite ?_ ?_
   | refine LeO.bind ?_ (fun _ => ?_)
theorem spec_l01Nodes.mono : ∀ a0 a1 k, LeO (spec_l01Nodes.f k a0 a1) (spec_l01Nodes.f (k + 1) a0 a1) := by
 intro a0 a1 k
 have ih0 := spec_l01Nodes.mono_l k
 unfold spec_l01Nodes.f
 repeat' first
   | (with_reducible exact ih0 _ _ _)
   | (with_reducible exact spec_l01Is.mono _ _)
   | (with_reducible exact LeO.refl _)
   | (with_reducible exact LeO.none _)
   | (with_reducible refine LeO.ite ?_ ?_)
   | (with_reducible refine LeO.bind ?_ (fun _ => ?_))
   | exact ih0 _ _ _
   | exact spec_l01Is.mono _ _
   | exact LeO.none _
   | refine LeO.ite ?_ ?_
   | refine LeO.bind ?_ (fun _ => ?_)
def spec_l01Nodes.T6 : Bool × List (List Nat × List Nat) := (true, [([], []), ([], []), ([0, 1], [0, 1]), ([2], [2]), ([], []), ([4], [4]), ([5], [5]), ([3, 6, 5], [3, 6]), ([7], [7])])
def spec_l01Nodes.B6 : List Nat := [0, 0, 3, 7, 0, 16, 48, 127, 255]
theorem spec_l01Nodes.tab6 : rtab .any (opsOf Try.f49 6) = spec_l01Nodes.T6 := by kernel_rfl
theorem spec_l01Nodes.bits6 : waitsOk spec_l01Nodes.T6.2 spec_l01Nodes.B6 = true := by kernel_rfl
set_option maxHeartbeats 8000000 in
set_option maxRecDepth 100000 in
theorem spec_l01Nodes.calls (k : Nat) (A0_0 : Option Addr) (c0_0 : Nat) (l0_0 : List Int) (A1 : Option Addr) (c1 : Nat) (l1 : List Int) (r : Int) (w : World) (hr0_0 : Kd.C (Kd.int .i64) w A0_0 l0_0.length l0_0) (hc0_0 : l0_0.length ≤ c0_0) (hr1 : Kd.C (Kd.int .i64) w A1 l1.length l1) (hc1 : l1.length ≤ c1) (h : spec_l01Nodes.f k l0_0 l1 = some r) :
  Calls Try.prog 49 #[.agg #[.slice A0_0 l0_0.length c0_0], .slice A1 l1.length c1] w fun e w' => e = .returned (.int .i64 r) ∧ Below w.heap.size w w' := by
 have hu26 := Try.underlying26
 have HR0_0 := Aside0.mk hr0_0
 have HC0_0 := Aside0.mk hc0_0
 clear hr0_0 hc0_0
 have HR1 := Aside0.mk hr1
 have HC1 := Aside0.mk hc1
 clear hr1 hc1
 have HB := Aside0.mk (Below.refl w.heap.size w)
 have H : ((spec_l01Is.f k l0_0).bind fun t511 => (if t511 = true then (spec_l01Nodes.l0 k l1 0 l0_0) else (some 1))) = some r := h
 clear h
 replace H := Option.bind_eq_some_iff.mp H
 obtain ⟨t511, A30, H⟩ := H
 replace H : (if t511 = true then (spec_l01Nodes.l0 k l1 0 l0_0) else (some 1)) = some r := H
 have A3 := Aside0.mk A30
 clear A30
 by_cases c4 : t511 = true
 rotate_left
 ·replace c4 := Bool.eq_false_iff.mpr c4
  subst c4
  have H1 : (some 1) = some r := by rw [if_neg (show ¬ (false = true) by decide)] at H; exact H
  clear H
  have H := H1
  clear H1
  obtain rfl := Option.some.inj H
  go_enter Try.func49, Try.ntmps49
  go_wp2_with (first | ((with_reducible refine gate_dst (N := 2) rfl ?_); refine box_event ?hg (N := 2) ?hd (cs := #[.slice A0_0 l0_0.length c0_0]) (t := 26) ?hr ?_; (case hd => rfl); (case hg => rfl); (case hr => exact gs); intro gb510 hg w17 hbox hb; have BK510 := Aside0.mk (hbox); have GW510 := Aside0.mk (geb hg hq : w.heap.size ≤ gb510); have GE510 := Aside0.mk (geb hg hq : w.heap.size ≤ gb510); replace HB := Aside0.mk (below_step hq hb); clear hb hbox hg; have hcz18_0 : w17.cell? ⟨gb510, 0, none⟩ = some (.slice A0_0 l0_0.length c0_0) := (blk_cell BK510.out 0).trans rfl; have hfz18_0 := blk_frozen BK510.out 0) | ((with_reducible refine gate_callee (f := 41) rfl ?_); refine goesL_ (some 7) rfl rfl Try.func41 (by kernel_rfl) rfl #[.agg #[.slice A0_0 l0_0.length c0_0]] rfl am ?_; (with_reducible refine (spec_l01Is.calls k _ _ l0_0 false _ ?side1 ?side2 A3.out).mono ?_); (case side1 => exact pc (Kd.C_below HR0_0.out HB.out)); (case side2 => exact HC0_0.out); rintro e w19 ⟨rfl, hb⟩; refine ⟨_, rfl, ?_⟩; replace BK510 := bb BK510 hb; replace HB := Aside0.mk (below_step hq hb); (try clear hb); (try clear hb2); (try clear hk); (try clear hi)))
  go_ret
  exact ⟨ew, hq⟩
 subst c4
 replace H : (spec_l01Nodes.l0 k l1 0 l0_0) = some r := by rw [if_pos rfl] at H; exact H
 have H' := Aside0.mk H
 clear H
 go_enter Try.func49, Try.ntmps49
 go_wp2_with (first | ((with_reducible refine gate_dst (N := 2) rfl ?_); refine box_event ?hg (N := 2) ?hd (cs := #[.slice A0_0 l0_0.length c0_0]) (t := 26) ?hr ?_; (case hd => rfl); (case hg => rfl); (case hr => exact gs); intro gb510 hg w5 hbox hb; have BK510 := Aside0.mk (hbox); have GW510 := Aside0.mk (geb hg hq : w.heap.size ≤ gb510); have GE510 := Aside0.mk (geb hg hq : w.heap.size ≤ gb510); replace HB := Aside0.mk (below_step hq hb); clear hb hbox hg; have hcz6_0 : w5.cell? ⟨gb510, 0, none⟩ = some (.slice A0_0 l0_0.length c0_0) := (blk_cell BK510.out 0).trans rfl; have hfz6_0 := blk_frozen BK510.out 0) | ((with_reducible refine gate_callee (f := 41) rfl ?_); refine goesL_ (some 7) rfl rfl Try.func41 (by kernel_rfl) rfl #[.agg #[.slice A0_0 l0_0.length c0_0]] rfl am ?_; (with_reducible refine (spec_l01Is.calls k _ _ l0_0 true _ ?side1 ?side2 A3.out).mono ?_); (case side1 => exact pc (Kd.C_below HR0_0.out HB.out)); (case side2 => exact HC0_0.out); rintro e w7 ⟨rfl, hb⟩; refine ⟨_, rfl, ?_⟩; replace BK510 := bb BK510 hb; replace HB := Aside0.mk (below_step hq hb); (try clear hb); (try clear hb2); (try clear hk); (try clear hi)))
 go_loopg [5] k (fun kq v5 w' => ∃ (x5_1 : Int), v5 = .int .i64 x5_1 ∧ Aside0 (spec_l01Nodes.l0 kq l1 x5_1 l0_0 = some r) ∧ Aside0 (kq ≤ k) ∧ Aside0 (w'.heap[gb510]? = some (.cells #[(.slice A0_0 l0_0.length c0_0)] 26 (0, 0))) ∧ Aside0 (Below w.heap.size w w'))
 case atStart => exact ⟨(0), q11_1, H', ⟨Nat.le_refl _⟩, ⟨pb BK510.out⟩, ⟨hq⟩⟩
 case round =>
  clear H'
  try clear c1
  try clear p2
  try clear c4
  try clear hcz6_0
  try clear hfz6_0
  obtain ⟨x5_1, rfl, HA, HK1, BK510, HB⟩ := hrel
  cases gk with | zero => exact absurd HA.out (by simp [spec_l01Nodes.l0]) | succ k1 => ?_
  have H := HA.out
  clear HA
  simp only [spec_l01Nodes.l0] at H
  by_cases c8 : x5_1 < (l1.length : Int)
  rotate_left
  ·rw [if_neg c8] at H
   have c8b0 : decide (x5_1 < (l1.length : Int)) = false := decide_eq_false c8
   clear c8
   obtain rfl := Option.some.inj H
   go_wp2
   go_ret
   exact ⟨ew, hq⟩
  rw [if_pos c8] at H
  have c8b0 : decide (x5_1 < (l1.length : Int)) = true := decide_eq_true c8
  clear c8
  by_cases c9 : 0 ≤ x5_1
  rotate_left
  ·rw [if_neg c9] at H
   exact absurd H (by simp)
  rw [if_pos c9] at H
  have c9b0 : decide (0 ≤ x5_1) = true := decide_eq_true c9
  clear c9
  replace H := Option.bind_eq_some_iff.mp H
  obtain ⟨t513, A100, H⟩ := H
  replace H : ((spec_l01In.f (rd l1 x5_1) 0 (wrap64 (t513 - 1))).bind fun t514 => (if t514 = true then (spec_l01Nodes.l0 k1 l1 (wrap64 (x5_1 + 1)) l0_0) else (some 2))) = some r := H
  have A10 := Aside0.mk A100
  clear A100
  replace H := Option.bind_eq_some_iff.mp H
  obtain ⟨t514, A110, H⟩ := H
  replace H : (if t514 = true then (spec_l01Nodes.l0 k1 l1 (wrap64 (x5_1 + 1)) l0_0) else (some 2)) = some r := H
  have A11 := Aside0.mk A110
  clear A110
  by_cases c12 : t514 = true
  ·subst c12
   replace H : (spec_l01Nodes.l0 k1 l1 (wrap64 (x5_1 + 1)) l0_0) = some r := by rw [if_pos rfl] at H; exact H
   have H' := Aside0.mk H
   clear H
   try go_wp2
   have n0_ := Aside0.mk (blk_drew BK510.out)
   have n1_ := Aside0.mk (below_drew1 HB.out)
   clear BK510
   clear HB
   have BK510 := n0_
   have HB := n1_
   clear n0_ n1_
   have p512 : 0 ≤ (x5_1 : Int) := of_decide_eq_true q11_0
   have q512 : x5_1 < (l1.length : Int) := of_decide_eq_true q11_0
   obtain ⟨ad512, e512, hx512_0⟩ := Kd.at_int HR1.out x5_1 p512 q512
   have hw512_0 := hx512_0
   cases e512
   replace hx512_0 := (HB.out.cell (World.block_lt_of_cell? w _ hx512_0)).trans hx512_0
   replace p512 := eq_true p512
   replace q512 := eq_true q512
   refine start_ (n := 9) (S := fun w' => w'.cell? ⟨gb510, 0, none⟩ = some (.slice A0_0 l0_0.length c0_0) ∧ w'.cell? (ad512.add (x5_1).toNat) = some (.int .i64 (rd l1 x5_1))) (ds := []) #[false, false, false, false, false, false, false, false, false] (by kernel_rfl) rfl rfl ⟨(blk_cell BK510.out 0).trans rfl, ((HB.out.cell (World.block_lt_of_cell? w _ hw512_0)).trans hw512_0)⟩ (fun hHeld => ?_); refine with_tabW spec_l01Nodes.tab6 spec_l01Nodes.bits6 (fun HT_ HW_ => ?_)
   generalize wr.drew = w13 at BK510 HB hx512_0 hHeld ⊢
   refine pure_ (i := 0) (N := some 15) (v := ?_) (a' := ?_) #[true, false, false, false, false, false, false, false, false] rfl rfl (any_of HT_.out (by kernel_rfl)) (fun _ _ _ h => h) (Or.inl ⟨by rfl, ?_⟩) ?_ ?_
   rotate_left
   ·intro w'
    go_simp
    with_reducible rfl
   rotate_left
   ·simp only [Act.put, sIB, sc0, scs, i64_w, i32_w]
    rfl
   refine pure_ (i := 1) (N := some 16) (v := ?_) (a' := ?_) #[true, true, false, false, false, false, false, false, false] rfl rfl (any_of HT_.out (by kernel_rfl)) (fun _ _ _ h => h) (Or.inl ⟨by rfl, ?_⟩) ?_ ?_
   rotate_left
   ·intro w'
    go_simp
    with_reducible rfl
   rotate_left
   ·simp only [Act.put, sIB, sc0, scs, i64_w, i32_w]
    rfl
   refine pure_ (i := 2) (N := some 17) (v := ?_) (a' := ?_) #[true, true, true, false, false, false, false, false, false] rfl rfl (any_of HT_.out (by kernel_rfl)) (fun _ _ _ h => h) (Or.inl ⟨by rfl, ?_⟩) ?_ ?_
   rotate_left
   ·intro w'
    go_simp
    with_reducible rfl
   rotate_left
   ·simp only [Act.put, sIB, sc0, scs, i64_w, i32_w]
    rfl
   refine take_ (i := 3) (N := some 18) (v := ?_) (a' := ?_) #[true, true, true, true, false, false, false, false, false] rfl rfl (take_ofW HT_.out HW_.out (by kernel_rfl)) (fun _ _ _ h => h) (Or.inl ⟨by rfl, ?_⟩) hHeld ?_ ?_
   rotate_left
   ·rintro w' ⟨s0, s1⟩
    go_simp
    with_reducible rfl
   rotate_left
   ·simp only [Act.put, sIB, sc0, scs, i64_w, i32_w]
    rfl
   refine take_ (i := 4) (N := some 19) (v := ?_) (a' := ?_) #[true, true, true, true, true, false, false, false, false] rfl rfl (take_ofW HT_.out HW_.out (by kernel_rfl)) (fun _ _ _ h => h) (Or.inl ⟨by rfl, ?_⟩) hHeld ?_ ?_
   rotate_left
   ·rintro w' ⟨s0, s1⟩
    go_simp
    with_reducible rfl
   rotate_left
   ·simp only [Act.put, sIB, sc0, scs, i64_w, i32_w]
    rfl
   refine one_ (i := 5) (N := some 20) #[true, true, true, true, true, true, false, false, false] rfl rfl (one_of HT_.out (by kernel_rfl)) (by decide) (fun K hK => ?_)
   refine goes_ Try.func44 (by kernel_rfl) rfl #[.agg #[.slice A0_0 l0_0.length c0_0]] (by rfl) rfl rfl am ?_
   with_reducible refine (spec_l01N.calls _ _ l0_0 t513 _ ?side1 ?side2 A10.out).mono ?_
   (case side1 => exact pc (Kd.C_below HR0_0.out HB.out))
   (case side2 => exact HC0_0.out)
   rintro e w14 ⟨rfl, hb⟩
   refine ⟨_, rfl, ?_⟩
   have n0_ := bb BK510 hb
   have n1_ := Aside0.mk (below_step hq hb)
   clear BK510
   clear HB
   have BK510 := n0_
   have HB := n1_
   clear n0_ n1_
   (try clear hb)
   (try clear hb2)
   (try clear hk)
   (try clear hi)
   refine hK.out _ _ ⟨(blk_cell BK510.out 0).trans rfl, ((HB.out.cell (World.block_lt_of_cell? w _ hw512_0)).trans hw512_0)⟩ (fun hHeld => ?_)
   clear hK K
   refine norm_ (a' := ?_) ?_ ?_
   rotate_left
   ·show Act.put _ (some 20) _ = _
    simp only [Act.put, sIB, sc0, scs, i64_w, i32_w]
    rfl
   refine pure_ (i := 6) (N := some 21) (v := ?_) (a' := ?_) #[true, true, true, true, true, true, true, false, false] rfl rfl (any_of HT_.out (by kernel_rfl)) (fun _ _ _ h => h) (Or.inl ⟨by rfl, ?_⟩) ?_ ?_
   rotate_left
   ·intro w'
    go_simp
    with_reducible rfl
   rotate_left
   ·simp only [Act.put, sIB, sc0, scs, i64_w, i32_w]
    rfl
   refine one_ (i := 7) (N := some 22) #[true, true, true, true, true, true, true, true, false] rfl rfl (one_of HT_.out (by kernel_rfl)) (by decide) (fun K hK => ?_)
   refine goes_ Try.func55 (by kernel_rfl) rfl #[.int .i64 (rd l1 x5_1), .int .i64 0, .int .i64 (wrap64 (t513 - 1))] (by rfl) rfl rfl am ?_
   with_reducible refine (spec_l01In.calls (rd l1 x5_1) 0 (wrap64 (t513 - 1)) true _ A11.out).mono ?_
   rintro e w' ⟨rfl, ⟨nd, rfl⟩⟩
   refine ⟨_, rfl, ?_⟩
   refine hK.out _ _ ⟨(blk_cell BK510.out 0).trans rfl, ((HB.out.cell (World.block_lt_of_cell? w _ hw512_0)).trans hw512_0)⟩ (fun hHeld => ?_)
   clear hK K
   refine norm_ (a' := ?_) ?_ ?_
   rotate_left
   ·show Act.put _ (some 22) _ = _
    simp only [Act.put, sIB, sc0, scs, i64_w, i32_w]
    rfl
   refine pure_ (i := 8) (N := some 23) (v := ?_) (a' := ?_) #[true, true, true, true, true, true, true, true, true] rfl rfl (any_of HT_.out (by kernel_rfl)) (fun _ _ _ h => h) (Or.inl ⟨by rfl, ?_⟩) ?_ ?_
   rotate_left
   ·intro w'
    go_simp
    with_reducible rfl
   rotate_left
   ·simp only [Act.put, sIB, sc0, scs, i64_w, i32_w]
    rfl
   refine done_ (done_of HT_.out (by kernel_rfl)) ?_
   try go_wp2
   go_roundg k1
   case measure => have := HK1.out; omega
   case rel => exact ⟨(wrap64 (x5_1 + 1)), q11_1, H', ⟨by have := HK1.out; omega⟩, ⟨pb BK510.out⟩, ⟨hq⟩⟩
  replace c12 := Bool.eq_false_iff.mpr c12
  subst c12
  have H1 : (some 2) = some r := by rw [if_neg (show ¬ (false = true) by decide)] at H; exact H
  clear H
  have H := H1
  clear H1
  obtain rfl := Option.some.inj H
  try go_wp2
  have n0_ := Aside0.mk (blk_drew BK510.out)
  have n1_ := Aside0.mk (below_drew1 HB.out)
  clear BK510
  clear HB
  have BK510 := n0_
  have HB := n1_
  clear n0_ n1_
  have p512 : 0 ≤ (x5_1 : Int) := of_decide_eq_true q11_0
  have q512 : x5_1 < (l1.length : Int) := of_decide_eq_true q11_0
  obtain ⟨ad512, e512, hx512_0⟩ := Kd.at_int HR1.out x5_1 p512 q512
  have hw512_0 := hx512_0
  cases e512
  replace hx512_0 := (HB.out.cell (World.block_lt_of_cell? w _ hx512_0)).trans hx512_0
  replace p512 := eq_true p512
  replace q512 := eq_true q512
  refine start_ (n := 9) (S := fun w' => w'.cell? ⟨gb510, 0, none⟩ = some (.slice A0_0 l0_0.length c0_0) ∧ w'.cell? (ad512.add (x5_1).toNat) = some (.int .i64 (rd l1 x5_1))) (ds := []) #[false, false, false, false, false, false, false, false, false] (by kernel_rfl) rfl rfl ⟨(blk_cell BK510.out 0).trans rfl, ((HB.out.cell (World.block_lt_of_cell? w _ hw512_0)).trans hw512_0)⟩ (fun hHeld => ?_); refine with_tabW spec_l01Nodes.tab6 spec_l01Nodes.bits6 (fun HT_ HW_ => ?_)
  generalize wr.drew = w15 at BK510 HB hx512_0 hHeld ⊢
  refine pure_ (i := 0) (N := some 15) (v := ?_) (a' := ?_) #[true, false, false, false, false, false, false, false, false] rfl rfl (any_of HT_.out (by kernel_rfl)) (fun _ _ _ h => h) (Or.inl ⟨by rfl, ?_⟩) ?_ ?_
  rotate_left
  ·intro w'
   go_simp
   with_reducible rfl
  rotate_left
  ·simp only [Act.put, sIB, sc0, scs, i64_w, i32_w]
   rfl
  refine pure_ (i := 1) (N := some 16) (v := ?_) (a' := ?_) #[true, true, false, false, false, false, false, false, false] rfl rfl (any_of HT_.out (by kernel_rfl)) (fun _ _ _ h => h) (Or.inl ⟨by rfl, ?_⟩) ?_ ?_
  rotate_left
  ·intro w'
   go_simp
   with_reducible rfl
  rotate_left
  ·simp only [Act.put, sIB, sc0, scs, i64_w, i32_w]
   rfl
  refine pure_ (i := 2) (N := some 17) (v := ?_) (a' := ?_) #[true, true, true, false, false, false, false, false, false] rfl rfl (any_of HT_.out (by kernel_rfl)) (fun _ _ _ h => h) (Or.inl ⟨by rfl, ?_⟩) ?_ ?_
  rotate_left
  ·intro w'
   go_simp
   with_reducible rfl
  rotate_left
  ·simp only [Act.put, sIB, sc0, scs, i64_w, i32_w]
   rfl
  refine take_ (i := 3) (N := some 18) (v := ?_) (a' := ?_) #[true, true, true, true, false, false, false, false, false] rfl rfl (take_ofW HT_.out HW_.out (by kernel_rfl)) (fun _ _ _ h => h) (Or.inl ⟨by rfl, ?_⟩) hHeld ?_ ?_
  rotate_left
  ·rintro w' ⟨s0, s1⟩
   go_simp
   with_reducible rfl
  rotate_left
  ·simp only [Act.put, sIB, sc0, scs, i64_w, i32_w]
   rfl
  refine take_ (i := 4) (N := some 19) (v := ?_) (a' := ?_) #[true, true, true, true, true, false, false, false, false] rfl rfl (take_ofW HT_.out HW_.out (by kernel_rfl)) (fun _ _ _ h => h) (Or.inl ⟨by rfl, ?_⟩) hHeld ?_ ?_
  rotate_left
  ·rintro w' ⟨s0, s1⟩
   go_simp
   with_reducible rfl
  rotate_left
  ·simp only [Act.put, sIB, sc0, scs, i64_w, i32_w]
   rfl
  refine one_ (i := 5) (N := some 20) #[true, true, true, true, true, true, false, false, false] rfl rfl (one_of HT_.out (by kernel_rfl)) (by decide) (fun K hK => ?_)
  refine goes_ Try.func44 (by kernel_rfl) rfl #[.agg #[.slice A0_0 l0_0.length c0_0]] (by rfl) rfl rfl am ?_
  with_reducible refine (spec_l01N.calls _ _ l0_0 t513 _ ?side1 ?side2 A10.out).mono ?_
  (case side1 => exact pc (Kd.C_below HR0_0.out HB.out))
  (case side2 => exact HC0_0.out)
  rintro e w16 ⟨rfl, hb⟩
  refine ⟨_, rfl, ?_⟩
  have n0_ := bb BK510 hb
  have n1_ := Aside0.mk (below_step hq hb)
  clear BK510
  clear HB
  have BK510 := n0_
  have HB := n1_
  clear n0_ n1_
  (try clear hb)
  (try clear hb2)
  (try clear hk)
  (try clear hi)
  refine hK.out _ _ ⟨(blk_cell BK510.out 0).trans rfl, ((HB.out.cell (World.block_lt_of_cell? w _ hw512_0)).trans hw512_0)⟩ (fun hHeld => ?_)
  clear hK K
  refine norm_ (a' := ?_) ?_ ?_
  rotate_left
  ·show Act.put _ (some 20) _ = _
   simp only [Act.put, sIB, sc0, scs, i64_w, i32_w]
   rfl
  refine pure_ (i := 6) (N := some 21) (v := ?_) (a' := ?_) #[true, true, true, true, true, true, true, false, false] rfl rfl (any_of HT_.out (by kernel_rfl)) (fun _ _ _ h => h) (Or.inl ⟨by rfl, ?_⟩) ?_ ?_
  rotate_left
  ·intro w'
   go_simp
   with_reducible rfl
  rotate_left
  ·simp only [Act.put, sIB, sc0, scs, i64_w, i32_w]
   rfl
  refine one_ (i := 7) (N := some 22) #[true, true, true, true, true, true, true, true, false] rfl rfl (one_of HT_.out (by kernel_rfl)) (by decide) (fun K hK => ?_)
  refine goes_ Try.func55 (by kernel_rfl) rfl #[.int .i64 (rd l1 x5_1), .int .i64 0, .int .i64 (wrap64 (t513 - 1))] (by rfl) rfl rfl am ?_
  with_reducible refine (spec_l01In.calls (rd l1 x5_1) 0 (wrap64 (t513 - 1)) false _ A11.out).mono ?_
  rintro e w' ⟨rfl, ⟨nd, rfl⟩⟩
  refine ⟨_, rfl, ?_⟩
  refine hK.out _ _ ⟨(blk_cell BK510.out 0).trans rfl, ((HB.out.cell (World.block_lt_of_cell? w _ hw512_0)).trans hw512_0)⟩ (fun hHeld => ?_)
  clear hK K
  refine norm_ (a' := ?_) ?_ ?_
  rotate_left
  ·show Act.put _ (some 22) _ = _
   simp only [Act.put, sIB, sc0, scs, i64_w, i32_w]
   rfl
  refine pure_ (i := 8) (N := some 23) (v := ?_) (a' := ?_) #[true, true, true, true, true, true, true, true, true] rfl rfl (any_of HT_.out (by kernel_rfl)) (fun _ _ _ h => h) (Or.inl ⟨by rfl, ?_⟩) ?_ ?_
  rotate_left
  ·intro w'
   go_simp
   with_reducible rfl
  rotate_left
  ·simp only [Act.put, sIB, sc0, scs, i64_w, i32_w]
   rfl
  refine done_ (done_of HT_.out (by kernel_rfl)) ?_
  try go_wp2
  go_ret
  exact ⟨ew, hq⟩

/-! ### spec_LightSteps: function 15 -/
def spec_LightSteps.l0 : Nat → Int → List Int → List Int → Int → Option (Int × Int)
 | 0, _, _, _, _ => none
 | k + 1, x1, x7, x8, x9 => if x1 > 0 then ((spec_l08Light.f x7 x8 x1).bind fun t526 => (if t526 = true then (if 0 ≤ x1 then (if x1 < (x7.length : Int) then (spec_LightSteps.l0 k (rd x7 x1) x7 x8 (wrap64 (x9 + 1))) else (none)) else (none)) else (if 0 ≤ x1 then (if x1 < (x7.length : Int) then (spec_LightSteps.l0 k (rd x7 x1) x7 x8 x9) else (none)) else (none)))) else (some (x9, 0))
def spec_LightSteps.f (k : Nat) (l0_0 : List Int) (a1 : Int) : Option (Int × Int) := (spec_l01Nodes.f k l0_0 ([a1] : List Int)).bind fun t519 => (if t519 = 0 then ((spec_l01Parents.f k l0_0).bind fun t520 => ((spec_l08Heavy.f k l0_0).bind fun t523 => (spec_LightSteps.l0 k a1 t520 t523 0))) else (some (0, t519)))
theorem spec_LightSteps.mono_l : ∀ k, (∀ y0 y1 y2 y3, LeO (spec_LightSteps.l0 k y0 y1 y2 y3) (spec_LightSteps.l0 (k + 1) y0 y1 y2 y3))
 | 0 => fun _ _ _ _ r h => by simp [spec_LightSteps.l0] at h
 | k + 1 => by
  have ih0 := spec_LightSteps.mono_l k
  ·intro y0 y1 y2 y3
   unfold spec_LightSteps.l0
   repeat' first
   | (with_reducible exact ih0 _ _ _ _)
   | (with_reducible exact spec_l01Nodes.mono _ _ _)
   | (with_reducible exact spec_l01Parents.mono _ _)
   | (with_reducible exact spec_l08Heavy.mono _ _)
   | (with_reducible exact LeO.refl _)
   | (with_reducible exact LeO.none _)
   | (with_reducible refine LeO.ite ?_ ?_)
   | (with_reducible refine LeO.bind ?_ (fun _ => ?_))
   | exact ih0 _ _ _ _
   | exact spec_l01Nodes.mono _ _ _
   | exact spec_l01Parents.mono _ _
   | exact spec_l08Heavy.mono _ _
   | exact LeO.none _
   | refine LeO.ite ?_ ?_
   | refine LeO.bind ?_ (fun _ => ?_)
theorem spec_LightSteps.mono : ∀ a0 a1 k, LeO (spec_LightSteps.f k a0 a1) (spec_LightSteps.f (k + 1) a0 a1) := by
 intro a0 a1 k
 have ih0 := spec_LightSteps.mono_l k
 unfold spec_LightSteps.f
 repeat' first
   | (with_reducible exact ih0 _ _ _ _)
   | (with_reducible exact spec_l01Nodes.mono _ _ _)
   | (with_reducible exact spec_l01Parents.mono _ _)
   | (with_reducible exact spec_l08Heavy.mono _ _)
   | (with_reducible exact LeO.refl _)
   | (with_reducible exact LeO.none _)
   | (with_reducible refine LeO.ite ?_ ?_)
   | (with_reducible refine LeO.bind ?_ (fun _ => ?_))
   | exact ih0 _ _ _ _
   | exact spec_l01Nodes.mono _ _ _
   | exact spec_l01Parents.mono _ _
   | exact spec_l08Heavy.mono _ _
   | exact LeO.none _
   | refine LeO.ite ?_ ?_
   | refine LeO.bind ?_ (fun _ => ?_)
set_option maxHeartbeats 8000000 in
set_option maxRecDepth 100000 in
theorem spec_LightSteps.calls (k : Nat) (A0_0 : Option Addr) (c0_0 : Nat) (l0_0 : List Int) (a1 : Int) (r1 : Int) (r2 : Int) (w : World) (hr0_0 : Kd.C (Kd.int .i64) w A0_0 l0_0.length l0_0) (hc0_0 : l0_0.length ≤ c0_0) (h : spec_LightSteps.f k l0_0 a1 = some (r1, r2)) :
  Calls Try.prog 15 #[.agg #[.slice A0_0 l0_0.length c0_0], .int .i64 a1] w fun e w' => e = .returned (.tuple #[.int .i64 r1, .int .i64 r2]) ∧ Below w.heap.size w w' := by
 have hu26 := Try.underlying26
 have HR0_0 := Aside0.mk hr0_0
 have HC0_0 := Aside0.mk hc0_0
 clear hr0_0 hc0_0
 have HB := Aside0.mk (Below.refl w.heap.size w)
 have H : ((spec_l01Nodes.f k l0_0 ([a1] : List Int)).bind fun t519 => (if t519 = 0 then ((spec_l01Parents.f k l0_0).bind fun t520 => ((spec_l08Heavy.f k l0_0).bind fun t523 => (spec_LightSteps.l0 k a1 t520 t523 0))) else (some (0, t519)))) = some (r1, r2) := h
 clear h
 obtain ⟨y516, hy516⟩ : ∃ y_ : List Int, y_ = ([a1] : List Int) := ⟨_, rfl⟩
 replace H : ((spec_l01Nodes.f k l0_0 y516).bind fun t519 => (if t519 = 0 then ((spec_l01Parents.f k l0_0).bind fun t520 => ((spec_l08Heavy.f k l0_0).bind fun t523 => (spec_LightSteps.l0 k a1 t520 t523 0))) else (some (0, t519)))) = some (r1, r2) := by first | (rw [hy516]; with_reducible exact H) | (have H2_ := (Option.bind_some _ _).symm.trans H; rw [hy516]; with_reducible exact H2_) | (have H2_ := (Option.bind_some _ _).symm.trans H; with_reducible exact H2_) | with_reducible exact H | (rw [hy516]; exact H) | exact H
 have Ny516 := Aside0.mk hy516
 clear hy516
 replace H := Option.bind_eq_some_iff.mp H
 obtain ⟨t519, A30, H⟩ := H
 replace H : (if t519 = 0 then ((spec_l01Parents.f k l0_0).bind fun t520 => ((spec_l08Heavy.f k l0_0).bind fun t523 => (spec_LightSteps.l0 k a1 t520 t523 0))) else (some (0, t519))) = some (r1, r2) := H
 have A3 := Aside0.mk A30
 clear A30
 by_cases c4 : t519 = 0
 rotate_left
 ·rw [if_neg c4] at H
  have c4b0 : (t519 == 0) = false := beq_eq_false_iff_ne.mpr c4
  have c4b1 : (t519 != 0) = true := bne_iff_ne.mpr c4
  simp only [Option.some.injEq, Prod.mk.injEq] at H
  obtain ⟨rfl, rfl⟩ := H
  go_enter Try.func15, Try.ntmps15
  go_wp2_with (first | ((with_reducible refine gate_dst (N := 2) rfl ?_); refine box_event ?hg (N := 2) ?hd (cs := #[.slice A0_0 l0_0.length c0_0]) (t := 26) ?hr ?_; (case hd => rfl); (case hg => rfl); (case hr => exact gs); intro gb515 hg w27 hbox hb; have BK515 := Aside0.mk (hbox); have GW515 := Aside0.mk (geb hg hq : w.heap.size ≤ gb515); have GE515 := Aside0.mk (geb hg hq : w.heap.size ≤ gb515); replace HB := Aside0.mk (below_step hq hb); clear hb hbox hg; have hcz28_0 : w27.cell? ⟨gb515, 0, none⟩ = some (.slice A0_0 l0_0.length c0_0) := (blk_cell BK515.out 0).trans rfl; have hfz28_0 := blk_frozen BK515.out 0) | ((with_reducible refine gate_dst (N := 12) rfl ?_); refine Kd.R_lit (Kd.int .i64) _ 2 ?hg (N := 12) ?hd (xs := ([a1] : List Int)) (inner := [.int .i64 a1]) (ok := fun _ => True) (okp := fun _ => True) ?hr ?hp (fun _ hk => hk) trivial (Below.refl _ _) (Nat.le_refl _) (by simp) ?_; (case hd => rfl); (case hg => rfl); (case hr => exact gs); (case hp => exact (Reps.one (show Kd.M (Kd.int .i64) _ _ _ a1 [.int .i64 a1] from rfl) (Reps.none _ _))); intro v517 w29 ho30 hb hg_ hnew_; clear hg_ hnew_; (first | rw [← Ny516.out] at ho30 | (simp only [Int.reduceToNat] at ho30; rw [← Ny516.out] at ho30)); have HO518 := Aside0.mk (Kd.R_lower ho30 (below_size hq)); replace BK515 := bb BK515 hb; replace HB := Aside0.mk (below_step hq hb); clear hb ho30; obtain ⟨Ao31, co31, eo31⟩ := Kd.R_slice HO518.out; subst eo31) | ((with_reducible refine gate_callee (f := 49) rfl ?_); refine goesL_ (some 13) rfl rfl Try.func49 (by kernel_rfl) rfl #[.agg #[.slice A0_0 l0_0.length c0_0], .slice Ao31 y516.length co31] rfl am ?_; (with_reducible refine (spec_l01Nodes.calls k _ _ l0_0 _ _ y516 t519 _ ?side1 ?side2 ?side3 ?side4 A3.out).mono ?_); (case side1 => exact pc (Kd.C_below HR0_0.out HB.out)); (case side2 => exact HC0_0.out); (case side3 => exact pc ((Kd.R_reads' HO518.out).2.2)); (case side4 => exact (Kd.R_reads' HO518.out).2.1); rintro e w32 ⟨rfl, hb⟩; refine ⟨_, rfl, ?_⟩; replace HO518 := rb HO518 hb; replace BK515 := bb BK515 hb; replace HB := Aside0.mk (below_step hq hb); (try clear hb); (try clear hb2); (try clear hk); (try clear hi)))
  go_ret2
  exact ⟨ew, hq⟩
 rw [if_pos c4] at H
 have c4b0 : (t519 == 0) = true := beq_iff_eq.mpr c4
 have c4b1 : (t519 != 0) = false := bne_eq_false_iff_eq.mpr c4
 clear c4
 replace H := Option.bind_eq_some_iff.mp H
 obtain ⟨t520, A50, H⟩ := H
 replace H : ((spec_l08Heavy.f k l0_0).bind fun t523 => (spec_LightSteps.l0 k a1 t520 t523 0)) = some (r1, r2) := H
 have A5 := Aside0.mk A50
 clear A50
 replace H := Option.bind_eq_some_iff.mp H
 obtain ⟨t523, A60, H⟩ := H
 replace H : (spec_LightSteps.l0 k a1 t520 t523 0) = some (r1, r2) := H
 have A6 := Aside0.mk A60
 clear A60
 have H' := Aside0.mk H
 clear H
 go_enter Try.func15, Try.ntmps15
 try go_wp2_with (first | ((with_reducible refine gate_dst (N := 2) rfl ?_); refine box_event ?hg (N := 2) ?hd (cs := #[.slice A0_0 l0_0.length c0_0]) (t := 26) ?hr ?_; (case hd => rfl); (case hg => rfl); (case hr => exact gs); intro gb515 hg w7 hbox hb; have BK515 := Aside0.mk (hbox); have GW515 := Aside0.mk (geb hg hq : w.heap.size ≤ gb515); have GE515 := Aside0.mk (geb hg hq : w.heap.size ≤ gb515); replace HB := Aside0.mk (below_step hq hb); clear hb hbox hg; have hcz8_0 : w7.cell? ⟨gb515, 0, none⟩ = some (.slice A0_0 l0_0.length c0_0) := (blk_cell BK515.out 0).trans rfl; have hfz8_0 := blk_frozen BK515.out 0) | ((with_reducible refine gate_dst (N := 12) rfl ?_); refine Kd.R_lit (Kd.int .i64) _ 2 ?hg (N := 12) ?hd (xs := ([a1] : List Int)) (inner := [.int .i64 a1]) (ok := fun _ => True) (okp := fun _ => True) ?hr ?hp (fun _ hk => hk) trivial (Below.refl _ _) (Nat.le_refl _) (by simp) ?_; (case hd => rfl); (case hg => rfl); (case hr => exact gs); (case hp => exact (Reps.one (show Kd.M (Kd.int .i64) _ _ _ a1 [.int .i64 a1] from rfl) (Reps.none _ _))); intro v517 w9 ho10 hb hg_ hnew_; clear hg_ hnew_; (first | rw [← Ny516.out] at ho10 | (simp only [Int.reduceToNat] at ho10; rw [← Ny516.out] at ho10)); have HO518 := Aside0.mk (Kd.R_lower ho10 (below_size hq)); replace BK515 := bb BK515 hb; replace HB := Aside0.mk (below_step hq hb); clear hb ho10; obtain ⟨Ao11, co11, eo11⟩ := Kd.R_slice HO518.out; subst eo11) | ((with_reducible refine gate_callee (f := 49) rfl ?_); refine goesL_ (some 13) rfl rfl Try.func49 (by kernel_rfl) rfl #[.agg #[.slice A0_0 l0_0.length c0_0], .slice Ao11 y516.length co11] rfl am ?_; (with_reducible refine (spec_l01Nodes.calls k _ _ l0_0 _ _ y516 t519 _ ?side1 ?side2 ?side3 ?side4 A3.out).mono ?_); (case side1 => exact pc (Kd.C_below HR0_0.out HB.out)); (case side2 => exact HC0_0.out); (case side3 => exact pc ((Kd.R_reads' HO518.out).2.2)); (case side4 => exact (Kd.R_reads' HO518.out).2.1); rintro e w12 ⟨rfl, hb⟩; refine ⟨_, rfl, ?_⟩; replace HO518 := rb HO518 hb; replace BK515 := bb BK515 hb; replace HB := Aside0.mk (below_step hq hb); (try clear hb); (try clear hb2); (try clear hk); (try clear hi)))
 have n0_ := Aside0.mk (Kd.R_drew HO518.out)
 have n1_ := Aside0.mk (blk_drew BK515.out)
 have n2_ := Aside0.mk (below_drew1 HB.out)
 clear HO518
 clear BK515
 clear HB
 have HO518 := n0_
 have BK515 := n1_
 have HB := n2_
 clear n0_ n1_ n2_
 refine start_ (n := 7) (S := fun w' => w'.cell? ⟨gb515, 0, none⟩ = some (.slice A0_0 l0_0.length c0_0)) (ds := []) #[false, false, false, false, false, false, false] (by kernel_rfl) rfl rfl ((blk_cell BK515.out 0).trans rfl) (fun hHeld => ?_)
 generalize w12.drew = w13 at HO518 BK515 HB hHeld ⊢
 refine take_ (i := 0) (N := some 17) (v := ?_) (a' := ?_) #[true, false, false, false, false, false, false] rfl rfl (by kernel_rfl) (fun _ _ _ h => h) (Or.inl ⟨by rfl, ?_⟩) hHeld ?_ ?_
 rotate_left
 ·intro w' s0
  go_simp
  with_reducible rfl
 rotate_left
 ·simp only [Act.put, sIB, sc0, scs, i64_w, i32_w]
  rfl
 refine take_ (i := 2) (N := some 19) (v := ?_) (a' := ?_) #[true, false, true, false, false, false, false] rfl rfl (by kernel_rfl) (fun _ _ _ h => h) (Or.inl ⟨by rfl, ?_⟩) hHeld ?_ ?_
 rotate_left
 ·intro w' s0
  go_simp
  with_reducible rfl
 rotate_left
 ·simp only [Act.put, sIB, sc0, scs, i64_w, i32_w]
  rfl
 refine one_ (i := 1) (N := some 18) #[true, true, true, false, false, false, false] rfl rfl (by kernel_rfl) (by decide) (fun K hK => ?_)
 refine goes_ Try.func42 (by kernel_rfl) rfl #[.agg #[.slice A0_0 l0_0.length c0_0]] (by rfl) rfl rfl am ?_
 with_reducible refine (spec_l01Parents.calls k _ _ l0_0 t520 _ ?side1 ?side2 A5.out).mono ?_
 (case side1 => exact pc (Kd.C_below HR0_0.out HB.out))
 (case side2 => exact HC0_0.out)
 rintro e w14 ⟨v521, rfl, ho0, hb⟩
 refine ⟨_, rfl, ?_⟩
 have n0_ := rn HO518 ho0 hb
 have n1_ := Aside0.mk (Kd.R_lower (Kd.R_new' ho0 (Kd.R_lt (pe HO518.out))) (below_size hq))
 have n2_ := bb BK515 hb
 have n3_ := Aside0.mk (below_step hq hb)
 clear HO518
 clear BK515
 clear HB
 have HO518 := n0_
 have HO522 := n1_
 have BK515 := n2_
 have HB := n3_
 clear n0_ n1_ n2_ n3_
 (try clear hb)
 (try clear hb2)
 (try clear hk)
 (try clear hi)
 (try clear ho0)
 refine hK.out _ _ ((blk_cell BK515.out 0).trans rfl) (fun hHeld => ?_)
 clear hK K
 refine norm_ (a' := ?_) ?_ ?_
 rotate_left
 ·show Act.put _ (some 18) _ = _
  simp only [Act.put, sIB, sc0, scs, i64_w, i32_w]
  rfl
 refine one_ (i := 3) (N := some 20) #[true, true, true, true, false, false, false] rfl rfl (by kernel_rfl) (by decide) (fun K hK => ?_)
 refine goes_ Try.func43 (by kernel_rfl) rfl #[.agg #[.slice A0_0 l0_0.length c0_0]] (by rfl) rfl rfl am ?_
 with_reducible refine (spec_l08Heavy.calls k _ _ l0_0 t523 _ ?side1 ?side2 A6.out).mono ?_
 (case side1 => exact pc (Kd.C_below HR0_0.out HB.out))
 (case side2 => exact HC0_0.out)
 rintro e w15 ⟨v524, rfl, ho0, hb⟩
 refine ⟨_, rfl, ?_⟩
 have n0_ := rn HO518 ho0 hb
 have n1_ := rn HO522 ho0 hb
 have n2_ := Aside0.mk (Kd.R_lower (Kd.R_new' (Kd.R_new' ho0 (Kd.R_lt (pe HO518.out))) (Kd.R_lt (pe HO522.out))) (below_size hq))
 have n3_ := bb BK515 hb
 have n4_ := Aside0.mk (below_step hq hb)
 clear HO518
 clear HO522
 clear BK515
 clear HB
 have HO518 := n0_
 have HO522 := n1_
 have HO525 := n2_
 have BK515 := n3_
 have HB := n4_
 clear n0_ n1_ n2_ n3_ n4_
 (try clear hb)
 (try clear hb2)
 (try clear hk)
 (try clear hi)
 (try clear ho0)
 refine hK.out _ _ ((blk_cell BK515.out 0).trans rfl) (fun hHeld => ?_)
 clear hK K
 refine norm_ (a' := ?_) ?_ ?_
 rotate_left
 ·show Act.put _ (some 20) _ = _
  simp only [Act.put, sIB, sc0, scs, i64_w, i32_w]
  rfl
 refine pure_ (i := 4) (N := some 7) (v := ?_) (a' := ?_) #[true, true, true, true, true, false, false] rfl rfl (by kernel_rfl) (fun _ _ _ h => h) (Or.inl ⟨by rfl, ?_⟩) ?_ ?_
 rotate_left
 ·intro w'
  go_simp
  with_reducible rfl
 rotate_left
 ·simp only [Act.put, sIB, sc0, scs, i64_w, i32_w]
  rfl
 refine pure_ (i := 5) (N := some 8) (v := ?_) (a' := ?_) #[true, true, true, true, true, true, false] rfl rfl (by kernel_rfl) (fun _ _ _ h => h) (Or.inl ⟨by rfl, ?_⟩) ?_ ?_
 rotate_left
 ·intro w'
  go_simp
  with_reducible rfl
 rotate_left
 ·simp only [Act.put, sIB, sc0, scs, i64_w, i32_w]
  rfl
 refine pure_ (i := 6) (N := some 9) (v := ?_) (a' := ?_) #[true, true, true, true, true, true, true] rfl rfl (by kernel_rfl) (fun _ _ _ h => h) (Or.inl ⟨by rfl, ?_⟩) ?_ ?_
 rotate_left
 ·intro w'
  go_simp
  with_reducible rfl
 rotate_left
 ·simp only [Act.put, sIB, sc0, scs, i64_w, i32_w]
  rfl
 refine done_ (by kernel_rfl) ?_
 try go_wp2
 go_loopg [1, 9] k (fun kq v1 v9 w' => ∃ (x1_1 : Int) (x9_1 : Int), v1 = .int .i64 x1_1 ∧ v9 = .int .i64 x9_1 ∧ Aside0 (spec_LightSteps.l0 kq x1_1 t520 t523 x9_1 = some (r1, r2)) ∧ Aside0 (kq ≤ k) ∧ Aside0 (Kd.R (Kd.int .i64) 2 w' w.heap.size (fun k_ => some k_ ≠ (v524 : Value).ownBlock) v521 t520) ∧ Aside0 (Kd.R (Kd.int .i64) 2 w' w.heap.size (fun k_ => some k_ ≠ (v521 : Value).ownBlock) v524 t523) ∧ Aside0 (w'.heap[gb515]? = some (.cells #[(.slice A0_0 l0_0.length c0_0)] 26 (0, 0))) ∧ Aside0 (Below w.heap.size w w'))
 case atStart => exact ⟨(a1), (0), q11_1, q11_1, H', ⟨Nat.le_refl _⟩, ⟨pe (Kd.R_mono HO522.out (fun _ hk => hk.2))⟩, ⟨pe (Kd.R_mono HO525.out (fun _ hk => hk.2))⟩, ⟨pb BK515.out⟩, ⟨hq⟩⟩
 case round =>
  clear H'
  try clear c1
  try clear p2
  try clear c4
  try clear c4b0
  try clear c4b1
  try clear c15
  try clear hcz8_0
  try clear hfz8_0
  obtain ⟨x1_1, x9_1, rfl, rfl, HA, HK1, HO_7, HO_8, BK515, HB⟩ := hrel
  cases gk with | zero => exact absurd HA.out (by simp [spec_LightSteps.l0]) | succ k1 => ?_
  have H := HA.out
  clear HA
  simp only [spec_LightSteps.l0] at H
  by_cases c16 : x1_1 > 0
  rotate_left
  ·rw [if_neg c16] at H
   have c16b0 : decide (0 < x1_1) = false := decide_eq_false c16
   clear c16
   simp only [Option.some.injEq, Prod.mk.injEq] at H
   obtain ⟨rfl, rfl⟩ := H
   go_wp2
   go_ret2
   exact ⟨ew, hq⟩
  rw [if_pos c16] at H
  have c16b0 : decide (0 < x1_1) = true := decide_eq_true c16
  clear c16
  replace H := Option.bind_eq_some_iff.mp H
  obtain ⟨t526, A170, H⟩ := H
  replace H : (if t526 = true then (if 0 ≤ x1_1 then (if x1_1 < (t520.length : Int) then (spec_LightSteps.l0 k1 (rd t520 x1_1) t520 t523 (wrap64 (x9_1 + 1))) else (none)) else (none)) else (if 0 ≤ x1_1 then (if x1_1 < (t520.length : Int) then (spec_LightSteps.l0 k1 (rd t520 x1_1) t520 t523 x9_1) else (none)) else (none))) = some (r1, r2) := H
  have A17 := Aside0.mk A170
  clear A170
  by_cases c18 : t526 = true
  ·subst c18
   replace H : (if 0 ≤ x1_1 then (if x1_1 < (t520.length : Int) then (spec_LightSteps.l0 k1 (rd t520 x1_1) t520 t523 (wrap64 (x9_1 + 1))) else (none)) else (none)) = some (r1, r2) := by rw [if_pos rfl] at H; exact H
   by_cases c19 : 0 ≤ x1_1
   rotate_left
   ·rw [if_neg c19] at H
    exact absurd H (by simp)
   rw [if_pos c19] at H
   have c19b0 : decide (0 ≤ x1_1) = true := decide_eq_true c19
   clear c19
   by_cases c20 : x1_1 < (t520.length : Int)
   rotate_left
   ·rw [if_neg c20] at H
    exact absurd H (by simp)
   rw [if_pos c20] at H
   have c20b0 : decide (x1_1 < (t520.length : Int)) = true := decide_eq_true c20
   clear c20
   have H' := Aside0.mk H
   clear H
   obtain ⟨Ao21, co21, eo21⟩ := Kd.R_slice HO_7.out
   subst eo21
   obtain ⟨Ao22, co22, eo22⟩ := Kd.R_slice HO_8.out
   subst eo22
   go_wp2_with (first | ((with_reducible refine gate_callee (f := 45) rfl ?_); refine goesL_ (some 30) rfl rfl Try.func45 (by kernel_rfl) rfl #[.slice Ao21 t520.length co21, .slice Ao22 t523.length co22, .int .i64 x1_1] rfl am ?_; (with_reducible refine (spec_l08Light.calls _ _ t520 _ _ t523 x1_1 true _ ?side1 ?side2 ?side3 ?side4 A17.out).mono ?_); (case side1 => exact pc ((Kd.R_reads' HO_7.out).2.2)); (case side2 => exact (Kd.R_reads' HO_7.out).2.1); (case side3 => exact pc ((Kd.R_reads' HO_8.out).2.2)); (case side4 => exact (Kd.R_reads' HO_8.out).2.1); rintro e w' ⟨rfl, ⟨nd, rfl⟩⟩; refine ⟨_, rfl, ?_⟩; have p527 : 0 ≤ (x1_1 : Int) := of_decide_eq_true q11_0; have q527 : x1_1 < (t520.length : Int) := of_decide_eq_true q11_0; obtain ⟨ad527, e527, hx527_0⟩ := Kd.at_int (Kd.R_reads' HO_7.out).2.2 x1_1 p527 q527; cases e527; replace p527 := eq_true p527; replace q527 := eq_true q527))
   go_roundg k1
   case measure => have := HK1.out; omega
   case rel => exact ⟨(rd t520 x1_1), (wrap64 (x9_1 + 1)), q11_1, q11_1, H', ⟨by have := HK1.out; omega⟩, ⟨pe HO_7.out⟩, ⟨pe HO_8.out⟩, ⟨pb BK515.out⟩, ⟨hq⟩⟩
  replace c18 := Bool.eq_false_iff.mpr c18
  subst c18
  have H1 : (if 0 ≤ x1_1 then (if x1_1 < (t520.length : Int) then (spec_LightSteps.l0 k1 (rd t520 x1_1) t520 t523 x9_1) else (none)) else (none)) = some (r1, r2) := by rw [if_neg (show ¬ (false = true) by decide)] at H; exact H
  clear H
  have H := H1
  clear H1
  by_cases c23 : 0 ≤ x1_1
  rotate_left
  ·rw [if_neg c23] at H
   exact absurd H (by simp)
  rw [if_pos c23] at H
  have c23b0 : decide (0 ≤ x1_1) = true := decide_eq_true c23
  clear c23
  by_cases c24 : x1_1 < (t520.length : Int)
  rotate_left
  ·rw [if_neg c24] at H
   exact absurd H (by simp)
  rw [if_pos c24] at H
  have c24b0 : decide (x1_1 < (t520.length : Int)) = true := decide_eq_true c24
  clear c24
  have H' := Aside0.mk H
  clear H
  obtain ⟨Ao25, co25, eo25⟩ := Kd.R_slice HO_7.out
  subst eo25
  obtain ⟨Ao26, co26, eo26⟩ := Kd.R_slice HO_8.out
  subst eo26
  go_wp2_with (first | ((with_reducible refine gate_callee (f := 45) rfl ?_); refine goesL_ (some 30) rfl rfl Try.func45 (by kernel_rfl) rfl #[.slice Ao25 t520.length co25, .slice Ao26 t523.length co26, .int .i64 x1_1] rfl am ?_; (with_reducible refine (spec_l08Light.calls _ _ t520 _ _ t523 x1_1 false _ ?side1 ?side2 ?side3 ?side4 A17.out).mono ?_); (case side1 => exact pc ((Kd.R_reads' HO_7.out).2.2)); (case side2 => exact (Kd.R_reads' HO_7.out).2.1); (case side3 => exact pc ((Kd.R_reads' HO_8.out).2.2)); (case side4 => exact (Kd.R_reads' HO_8.out).2.1); rintro e w' ⟨rfl, ⟨nd, rfl⟩⟩; refine ⟨_, rfl, ?_⟩; have p528 : 0 ≤ (x1_1 : Int) := of_decide_eq_true q11_0; have q528 : x1_1 < (t520.length : Int) := of_decide_eq_true q11_0; obtain ⟨ad528, e528, hx528_0⟩ := Kd.at_int (Kd.R_reads' HO_7.out).2.2 x1_1 p528 q528; cases e528; replace p528 := eq_true p528; replace q528 := eq_true q528))
  go_roundg k1
  case measure => have := HK1.out; omega
  case rel => exact ⟨(rd t520 x1_1), (x9_1), q11_1, q11_1, H', ⟨by have := HK1.out; omega⟩, ⟨pe HO_7.out⟩, ⟨pe HO_8.out⟩, ⟨pb BK515.out⟩, ⟨hq⟩⟩

/-! ### impl_IntervalOf: function 16 -/
def impl_IntervalOf.f (k : Nat) (l0_0 : List Int) (a1 : Int) : Option (Int × Int × Int) := (impl_treeCode.f k l0_0 ([a1] : List Int)).bind fun t533 => (if t533 = 0 then ((impl_endOf.f k l0_0 a1).bind fun t534 => (some (a1, wrap64 (t534 - 1), 0))) else (some (0, 0, t533)))
theorem impl_IntervalOf.mono : ∀ a0 a1 k, LeO (impl_IntervalOf.f k a0 a1) (impl_IntervalOf.f (k + 1) a0 a1) := by
 intro a0 a1 k
 unfold impl_IntervalOf.f
 repeat' first
   | (with_reducible exact impl_endOf.mono _ _ _)
   | (with_reducible exact impl_treeCode.mono _ _ _)
   | (with_reducible exact LeO.refl _)
   | (with_reducible exact LeO.none _)
   | (with_reducible refine LeO.ite ?_ ?_)
   | (with_reducible refine LeO.bind ?_ (fun _ => ?_))
   | exact impl_endOf.mono _ _ _
   | exact impl_treeCode.mono _ _ _
   | exact LeO.none _
   | refine LeO.ite ?_ ?_
   | refine LeO.bind ?_ (fun _ => ?_)
set_option maxHeartbeats 8000000 in
set_option maxRecDepth 100000 in
theorem impl_IntervalOf.calls (k : Nat) (A0_0 : Option Addr) (c0_0 : Nat) (l0_0 : List Int) (a1 : Int) (r1 : Int) (r2 : Int) (r3 : Int) (w : World) (hr0_0 : Kd.C (Kd.int .i64) w A0_0 l0_0.length l0_0) (hc0_0 : l0_0.length ≤ c0_0) (h : impl_IntervalOf.f k l0_0 a1 = some (r1, r2, r3)) :
  Calls Try.prog 16 #[.agg #[.slice A0_0 l0_0.length c0_0], .int .i64 a1] w fun e w' => e = .returned (.tuple #[.int .i64 r1, .int .i64 r2, .int .i64 r3]) ∧ Below w.heap.size w w' := by
 have hu26 := Try.underlying26
 have HR0_0 := Aside0.mk hr0_0
 have HC0_0 := Aside0.mk hc0_0
 clear hr0_0 hc0_0
 have HB := Aside0.mk (Below.refl w.heap.size w)
 have H : ((impl_treeCode.f k l0_0 ([a1] : List Int)).bind fun t533 => (if t533 = 0 then ((impl_endOf.f k l0_0 a1).bind fun t534 => (some (a1, wrap64 (t534 - 1), 0))) else (some (0, 0, t533)))) = some (r1, r2, r3) := h
 clear h
 obtain ⟨y530, hy530⟩ : ∃ y_ : List Int, y_ = ([a1] : List Int) := ⟨_, rfl⟩
 replace H : ((impl_treeCode.f k l0_0 y530).bind fun t533 => (if t533 = 0 then ((impl_endOf.f k l0_0 a1).bind fun t534 => (some (a1, wrap64 (t534 - 1), 0))) else (some (0, 0, t533)))) = some (r1, r2, r3) := by first | (rw [hy530]; with_reducible exact H) | (have H2_ := (Option.bind_some _ _).symm.trans H; rw [hy530]; with_reducible exact H2_) | (have H2_ := (Option.bind_some _ _).symm.trans H; with_reducible exact H2_) | with_reducible exact H | (rw [hy530]; exact H) | exact H
 have Ny530 := Aside0.mk hy530
 clear hy530
 replace H := Option.bind_eq_some_iff.mp H
 obtain ⟨t533, A30, H⟩ := H
 replace H : (if t533 = 0 then ((impl_endOf.f k l0_0 a1).bind fun t534 => (some (a1, wrap64 (t534 - 1), 0))) else (some (0, 0, t533))) = some (r1, r2, r3) := H
 have A3 := Aside0.mk A30
 clear A30
 by_cases c4 : t533 = 0
 rotate_left
 ·rw [if_neg c4] at H
  have c4b0 : (t533 == 0) = false := beq_eq_false_iff_ne.mpr c4
  have c4b1 : (t533 != 0) = true := bne_iff_ne.mpr c4
  simp only [Option.some.injEq, Prod.mk.injEq] at H
  obtain ⟨rfl, rfl, rfl⟩ := H
  go_enter Try.func16, Try.ntmps16
  go_wp2_with (first | ((with_reducible refine gate_dst (N := 2) rfl ?_); refine box_event ?hg (N := 2) ?hd (cs := #[.slice A0_0 l0_0.length c0_0]) (t := 26) ?hr ?_; (case hd => rfl); (case hg => rfl); (case hr => exact gs); intro gb529 hg w13 hbox hb; have BK529 := Aside0.mk (hbox); have GW529 := Aside0.mk (geb hg hq : w.heap.size ≤ gb529); have GE529 := Aside0.mk (geb hg hq : w.heap.size ≤ gb529); replace HB := Aside0.mk (below_step hq hb); clear hb hbox hg; have hcz14_0 : w13.cell? ⟨gb529, 0, none⟩ = some (.slice A0_0 l0_0.length c0_0) := (blk_cell BK529.out 0).trans rfl; have hfz14_0 := blk_frozen BK529.out 0) | ((with_reducible refine gate_dst (N := 10) rfl ?_); refine Kd.R_lit (Kd.int .i64) _ 2 ?hg (N := 10) ?hd (xs := ([a1] : List Int)) (inner := [.int .i64 a1]) (ok := fun _ => True) (okp := fun _ => True) ?hr ?hp (fun _ hk => hk) trivial (Below.refl _ _) (Nat.le_refl _) (by simp) ?_; (case hd => rfl); (case hg => rfl); (case hr => exact gs); (case hp => exact (Reps.one (show Kd.M (Kd.int .i64) _ _ _ a1 [.int .i64 a1] from rfl) (Reps.none _ _))); intro v531 w15 ho16 hb hg_ hnew_; clear hg_ hnew_; (first | rw [← Ny530.out] at ho16 | (simp only [Int.reduceToNat] at ho16; rw [← Ny530.out] at ho16)); have HO532 := Aside0.mk (Kd.R_lower ho16 (below_size hq)); replace BK529 := bb BK529 hb; replace HB := Aside0.mk (below_step hq hb); clear hb ho16; obtain ⟨Ao17, co17, eo17⟩ := Kd.R_slice HO532.out; subst eo17) | ((with_reducible refine gate_callee (f := 47) rfl ?_); refine goesL_ (some 11) rfl rfl Try.func47 (by kernel_rfl) rfl #[.agg #[.slice A0_0 l0_0.length c0_0], .slice Ao17 y530.length co17] rfl am ?_; (with_reducible refine (impl_treeCode.calls k _ _ l0_0 _ _ y530 t533 _ ?side1 ?side2 ?side3 ?side4 A3.out).mono ?_); (case side1 => exact pc (Kd.C_below HR0_0.out HB.out)); (case side2 => exact HC0_0.out); (case side3 => exact pc ((Kd.R_reads' HO532.out).2.2)); (case side4 => exact (Kd.R_reads' HO532.out).2.1); rintro e w18 ⟨rfl, hb⟩; refine ⟨_, rfl, ?_⟩; replace HO532 := rb HO532 hb; replace BK529 := bb BK529 hb; replace HB := Aside0.mk (below_step hq hb); (try clear hb); (try clear hb2); (try clear hk); (try clear hi)))
  go_ret3
  exact ⟨ew, hq⟩
 rw [if_pos c4] at H
 have c4b0 : (t533 == 0) = true := beq_iff_eq.mpr c4
 have c4b1 : (t533 != 0) = false := bne_eq_false_iff_eq.mpr c4
 clear c4
 replace H := Option.bind_eq_some_iff.mp H
 obtain ⟨t534, A50, H⟩ := H
 replace H : (some (a1, wrap64 (t534 - 1), 0)) = some (r1, r2, r3) := H
 have A5 := Aside0.mk A50
 clear A50
 simp only [Option.some.injEq, Prod.mk.injEq] at H
 obtain ⟨rfl, rfl, rfl⟩ := H
 go_enter Try.func16, Try.ntmps16
 go_wp2_with (first | ((with_reducible refine gate_dst (N := 2) rfl ?_); refine box_event ?hg (N := 2) ?hd (cs := #[.slice A0_0 l0_0.length c0_0]) (t := 26) ?hr ?_; (case hd => rfl); (case hg => rfl); (case hr => exact gs); intro gb529 hg w6 hbox hb; have BK529 := Aside0.mk (hbox); have GW529 := Aside0.mk (geb hg hq : w.heap.size ≤ gb529); have GE529 := Aside0.mk (geb hg hq : w.heap.size ≤ gb529); replace HB := Aside0.mk (below_step hq hb); clear hb hbox hg; have hcz7_0 : w6.cell? ⟨gb529, 0, none⟩ = some (.slice A0_0 l0_0.length c0_0) := (blk_cell BK529.out 0).trans rfl; have hfz7_0 := blk_frozen BK529.out 0) | ((with_reducible refine gate_dst (N := 10) rfl ?_); refine Kd.R_lit (Kd.int .i64) _ 2 ?hg (N := 10) ?hd (xs := ([a1] : List Int)) (inner := [.int .i64 a1]) (ok := fun _ => True) (okp := fun _ => True) ?hr ?hp (fun _ hk => hk) trivial (Below.refl _ _) (Nat.le_refl _) (by simp) ?_; (case hd => rfl); (case hg => rfl); (case hr => exact gs); (case hp => exact (Reps.one (show Kd.M (Kd.int .i64) _ _ _ a1 [.int .i64 a1] from rfl) (Reps.none _ _))); intro v531 w8 ho9 hb hg_ hnew_; clear hg_ hnew_; (first | rw [← Ny530.out] at ho9 | (simp only [Int.reduceToNat] at ho9; rw [← Ny530.out] at ho9)); have HO532 := Aside0.mk (Kd.R_lower ho9 (below_size hq)); replace BK529 := bb BK529 hb; replace HB := Aside0.mk (below_step hq hb); clear hb ho9; obtain ⟨Ao10, co10, eo10⟩ := Kd.R_slice HO532.out; subst eo10) | ((with_reducible refine gate_callee (f := 47) rfl ?_); refine goesL_ (some 11) rfl rfl Try.func47 (by kernel_rfl) rfl #[.agg #[.slice A0_0 l0_0.length c0_0], .slice Ao10 y530.length co10] rfl am ?_; (with_reducible refine (impl_treeCode.calls k _ _ l0_0 _ _ y530 t533 _ ?side1 ?side2 ?side3 ?side4 A3.out).mono ?_); (case side1 => exact pc (Kd.C_below HR0_0.out HB.out)); (case side2 => exact HC0_0.out); (case side3 => exact pc ((Kd.R_reads' HO532.out).2.2)); (case side4 => exact (Kd.R_reads' HO532.out).2.1); rintro e w11 ⟨rfl, hb⟩; refine ⟨_, rfl, ?_⟩; replace HO532 := rb HO532 hb; replace BK529 := bb BK529 hb; replace HB := Aside0.mk (below_step hq hb); (try clear hb); (try clear hb2); (try clear hk); (try clear hi); have hcz12_0 : w11.cell? ⟨gb529, 0, none⟩ = some (.slice A0_0 l0_0.length c0_0) := (blk_cell BK529.out 0).trans rfl; have hfz12_0 := blk_frozen BK529.out 0) | ((with_reducible refine gate_callee (f := 50) rfl ?_); refine goesL_ (some 19) rfl rfl Try.func50 (by kernel_rfl) rfl #[.slice A0_0 l0_0.length c0_0, .int .i64 a1] rfl am ?_; (with_reducible refine (impl_endOf.calls k _ _ l0_0 a1 t534 _ ?side1 ?side2 A5.out).mono ?_); (case side1 => exact pc (Kd.C_below HR0_0.out HB.out)); (case side2 => exact HC0_0.out); rintro e w' ⟨rfl, ⟨nd, rfl⟩⟩; refine ⟨_, rfl, ?_⟩))
 go_ret3
 exact ⟨ew, hq⟩

/-! ### spec_IntervalOf: function 17 -/
def spec_IntervalOf.f (k : Nat) (l0_0 : List Int) (a1 : Int) : Option (Int × Int × Int) := (spec_l01Nodes.f k l0_0 ([a1] : List Int)).bind fun t539 => (if t539 = 0 then ((spec_l01End.f k l0_0 a1).bind fun t540 => (some (a1, wrap64 (t540 - 1), 0))) else (some (0, 0, t539)))
theorem spec_IntervalOf.mono : ∀ a0 a1 k, LeO (spec_IntervalOf.f k a0 a1) (spec_IntervalOf.f (k + 1) a0 a1) := by
 intro a0 a1 k
 unfold spec_IntervalOf.f
 repeat' first
   | (with_reducible exact spec_l01End.mono _ _ _)
   | (with_reducible exact spec_l01Nodes.mono _ _ _)
   | (with_reducible exact LeO.refl _)
   | (with_reducible exact LeO.none _)
   | (with_reducible refine LeO.ite ?_ ?_)
   | (with_reducible refine LeO.bind ?_ (fun _ => ?_))
   | exact spec_l01End.mono _ _ _
   | exact spec_l01Nodes.mono _ _ _
   | exact LeO.none _
   | refine LeO.ite ?_ ?_
   | refine LeO.bind ?_ (fun _ => ?_)
set_option maxHeartbeats 8000000 in
set_option maxRecDepth 100000 in
theorem spec_IntervalOf.calls (k : Nat) (A0_0 : Option Addr) (c0_0 : Nat) (l0_0 : List Int) (a1 : Int) (r1 : Int) (r2 : Int) (r3 : Int) (w : World) (hr0_0 : Kd.C (Kd.int .i64) w A0_0 l0_0.length l0_0) (hc0_0 : l0_0.length ≤ c0_0) (h : spec_IntervalOf.f k l0_0 a1 = some (r1, r2, r3)) :
  Calls Try.prog 17 #[.agg #[.slice A0_0 l0_0.length c0_0], .int .i64 a1] w fun e w' => e = .returned (.tuple #[.int .i64 r1, .int .i64 r2, .int .i64 r3]) ∧ Below w.heap.size w w' := by
 have hu26 := Try.underlying26
 have HR0_0 := Aside0.mk hr0_0
 have HC0_0 := Aside0.mk hc0_0
 clear hr0_0 hc0_0
 have HB := Aside0.mk (Below.refl w.heap.size w)
 have H : ((spec_l01Nodes.f k l0_0 ([a1] : List Int)).bind fun t539 => (if t539 = 0 then ((spec_l01End.f k l0_0 a1).bind fun t540 => (some (a1, wrap64 (t540 - 1), 0))) else (some (0, 0, t539)))) = some (r1, r2, r3) := h
 clear h
 obtain ⟨y536, hy536⟩ : ∃ y_ : List Int, y_ = ([a1] : List Int) := ⟨_, rfl⟩
 replace H : ((spec_l01Nodes.f k l0_0 y536).bind fun t539 => (if t539 = 0 then ((spec_l01End.f k l0_0 a1).bind fun t540 => (some (a1, wrap64 (t540 - 1), 0))) else (some (0, 0, t539)))) = some (r1, r2, r3) := by first | (rw [hy536]; with_reducible exact H) | (have H2_ := (Option.bind_some _ _).symm.trans H; rw [hy536]; with_reducible exact H2_) | (have H2_ := (Option.bind_some _ _).symm.trans H; with_reducible exact H2_) | with_reducible exact H | (rw [hy536]; exact H) | exact H
 have Ny536 := Aside0.mk hy536
 clear hy536
 replace H := Option.bind_eq_some_iff.mp H
 obtain ⟨t539, A30, H⟩ := H
 replace H : (if t539 = 0 then ((spec_l01End.f k l0_0 a1).bind fun t540 => (some (a1, wrap64 (t540 - 1), 0))) else (some (0, 0, t539))) = some (r1, r2, r3) := H
 have A3 := Aside0.mk A30
 clear A30
 by_cases c4 : t539 = 0
 rotate_left
 ·rw [if_neg c4] at H
  have c4b0 : (t539 == 0) = false := beq_eq_false_iff_ne.mpr c4
  have c4b1 : (t539 != 0) = true := bne_iff_ne.mpr c4
  simp only [Option.some.injEq, Prod.mk.injEq] at H
  obtain ⟨rfl, rfl, rfl⟩ := H
  go_enter Try.func17, Try.ntmps17
  go_wp2_with (first | ((with_reducible refine gate_dst (N := 2) rfl ?_); refine box_event ?hg (N := 2) ?hd (cs := #[.slice A0_0 l0_0.length c0_0]) (t := 26) ?hr ?_; (case hd => rfl); (case hg => rfl); (case hr => exact gs); intro gb535 hg w14 hbox hb; have BK535 := Aside0.mk (hbox); have GW535 := Aside0.mk (geb hg hq : w.heap.size ≤ gb535); have GE535 := Aside0.mk (geb hg hq : w.heap.size ≤ gb535); replace HB := Aside0.mk (below_step hq hb); clear hb hbox hg; have hcz15_0 : w14.cell? ⟨gb535, 0, none⟩ = some (.slice A0_0 l0_0.length c0_0) := (blk_cell BK535.out 0).trans rfl; have hfz15_0 := blk_frozen BK535.out 0) | ((with_reducible refine gate_dst (N := 10) rfl ?_); refine Kd.R_lit (Kd.int .i64) _ 2 ?hg (N := 10) ?hd (xs := ([a1] : List Int)) (inner := [.int .i64 a1]) (ok := fun _ => True) (okp := fun _ => True) ?hr ?hp (fun _ hk => hk) trivial (Below.refl _ _) (Nat.le_refl _) (by simp) ?_; (case hd => rfl); (case hg => rfl); (case hr => exact gs); (case hp => exact (Reps.one (show Kd.M (Kd.int .i64) _ _ _ a1 [.int .i64 a1] from rfl) (Reps.none _ _))); intro v537 w16 ho17 hb hg_ hnew_; clear hg_ hnew_; (first | rw [← Ny536.out] at ho17 | (simp only [Int.reduceToNat] at ho17; rw [← Ny536.out] at ho17)); have HO538 := Aside0.mk (Kd.R_lower ho17 (below_size hq)); replace BK535 := bb BK535 hb; replace HB := Aside0.mk (below_step hq hb); clear hb ho17; obtain ⟨Ao18, co18, eo18⟩ := Kd.R_slice HO538.out; subst eo18) | ((with_reducible refine gate_callee (f := 49) rfl ?_); refine goesL_ (some 11) rfl rfl Try.func49 (by kernel_rfl) rfl #[.agg #[.slice A0_0 l0_0.length c0_0], .slice Ao18 y536.length co18] rfl am ?_; (with_reducible refine (spec_l01Nodes.calls k _ _ l0_0 _ _ y536 t539 _ ?side1 ?side2 ?side3 ?side4 A3.out).mono ?_); (case side1 => exact pc (Kd.C_below HR0_0.out HB.out)); (case side2 => exact HC0_0.out); (case side3 => exact pc ((Kd.R_reads' HO538.out).2.2)); (case side4 => exact (Kd.R_reads' HO538.out).2.1); rintro e w19 ⟨rfl, hb⟩; refine ⟨_, rfl, ?_⟩; replace HO538 := rb HO538 hb; replace BK535 := bb BK535 hb; replace HB := Aside0.mk (below_step hq hb); (try clear hb); (try clear hb2); (try clear hk); (try clear hi)))
  go_ret3
  exact ⟨ew, hq⟩
 rw [if_pos c4] at H
 have c4b0 : (t539 == 0) = true := beq_iff_eq.mpr c4
 have c4b1 : (t539 != 0) = false := bne_eq_false_iff_eq.mpr c4
 clear c4
 replace H := Option.bind_eq_some_iff.mp H
 obtain ⟨t540, A50, H⟩ := H
 replace H : (some (a1, wrap64 (t540 - 1), 0)) = some (r1, r2, r3) := H
 have A5 := Aside0.mk A50
 clear A50
 simp only [Option.some.injEq, Prod.mk.injEq] at H
 obtain ⟨rfl, rfl, rfl⟩ := H
 go_enter Try.func17, Try.ntmps17
 go_wp2_with (first | ((with_reducible refine gate_dst (N := 2) rfl ?_); refine box_event ?hg (N := 2) ?hd (cs := #[.slice A0_0 l0_0.length c0_0]) (t := 26) ?hr ?_; (case hd => rfl); (case hg => rfl); (case hr => exact gs); intro gb535 hg w6 hbox hb; have BK535 := Aside0.mk (hbox); have GW535 := Aside0.mk (geb hg hq : w.heap.size ≤ gb535); have GE535 := Aside0.mk (geb hg hq : w.heap.size ≤ gb535); replace HB := Aside0.mk (below_step hq hb); clear hb hbox hg; have hcz7_0 : w6.cell? ⟨gb535, 0, none⟩ = some (.slice A0_0 l0_0.length c0_0) := (blk_cell BK535.out 0).trans rfl; have hfz7_0 := blk_frozen BK535.out 0) | ((with_reducible refine gate_dst (N := 10) rfl ?_); refine Kd.R_lit (Kd.int .i64) _ 2 ?hg (N := 10) ?hd (xs := ([a1] : List Int)) (inner := [.int .i64 a1]) (ok := fun _ => True) (okp := fun _ => True) ?hr ?hp (fun _ hk => hk) trivial (Below.refl _ _) (Nat.le_refl _) (by simp) ?_; (case hd => rfl); (case hg => rfl); (case hr => exact gs); (case hp => exact (Reps.one (show Kd.M (Kd.int .i64) _ _ _ a1 [.int .i64 a1] from rfl) (Reps.none _ _))); intro v537 w8 ho9 hb hg_ hnew_; clear hg_ hnew_; (first | rw [← Ny536.out] at ho9 | (simp only [Int.reduceToNat] at ho9; rw [← Ny536.out] at ho9)); have HO538 := Aside0.mk (Kd.R_lower ho9 (below_size hq)); replace BK535 := bb BK535 hb; replace HB := Aside0.mk (below_step hq hb); clear hb ho9; obtain ⟨Ao10, co10, eo10⟩ := Kd.R_slice HO538.out; subst eo10) | ((with_reducible refine gate_callee (f := 49) rfl ?_); refine goesL_ (some 11) rfl rfl Try.func49 (by kernel_rfl) rfl #[.agg #[.slice A0_0 l0_0.length c0_0], .slice Ao10 y536.length co10] rfl am ?_; (with_reducible refine (spec_l01Nodes.calls k _ _ l0_0 _ _ y536 t539 _ ?side1 ?side2 ?side3 ?side4 A3.out).mono ?_); (case side1 => exact pc (Kd.C_below HR0_0.out HB.out)); (case side2 => exact HC0_0.out); (case side3 => exact pc ((Kd.R_reads' HO538.out).2.2)); (case side4 => exact (Kd.R_reads' HO538.out).2.1); rintro e w11 ⟨rfl, hb⟩; refine ⟨_, rfl, ?_⟩; replace HO538 := rb HO538 hb; replace BK535 := bb BK535 hb; replace HB := Aside0.mk (below_step hq hb); (try clear hb); (try clear hb2); (try clear hk); (try clear hi); have hcz12_0 : w11.cell? ⟨gb535, 0, none⟩ = some (.slice A0_0 l0_0.length c0_0) := (blk_cell BK535.out 0).trans rfl; have hfz12_0 := blk_frozen BK535.out 0) | ((with_reducible refine gate_callee (f := 51) rfl ?_); refine goesL_ (some 18) rfl rfl Try.func51 (by kernel_rfl) rfl #[.agg #[.slice A0_0 l0_0.length c0_0], .int .i64 a1] rfl am ?_; (with_reducible refine (spec_l01End.calls k _ _ l0_0 a1 t540 _ ?side1 ?side2 A5.out).mono ?_); (case side1 => exact pc (Kd.C_below HR0_0.out HB.out)); (case side2 => exact HC0_0.out); rintro e w13 ⟨rfl, hb⟩; refine ⟨_, rfl, ?_⟩; replace HO538 := rb HO538 hb; replace BK535 := bb BK535 hb; replace HB := Aside0.mk (below_step hq hb); (try clear hb); (try clear hb2); (try clear hk); (try clear hi)))
 go_ret3
 exact ⟨ew, hq⟩

end Go.Proofs.Ytlppkilencpmeaa.QFnHeavyPaths
