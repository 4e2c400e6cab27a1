/- Functions as Lean functions, with their contracts: written by a program of this claim over the translation; some contracts are proved by hand. -/
import Derived.Test.YtlppkilencpmeaaQFnHeavyPathsx0
import Derived.Test.YtlppkilencpmeaaQFnHeavyPathsx1
import Derived.Test.YtlppkilencpmeaaQFnHeavyPathsx4
import Derived.Test.YtlppkilencpmeaaQFnHeavyPathsx5
import Derived.Test.YtlppkilencpmeaaQFnHeavyPathsx6
import Derived.Test.YtlppkilencpmeaaQFnHeavyPathsx7
namespace Go.Proofs.Ytlppkilencpmeaa.QFnHeavyPaths
open Go.RowKit Go.Proofs.Ytlppkilencpmeaa.Gl Go.Proofs.Ytlppkilencpmeaa.Sz Go.Proofs.YtlppkilencpmeaaW.PrintWords Go.Proofs.YtlppkilencpmeaaW.PrintLast Go.Proofs.YtlppkilencpmeaaW.PrintMore
attribute [local go_sem] max2_int min2_int max_two min_two max_three min_three max_four min_four   -- for this text's walks alone
set_option linter.unusedVariables false
set_option linter.unusedSimpArgs false
theorem q8_0 {P : Prop} (h : P := by first | (with_reducible assumption) | assumption) : P := h
theorem q8_1 {P : Prop} (h : P := by first | rfl | (simp; done) | (simp [*]; done)) : P := h
theorem q8_2 {P : Prop} (h : P := by repeat (first | exact Drawn0.refl _ | apply Drawn0.step)) : P := h
theorem q8_3 {P : Prop} (h : P := by first | exact (Kd.S_elder' (ps (Q_HO404 h0_)) (Kd.R_base ho0) hb) | exact Kd.S_mono (Kd.S_elder' (ps (Q_HO404 h0_)) (Kd.R_base ho0) hb) (fun _ h_ => by first | trivial | exact h_ | exact h_.1)) : P := h

/-! ### spec_HeavyPaths: function 8 -/
theorem hp_nil {w : World} {base : Nat} {v : Value} {xs : List (List Int)} {ok : Nat → Prop} (h : Kd.S (Kd.slice 2 (Kd.int .i64)) 24 w base (fun _ => True) v xs) (hx : xs = []) (hok : ∀ k, v.ownBlock = some k → ok k) : Kd.S (Kd.slice 2 (Kd.int .i64)) 24 w base ok v xs := by
 subst hx
 obtain ⟨f, _, inner, ho, hr⟩ := h
 exact ⟨f, hok, inner, ho, hr.1, fun j p hj => by simp at hj⟩
mutual
def spec_HeavyPaths.l0 : Nat → List Int → List Int → List (List Int) → Int → List Int → Option ((List (List Int)) × Int)
 | 0, _, _, _, _, _ => none
 | k + 1, x4, x5, x6, x7, x395000 => (spec_l01N.f x395000).bind fun t405 => (if x7 < t405 then ((spec_l08Light.f x4 x5 x7).bind fun t406 => (if t406 = true then (spec_HeavyPaths.l1 k x4 x5 x6 x7 ([] : List Int) x7 x395000) else (spec_HeavyPaths.l0 k x4 x5 x6 (wrap64 (x7 + 1)) x395000))) else (some (x6, 0)))
def spec_HeavyPaths.l1 : Nat → List Int → List Int → List (List Int) → Int → List Int → Int → List Int → Option ((List (List Int)) × Int)
 | 0, _, _, _, _, _, _, _ => none
 | k + 1, x4, x5, x6, x7, x8, x9, x395000 => if x9 ≥ 0 then (if x8.length < 17592186044416 then (if 0 ≤ x9 then (if x9 < (x5.length : Int) then (spec_HeavyPaths.l1 k x4 x5 x6 x7 (x8 ++ [x9]) (rd x5 x9) x395000) else (none)) else (none)) else (none)) else (if x6.length < 5864062014805 then (spec_HeavyPaths.l0 k x4 x5 (x6 ++ [x8]) (wrap64 (x7 + 1)) x395000) else (none))
end
def spec_HeavyPaths.f (k : Nat) (l0_0 : List Int) : Option ((List (List Int)) × Int) := (spec_l01Is.f k l0_0).bind fun t395 => (if t395 = true then ((spec_l01Parents.f k l0_0).bind fun t396 => ((spec_l08Heavy.f k l0_0).bind fun t399 => (spec_HeavyPaths.l0 k t396 t399 ([] : List (List Int)) 0 l0_0))) else (some (([] : List (List Int)), 1)))
theorem spec_HeavyPaths.mo0 {P : Prop} (h : P := by repeat' first  | (with_reducible exact ih0 _ _ _ _ _) | (with_reducible exact ih1 _ _ _ _ _ _ _) | (with_reducible exact spec_l01Is.mono _ _) | (with_reducible exact spec_l01Parents.mono _ _) | (with_reducible exact spec_l08Heavy.mono _ _) | (with_reducible exact LeO.refl _) | (with_reducible exact LeO.none _) | (with_reducible refine LeO.ite ?_ ?_) | (with_reducible refine LeO.bind ?_ (fun _ => ?_)) | exact ih0 _ _ _ _ _ | exact ih1 _ _ _ _ _ _ _ | exact spec_l01Is.mono _ _ | exact spec_l01Parents.mono _ _ | exact spec_l08Heavy.mono _ _ | exact LeO.none _ | refine LeO.ite ?_ ?_ | refine LeO.bind ?_ (fun _ => ?_)) : P := h
theorem spec_HeavyPaths.mono_l : ∀ k, (∀ y0 y1 y2 y3 y4, LeO (spec_HeavyPaths.l0 k y0 y1 y2 y3 y4) (spec_HeavyPaths.l0 (k + 1) y0 y1 y2 y3 y4)) ∧ (∀ y0 y1 y2 y3 y4 y5 y6, LeO (spec_HeavyPaths.l1 k y0 y1 y2 y3 y4 y5 y6) (spec_HeavyPaths.l1 (k + 1) y0 y1 y2 y3 y4 y5 y6))
 | 0 => ⟨fun _ _ _ _ _ r h => by simp [spec_HeavyPaths.l0] at h, fun _ _ _ _ _ _ _ r h => by simp [spec_HeavyPaths.l1] at h⟩
 | k + 1 => by
  obtain ⟨ih0, ih1⟩ := spec_HeavyPaths.mono_l k
  refine ⟨?_, ?_⟩
  ·intro y0 y1 y2 y3 y4
   unfold spec_HeavyPaths.l0
   exact spec_HeavyPaths.mo0
  ·intro y0 y1 y2 y3 y4 y5 y6
   unfold spec_HeavyPaths.l1
   exact spec_HeavyPaths.mo0
theorem spec_HeavyPaths.mono : ∀ a0 k, LeO (spec_HeavyPaths.f k a0) (spec_HeavyPaths.f (k + 1) a0) := by
 intro a0 k
 obtain ⟨ih0, ih1⟩ := spec_HeavyPaths.mono_l k
 unfold spec_HeavyPaths.f
 repeat' first
   | (with_reducible exact ih0 _ _ _ _ _)
   | (with_reducible exact ih1 _ _ _ _ _ _ _)
   | (with_reducible exact spec_l01Is.mono _ _)
   | (with_reducible exact spec_l01Parents.mono _ _)
   | (with_reducible exact spec_l08Heavy.mono _ _)
   | (with_reducible exact LeO.refl _)
   | (with_reducible exact LeO.none _)
   | (with_reducible refine LeO.ite ?_ ?_)
   | (with_reducible refine LeO.bind ?_ (fun _ => ?_))
   | exact ih0 _ _ _ _ _
   | exact ih1 _ _ _ _ _ _ _
   | exact spec_l01Is.mono _ _
   | exact spec_l01Parents.mono _ _
   | exact spec_l08Heavy.mono _ _
   | exact LeO.none _
   | refine LeO.ite ?_ ?_
   | refine LeO.bind ?_ (fun _ => ?_)
def spec_HeavyPaths.T3 : Bool × List (List Nat × List Nat) := (true, [([], []), ([0], [0]), ([], []), ([2, 1], [2]), ([], []), ([1, 3, 0, 1], [1]), ([3, 5, 0, 1, 2, 3, 5], [3]), ([4, 6, 0, 1, 2, 3, 4, 5, 6], [4])])
def spec_HeavyPaths.B3 : List Nat := [0, 1, 0, 7, 0, 15, 47, 127]
theorem spec_HeavyPaths.tab3 : rtab .any (opsOf Try.f8 3) = spec_HeavyPaths.T3 := by kernel_rfl
theorem spec_HeavyPaths.bits3 : waitsOk spec_HeavyPaths.T3.2 spec_HeavyPaths.B3 = true := by kernel_rfl
set_option maxHeartbeats 8000000 in
set_option maxRecDepth 100000 in
theorem spec_HeavyPaths.calls (k : Nat) (A0_0 : Option Addr) (c0_0 : Nat) (l0_0 : List Int) (r1 : List (List Int)) (r2 : Int) (w : World) (hr0_0 : Kd.C (Kd.int .i64) w A0_0 l0_0.length l0_0) (hc0_0 : l0_0.length ≤ c0_0) (h : spec_HeavyPaths.f k l0_0 = some (r1, r2)) :
  Calls Try.prog 8 #[.agg #[.slice A0_0 l0_0.length c0_0]] w fun e w' => ∃ v0_ : Value, e = .returned (.tuple #[v0_, .int .i64 r2]) ∧ Kd.S (Kd.slice 2 (Kd.int .i64)) 24 w' w.heap.size (fun _ => True) v0_ r1 ∧ Below w.heap.size w w' := by
 have hu26 := Try.underlying26
 have HR0_0 := Aside0.mk hr0_0
 have HC0_0 := Aside0.mk hc0_0
 clear hr0_0 hc0_0
 have HB := Aside0.mk (Below.refl w.heap.size w)
 have H : ((spec_l01Is.f k l0_0).bind fun t395 => (if t395 = true then ((spec_l01Parents.f k l0_0).bind fun t396 => ((spec_l08Heavy.f k l0_0).bind fun t399 => (spec_HeavyPaths.l0 k t396 t399 ([] : List (List Int)) 0 l0_0))) else (some (([] : List (List Int)), 1)))) = some (r1, r2) := h
 clear h
 replace H := Option.bind_eq_some_iff.mp H
 obtain ⟨t395, A20, H⟩ := H
 replace H : (if t395 = true then ((spec_l01Parents.f k l0_0).bind fun t396 => ((spec_l08Heavy.f k l0_0).bind fun t399 => (spec_HeavyPaths.l0 k t396 t399 ([] : List (List Int)) 0 l0_0))) else (some (([] : List (List Int)), 1))) = some (r1, r2) := H
 have A2 := Aside0.mk A20
 clear A20
 by_cases c3 : t395 = true
 rotate_left
 ·replace c3 := Bool.eq_false_iff.mpr c3
  subst c3
  have H1 : (some (([] : List (List Int)), 1)) = some (r1, r2) := by rw [if_neg (show ¬ (false = true) by decide)] at H; exact H
  clear H
  have H := H1
  clear H1
  simp only [Option.some.injEq, Prod.mk.injEq] at H
  obtain ⟨rfl, rfl⟩ := H
  go_enter Try.func8, Try.ntmps8
  go_wp2_with (first | ((with_reducible refine gate_dst (N := 1) rfl ?_); refine box_event ?hg (N := 1) ?hd (cs := #[.slice A0_0 l0_0.length c0_0]) (t := 26) ?hr ?_; (case hd => rfl); (case hg => rfl); (case hr => exact gs); intro gb394 hg w39 hbox hb; have BK394 := Aside0.mk (hbox); have GW394 := Aside0.mk (geb hg hq : w.heap.size ≤ gb394); have GE394 := Aside0.mk (geb hg hq : w.heap.size ≤ gb394); replace HB := Aside0.mk (below_step hq hb); clear hb hbox hg; have hcz40_0 : w39.cell? ⟨gb394, 0, none⟩ = some (.slice A0_0 l0_0.length c0_0) := (blk_cell BK394.out 0).trans rfl; have hfz40_0 := blk_frozen BK394.out 0) | ((with_reducible refine gate_callee (f := 41) rfl ?_); refine goesL_ (some 11) rfl rfl Try.func41 (by kernel_rfl) rfl #[.agg #[.slice A0_0 l0_0.length c0_0]] rfl am ?_; (with_reducible refine (spec_l01Is.calls k _ _ l0_0 false _ ?side1 ?side2 A2.out).mono ?_); (case side1 => exact pc (Kd.C_below HR0_0.out HB.out)); (case side2 => exact HC0_0.out); rintro e w41 ⟨rfl, hb⟩; refine ⟨_, rfl, ?_⟩; replace BK394 := bb BK394 hb; replace HB := Aside0.mk (below_step hq hb); (try clear hb); (try clear hb2); (try clear hk); (try clear hi)))
  go_ret2
  exact ⟨_, ew, by first | exact Kd.S_nil _ _ _ _ _ | exact Kd.N_nil _ _ _ _ _ | exact Kd.V_nil _ _ _ _ _ | exact Kd.Q_nil _ _ _ _ _ | exact Kd.R_nil _ _ _ _ _, hq⟩
 subst c3
 replace H : ((spec_l01Parents.f k l0_0).bind fun t396 => ((spec_l08Heavy.f k l0_0).bind fun t399 => (spec_HeavyPaths.l0 k t396 t399 ([] : List (List Int)) 0 l0_0))) = some (r1, r2) := by rw [if_pos rfl] at H; exact H
 replace H := Option.bind_eq_some_iff.mp H
 obtain ⟨t396, A40, H⟩ := H
 replace H : ((spec_l08Heavy.f k l0_0).bind fun t399 => (spec_HeavyPaths.l0 k t396 t399 ([] : List (List Int)) 0 l0_0)) = some (r1, r2) := H
 have A4 := Aside0.mk A40
 clear A40
 replace H := Option.bind_eq_some_iff.mp H
 obtain ⟨t399, A50, H⟩ := H
 replace H : (spec_HeavyPaths.l0 k t396 t399 ([] : List (List Int)) 0 l0_0) = some (r1, r2) := H
 have A5 := Aside0.mk A50
 clear A50
 obtain ⟨y402, hy402⟩ : ∃ y_ : List (List Int), y_ = ([] : List (List Int)) := ⟨_, rfl⟩
 replace H : (spec_HeavyPaths.l0 k t396 t399 y402 0 l0_0) = some (r1, r2) := by first | (rw [hy402]; with_reducible exact H) | (have H2_ := (Option.bind_some _ _).symm.trans H; rw [hy402]; with_reducible exact H2_) | (have H2_ := (Option.bind_some _ _).symm.trans H; with_reducible exact H2_) | with_reducible exact H | (rw [hy402]; exact H) | exact H
 have Ny402 := Aside0.mk hy402
 clear hy402
 have H' := Aside0.mk H
 clear H
 go_enter Try.func8, Try.ntmps8
 try go_wp2_with (first | ((with_reducible refine gate_dst (N := 1) rfl ?_); refine box_event ?hg (N := 1) ?hd (cs := #[.slice A0_0 l0_0.length c0_0]) (t := 26) ?hr ?_; (case hd => rfl); (case hg => rfl); (case hr => exact gs); intro gb394 hg w6 hbox hb; have BK394 := Aside0.mk (hbox); have GW394 := Aside0.mk (geb hg hq : w.heap.size ≤ gb394); have GE394 := Aside0.mk (geb hg hq : w.heap.size ≤ gb394); replace HB := Aside0.mk (below_step hq hb); clear hb hbox hg; have hcz7_0 : w6.cell? ⟨gb394, 0, none⟩ = some (.slice A0_0 l0_0.length c0_0) := (blk_cell BK394.out 0).trans rfl; have hfz7_0 := blk_frozen BK394.out 0) | ((with_reducible refine gate_callee (f := 41) rfl ?_); refine goesL_ (some 11) rfl rfl Try.func41 (by kernel_rfl) rfl #[.agg #[.slice A0_0 l0_0.length c0_0]] rfl am ?_; (with_reducible refine (spec_l01Is.calls k _ _ l0_0 true _ ?side1 ?side2 A2.out).mono ?_); (case side1 => exact pc (Kd.C_below HR0_0.out HB.out)); (case side2 => exact HC0_0.out); rintro e w8 ⟨rfl, hb⟩; refine ⟨_, rfl, ?_⟩; replace BK394 := bb BK394 hb; replace HB := Aside0.mk (below_step hq hb); (try clear hb); (try clear hb2); (try clear hk); (try clear hi)))
 have n0_ := Aside0.mk (blk_drew BK394.out)
 have n1_ := Aside0.mk (below_drew1 HB.out)
 clear BK394
 clear HB
 have BK394 := n0_
 have HB := n1_
 clear n0_ n1_
 refine start_ (n := 8) (S := fun w' => True) (ds := []) #[false, false, false, false, false, false, false, false] (by kernel_rfl) rfl rfl trivial (fun hHeld => ?_); refine with_tabW spec_HeavyPaths.tab3 spec_HeavyPaths.bits3 (fun HT_ HW_ => ?_)
 generalize w8.drew = w9 at BK394 HB hHeld ⊢
 refine inv_at [0, 1, 2, 3, 4, 5, 6, 7] (fun a0_ b a w' => ∃ (v397 : Value) (v400 : Value) (v403 : Value) (m5_ : Value) (m6_ : Value) (m7_ : Value), a = putSel a0_ b [(0, 13, .agg #[.slice A0_0 l0_0.length c0_0]), (1, 14, v397), (2, 15, .agg #[.slice A0_0 l0_0.length c0_0]), (3, 16, v400), (4, 17, v403), (5, 4, m5_), (6, 5, m6_), (7, 6, m7_)] ∧ (w'.heap[gb394]? = some (.cells #[.slice A0_0 l0_0.length c0_0] 26 (0, 0))) ∧ (Below w.heap.size w w') ∧ (b 1 = true → Kd.R (Kd.int .i64) 2 w' w.heap.size (fun _ => True) v397 t396) ∧ (b 3 = true → Kd.R (Kd.int .i64) 2 w' w.heap.size (fun _ => True) v400 t399) ∧ (b 4 = true → Kd.S (Kd.slice 2 (Kd.int .i64)) 24 w' w.heap.size (fun _ => True) v403 y402) ∧ (b 5 = true → (m5_ : Value) = v397) ∧ (b 6 = true → (m6_ : Value) = v400) ∧ (b 7 = true → (m7_ : Value) = v403)) HT_.out HW_.out (by kernel_rfl) (by kernel_rfl) ?_ ?_ ?_
 ·exact ⟨.bool false, .bool false, .bool false, .bool false, .bool false, .bool false, by simp only [putSel, Bool.false_eq_true, if_false], BK394.out, HB.out, fun h_ => absurd h_ (by decide), fun h_ => absurd h_ (by decide), fun h_ => absurd h_ (by decide), fun h_ => absurd h_ (by decide), fun h_ => absurd h_ (by decide), fun h_ => absurd h_ (by decide)⟩
 ·skip
  clear BK394 HB
  refine steps_cons ?_ ?_
  ·rintro b a w' ⟨v397, v400, v403, m5_, m6_, m7_, ha, Q_BK394, Q_HB, Q_HO398, Q_HO401, Q_HO404, Q_X5_, Q_X6_, Q_X7_⟩ hb_ hon hoff
   refine ⟨_, rfl, fun K hK => ?_⟩
   have e1 : a.tmps[1]? = some (.pointer (some ⟨gb394, 0, none⟩)) := by rw [ha]; exact (putSel_off rfl).trans rfl
   replace ha := Aside0.mk ha
   have BK394 := Aside0.mk Q_BK394
   have HB := Aside0.mk Q_HB
   have hc0_ : w'.cell? ⟨gb394, 0, none⟩ = some (.slice A0_0 l0_0.length c0_0) := (blk_cell BK394.out 0).trans rfl
   refine value_ (w1 := w') (v := .agg #[.slice A0_0 l0_0.length c0_0]) (by rfl) rfl ?_ ?_
   ·go_simp
    (try simp only [i64_w])
    try rfl
   refine hK.out _ _ ⟨v397, v400, v403, m5_, m6_, m7_, (by rw [ha.out]; exact putSel_upk 0 hb_ rfl rfl rfl), Q_BK394, Q_HB, fun h0_ => absurd ((hoff 1 (by kernel_rfl)).symm.trans h0_) (by decide), fun h0_ => absurd ((hoff 3 (by kernel_rfl)).symm.trans h0_) (by decide), Q_HO404, fun h0_ => absurd ((hoff 5 (by kernel_rfl)).symm.trans h0_) (by decide), fun h0_ => absurd ((hoff 6 (by kernel_rfl)).symm.trans h0_) (by decide), fun h0_ => absurd ((hoff 7 (by kernel_rfl)).symm.trans h0_) (by decide)⟩
  refine steps_cons ?_ ?_
  ·rintro b a w' ⟨v397, v400, v403, m5_, m6_, m7_, ha, Q_BK394, Q_HB, Q_HO398, Q_HO401, Q_HO404, Q_X5_, Q_X6_, Q_X7_⟩ hb_ hon hoff
   refine ⟨_, rfl, fun K hK => ?_⟩
   have e13 : a.tmps[13]? = some (.agg #[.slice A0_0 l0_0.length c0_0]) := by rw [ha]; exact putSel_on (e := (0, 13, .agg #[.slice A0_0 l0_0.length c0_0])) 0 rfl rfl (hon 0 (by kernel_rfl)) rfl
   replace ha := Aside0.mk ha
   have BK394 := Aside0.mk Q_BK394
   have HB := Aside0.mk Q_HB
   refine goes_ Try.func42 (by kernel_rfl) rfl #[.agg #[.slice A0_0 l0_0.length c0_0]] (by rfl) rfl rfl (by first | (simp only [List.map_toArray, List.map_cons, List.map_nil, Act.eval, Array.getD_eq_getD_getElem?, Option.getD_some, e13]; done) | (simp only [List.map_toArray, List.map_cons, List.map_nil, Act.eval, Array.getD_eq_getD_getElem?, Option.getD_some, e13]; rfl)) ?_
   with_reducible refine (spec_l01Parents.calls k _ _ l0_0 t396 _ ?side1 ?side2 A4.out).mono ?_
   (case side1 => exact pc (Kd.C_below HR0_0.out HB.out))
   (case side2 => exact HC0_0.out)
   rintro e w10 ⟨v397, rfl, ho0, hb⟩
   refine ⟨_, rfl, ?_⟩
   have n0_ := Aside0.mk (Kd.R_lower ho0 (below_size hq))
   have n1_ := bb BK394 hb
   have n2_ := Aside0.mk (below_step hq hb)
   have z_HO404 := fun (h0_ : b 4 = true) => (show Kd.S (Kd.slice 2 (Kd.int .i64)) 24 w10 w.heap.size (fun _ => True) v403 y402 from q8_3)
   clear BK394
   clear HB
   have HO398 := n0_
   have BK394 := n1_
   have HB := n2_
   clear n0_ n1_ n2_
   (try clear hb)
   (try clear hb2)
   (try clear hk)
   (try clear hi)
   (try clear ho0)
   refine hK.out _ _ ⟨v397, v400, v403, m5_, m6_, m7_, (by rw [ha.out]; exact putSel_upk 1 hb_ rfl rfl rfl), (pb BK394.out), hq, fun _ => (pe HO398.out), fun h0_ => absurd ((hoff 3 (by kernel_rfl)).symm.trans h0_) (by decide), z_HO404, fun h0_ => absurd ((hoff 5 (by kernel_rfl)).symm.trans h0_) (by decide), fun h0_ => absurd ((hoff 6 (by kernel_rfl)).symm.trans h0_) (by decide), fun h0_ => absurd ((hoff 7 (by kernel_rfl)).symm.trans h0_) (by decide)⟩
  refine steps_cons ?_ ?_
  ·rintro b a w' ⟨v397, v400, v403, m5_, m6_, m7_, ha, Q_BK394, Q_HB, Q_HO398, Q_HO401, Q_HO404, Q_X5_, Q_X6_, Q_X7_⟩ hb_ hon hoff
   refine ⟨_, rfl, fun K hK => ?_⟩
   have e1 : a.tmps[1]? = some (.pointer (some ⟨gb394, 0, none⟩)) := by rw [ha]; exact (putSel_off rfl).trans rfl
   replace ha := Aside0.mk ha
   have BK394 := Aside0.mk Q_BK394
   have HB := Aside0.mk Q_HB
   have hc0_ : w'.cell? ⟨gb394, 0, none⟩ = some (.slice A0_0 l0_0.length c0_0) := (blk_cell BK394.out 0).trans rfl
   refine value_ (w1 := w') (v := .agg #[.slice A0_0 l0_0.length c0_0]) (by rfl) rfl ?_ ?_
   ·go_simp
    (try simp only [i64_w])
    try rfl
   refine hK.out _ _ ⟨v397, v400, v403, m5_, m6_, m7_, (by rw [ha.out]; exact putSel_upk 2 hb_ rfl rfl rfl), Q_BK394, Q_HB, Q_HO398, fun h0_ => absurd ((hoff 3 (by kernel_rfl)).symm.trans h0_) (by decide), Q_HO404, fun h0_ => absurd ((hoff 5 (by kernel_rfl)).symm.trans h0_) (by decide), fun h0_ => absurd ((hoff 6 (by kernel_rfl)).symm.trans h0_) (by decide), fun h0_ => absurd ((hoff 7 (by kernel_rfl)).symm.trans h0_) (by decide)⟩
  refine steps_cons ?_ ?_
  ·rintro b a w' ⟨v397, v400, v403, m5_, m6_, m7_, ha, Q_BK394, Q_HB, Q_HO398, Q_HO401, Q_HO404, Q_X5_, Q_X6_, Q_X7_⟩ hb_ hon hoff
   refine ⟨_, rfl, fun K hK => ?_⟩
   have e15 : a.tmps[15]? = some (.agg #[.slice A0_0 l0_0.length c0_0]) := by rw [ha]; exact putSel_on (e := (2, 15, .agg #[.slice A0_0 l0_0.length c0_0])) 2 rfl rfl (hon 2 (by kernel_rfl)) rfl
   replace ha := Aside0.mk ha
   have BK394 := Aside0.mk Q_BK394
   have HB := Aside0.mk Q_HB
   have HO398 := Aside0.mk (Q_HO398 (hon 1 (by kernel_rfl)))
   refine goes_ Try.func43 (by kernel_rfl) rfl #[.agg #[.slice A0_0 l0_0.length c0_0]] (by rfl) rfl rfl (by first | (simp only [List.map_toArray, List.map_cons, List.map_nil, Act.eval, Array.getD_eq_getD_getElem?, Option.getD_some, e15]; done) | (simp only [List.map_toArray, List.map_cons, List.map_nil, Act.eval, Array.getD_eq_getD_getElem?, Option.getD_some, e15]; rfl)) ?_
   with_reducible refine (spec_l08Heavy.calls k _ _ l0_0 t399 _ ?side1 ?side2 A5.out).mono ?_
   (case side1 => exact pc (Kd.C_below HR0_0.out HB.out))
   (case side2 => exact HC0_0.out)
   rintro e w12 ⟨v400, rfl, ho0, hb⟩
   refine ⟨_, rfl, ?_⟩
   have n0_ := rn HO398 ho0 hb
   have n1_ := Aside0.mk (Kd.R_lower (Kd.R_new' ho0 (Kd.R_lt (pe HO398.out))) (below_size hq))
   have n2_ := bb BK394 hb
   have n3_ := Aside0.mk (below_step hq hb)
   have z_HO404 := fun (h0_ : b 4 = true) => (show Kd.S (Kd.slice 2 (Kd.int .i64)) 24 w12 w.heap.size (fun _ => True) v403 y402 from q8_3)
   clear HO398
   clear BK394
   clear HB
   have HO398 := n0_
   have HO401 := n1_
   have BK394 := n2_
   have HB := n3_
   clear n0_ n1_ n2_ n3_
   (try clear hb)
   (try clear hb2)
   (try clear hk)
   (try clear hi)
   (try clear ho0)
   refine hK.out _ _ ⟨v397, v400, v403, m5_, m6_, m7_, (by rw [ha.out]; exact putSel_upk 3 hb_ rfl rfl rfl), (pb BK394.out), hq, fun _ => (pe (Kd.R_mono HO398.out (fun _ hk => by first | trivial | exact hk.2))), fun _ => (pe (Kd.R_mono HO401.out (fun _ hk => by first | trivial | exact hk.2))), z_HO404, fun h0_ => absurd ((hoff 5 (by kernel_rfl)).symm.trans h0_) (by decide), fun h0_ => absurd ((hoff 6 (by kernel_rfl)).symm.trans h0_) (by decide), fun h0_ => absurd ((hoff 7 (by kernel_rfl)).symm.trans h0_) (by decide)⟩
  refine steps_cons ?_ ?_
  ·rintro b a w' ⟨v397, v400, v403, m5_, m6_, m7_, ha, Q_BK394, Q_HB, Q_HO398, Q_HO401, Q_HO404, Q_X5_, Q_X6_, Q_X7_⟩ hb_ hon hoff
   refine ⟨_, rfl, fun K hK => ?_⟩
   replace ha := Aside0.mk ha
   have BK394 := Aside0.mk Q_BK394
   have HB := Aside0.mk Q_HB
   refine Kd.S_lit_step (Kd.slice 2 (Kd.int .i64)) _ 24 ?hg (N := 17) ?hd (xs := ([] : List (List Int))) (inner := []) (ok := fun _ => True) (okp := fun _ => True) ?hr ?hp (fun _ hk => hk) trivial (Below.refl _ _) (Nat.le_refl _) (by simp) ?_; (case hd => rfl); (case hg => rfl); (case hr => exact gs); (case hp => exact (Reps.none _ _))
   intro v403 w10 ho11 hb hg_ hnew_
   clear hg_ hnew_
   (first | rw [← Ny402.out] at ho11 | (simp only [Int.reduceToNat] at ho11; rw [← Ny402.out] at ho11))
   have n0_ := Aside0.mk (Kd.S_lower ho11 (below_size hq))
   have n1_ := bb BK394 hb
   have n2_ := Aside0.mk (below_step hq hb)
   have z_HO398 := fun (h0_ : b 1 = true) => (show Kd.R (Kd.int .i64) 2 w10 w.heap.size (fun _ => True) v397 t396 from by first | exact (Kd.R_below (pe (Q_HO398 h0_)) hb) | exact Kd.R_mono (Kd.R_below (pe (Q_HO398 h0_)) hb) (fun _ h_ => by first | trivial | exact h_ | exact h_.1))
   have z_HO401 := fun (h0_ : b 3 = true) => (show Kd.R (Kd.int .i64) 2 w10 w.heap.size (fun _ => True) v400 t399 from by first | exact (Kd.R_below (pe (Q_HO401 h0_)) hb) | exact Kd.R_mono (Kd.R_below (pe (Q_HO401 h0_)) hb) (fun _ h_ => by first | trivial | exact h_ | exact h_.1))
   clear BK394
   clear HB
   have HO404 := n0_
   have BK394 := n1_
   have HB := n2_
   clear n0_ n1_ n2_
   clear hb ho11
   refine hK.out _ _ ⟨v397, v400, v403, m5_, m6_, m7_, (by rw [ha.out]; exact putSel_upk 4 hb_ rfl rfl rfl), (pb BK394.out), hq, z_HO398, z_HO401, fun _ => (ps HO404.out), Q_X5_, Q_X6_, fun h0_ => absurd ((hoff 7 (by kernel_rfl)).symm.trans h0_) (by decide)⟩
  refine steps_cons ?_ ?_
  ·rintro b a w' ⟨v397, v400, v403, m5_, m6_, m7_, ha, Q_BK394, Q_HB, Q_HO398, Q_HO401, Q_HO404, Q_X5_, Q_X6_, Q_X7_⟩ hb_ hon hoff
   refine ⟨_, rfl, fun K hK => ?_⟩
   have e14 : a.tmps[14]? = some (v397) := by rw [ha]; exact putSel_on (e := (1, 14, v397)) 1 rfl rfl (hon 1 (by kernel_rfl)) rfl
   replace ha := Aside0.mk ha
   have BK394 := Aside0.mk Q_BK394
   have HB := Aside0.mk Q_HB
   have HO398 := Aside0.mk (Q_HO398 (hon 1 (by kernel_rfl)))
   have HO401 := Aside0.mk (Q_HO401 (hon 3 (by kernel_rfl)))
   refine value_ (w1 := w') (v := v397) (by rfl) rfl ?_ ?_
   ·go_simp
    (try simp only [i64_w])
    try rfl
   refine hK.out _ _ ⟨v397, v400, v403, (v397), m6_, m7_, (by rw [ha.out]; exact putSel_upk 5 hb_ rfl rfl rfl), Q_BK394, Q_HB, Q_HO398, Q_HO401, Q_HO404, fun _ => rfl, fun h0_ => absurd ((hoff 6 (by kernel_rfl)).symm.trans h0_) (by decide), fun h0_ => absurd ((hoff 7 (by kernel_rfl)).symm.trans h0_) (by decide)⟩
  refine steps_cons ?_ ?_
  ·rintro b a w' ⟨v397, v400, v403, m5_, m6_, m7_, ha, Q_BK394, Q_HB, Q_HO398, Q_HO401, Q_HO404, Q_X5_, Q_X6_, Q_X7_⟩ hb_ hon hoff
   refine ⟨_, rfl, fun K hK => ?_⟩
   have e16 : a.tmps[16]? = some (v400) := by rw [ha]; exact putSel_on (e := (3, 16, v400)) 3 rfl rfl (hon 3 (by kernel_rfl)) rfl
   replace ha := Aside0.mk ha
   have BK394 := Aside0.mk Q_BK394
   have HB := Aside0.mk Q_HB
   have HO398 := Aside0.mk (Q_HO398 (hon 1 (by kernel_rfl)))
   have HO401 := Aside0.mk (Q_HO401 (hon 3 (by kernel_rfl)))
   refine value_ (w1 := w') (v := v400) (by rfl) rfl ?_ ?_
   ·go_simp
    (try simp only [i64_w])
    try rfl
   refine hK.out _ _ ⟨v397, v400, v403, m5_, (v400), m7_, (by rw [ha.out]; exact putSel_upk 6 hb_ rfl rfl rfl), Q_BK394, Q_HB, Q_HO398, Q_HO401, Q_HO404, Q_X5_, fun _ => rfl, fun h0_ => absurd ((hoff 7 (by kernel_rfl)).symm.trans h0_) (by decide)⟩
  refine steps_cons ?_ ?_
  ·rintro b a w' ⟨v397, v400, v403, m5_, m6_, m7_, ha, Q_BK394, Q_HB, Q_HO398, Q_HO401, Q_HO404, Q_X5_, Q_X6_, Q_X7_⟩ hb_ hon hoff
   refine ⟨_, rfl, fun K hK => ?_⟩
   have e17 : a.tmps[17]? = some (v403) := by rw [ha]; exact putSel_on (e := (4, 17, v403)) 4 rfl rfl (hon 4 (by kernel_rfl)) rfl
   replace ha := Aside0.mk ha
   have BK394 := Aside0.mk Q_BK394
   have HB := Aside0.mk Q_HB
   have HO398 := Aside0.mk (Q_HO398 (hon 1 (by kernel_rfl)))
   have HO401 := Aside0.mk (Q_HO401 (hon 3 (by kernel_rfl)))
   have HO404 := Aside0.mk (Q_HO404 (hon 4 (by kernel_rfl)))
   refine value_ (w1 := w') (v := v403) (by rfl) rfl ?_ ?_
   ·go_simp
    (try simp only [i64_w])
    try rfl
   refine hK.out _ _ ⟨v397, v400, v403, m5_, m6_, (v403), (by rw [ha.out]; exact putSel_upk 7 hb_ rfl rfl rfl), Q_BK394, Q_HB, Q_HO398, Q_HO401, Q_HO404, Q_X5_, Q_X6_, fun _ => rfl⟩
  exact steps_nil
 rintro b a w14 hall ⟨v397, v400, v403, m5_, m6_, m7_, ha, Q_BK394, Q_HB, Q_HO398, Q_HO401, Q_HO404, Q_X5_, Q_X6_, Q_X7_⟩
 clear BK394 HB
 have hb0_ := hall 0 (by kernel_rfl)
 have hb1_ := hall 1 (by kernel_rfl)
 have hb2_ := hall 2 (by kernel_rfl)
 have hb3_ := hall 3 (by kernel_rfl)
 have hb4_ := hall 4 (by kernel_rfl)
 have hb5_ := hall 5 (by kernel_rfl)
 have hb6_ := hall 6 (by kernel_rfl)
 have hb7_ := hall 7 (by kernel_rfl)
 subst ha
 obtain rfl := (Q_X5_ hb5_).symm
 obtain rfl := (Q_X6_ hb6_).symm
 obtain rfl := (Q_X7_ hb7_).symm
 simp only [putSel, hb0_, hb1_, hb2_, hb3_, hb4_, hb5_, hb6_, hb7_, if_true, Act.put, List.setIfInBounds_toArray, List.set_cons_zero, List.set_cons_succ]
 have BK394 := Aside0.mk Q_BK394
 clear Q_BK394
 have HB := Aside0.mk Q_HB
 clear Q_HB
 have HO398 := Aside0.mk (Q_HO398 hb1_)
 clear Q_HO398
 have HO401 := Aside0.mk (Q_HO401 hb3_)
 clear Q_HO401
 have HO404 := Aside0.mk (Q_HO404 hb4_)
 clear Q_HO404
 clear hall hb0_ hb1_ hb2_ hb3_ hb4_ hb5_ hb6_ hb7_
 try go_wp2
 go_loopg [6, 7] k (fun kq v6 v7 w' => ∃ (x6_1 : List (List Int)) (x7_1 : Int), v7 = .int .i64 x7_1 ∧ Aside0 (spec_HeavyPaths.l0 kq t396 t399 x6_1 x7_1 l0_0 = some (r1, r2)) ∧ Aside0 (kq ≤ k) ∧ Aside0 (Kd.R (Kd.int .i64) 2 w' w.heap.size (fun k_ => True) v397 t396) ∧ Aside0 (Kd.R (Kd.int .i64) 2 w' w.heap.size (fun k_ => True) v400 t399) ∧ Aside0 (Kd.S (Kd.slice 2 (Kd.int .i64)) 24 w' w.heap.size (fun k_ => some k_ ≠ (v397 : Value).ownBlock ∧ some k_ ≠ (v400 : Value).ownBlock) v6 x6_1) ∧ Aside0 (w'.heap[gb394]? = some (.cells #[(.slice A0_0 l0_0.length c0_0)] 26 (0, 0))) ∧ Aside0 (Below w.heap.size w w'))
 case atStart => exact ⟨(y402), (0), q8_1, H', ⟨Nat.le_refl _⟩, ⟨pe HO398.out⟩, ⟨pe HO401.out⟩, ⟨ps (hp_nil HO404.out Ny402.out (fun k_ hk_ => ⟨(fun e_ => by obtain ⟨c1_, h1_⟩ := Kd.S_typed HO404.out k_ hk_; obtain ⟨c2_, h2_⟩ := Kd.R_typed HO398.out k_ e_.symm; rw [h1_] at h2_; injection h2_ with h3_; injection h3_ with _ h4_; exact absurd h4_ (by decide)), (fun e_ => by obtain ⟨c1_, h1_⟩ := Kd.S_typed HO404.out k_ hk_; obtain ⟨c2_, h2_⟩ := Kd.R_typed HO401.out k_ e_.symm; rw [h1_] at h2_; injection h2_ with h3_; injection h3_ with _ h4_; exact absurd h4_ (by decide))⟩))⟩, ⟨pb BK394.out⟩, ⟨hq⟩⟩
 case round =>
  clear H'
  try clear p2
  try clear c3
  try clear c4
  try clear c8
  try clear hcz7_0
  try clear hfz7_0
  obtain ⟨x6_1, x7_1, rfl, HA, HK1, HO_4, HO_5, HO_6, BK394, HB⟩ := hrel
  cases gk with | zero => exact absurd HA.out (by simp [spec_HeavyPaths.l0]) | succ k1 => ?_
  have H := HA.out
  clear HA
  simp only [spec_HeavyPaths.l0] at H
  replace H := Option.bind_eq_some_iff.mp H
  obtain ⟨t405, A150, H⟩ := H
  replace H : (if x7_1 < t405 then ((spec_l08Light.f t396 t399 x7_1).bind fun t406 => (if t406 = true then (spec_HeavyPaths.l1 k1 t396 t399 x6_1 x7_1 ([] : List Int) x7_1 l0_0) else (spec_HeavyPaths.l0 k1 t396 t399 x6_1 (wrap64 (x7_1 + 1)) l0_0))) else (some (x6_1, 0))) = some (r1, r2) := H
  have A15 := Aside0.mk A150
  clear A150
  by_cases c16 : x7_1 < t405
  rotate_left
  ·rw [if_neg c16] at H
   have c16b0 : decide (x7_1 < t405) = false := decide_eq_false c16
   clear c16
   simp only [Option.some.injEq, Prod.mk.injEq] at H
   obtain ⟨rfl, rfl⟩ := H
   have hcz37_0 : wr.cell? ⟨gb394, 0, none⟩ = some (.slice A0_0 l0_0.length c0_0) := (blk_cell BK394.out 0).trans rfl
   have hfz37_0 := blk_frozen BK394.out 0
   go_wp2_with (first | ((with_reducible refine gate_callee (f := 44) rfl ?_); refine goesL_ (some 20) rfl rfl Try.func44 (by kernel_rfl) rfl #[.agg #[.slice A0_0 l0_0.length c0_0]] rfl am ?_; (with_reducible refine (spec_l01N.calls _ _ l0_0 t405 _ ?side1 ?side2 A15.out).mono ?_); (case side1 => exact pc (Kd.C_below HR0_0.out HB.out)); (case side2 => exact HC0_0.out); rintro e w38 ⟨rfl, hb⟩; refine ⟨_, rfl, ?_⟩; replace HO_4 := rb HO_4 hb; replace HO_5 := rb HO_5 hb; replace HO_6 := sb HO_6 hb; replace BK394 := bb BK394 hb; replace HB := Aside0.mk (below_step hq hb); (try clear hb); (try clear hb2); (try clear hk); (try clear hi)))
   go_ret2
   exact ⟨_, ew, ps (Kd.S_mono HO_6.out (fun _ hk => trivial)), hq⟩
  rw [if_pos c16] at H
  have c16b0 : decide (x7_1 < t405) = true := decide_eq_true c16
  clear c16
  replace H := Option.bind_eq_some_iff.mp H
  obtain ⟨t406, A170, H⟩ := H
  replace H : (if t406 = true then (spec_HeavyPaths.l1 k1 t396 t399 x6_1 x7_1 ([] : List Int) x7_1 l0_0) else (spec_HeavyPaths.l0 k1 t396 t399 x6_1 (wrap64 (x7_1 + 1)) l0_0)) = some (r1, r2) := H
  have A17 := Aside0.mk A170
  clear A170
  by_cases c18 : t406 = true
  rotate_left
  ·replace c18 := Bool.eq_false_iff.mpr c18
   subst c18
   have H1 : (spec_HeavyPaths.l0 k1 t396 t399 x6_1 (wrap64 (x7_1 + 1)) l0_0) = some (r1, r2) := by rw [if_neg (show ¬ (false = true) by decide)] at H; exact H
   clear H
   have H := H1
   clear H1
   have H' := Aside0.mk H
   clear H
   have hcz33_0 : wr.cell? ⟨gb394, 0, none⟩ = some (.slice A0_0 l0_0.length c0_0) := (blk_cell BK394.out 0).trans rfl
   have hfz33_0 := blk_frozen BK394.out 0
   go_wp2_with (first | ((with_reducible refine gate_callee (f := 44) rfl ?_); refine goesL_ (some 20) rfl rfl Try.func44 (by kernel_rfl) rfl #[.agg #[.slice A0_0 l0_0.length c0_0]] rfl am ?_; (with_reducible refine (spec_l01N.calls _ _ l0_0 t405 _ ?side1 ?side2 A15.out).mono ?_); (case side1 => exact pc (Kd.C_below HR0_0.out HB.out)); (case side2 => exact HC0_0.out); rintro e w34 ⟨rfl, hb⟩; refine ⟨_, rfl, ?_⟩; replace HO_4 := rb HO_4 hb; replace HO_5 := rb HO_5 hb; replace HO_6 := sb HO_6 hb; replace BK394 := bb BK394 hb; replace HB := Aside0.mk (below_step hq hb); (try clear hb); (try clear hb2); (try clear hk); (try clear hi); obtain ⟨Ao35, co35, eo35⟩ := Kd.R_slice HO_4.out; subst eo35; obtain ⟨Ao36, co36, eo36⟩ := Kd.R_slice HO_5.out; subst eo36) | ((with_reducible refine gate_callee (f := 45) rfl ?_); refine goesL_ (some 27) rfl rfl Try.func45 (by kernel_rfl) rfl #[.slice Ao35 t396.length co35, .slice Ao36 t399.length co36, .int .i64 x7_1] rfl am ?_; (with_reducible refine (spec_l08Light.calls _ _ t396 _ _ t399 x7_1 false _ ?side1 ?side2 ?side3 ?side4 A17.out).mono ?_); (case side1 => exact pc ((Kd.R_reads' HO_4.out).2.2)); (case side2 => exact (Kd.R_reads' HO_4.out).2.1); (case side3 => exact pc ((Kd.R_reads' HO_5.out).2.2)); (case side4 => exact (Kd.R_reads' HO_5.out).2.1); rintro e w' ⟨rfl, ⟨nd, rfl⟩⟩; refine ⟨_, rfl, ?_⟩))
   go_roundg k1
   case measure => have := HK1.out; omega
   case rel => exact ⟨(x6_1), (wrap64 (x7_1 + 1)), q8_1, H', ⟨by have := HK1.out; omega⟩, ⟨pe HO_4.out⟩, ⟨pe HO_5.out⟩, ⟨ps HO_6.out⟩, ⟨pb BK394.out⟩, ⟨hq⟩⟩
  subst c18
  replace H : (spec_HeavyPaths.l1 k1 t396 t399 x6_1 x7_1 ([] : List Int) x7_1 l0_0) = some (r1, r2) := by rw [if_pos rfl] at H; exact H
  obtain ⟨y407, hy407⟩ : ∃ y_ : List Int, y_ = ([] : List Int) := ⟨_, rfl⟩
  replace H : (spec_HeavyPaths.l1 k1 t396 t399 x6_1 x7_1 y407 x7_1 l0_0) = some (r1, r2) := by first | (rw [hy407]; with_reducible exact H) | (have H2_ := (Option.bind_some _ _).symm.trans H; rw [hy407]; with_reducible exact H2_) | (have H2_ := (Option.bind_some _ _).symm.trans H; with_reducible exact H2_) | with_reducible exact H | (rw [hy407]; exact H) | exact H
  have Ny407 := Aside0.mk hy407
  clear hy407
  have H' := Aside0.mk H
  clear H
  have hcz19_0 : wr.cell? ⟨gb394, 0, none⟩ = some (.slice A0_0 l0_0.length c0_0) := (blk_cell BK394.out 0).trans rfl
  have hfz19_0 := blk_frozen BK394.out 0
  go_wp2_with (first | ((with_reducible refine gate_callee (f := 44) rfl ?_); refine goesL_ (some 20) rfl rfl Try.func44 (by kernel_rfl) rfl #[.agg #[.slice A0_0 l0_0.length c0_0]] rfl am ?_; (with_reducible refine (spec_l01N.calls _ _ l0_0 t405 _ ?side1 ?side2 A15.out).mono ?_); (case side1 => exact pc (Kd.C_below HR0_0.out HB.out)); (case side2 => exact HC0_0.out); rintro e w20 ⟨rfl, hb⟩; refine ⟨_, rfl, ?_⟩; replace HO_4 := rb HO_4 hb; replace HO_5 := rb HO_5 hb; replace HO_6 := sb HO_6 hb; replace BK394 := bb BK394 hb; replace HB := Aside0.mk (below_step hq hb); (try clear hb); (try clear hb2); (try clear hk); (try clear hi); obtain ⟨Ao21, co21, eo21⟩ := Kd.R_slice HO_4.out; subst eo21; obtain ⟨Ao22, co22, eo22⟩ := Kd.R_slice HO_5.out; subst eo22) | ((with_reducible refine gate_callee (f := 45) rfl ?_); refine goesL_ (some 27) rfl rfl Try.func45 (by kernel_rfl) rfl #[.slice Ao21 t396.length co21, .slice Ao22 t399.length co22, .int .i64 x7_1] rfl am ?_; (with_reducible refine (spec_l08Light.calls _ _ t396 _ _ t399 x7_1 true _ ?side1 ?side2 ?side3 ?side4 A17.out).mono ?_); (case side1 => exact pc ((Kd.R_reads' HO_4.out).2.2)); (case side2 => exact (Kd.R_reads' HO_4.out).2.1); (case side3 => exact pc ((Kd.R_reads' HO_5.out).2.2)); (case side4 => exact (Kd.R_reads' HO_5.out).2.1); rintro e w' ⟨rfl, ⟨nd, rfl⟩⟩; refine ⟨_, rfl, ?_⟩) | ((with_reducible refine gate_dst (N := 29) rfl ?_); refine Kd.R_lit (Kd.int .i64) _ 2 ?hg (N := 29) ?hd (xs := ([] : List Int)) (inner := []) (ok := fun _ => True) (okp := fun _ => True) ?hr ?hp (fun _ hk => hk) trivial (Below.refl _ _) (Nat.le_refl _) (by simp) ?_; (case hd => rfl); (case hg => rfl); (case hr => exact gs); (case hp => exact (Reps.none _ _)); intro v408 w23 ho24 hb hg_ hnew_; clear hg_ hnew_; (first | rw [← Ny407.out] at ho24 | (simp only [Int.reduceToNat] at ho24; rw [← Ny407.out] at ho24)); replace HO_6 := sn HO_6 ho24 hb; have HO409 := Aside0.mk (Kd.R_lower (Kd.R_new' (Kd.R_new' ho24 (Kd.R_lt (pe HO_4.out))) (Kd.R_lt (pe HO_5.out))) (below_size hq)); replace HO_4 := rn HO_4 ho24 hb; replace HO_5 := rn HO_5 ho24 hb; replace BK394 := bb BK394 hb; replace HB := Aside0.mk (below_step hq hb); clear hb ho24))
  go_loopg [8, 9] k1 (fun kq v8 v9 w' => ∃ (x8_2 : List Int) (x9_2 : Int), v9 = .int .i64 x9_2 ∧ Aside0 (spec_HeavyPaths.l1 kq t396 t399 x6_1 x7_1 x8_2 x9_2 l0_0 = some (r1, r2)) ∧ Aside0 (kq ≤ k1) ∧ Aside0 (Kd.R (Kd.int .i64) 2 w' w.heap.size (fun k_ => True ∧ some k_ ≠ (v8 : Value).ownBlock) (.slice Ao21 t396.length co21) t396) ∧ Aside0 (Kd.R (Kd.int .i64) 2 w' w.heap.size (fun k_ => True ∧ some k_ ≠ (v8 : Value).ownBlock) (.slice Ao22 t399.length co22) t399) ∧ Aside0 (Kd.S (Kd.slice 2 (Kd.int .i64)) 24 w' w.heap.size (fun k_ => some k_ ≠ ((.slice Ao21 t396.length co21) : Value).ownBlock ∧ some k_ ≠ ((.slice Ao22 t399.length co22) : Value).ownBlock ∧ some k_ ≠ (v8 : Value).ownBlock) u6 x6_1) ∧ Aside0 (Kd.R (Kd.int .i64) 2 w' w.heap.size (fun k_ => some k_ ≠ ((.slice Ao21 t396.length co21) : Value).ownBlock ∧ some k_ ≠ ((.slice Ao22 t399.length co22) : Value).ownBlock) v8 x8_2) ∧ Aside0 (w'.heap[gb394]? = some (.cells #[(.slice A0_0 l0_0.length c0_0)] 26 (0, 0))) ∧ Aside0 (Below w.heap.size w w'))
  case atStart => exact ⟨(y407), (x7_1), q8_1, H', ⟨Nat.le_refl _⟩, ⟨pe HO_4.out⟩, ⟨pe HO_5.out⟩, ⟨ps (Kd.S_mono HO_6.out (fun _ hk => ⟨hk.1.1, ⟨hk.1.2, hk.2⟩⟩))⟩, ⟨pe (Kd.R_mono HO409.out (fun _ hk => ⟨hk.1.2, hk.2⟩))⟩, ⟨pb BK394.out⟩, ⟨hq⟩⟩
  case round =>
   clear H'
   try clear c1
   try clear p2
   try clear c3
   try clear c4
   try clear p6
   try clear c8
   try clear c16
   try clear c16b0
   try clear c18
   try clear hcz19_0
   try clear hcz7_0
   try clear hfz19_0
   try clear hfz7_0
   try clear p2
   obtain ⟨x8_2, x9_2, rfl, HA, HK2, HO_4, HO_5, HO_6, HO_8, BK394, HB⟩ := hrel
   cases gk with | zero => exact absurd HA.out (by simp [spec_HeavyPaths.l1]) | succ k2 => ?_
   have H := HA.out
   clear HA
   simp only [spec_HeavyPaths.l1] at H
   by_cases c25 : x9_2 ≥ 0
   rotate_left
   ·rw [if_neg c25] at H
    have c25b0 : decide (0 ≤ x9_2) = false := decide_eq_false c25
    clear c25
    by_cases c30 : x6_1.length < 5864062014805
    rotate_left
    ·rw [if_neg c30] at H
     exact absurd H (by simp)
    rw [if_pos c30] at H
    have LMc30 := Aside0.mk c30
    clear c30
    obtain ⟨y414, hy414⟩ : ∃ y_ : List (List Int), y_ = (x6_1 ++ [x8_2]) := ⟨_, rfl⟩
    replace H : (spec_HeavyPaths.l0 k2 t396 t399 y414 (wrap64 (x7_1 + 1)) l0_0) = some (r1, r2) := by first | (rw [hy414]; with_reducible exact H) | (have H2_ := (Option.bind_some _ _).symm.trans H; rw [hy414]; with_reducible exact H2_) | (have H2_ := (Option.bind_some _ _).symm.trans H; with_reducible exact H2_) | with_reducible exact H | (rw [hy414]; exact H) | exact H
    have Ny414 := Aside0.mk hy414
    clear hy414
    have H' := Aside0.mk H
    clear H
    obtain ⟨Ao32, co32, eo32⟩ := Kd.R_slice HO_8.out
    subst eo32
    go_wp2_with (first | ((with_reducible refine gate_builtin (b := .append) (xs := #[.tmp 41, .tmp 43]) rfl ?_); at_builtin; refine Kd.S_append (Kd.slice 2 (Kd.int .i64)) (w0 := w) w.heap.size rfl (.tmp 41) (.tmp 43) 28 24 (.slice none 0 0) 24 rfl Try.underlying28 info24 rfl (by decide) (by omega) u6 x6_1 x8_2 [.slice Ao32 x8_2.length co32] (fun k_ => some k_ ≠ (.slice Ao21 t396.length co21 : Value).ownBlock ∧ some k_ ≠ (.slice Ao22 t399.length co22 : Value).ownBlock) (fun k_ => some k_ = (.slice Ao32 x8_2.length co32 : Value).ownBlock) rfl rfl ?aP (fun k_ hk_ => (Kd.R_mono (ok' := fun k_ => (fun k_ => some k_ ≠ (.slice Ao21 t396.length co21 : Value).ownBlock ∧ some k_ ≠ (.slice Ao22 t399.length co22 : Value).ownBlock) k_ ∧ some k_ ≠ (u6 : Value).ownBlock) (Kd.R_apart' (HO_8.out) (Kd.S_typed HO_6.out) (by decide)) (fun k_ hk => ⟨⟨hk.1.1, hk.1.2⟩, hk.2⟩)).1 k_ hk_.symm) ?aF ?aO ?aB ?aS ?aL ?_; (case aP => exact Kd.M_row (Kd.R_mono (Kd.R_tight rfl (Kd.R_mono (ok' := fun k_ => (fun k_ => some k_ ≠ (.slice Ao21 t396.length co21 : Value).ownBlock ∧ some k_ ≠ (.slice Ao22 t399.length co22 : Value).ownBlock) k_ ∧ some k_ ≠ (u6 : Value).ownBlock) (Kd.R_apart' (HO_8.out) (Kd.S_typed HO_6.out) (by decide)) (fun k_ hk => ⟨⟨hk.1.1, hk.1.2⟩, hk.2⟩))) (fun _ h_ => h_))); (case aB => exact hq); (case aF => exact (fun k_ hk => ⟨Kd.fresh' (Kd.R_lt (pe HO_4.out)) k_ hk, Kd.fresh' (Kd.R_lt (pe HO_5.out)) k_ hk⟩)); (case aO => exact (ps (Kd.S_mono HO_6.out (fun k_ hk => ⟨⟨hk.1, hk.2.1⟩, fun e_ => hk.2.2 e_⟩)))); (case aS => exact (below_size hq)); (case aL => have := LMc30.out; omega); intro v415 w31 ho hb hg hat; rw [← Ny414.out] at ho; replace HO_4 := Aside0.mk (Kd.R_over' (pe HO_4.out) (Kd.S_typed (ps HO_6.out)) (by decide) hg); replace HO_5 := Aside0.mk (Kd.R_over' (pe HO_5.out) (Kd.S_typed (ps HO_6.out)) (by decide) hg); replace BK394 := Aside0.mk (blk_grown (g := gb394) (o := .cells #[.slice A0_0 l0_0.length c0_0] 26 (0, 0)) (pb BK394.out) hg (Kd.S_ne HO_6.out BK394.out (by decide))); replace HB := Aside0.mk (hb); have HO416 := Aside0.mk (ho); clear HO_6 HO_8; clear ho hb hg hat))
    go_roundg k2
    case measure => have := HK1.out; have := HK2.out; omega
    case rel => exact ⟨(y414), (wrap64 (x7_1 + 1)), q8_1, H', ⟨by have := HK1.out; have := HK2.out; omega⟩, ⟨pe (Kd.R_mono HO_4.out (fun _ hk => hk.1))⟩, ⟨pe (Kd.R_mono HO_5.out (fun _ hk => hk.1))⟩, ⟨ps HO416.out⟩, ⟨pb BK394.out⟩, ⟨hq⟩⟩
   rw [if_pos c25] at H
   have c25b0 : decide (0 ≤ x9_2) = true := decide_eq_true c25
   clear c25
   by_cases c26 : x8_2.length < 17592186044416
   rotate_left
   ·rw [if_neg c26] at H
    exact absurd H (by simp)
   rw [if_pos c26] at H
   have LMc26 := Aside0.mk c26
   clear c26
   obtain ⟨y410, hy410⟩ : ∃ y_ : List Int, y_ = (x8_2 ++ [x9_2]) := ⟨_, rfl⟩
   replace H : (if 0 ≤ x9_2 then (if x9_2 < (t399.length : Int) then (spec_HeavyPaths.l1 k2 t396 t399 x6_1 x7_1 y410 (rd t399 x9_2) l0_0) else (none)) else (none)) = some (r1, r2) := by first | (rw [hy410]; with_reducible exact H) | (have H2_ := (Option.bind_some _ _).symm.trans H; rw [hy410]; with_reducible exact H2_) | (have H2_ := (Option.bind_some _ _).symm.trans H; with_reducible exact H2_) | with_reducible exact H | (rw [hy410]; exact H) | exact H
   have Ny410 := Aside0.mk hy410
   clear hy410
   by_cases c27 : 0 ≤ x9_2
   rotate_left
   ·rw [if_neg c27] at H
    exact absurd H (by simp)
   rw [if_pos c27] at H
   have c27b0 : decide (0 ≤ x9_2) = true := decide_eq_true c27
   clear c27
   by_cases c28 : x9_2 < (t399.length : Int)
   rotate_left
   ·rw [if_neg c28] at H
    exact absurd H (by simp)
   rw [if_pos c28] at H
   have c28b0 : decide (x9_2 < (t399.length : Int)) = true := decide_eq_true c28
   clear c28
   have H' := Aside0.mk H
   clear H
   go_wp2_with (first | ((with_reducible refine gate_builtin (b := .append) (xs := #[.tmp 37, .tmp 39]) rfl ?_); at_builtin; refine Kd.R_append (Kd.int .i64) (w0 := w) w.heap.size rfl (.tmp 37) (.tmp 39) 24 2 (.int .i64 0) 8 rfl Try.underlying24 info2 rfl (by decide) (by omega) u8 x8_2 x9_2 [.int .i64 x9_2] (fun k_ => some k_ ≠ (.slice Ao21 t396.length co21 : Value).ownBlock ∧ some k_ ≠ (.slice Ao22 t399.length co22 : Value).ownBlock) (fun _ => False) rfl rfl ?aP (fun _ hk => hk.elim) ?aF ?aO ?aB ?aS ?aL ?_; (case aP => exact rfl); (case aB => exact hq); (case aF => exact (fun k_ hk => ⟨Kd.fresh' (Kd.R_lt (pe HO_4.out)) k_ hk, Kd.fresh' (Kd.R_lt (pe HO_5.out)) k_ hk⟩)); (case aO => exact (pe HO_8.out)); (case aS => exact (below_size hq)); (case aL => have := LMc26.out; omega); intro v411 w29 ho hb hg hat; rw [← Ny410.out] at ho; replace HO_4 := Aside0.mk (Kd.R_after (ok := (fun k_ => True)) (pe HO_4.out) hg hat); replace HO_5 := Aside0.mk (Kd.R_after (ok := (fun k_ => True)) (pe HO_5.out) hg hat); replace HO_6 := Aside0.mk (Kd.S_after (ok := (fun k_ => some k_ ≠ (.slice Ao21 t396.length co21 : Value).ownBlock ∧ some k_ ≠ (.slice Ao22 t399.length co22 : Value).ownBlock)) (ps (Kd.S_mono HO_6.out (fun _ hk => ⟨⟨hk.1, hk.2.1⟩, hk.2.2⟩))) hg hat); replace BK394 := Aside0.mk (blk_grown (g := gb394) (o := .cells #[.slice A0_0 l0_0.length c0_0] 26 (0, 0)) (pb BK394.out) hg (Kd.R_ne HO_8.out BK394.out (by decide))); replace HB := Aside0.mk (hb); have HO412 := Aside0.mk (ho); clear HO_8; clear ho hb hg hat; have p413 : 0 ≤ (x9_2 : Int) := of_decide_eq_true q8_0; have q413 : x9_2 < (t399.length : Int) := of_decide_eq_true q8_0; obtain ⟨ad413, e413, hx413_0⟩ := Kd.at_int (Kd.R_reads' HO_5.out).2.2 x9_2 p413 q413; cases e413; replace p413 := eq_true p413; replace q413 := eq_true q413))
   go_roundg k2
   case measure => have := HK1.out; have := HK2.out; omega
   case rel => exact ⟨(y410), (rd t399 x9_2), q8_1, H', ⟨by have := HK1.out; have := HK2.out; omega⟩, ⟨pe HO_4.out⟩, ⟨pe HO_5.out⟩, ⟨ps (Kd.S_mono HO_6.out (fun _ hk => ⟨hk.1.1, ⟨hk.1.2, hk.2⟩⟩))⟩, ⟨pe HO412.out⟩, ⟨pb BK394.out⟩, ⟨hq⟩⟩

/-! ### laws_likeInts: function 12 -/
def laws_likeInts.l0 : Nat → List Int → List Int → Int → Option (Bool)
 | 0, _, _, _ => none
 | k + 1, x0, x1, x5 => if x5 < (x0.length : Int) then (if 0 ≤ x5 then (if x5 < (x1.length : Int) then (if (rd x0 x5) = (rd x1 x5) then (laws_likeInts.l0 k x0 x1 (wrap64 (x5 + 1))) else (some false)) else (none)) else (none)) else (some true)
def laws_likeInts.f (k : Nat) (l0 : List Int) (l1 : List Int) : Option (Bool) := if (l0.length : Int) = (l1.length : Int) then (laws_likeInts.l0 k l0 l1 0) else (some false)
theorem laws_likeInts.mono_l : ∀ k, (∀ y0 y1 y2, LeO (laws_likeInts.l0 k y0 y1 y2) (laws_likeInts.l0 (k + 1) y0 y1 y2))
 | 0 => fun _ _ _ r h => by simp [laws_likeInts.l0] at h
 | k + 1 => by
  have ih0 := laws_likeInts.mono_l k
  ·intro y0 y1 y2
   unfold laws_likeInts.l0
   repeat' first
   | (with_reducible exact ih0 _ _ _)
   | (with_reducible exact LeO.refl _)
   | (with_reducible exact LeO.none _)
   | (with_reducible refine LeO.ite ?_ ?_)
   | (with_reducible refine LeO.bind ?_ (fun _ => ?_))
   | exact ih0 _ _ _
   | exact LeO.none _
   | refine LeO.ite ?_ ?_
   | refine LeO.bind ?_ (fun _ => ?_)
theorem laws_likeInts.mono : ∀ a0 a1 k, LeO (laws_likeInts.f k a0 a1) (laws_likeInts.f (k + 1) a0 a1) := by
 intro a0 a1 k
 have ih0 := laws_likeInts.mono_l k
 unfold laws_likeInts.f
 repeat' first
   | (with_reducible exact ih0 _ _ _)
   | (with_reducible exact LeO.refl _)
   | (with_reducible exact LeO.none _)
   | (with_reducible refine LeO.ite ?_ ?_)
   | (with_reducible refine LeO.bind ?_ (fun _ => ?_))
   | exact ih0 _ _ _
   | exact LeO.none _
   | refine LeO.ite ?_ ?_
   | refine LeO.bind ?_ (fun _ => ?_)
set_option maxHeartbeats 8000000 in
set_option maxRecDepth 100000 in
theorem laws_likeInts.calls (k : Nat) (A0 : Option Addr) (c0 : Nat) (l0 : List Int) (A1 : Option Addr) (c1 : Nat) (l1 : List Int) (r : Bool) (w : World) (hr0 : Kd.C (Kd.int .i64) w A0 l0.length l0) (hc0 : l0.length ≤ c0) (hr1 : Kd.C (Kd.int .i64) w A1 l1.length l1) (hc1 : l1.length ≤ c1) (h : laws_likeInts.f k l0 l1 = some r) :
  Calls Try.prog 12 #[.slice A0 l0.length c0, .slice A1 l1.length c1] w fun e w' => e = .returned (.bool r) ∧ Drawn0 w w' := by
 have HR0 := Aside0.mk hr0
 have HC0 := Aside0.mk hc0
 clear hr0 hc0
 have HR1 := Aside0.mk hr1
 have HC1 := Aside0.mk hc1
 clear hr1 hc1
 have H : (if (l0.length : Int) = (l1.length : Int) then (laws_likeInts.l0 k l0 l1 0) else (some false)) = some r := h
 clear h
 by_cases c3 : (l0.length : Int) = (l1.length : Int)
 rotate_left
 ·rw [if_neg c3] at H
  have c3b0 : ((l0.length : Int) == (l1.length : Int)) = false := beq_eq_false_iff_ne.mpr c3
  have c3b1 : ((l0.length : Int) != (l1.length : Int)) = true := bne_iff_ne.mpr c3
  have c3b2 : (l0.length == l1.length) = false := by first | simpa using c3 | (simp at c3 ⊢; omega)
  obtain rfl := Option.some.inj H
  go_enter Try.func12, Try.ntmps12
  go_wp2
  repeat (go_quiet (fail); try go_wp2)
  go_ret
  exact ⟨q8_1, q8_2⟩
 rw [if_pos c3] at H
 have c3b0 : ((l0.length : Int) == (l1.length : Int)) = true := beq_iff_eq.mpr c3
 have c3b1 : ((l0.length : Int) != (l1.length : Int)) = false := bne_eq_false_iff_eq.mpr c3
 have c3b2 : (l0.length == l1.length) = true := by first | simpa using c3 | (simp at c3 ⊢; omega)
 clear c3
 have H' := Aside0.mk H
 clear H
 go_enter Try.func12, Try.ntmps12
 go_wp2
 repeat (go_quiet (fail); try go_wp2)
 go_loopg [5] k (fun kq v5 w' => ∃ (x5_1 : Int), v5 = .int .i64 x5_1 ∧ Aside0 (laws_likeInts.l0 kq l0 l1 x5_1 = some r) ∧ Aside0 (kq ≤ k) ∧ Drawn0 w w')
 case atStart => exact ⟨(0), q8_1, H', ⟨Nat.le_refl _⟩, q8_2⟩
 case round =>
  clear H'
  try clear c1
  try clear p2
  try clear c3
  try clear c3b0
  try clear c3b1
  try clear c3b2
  obtain ⟨x5_1, rfl, HA, HK1, ⟨m1, rfl⟩⟩ := hrel
  cases gk with | zero => exact absurd HA.out (by simp [laws_likeInts.l0]) | succ k1 => ?_
  have H := HA.out
  clear HA
  simp only [laws_likeInts.l0] at H
  by_cases c4 : x5_1 < (l0.length : Int)
  rotate_left
  ·rw [if_neg c4] at H
   have c4b0 : decide (x5_1 < (l0.length : Int)) = false := decide_eq_false c4
   clear c4
   obtain rfl := Option.some.inj H
   go_wp2
   repeat (go_quiet (fail); try go_wp2)
   go_ret
   exact ⟨q8_1, q8_2⟩
  rw [if_pos c4] at H
  have c4b0 : decide (x5_1 < (l0.length : Int)) = true := decide_eq_true c4
  clear c4
  by_cases c5 : 0 ≤ x5_1
  rotate_left
  ·rw [if_neg c5] at H
   exact absurd H (by simp)
  rw [if_pos c5] at H
  have c5b0 : decide (0 ≤ x5_1) = true := decide_eq_true c5
  clear c5
  by_cases c6 : x5_1 < (l1.length : Int)
  rotate_left
  ·rw [if_neg c6] at H
   exact absurd H (by simp)
  rw [if_pos c6] at H
  have c6b0 : decide (x5_1 < (l1.length : Int)) = true := decide_eq_true c6
  clear c6
  by_cases c7 : (rd l0 x5_1) = (rd l1 x5_1)
  rotate_left
  ·rw [if_neg c7] at H
   have c7b0 : ((rd l0 x5_1) == (rd l1 x5_1)) = false := beq_eq_false_iff_ne.mpr c7
   have c7b1 : ((rd l0 x5_1) != (rd l1 x5_1)) = true := bne_iff_ne.mpr c7
   obtain rfl := Option.some.inj H
   have p417 : 0 ≤ (x5_1 : Int) := of_decide_eq_true q8_0
   have q417 : x5_1 < (l0.length : Int) := of_decide_eq_true q8_0
   obtain ⟨ad417, e417, hx417_0⟩ := Kd.at_int HR0.out x5_1 p417 q417
   cases e417
   replace p417 := eq_true p417
   replace q417 := eq_true q417
   have p418 : 0 ≤ (x5_1 : Int) := of_decide_eq_true q8_0
   have q418 : x5_1 < (l1.length : Int) := of_decide_eq_true q8_0
   obtain ⟨ad418, e418, hx418_0⟩ := Kd.at_int HR1.out x5_1 p418 q418
   cases e418
   replace p418 := eq_true p418
   replace q418 := eq_true q418
   go_wp2
   repeat (go_quiet (fail); try go_wp2)
   go_ret
   exact ⟨q8_1, q8_2⟩
  rw [if_pos c7] at H
  have c7b0 : ((rd l0 x5_1) == (rd l1 x5_1)) = true := beq_iff_eq.mpr c7
  have c7b1 : ((rd l0 x5_1) != (rd l1 x5_1)) = false := bne_eq_false_iff_eq.mpr c7
  clear c7
  have H' := Aside0.mk H
  clear H
  have p417 : 0 ≤ (x5_1 : Int) := of_decide_eq_true q8_0
  have q417 : x5_1 < (l0.length : Int) := of_decide_eq_true q8_0
  obtain ⟨ad417, e417, hx417_0⟩ := Kd.at_int HR0.out x5_1 p417 q417
  cases e417
  replace p417 := eq_true p417
  replace q417 := eq_true q417
  have p418 : 0 ≤ (x5_1 : Int) := of_decide_eq_true q8_0
  have q418 : x5_1 < (l1.length : Int) := of_decide_eq_true q8_0
  obtain ⟨ad418, e418, hx418_0⟩ := Kd.at_int HR1.out x5_1 p418 q418
  cases e418
  replace p418 := eq_true p418
  replace q418 := eq_true q418
  go_wp2
  repeat (go_quiet (fail); try go_wp2)
  go_roundg k1
  case measure => have := HK1.out; omega
  case rel => exact ⟨(wrap64 (x5_1 + 1)), q8_1, H', ⟨by have := HK1.out; omega⟩, q8_2⟩

/-! ### laws_rows9: function 9 -/
def laws_rows9.l0 : Nat → List (List Int) → List (List Int) → Int → Option (Bool)
 | 0, _, _, _ => none
 | k + 1, x0, x1, x5 => if x5 < (x0.length : Int) then (if 0 ≤ x5 then (if x5 < (x1.length : Int) then ((laws_likeInts.f k (rd_L2 x0 x5) (rd_L2 x1 x5)).bind fun t421 => (if t421 = true then (laws_rows9.l0 k x0 x1 (wrap64 (x5 + 1))) else (some false))) else (none)) else (none)) else (some true)
def laws_rows9.f (k : Nat) (l0 : List (List Int)) (l1 : List (List Int)) : Option (Bool) := if (l0.length : Int) = (l1.length : Int) then (laws_rows9.l0 k l0 l1 0) else (some false)
theorem laws_rows9.mono_l : ∀ k, (∀ y0 y1 y2, LeO (laws_rows9.l0 k y0 y1 y2) (laws_rows9.l0 (k + 1) y0 y1 y2))
 | 0 => fun _ _ _ r h => by simp [laws_rows9.l0] at h
 | k + 1 => by
  have ih0 := laws_rows9.mono_l k
  ·intro y0 y1 y2
   unfold laws_rows9.l0
   repeat' first
   | (with_reducible exact ih0 _ _ _)
   | (with_reducible exact laws_likeInts.mono _ _ _)
   | (with_reducible exact LeO.refl _)
   | (with_reducible exact LeO.none _)
   | (with_reducible refine LeO.ite ?_ ?_)
   | (with_reducible refine LeO.bind ?_ (fun _ => ?_))
   | exact ih0 _ _ _
   | exact laws_likeInts.mono _ _ _
   | exact LeO.none _
   | refine LeO.ite ?_ ?_
   | refine LeO.bind ?_ (fun _ => ?_)
theorem laws_rows9.mono : ∀ a0 a1 k, LeO (laws_rows9.f k a0 a1) (laws_rows9.f (k + 1) a0 a1) := by
 intro a0 a1 k
 have ih0 := laws_rows9.mono_l k
 unfold laws_rows9.f
 repeat' first
   | (with_reducible exact ih0 _ _ _)
   | (with_reducible exact laws_likeInts.mono _ _ _)
   | (with_reducible exact LeO.refl _)
   | (with_reducible exact LeO.none _)
   | (with_reducible refine LeO.ite ?_ ?_)
   | (with_reducible refine LeO.bind ?_ (fun _ => ?_))
   | exact ih0 _ _ _
   | exact laws_likeInts.mono _ _ _
   | exact LeO.none _
   | refine LeO.ite ?_ ?_
   | refine LeO.bind ?_ (fun _ => ?_)
set_option maxHeartbeats 8000000 in
set_option maxRecDepth 100000 in
theorem laws_rows9.calls (k : Nat) (A0 : Option Addr) (c0 : Nat) (l0 : List (List Int)) (A1 : Option Addr) (c1 : Nat) (l1 : List (List Int)) (r : Bool) (w : World) (hr0 : Kd.C (Kd.slice 2 (Kd.int .i64)) w A0 l0.length l0) (hc0 : l0.length ≤ c0) (hr1 : Kd.C (Kd.slice 2 (Kd.int .i64)) w A1 l1.length l1) (hc1 : l1.length ≤ c1) (h : laws_rows9.f k l0 l1 = some r) :
  Calls Try.prog 9 #[.slice A0 l0.length c0, .slice A1 l1.length c1] w fun e w' => e = .returned (.bool r) ∧ Drawn0 w w' := by
 have HR0 := Aside0.mk hr0
 have HC0 := Aside0.mk hc0
 clear hr0 hc0
 have HR1 := Aside0.mk hr1
 have HC1 := Aside0.mk hc1
 clear hr1 hc1
 have H : (if (l0.length : Int) = (l1.length : Int) then (laws_rows9.l0 k l0 l1 0) else (some false)) = some r := h
 clear h
 by_cases c3 : (l0.length : Int) = (l1.length : Int)
 rotate_left
 ·rw [if_neg c3] at H
  have c3b0 : ((l0.length : Int) == (l1.length : Int)) = false := beq_eq_false_iff_ne.mpr c3
  have c3b1 : ((l0.length : Int) != (l1.length : Int)) = true := bne_iff_ne.mpr c3
  have c3b2 : (l0.length == l1.length) = false := by first | simpa using c3 | (simp at c3 ⊢; omega)
  obtain rfl := Option.some.inj H
  go_enter Try.func9, Try.ntmps9
  go_wp2
  repeat (go_quiet (fail); try go_wp2)
  go_ret
  exact ⟨q8_1, q8_2⟩
 rw [if_pos c3] at H
 have c3b0 : ((l0.length : Int) == (l1.length : Int)) = true := beq_iff_eq.mpr c3
 have c3b1 : ((l0.length : Int) != (l1.length : Int)) = false := bne_eq_false_iff_eq.mpr c3
 have c3b2 : (l0.length == l1.length) = true := by first | simpa using c3 | (simp at c3 ⊢; omega)
 clear c3
 have H' := Aside0.mk H
 clear H
 go_enter Try.func9, Try.ntmps9
 go_wp2
 repeat (go_quiet (fail); try go_wp2)
 go_loopg [5] k (fun kq v5 w' => ∃ (x5_1 : Int), v5 = .int .i64 x5_1 ∧ Aside0 (laws_rows9.l0 kq l0 l1 x5_1 = some r) ∧ Aside0 (kq ≤ k) ∧ Drawn0 w w')
 case atStart => exact ⟨(0), q8_1, H', ⟨Nat.le_refl _⟩, q8_2⟩
 case round =>
  clear H'
  try clear c1
  try clear p2
  try clear c3
  try clear c3b0
  try clear c3b1
  try clear c3b2
  obtain ⟨x5_1, rfl, HA, HK1, ⟨m1, rfl⟩⟩ := hrel
  cases gk with | zero => exact absurd HA.out (by simp [laws_rows9.l0]) | succ k1 => ?_
  have H := HA.out
  clear HA
  simp only [laws_rows9.l0] at H
  by_cases c4 : x5_1 < (l0.length : Int)
  rotate_left
  ·rw [if_neg c4] at H
   have c4b0 : decide (x5_1 < (l0.length : Int)) = false := decide_eq_false c4
   clear c4
   obtain rfl := Option.some.inj H
   go_wp2
   repeat (go_quiet (fail); try go_wp2)
   go_ret
   exact ⟨q8_1, q8_2⟩
  rw [if_pos c4] at H
  have c4b0 : decide (x5_1 < (l0.length : Int)) = true := decide_eq_true c4
  clear c4
  by_cases c5 : 0 ≤ x5_1
  rotate_left
  ·rw [if_neg c5] at H
   exact absurd H (by simp)
  rw [if_pos c5] at H
  have c5b0 : decide (0 ≤ x5_1) = true := decide_eq_true c5
  clear c5
  by_cases c6 : x5_1 < (l1.length : Int)
  rotate_left
  ·rw [if_neg c6] at H
   exact absurd H (by simp)
  rw [if_pos c6] at H
  have c6b0 : decide (x5_1 < (l1.length : Int)) = true := decide_eq_true c6
  clear c6
  replace H := Option.bind_eq_some_iff.mp H
  obtain ⟨t421, A70, H⟩ := H
  replace H : (if t421 = true then (laws_rows9.l0 k1 l0 l1 (wrap64 (x5_1 + 1))) else (some false)) = some r := H
  have A7 := Aside0.mk A70
  clear A70
  by_cases c8 : t421 = true
  ·subst c8
   replace H : (laws_rows9.l0 k1 l0 l1 (wrap64 (x5_1 + 1))) = some r := by rw [if_pos rfl] at H; exact H
   have H' := Aside0.mk H
   clear H
   have p419 : 0 ≤ (x5_1 : Int) := of_decide_eq_true q8_0
   have q419 : x5_1 < (l0.length : Int) := of_decide_eq_true q8_0
   obtain ⟨ad419, A419_0, c419_0, e419, hx419_0, hl419_0, hi419_0⟩ := at_L2 HR0.out x5_1 p419 q419
   cases e419
   have HR419_0 := Aside0.mk hi419_0
   have HC419_0 := Aside0.mk hl419_0
   clear hi419_0 hl419_0
   replace p419 := eq_true p419
   replace q419 := eq_true q419
   have p420 : 0 ≤ (x5_1 : Int) := of_decide_eq_true q8_0
   have q420 : x5_1 < (l1.length : Int) := of_decide_eq_true q8_0
   obtain ⟨ad420, A420_0, c420_0, e420, hx420_0, hl420_0, hi420_0⟩ := at_L2 HR1.out x5_1 p420 q420
   cases e420
   have HR420_0 := Aside0.mk hi420_0
   have HC420_0 := Aside0.mk hl420_0
   clear hi420_0 hl420_0
   replace p420 := eq_true p420
   replace q420 := eq_true q420
   go_wp2_with (first | (go_at_call 12; (with_reducible refine (laws_likeInts.calls k1 _ _ (rd_L2 l0 x5_1) _ _ (rd_L2 l1 x5_1) true _ ?side1 ?side2 ?side3 ?side4 A7.out).mono ?_); (case side1 => exact pc (HR419_0.out)); (case side2 => exact HC419_0.out); (case side3 => exact pc (HR420_0.out)); (case side4 => exact HC420_0.out); rintro e w' ⟨rfl, ⟨nd, rfl⟩⟩; try exact dn))
   repeat (go_quiet (first | (go_at_call 12; (with_reducible refine (laws_likeInts.calls k1 _ _ (rd_L2 l0 x5_1) _ _ (rd_L2 l1 x5_1) true _ ?side1 ?side2 ?side3 ?side4 A7.out).mono ?_); (case side1 => exact pc (HR419_0.out)); (case side2 => exact HC419_0.out); (case side3 => exact pc (HR420_0.out)); (case side4 => exact HC420_0.out); rintro e w' ⟨rfl, ⟨nd, rfl⟩⟩; try exact dn)); try go_wp2_with (first | (go_at_call 12; (with_reducible refine (laws_likeInts.calls k1 _ _ (rd_L2 l0 x5_1) _ _ (rd_L2 l1 x5_1) true _ ?side1 ?side2 ?side3 ?side4 A7.out).mono ?_); (case side1 => exact pc (HR419_0.out)); (case side2 => exact HC419_0.out); (case side3 => exact pc (HR420_0.out)); (case side4 => exact HC420_0.out); rintro e w' ⟨rfl, ⟨nd, rfl⟩⟩; try exact dn)))
   go_roundg k1
   case measure => have := HK1.out; omega
   case rel => exact ⟨(wrap64 (x5_1 + 1)), q8_1, H', ⟨by have := HK1.out; omega⟩, q8_2⟩
  replace c8 := Bool.eq_false_iff.mpr c8
  subst c8
  have H1 : (some false) = some r := by rw [if_neg (show ¬ (false = true) by decide)] at H; exact H
  clear H
  have H := H1
  clear H1
  obtain rfl := Option.some.inj H
  have p419 : 0 ≤ (x5_1 : Int) := of_decide_eq_true q8_0
  have q419 : x5_1 < (l0.length : Int) := of_decide_eq_true q8_0
  obtain ⟨ad419, A419_0, c419_0, e419, hx419_0, hl419_0, hi419_0⟩ := at_L2 HR0.out x5_1 p419 q419
  cases e419
  have HR419_0 := Aside0.mk hi419_0
  have HC419_0 := Aside0.mk hl419_0
  clear hi419_0 hl419_0
  replace p419 := eq_true p419
  replace q419 := eq_true q419
  have p420 : 0 ≤ (x5_1 : Int) := of_decide_eq_true q8_0
  have q420 : x5_1 < (l1.length : Int) := of_decide_eq_true q8_0
  obtain ⟨ad420, A420_0, c420_0, e420, hx420_0, hl420_0, hi420_0⟩ := at_L2 HR1.out x5_1 p420 q420
  cases e420
  have HR420_0 := Aside0.mk hi420_0
  have HC420_0 := Aside0.mk hl420_0
  clear hi420_0 hl420_0
  replace p420 := eq_true p420
  replace q420 := eq_true q420
  go_wp2_with (first | (go_at_call 12; (with_reducible refine (laws_likeInts.calls k1 _ _ (rd_L2 l0 x5_1) _ _ (rd_L2 l1 x5_1) false _ ?side1 ?side2 ?side3 ?side4 A7.out).mono ?_); (case side1 => exact pc (HR419_0.out)); (case side2 => exact HC419_0.out); (case side3 => exact pc (HR420_0.out)); (case side4 => exact HC420_0.out); rintro e w' ⟨rfl, ⟨nd, rfl⟩⟩; try exact dn))
  repeat (go_quiet (first | (go_at_call 12; (with_reducible refine (laws_likeInts.calls k1 _ _ (rd_L2 l0 x5_1) _ _ (rd_L2 l1 x5_1) false _ ?side1 ?side2 ?side3 ?side4 A7.out).mono ?_); (case side1 => exact pc (HR419_0.out)); (case side2 => exact HC419_0.out); (case side3 => exact pc (HR420_0.out)); (case side4 => exact HC420_0.out); rintro e w' ⟨rfl, ⟨nd, rfl⟩⟩; try exact dn)); try go_wp2_with (first | (go_at_call 12; (with_reducible refine (laws_likeInts.calls k1 _ _ (rd_L2 l0 x5_1) _ _ (rd_L2 l1 x5_1) false _ ?side1 ?side2 ?side3 ?side4 A7.out).mono ?_); (case side1 => exact pc (HR419_0.out)); (case side2 => exact HC419_0.out); (case side3 => exact pc (HR420_0.out)); (case side4 => exact HC420_0.out); rintro e w' ⟨rfl, ⟨nd, rfl⟩⟩; try exact dn)))
  go_ret
  exact ⟨q8_1, q8_2⟩

/-! ### impl_HeavyChildren: function 10 -/
def impl_HeavyChildren.f (k : Nat) (l0_0 : List Int) : Option (List Int × Int) := (impl_IsTree.f k l0_0).bind fun t423 => (if t423 = true then ((impl_heavyChildren.f k l0_0).bind fun t424 => (some (t424, 0))) else (some (([] : List Int), 1)))
theorem impl_HeavyChildren.mono : ∀ a0 k, LeO (impl_HeavyChildren.f k a0) (impl_HeavyChildren.f (k + 1) a0) := by
 intro a0 k
 unfold impl_HeavyChildren.f
 repeat' first
   | (with_reducible exact impl_IsTree.mono _ _)
   | (with_reducible exact impl_heavyChildren.mono _ _)
   | (with_reducible exact LeO.refl _)
   | (with_reducible exact LeO.none _)
   | (with_reducible refine LeO.ite ?_ ?_)
   | (with_reducible refine LeO.bind ?_ (fun _ => ?_))
   | exact impl_IsTree.mono _ _
   | exact impl_heavyChildren.mono _ _
   | exact LeO.none _
   | refine LeO.ite ?_ ?_
   | refine LeO.bind ?_ (fun _ => ?_)
set_option maxHeartbeats 8000000 in
set_option maxRecDepth 100000 in
theorem impl_HeavyChildren.calls (k : Nat) (A0_0 : Option Addr) (c0_0 : Nat) (l0_0 : List Int) (r1 : List Int) (r2 : Int) (w : World) (hr0_0 : Kd.C (Kd.int .i64) w A0_0 l0_0.length l0_0) (hc0_0 : l0_0.length ≤ c0_0) (h : impl_HeavyChildren.f k l0_0 = some (r1, r2)) :
  Calls Try.prog 10 #[.agg #[.slice A0_0 l0_0.length c0_0]] w fun e w' => ∃ v0_ : Value, e = .returned (.tuple #[v0_, .int .i64 r2]) ∧ Kd.R (Kd.int .i64) 2 w' w.heap.size (fun _ => True) v0_ r1 ∧ Below w.heap.size w w' := by
 have hu26 := Try.underlying26
 have HR0_0 := Aside0.mk hr0_0
 have HC0_0 := Aside0.mk hc0_0
 clear hr0_0 hc0_0
 have HB := Aside0.mk (Below.refl w.heap.size w)
 have H : ((impl_IsTree.f k l0_0).bind fun t423 => (if t423 = true then ((impl_heavyChildren.f k l0_0).bind fun t424 => (some (t424, 0))) else (some (([] : List Int), 1)))) = some (r1, r2) := h
 clear h
 replace H := Option.bind_eq_some_iff.mp H
 obtain ⟨t423, A20, H⟩ := H
 replace H : (if t423 = true then ((impl_heavyChildren.f k l0_0).bind fun t424 => (some (t424, 0))) else (some (([] : List Int), 1))) = some (r1, r2) := H
 have A2 := Aside0.mk A20
 clear A20
 by_cases c3 : t423 = true
 rotate_left
 ·replace c3 := Bool.eq_false_iff.mpr c3
  subst c3
  have H1 : (some (([] : List Int), 1)) = some (r1, r2) := by rw [if_neg (show ¬ (false = true) by decide)] at H; exact H
  clear H
  have H := H1
  clear H1
  simp only [Option.some.injEq, Prod.mk.injEq] at H
  obtain ⟨rfl, rfl⟩ := H
  go_enter Try.func10, Try.ntmps10
  go_wp2_with (first | ((with_reducible refine gate_dst (N := 1) rfl ?_); refine box_event ?hg (N := 1) ?hd (cs := #[.slice A0_0 l0_0.length c0_0]) (t := 26) ?hr ?_; (case hd => rfl); (case hg => rfl); (case hr => exact gs); intro gb422 hg w10 hbox hb; have BK422 := Aside0.mk (hbox); have GW422 := Aside0.mk (geb hg hq : w.heap.size ≤ gb422); have GE422 := Aside0.mk (geb hg hq : w.heap.size ≤ gb422); replace HB := Aside0.mk (below_step hq hb); clear hb hbox hg; have hcz11_0 : w10.cell? ⟨gb422, 0, none⟩ = some (.slice A0_0 l0_0.length c0_0) := (blk_cell BK422.out 0).trans rfl; have hfz11_0 := blk_frozen BK422.out 0) | ((with_reducible refine gate_callee (f := 38) rfl ?_); refine goesL_ (some 5) rfl rfl Try.func38 (by kernel_rfl) rfl #[.agg #[.slice A0_0 l0_0.length c0_0]] rfl am ?_; (with_reducible refine (impl_IsTree.calls k _ _ l0_0 false _ ?side1 ?side2 A2.out).mono ?_); (case side1 => exact pc (Kd.C_below HR0_0.out HB.out)); (case side2 => exact HC0_0.out); rintro e w12 ⟨rfl, hb⟩; refine ⟨_, rfl, ?_⟩; replace BK422 := bb BK422 hb; replace HB := Aside0.mk (below_step hq hb); (try clear hb); (try clear hb2); (try clear hk); (try clear hi)))
  go_ret2
  exact ⟨_, ew, by first | exact Kd.R_nil _ _ _ _ _ | exact Kd.N_nil _ _ _ _ _ | exact Kd.V_nil _ _ _ _ _ | exact Kd.Q_nil _ _ _ _ _ | exact Kd.S_nil _ _ _ _ _, hq⟩
 subst c3
 replace H : ((impl_heavyChildren.f k l0_0).bind fun t424 => (some (t424, 0))) = some (r1, r2) := by rw [if_pos rfl] at H; exact H
 replace H := Option.bind_eq_some_iff.mp H
 obtain ⟨t424, A40, H⟩ := H
 replace H : (some (t424, 0)) = some (r1, r2) := H
 have A4 := Aside0.mk A40
 clear A40
 simp only [Option.some.injEq, Prod.mk.injEq] at H
 obtain ⟨rfl, rfl⟩ := H
 go_enter Try.func10, Try.ntmps10
 go_wp2_with (first | ((with_reducible refine gate_dst (N := 1) rfl ?_); refine box_event ?hg (N := 1) ?hd (cs := #[.slice A0_0 l0_0.length c0_0]) (t := 26) ?hr ?_; (case hd => rfl); (case hg => rfl); (case hr => exact gs); intro gb422 hg w5 hbox hb; have BK422 := Aside0.mk (hbox); have GW422 := Aside0.mk (geb hg hq : w.heap.size ≤ gb422); have GE422 := Aside0.mk (geb hg hq : w.heap.size ≤ gb422); replace HB := Aside0.mk (below_step hq hb); clear hb hbox hg; have hcz6_0 : w5.cell? ⟨gb422, 0, none⟩ = some (.slice A0_0 l0_0.length c0_0) := (blk_cell BK422.out 0).trans rfl; have hfz6_0 := blk_frozen BK422.out 0) | ((with_reducible refine gate_callee (f := 38) rfl ?_); refine goesL_ (some 5) rfl rfl Try.func38 (by kernel_rfl) rfl #[.agg #[.slice A0_0 l0_0.length c0_0]] rfl am ?_; (with_reducible refine (impl_IsTree.calls k _ _ l0_0 true _ ?side1 ?side2 A2.out).mono ?_); (case side1 => exact pc (Kd.C_below HR0_0.out HB.out)); (case side2 => exact HC0_0.out); rintro e w7 ⟨rfl, hb⟩; refine ⟨_, rfl, ?_⟩; replace BK422 := bb BK422 hb; replace HB := Aside0.mk (below_step hq hb); (try clear hb); (try clear hb2); (try clear hk); (try clear hi); have hcz8_0 : w7.cell? ⟨gb422, 0, none⟩ = some (.slice A0_0 l0_0.length c0_0) := (blk_cell BK422.out 0).trans rfl; have hfz8_0 := blk_frozen BK422.out 0) | ((with_reducible refine gate_callee (f := 39) rfl ?_); refine goesL_ (some 9) rfl rfl Try.func39 (by kernel_rfl) rfl #[.slice A0_0 l0_0.length c0_0] rfl am ?_; (with_reducible refine (impl_heavyChildren.calls k _ _ l0_0 t424 _ ?side1 ?side2 A4.out).mono ?_); (case side1 => exact pc (Kd.C_below HR0_0.out HB.out)); (case side2 => exact HC0_0.out); rintro e w9 ⟨v425, rfl, ho0, hb⟩; refine ⟨_, rfl, ?_⟩; have HO426 := Aside0.mk (Kd.R_lower ho0 (below_size hq)); replace BK422 := bb BK422 hb; replace HB := Aside0.mk (below_step hq hb); (try clear hb); (try clear hb2); (try clear hk); (try clear hi); (try clear ho0)))
 go_ret2
 exact ⟨_, ew, pe HO426.out, hq⟩

end Go.Proofs.Ytlppkilencpmeaa.QFnHeavyPaths
