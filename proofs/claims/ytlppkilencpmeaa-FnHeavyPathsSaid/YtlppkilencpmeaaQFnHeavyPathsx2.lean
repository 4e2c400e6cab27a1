/- Functions as Lean functions, with their contracts: written by a program of this claim over the translation; some contracts are proved by hand. -/
import Derived.Test.YtlppkilencpmeaaQFnHeavyPathsx0
import Derived.Test.YtlppkilencpmeaaQFnHeavyPathsx1
namespace Go.Proofs.Ytlppkilencpmeaa.QFnHeavyPaths
open Go.RowKit Go.Proofs.Ytlppkilencpmeaa.Gl Go.Proofs.Ytlppkilencpmeaa.Sz Go.Proofs.YtlppkilencpmeaaW.PrintWords Go.Proofs.YtlppkilencpmeaaW.PrintLast Go.Proofs.YtlppkilencpmeaaW.PrintMore
attribute [local go_sem] max2_int min2_int max_two min_two max_three min_three max_four min_four   -- for this text's walks alone
set_option linter.unusedVariables false
set_option linter.unusedSimpArgs false
theorem q2_0 {P : Prop} (h : P := by repeat (first | (with_reducible first | exact HI0.out | apply IsS97.alloc | apply IsS97.drewN | apply IsS97.drew | apply IsS97.set_1 | apply IsS97.set_2 | refine IsS97.far ?_ NB0_122.out _ | refine IsS97.far ?_ NB0_123.out _ | refine IsS97.far ?_ NB0_127.out _) | exact HI0.out)) : P := h
theorem q2_1 {P : Prop} (h : P := by repeat (first | (with_reducible first | exact HK.out | apply Kept.alloc | apply Kept.drewN | apply Kept.drew | refine Kept.setCell ?_ (.inl (.inr rfl)) _ | refine Kept.setCell ?_ (.inr GW122.out) _ | refine Kept.setCell ?_ (.inr GW123.out) _ | refine Kept.setCell ?_ (.inr GW127.out) _) | exact HK.out)) : P := h
theorem q2_2 {P : Prop} (h : P := by repeat (first | (with_reducible first | exact HB.out | apply below_alloc | apply pw_below_drewN | apply below_drew1 | refine below_set ?_ (IsS97.ge HI0.out) | refine below_set ?_ GE122.out | refine below_set ?_ GE123.out | refine below_set ?_ GE127.out) | exact HB.out)) : P := h
theorem q2_3 {P : Prop} (h : P := by repeat (first | (with_reducible first | exact HK.out | apply Kept.alloc | apply Kept.drewN | apply Kept.drew | refine Kept.setCell ?_ (.inl (.inr rfl)) _ | refine Kept.setCell ?_ (.inr GW122.out) _ | refine Kept.setCell ?_ (.inr GW123.out) _) | exact HK.out)) : P := h
theorem q2_4 {P : Prop} (h : P := by repeat (first | (with_reducible first | exact HI0.out | apply IsS97.alloc | apply IsS97.drewN | apply IsS97.drew | apply IsS97.set_1 | apply IsS97.set_2 | refine IsS97.far ?_ NB0_122.out _ | refine IsS97.far ?_ NB0_123.out _) | exact HI0.out)) : P := h
theorem q2_5 {P : Prop} (h : P := by repeat (first | (with_reducible first | exact HB.out | apply below_alloc | apply pw_below_drewN | apply below_drew1 | refine below_set ?_ (IsS97.ge HI0.out) | refine below_set ?_ GE122.out | refine below_set ?_ GE123.out) | exact HB.out)) : P := h
theorem q2_6 {P : Prop} (h : P := by repeat (first | (with_reducible first | exact HI0.out | apply IsS97.alloc | apply IsS97.drewN | apply IsS97.drew | apply IsS97.set_1 | apply IsS97.set_2 | refine IsS97.far ?_ NB0_122.out _) | exact HI0.out)) : P := h
theorem q2_7 {P : Prop} (h : P := by repeat (first | (with_reducible first | exact HI0.out | apply IsS97.alloc | apply IsS97.drewN | apply IsS97.drew | apply IsS97.set_1 | apply IsS97.set_2) | exact HI0.out)) : P := h
theorem q2_8 {P : Prop} (h : P := by repeat (first | (with_reducible first | exact HK.out | apply Kept.alloc | apply Kept.drewN | apply Kept.drew | refine Kept.setCell ?_ (.inl (.inr rfl)) _ | refine Kept.setCell ?_ (.inr GW122.out) _) | exact HK.out)) : P := h
theorem q2_9 {P : Prop} (h : P := by repeat (first | (with_reducible first | exact HB.out | apply below_alloc | apply pw_below_drewN | apply below_drew1 | refine below_set ?_ (IsS97.ge HI0.out) | refine below_set ?_ GE122.out) | exact HB.out)) : P := h
theorem q2_10 {P : Prop} (h : P := by repeat (first | (with_reducible first | exact HB.out | apply below_alloc | apply pw_below_drewN | apply below_drew1 | refine below_set ?_ (IsS97.ge HI0.out)) | exact HB.out)) : P := h
theorem q2_11 {P : Prop} (h : P := by repeat (first | (with_reducible first | exact HK.out | apply Kept.alloc | apply Kept.drewN | apply Kept.drew | refine Kept.setCell ?_ (.inl (.inr rfl)) _) | exact HK.out)) : P := h
theorem q2_12 {P : Prop} (h : P := by first | exact HK.out.1 | exact (show Kept w _ (fun k_ => (P1_0_ k_) ∨ k_ = g) from q2_3).1) : P := h
theorem q2_13 {P : Prop} (h : P := by (with_reducible repeat (first | refine blk_drewN ?_ _ | refine blk_drew ?_ | refine blk_alloc ?_ _)); refine blk_put (cs := #[.slice none 0 0]) ?_ 0 _ rfl; exact pb BK127.out) : P := h
theorem q2_14 {P : Prop} (h : P := by (with_reducible repeat (first | refine blk_drewN ?_ _ | refine blk_drew ?_ | refine blk_alloc ?_ _)); refine blk_far ?_ NB123_127.out _; exact pb BK123.out) : P := h
theorem q2_15 {P : Prop} (h : P := by (with_reducible repeat (first | refine blk_drewN ?_ _ | refine blk_drew ?_ | refine blk_alloc ?_ _)); refine blk_far ?_ NB122_127.out _; exact pb BK122.out) : P := h
theorem q2_16 {P : Prop} (h : P := by (with_reducible repeat (first | refine blk_drewN ?_ _ | refine blk_drew ?_ | refine blk_alloc ?_ _)); refine blk_put (cs := #[.slice none 0 0]) ?_ 0 _ rfl; exact pb BK123.out) : P := h
theorem q2_17 {P : Prop} (h : P := by rw [hg]; exact (by first | exact HK.out.1 | exact (show Kept w _ (fun k_ => (P1_0_ k_) ∨ k_ = g) from q2_11).1)) : P := h
theorem q2_18 {P : Prop} (h : P := by rw [hg]; exact (by first | exact HK.out.1 | exact (show Kept w _ (fun k_ => (P1_0_ k_) ∨ k_ = g) from q2_8).1)) : P := h
theorem q2_19 {P : Prop} (h : P := by first | exact HK.out.1 | exact (show Kept w _ (fun k_ => (P1_0_ k_) ∨ k_ = g) from q2_1).1) : P := h
theorem q2_20 {P : Prop} (h : P := by rw [hg]; exact Nat.ne_of_lt (IsS97.lt (show IsS97 w0 _ g s0_0 s0_1 s0_2 from q2_7))) : P := h
theorem q2_21 {P : Prop} (h : P := by rw [hg]; exact Nat.ne_of_lt (IsS97.lt (show IsS97 w0 _ g s0_0 s0_1 s0_2 from q2_6))) : P := h
theorem q2_22 {P : Prop} (h : P := by rw [hg]; exact Nat.ne_of_lt (IsS97.lt (show IsS97 w0 _ g s0_0 s0_1 s0_2 from q2_4))) : P := h
theorem q2_23 {P : Prop} (h : P := by rw [hg]; exact Nat.ne_of_gt (IsS97.lt (show IsS97 w0 _ g s0_0 s0_1 s0_2 from q2_7))) : P := h
theorem q2_24 {P : Prop} (h : P := by rw [hg]; exact Nat.ne_of_gt (IsS97.lt (show IsS97 w0 _ g s0_0 s0_1 s0_2 from q2_6))) : P := h
theorem q2_25 {P : Prop} (h : P := by rw [hg]; exact Nat.ne_of_gt (IsS97.lt (show IsS97 w0 _ g s0_0 s0_1 s0_2 from q2_4))) : P := h
theorem q2_26 {P : Prop} (h : P := by simp only [putAll, Act.put, List.setIfInBounds_toArray, List.set_cons_zero, List.set_cons_succ]) : P := h

/-! ### spec_l01Bad: function 76 -/
def spec_l01Bad.f (s0_0 : List Int) (s0_1 : Int) (s0_2 : Int) (l1_0 : List Int) : Option (List Int × Int × Int) := (spec_l01Copy.f l1_0).bind fun t124 => ((spec_l01Next.f s0_0 s0_1 s0_2 50).bind fun bt128 => (if bt128.1 = 0 then (some (([] : List Int), bt128.2.1, bt128.2.2)) else (if bt128.1 = 1 then ((spec_l01N.f l1_0).bind fun t131 => ((spec_l01Next.f s0_0 bt128.2.1 bt128.2.2 t131).bind fun bt132 => ((spec_l01Pick.f s0_0 bt132.2.1 bt132.2.2 ([(-1), 0, 1, 2, 25] : List Int)).bind fun bt138 => (if 0 ≤ bt132.1 then (if bt132.1 < (t124.length : Int) then (some ((t124.set (bt132.1 : Int).toNat bt138.1), bt138.2.1, bt138.2.2)) else (none)) else (none))))) else (if bt128.1 = 2 then (if t124.length < 17592186044416 then (some ((t124 ++ [0]), bt128.2.1, bt128.2.2)) else (none)) else (some (l1_0, bt128.2.1, bt128.2.2))))))
def spec_l01Bad.T6 : Bool × List (List Nat × List Nat) := (true, [([], []), ([0], [0]), ([], []), ([], []), ([3], [3]), ([2, 4, 4], [2, 4]), ([], []), ([], []), ([6, 7, 5], [6, 7]), ([1, 5, 0, 1, 2, 3, 4, 5, 6, 7, 8], [1, 5]), ([9, 8, 8, 0, 1, 2, 3, 4, 5, 6, 7, 8], [8, 9])])
def spec_l01Bad.B6 : List Nat := [0, 1, 0, 0, 8, 28, 0, 0, 252, 511, 1023]
theorem spec_l01Bad.tab6 : rtab .any (opsOf Try.f76 6) = spec_l01Bad.T6 := by kernel_rfl
theorem spec_l01Bad.bits6 : waitsOk spec_l01Bad.T6.2 spec_l01Bad.B6 = true := by kernel_rfl
set_option maxHeartbeats 8000000 in
set_option maxRecDepth 100000 in
theorem spec_l01Bad.calls (g : Nat) (s0_0 : List Int) (s0_1 : Int) (s0_2 : Int) (P1_0_ : Nat → Prop) (u9000_ : Value) (l1_0 : List Int) (r1 : List Int) (r2 : Int) (r3 : Int) (w0 w : World) (hI : IsS97 w0 w g s0_0 s0_1 s0_2) (hB : Below w0.heap.size w0 w) (ho1_0 : Kd.R (Kd.int .i64) 2 w w0.heap.size P1_0_ u9000_ l1_0) (h : spec_l01Bad.f s0_0 s0_1 s0_2 l1_0 = some (r1, r2, r3)) :
  Calls Try.prog 76 #[.pointer (some ⟨g, 0, none⟩), .agg #[u9000_]] w fun e w' => ∃ v0_ : Value, e = .returned (.agg #[v0_]) ∧ Kd.R (Kd.int .i64) 2 w' w0.heap.size (fun k_ => (P1_0_ k_ ∨ w.heap.size ≤ k_)) v0_ r1 ∧ IsS97 w0 w' g s0_0 r2 r3 ∧ Below w0.heap.size w0 w' ∧ Kept w w' (fun k_ => (P1_0_ k_) ∨ k_ = g) := by
 have hu26 := Try.underlying26
 have HO1_0 := Aside0.mk (show Kd.R (Kd.int .i64) 2 w w0.heap.size (fun k_ => (P1_0_ k_ ∨ w.heap.size ≤ k_)) u9000_ l1_0 from Kd.R_mono ho1_0 (fun k_ hk => (.inl hk)))
 have HI0 := Aside0.mk hI
 have HL := Aside0.mk hB.size
 clear hI
 have HK := Aside0.mk (Kept.refl w (fun k_ => (P1_0_ k_) ∨ k_ = g))
 have HW0 := Aside0.mk hB.size
 have HB := Aside0.mk hB
 clear hB
 have H : ((spec_l01Copy.f l1_0).bind fun t124 => ((spec_l01Next.f s0_0 s0_1 s0_2 50).bind fun bt128 => (if bt128.1 = 0 then (some (([] : List Int), bt128.2.1, bt128.2.2)) else (if bt128.1 = 1 then ((spec_l01N.f l1_0).bind fun t131 => ((spec_l01Next.f s0_0 bt128.2.1 bt128.2.2 t131).bind fun bt132 => ((spec_l01Pick.f s0_0 bt132.2.1 bt132.2.2 ([(-1), 0, 1, 2, 25] : List Int)).bind fun bt138 => (if 0 ≤ bt132.1 then (if bt132.1 < (t124.length : Int) then (some ((t124.set (bt132.1 : Int).toNat bt138.1), bt138.2.1, bt138.2.2)) else (none)) else (none))))) else (if bt128.1 = 2 then (if t124.length < 17592186044416 then (some ((t124 ++ [0]), bt128.2.1, bt128.2.2)) else (none)) else (some (l1_0, bt128.2.1, bt128.2.2))))))) = some (r1, r2, r3) := h
 clear h
 replace H := Option.bind_eq_some_iff.mp H
 obtain ⟨t124, A30, H⟩ := H
 replace H : ((spec_l01Next.f s0_0 s0_1 s0_2 50).bind fun bt128 => (if bt128.1 = 0 then (some (([] : List Int), bt128.2.1, bt128.2.2)) else (if bt128.1 = 1 then ((spec_l01N.f l1_0).bind fun t131 => ((spec_l01Next.f s0_0 bt128.2.1 bt128.2.2 t131).bind fun bt132 => ((spec_l01Pick.f s0_0 bt132.2.1 bt132.2.2 ([(-1), 0, 1, 2, 25] : List Int)).bind fun bt138 => (if 0 ≤ bt132.1 then (if bt132.1 < (t124.length : Int) then (some ((t124.set (bt132.1 : Int).toNat bt138.1), bt138.2.1, bt138.2.2)) else (none)) else (none))))) else (if bt128.1 = 2 then (if t124.length < 17592186044416 then (some ((t124 ++ [0]), bt128.2.1, bt128.2.2)) else (none)) else (some (l1_0, bt128.2.1, bt128.2.2)))))) = some (r1, r2, r3) := H
 have A3 := Aside0.mk A30
 clear A30
 replace H := Option.bind_eq_some_iff.mp H
 obtain ⟨⟨t128, t129, t130⟩, A40, H⟩ := H
 replace H : (if t128 = 0 then (some (([] : List Int), t129, t130)) else (if t128 = 1 then ((spec_l01N.f l1_0).bind fun t131 => ((spec_l01Next.f s0_0 t129 t130 t131).bind fun bt132 => ((spec_l01Pick.f s0_0 bt132.2.1 bt132.2.2 ([(-1), 0, 1, 2, 25] : List Int)).bind fun bt138 => (if 0 ≤ bt132.1 then (if bt132.1 < (t124.length : Int) then (some ((t124.set (bt132.1 : Int).toNat bt138.1), bt138.2.1, bt138.2.2)) else (none)) else (none))))) else (if t128 = 2 then (if t124.length < 17592186044416 then (some ((t124 ++ [0]), t129, t130)) else (none)) else (some (l1_0, t129, t130))))) = some (r1, r2, r3) := H
 have A4 := Aside0.mk A40
 clear A40
 by_cases c5 : t128 = 0
 ·rw [if_pos c5] at H
  have c5b0 : (t128 == 0) = true := beq_iff_eq.mpr c5
  have c5b1 : (t128 != 0) = false := bne_eq_false_iff_eq.mpr c5
  clear c5
  simp only [Option.some.injEq, Prod.mk.injEq] at H
  obtain ⟨rfl, rfl, rfl⟩ := H
  obtain ⟨Ao6, co6, eo6⟩ := Kd.R_slice HO1_0.out
  subst eo6
  go_enter Try.func76, Try.ntmps76
  go_wp2_with (first | ((with_reducible refine gate_dst (N := 3) rfl ?_); refine box_event ?hg (N := 3) ?hd (cs := #[.slice Ao6 l1_0.length co6]) (t := 26) ?hr ?_; (case hd => rfl); (case hg => rfl); (case hr => exact gs); intro gb122 hg w7 hbox hb; replace HO1_0 := rb HO1_0 hb; have BK122 := Aside0.mk (hbox); have GW122 := Aside0.mk (q2_17 : w.heap.size ≤ gb122); replace HK := Aside0.mk (Kept.below (S := (fun k_ => (P1_0_ k_) ∨ k_ = g)) q2_11 hb); have GE122 := Aside0.mk (by rw [hg]; exact (below_size q2_10) : w0.heap.size ≤ gb122); replace HB := Aside0.mk (below_step q2_10 hb); have NB0_122 := Aside0.mk (q2_20 : g ≠ gb122); have NB122_0 := Aside0.mk (q2_23 : gb122 ≠ g); replace HI0 := Aside0.mk (IsS97.below q2_7 hb); clear hb hbox hg) | ((with_reducible refine gate_dst (N := 4) rfl ?_); refine box_event ?hg (N := 4) ?hd (cs := #[.slice none 0 0]) (t := 26) ?hr ?_; (case hd => rfl); (case hg => rfl); (case hr => exact gs); intro gb123 hg w8 hbox hb; replace HO1_0 := rb HO1_0 hb; have BK123 := Aside0.mk (hbox); have GW123 := Aside0.mk (q2_18 : w.heap.size ≤ gb123); replace HK := Aside0.mk (Kept.below (S := (fun k_ => (P1_0_ k_) ∨ k_ = g)) q2_8 hb); have GE123 := Aside0.mk (by rw [hg]; exact (below_size q2_9) : w0.heap.size ≤ gb123); replace HB := Aside0.mk (below_step q2_9 hb); have NB122_123 := Aside0.mk (nel hg (blk_lt (pb BK122.out)) : gb122 ≠ gb123); have NB123_122 := Aside0.mk (neg hg (blk_lt (pb BK122.out)) : gb123 ≠ gb122); replace BK122 := bb BK122 hb; have NB0_123 := Aside0.mk (q2_21 : g ≠ gb123); have NB123_0 := Aside0.mk (q2_24 : gb123 ≠ g); replace HI0 := Aside0.mk (IsS97.below q2_6 hb); clear hb hbox hg; have hnb9 := NB122_123.out; have hnc9 := NB123_122.out; have hnb10 := NB122_0.out; have hnc10 := NB0_122.out; have hcz11_0 : w8.cell? ⟨gb122, 0, none⟩ = some (.slice Ao6 l1_0.length co6) := (blk_cell BK122.out 0).trans rfl; have hfz11_0 := blk_frozen BK122.out 0) | ((with_reducible refine gate_callee (f := 92) rfl ?_); refine goesL_ (some 7) rfl rfl Try.func92 (by kernel_rfl) rfl #[.agg #[.slice Ao6 l1_0.length co6]] rfl am ?_; (with_reducible refine (spec_l01Copy.calls _ _ l1_0 t124 _ ?side1 ?side2 A3.out).mono ?_); (case side1 => exact pc ((Kd.R_reads' HO1_0.out).2.2)); (case side2 => exact (Kd.R_reads' HO1_0.out).2.1); rintro e w12 ⟨v125, rfl, ho0, hb⟩; refine ⟨_, rfl, ?_⟩; have HO126 := Aside0.mk (Kd.R_lower (Kd.R_new' (Kd.R_newM (M := fun k_ => (P1_0_ k_ ∨ w.heap.size ≤ k_)) ho0 q2_12 (fun k_ h_ => .inr h_)) (Kd.R_lt (pe HO1_0.out))) (below_size q2_5)); replace HO1_0 := rn HO1_0 ho0 hb; replace BK122 := bb BK122 hb; replace BK123 := bb BK123 hb; replace HK := Aside0.mk (Kept.below (S := (fun k_ => (P1_0_ k_) ∨ k_ = g)) q2_3 hb); replace HB := Aside0.mk (below_step q2_5 hb); replace HI0 := Aside0.mk (IsS97.below q2_4 hb); (try clear hb); (try clear hb2); (try clear hk); (try clear hi); (try clear ho0)) | ((with_reducible refine gate_dst (N := 5) rfl ?_); refine box_event ?hg (N := 5) ?hd (cs := #[.slice none 0 0]) (t := 26) ?hr ?_; (case hd => rfl); (case hg => rfl); (case hr => exact gs); intro gb127 hg w13 hbox hb; replace HO1_0 := rb HO1_0 hb; replace HO126 := rb HO126 hb; have BK127 := Aside0.mk (hbox); have GW127 := Aside0.mk (by rw [hg]; exact q2_12 : w.heap.size ≤ gb127); replace HK := Aside0.mk (Kept.below (S := (fun k_ => (P1_0_ k_) ∨ k_ = g)) q2_3 hb); have GE127 := Aside0.mk (by rw [hg]; exact (below_size q2_5) : w0.heap.size ≤ gb127); replace HB := Aside0.mk (below_step q2_5 hb); have NB122_127 := Aside0.mk (nel hg (blk_lt (pb BK122.out)) : gb122 ≠ gb127); have NB127_122 := Aside0.mk (neg hg (blk_lt (pb BK122.out)) : gb127 ≠ gb122); replace BK122 := bb BK122 hb; have NB123_127 := Aside0.mk (nel hg (blk_lt (pb BK123.out)) : gb123 ≠ gb127); have NB127_123 := Aside0.mk (neg hg (blk_lt (pb BK123.out)) : gb127 ≠ gb123); replace BK123 := bb BK123 hb; have NB0_127 := Aside0.mk (q2_22 : g ≠ gb127); have NB127_0 := Aside0.mk (q2_25 : gb127 ≠ g); replace HI0 := Aside0.mk (IsS97.below q2_4 hb); clear hb hbox hg; obtain ⟨Ao14, co14, eo14⟩ := Kd.R_slice HO126.out; subst eo14; have hnb15 := NB127_122.out; have hnc15 := NB122_127.out; have hnb16 := NB127_123.out; have hnc16 := NB123_127.out; have hnb17 := NB127_0.out; have hnc17 := NB0_127.out; have hcz18_0 : w13.cell? ⟨gb127, 0, none⟩ = some (.slice none 0 0) := (blk_cell BK127.out 0).trans rfl; have hfz18_0 := blk_frozen BK127.out 0) | ((with_reducible refine gate_callee (f := 82) rfl ?_); refine goesL_ (some 9) rfl rfl Try.func82 (by kernel_rfl) rfl #[.pointer (some ⟨g, 0, none⟩), .int .i64 50] rfl am ?_; (with_reducible refine (spec_l01Next.calls g s0_0 s0_1 s0_2 50 t128 t129 t130 w0 _ ?side1 ?side2 A4.out).mono ?_); (case side1 => repeat (first | (with_reducible first | exact HI0.out | apply IsS97.alloc | apply IsS97.drewN | apply IsS97.drew | apply IsS97.set_1 | apply IsS97.set_2 | refine IsS97.far ?_ NB0_122.out _ | refine IsS97.far ?_ NB0_123.out _ | refine IsS97.far ?_ NB0_127.out _) | exact HI0.out)); (case side2 => repeat (first | (with_reducible first | exact HB.out | apply below_alloc | apply pw_below_drewN | apply below_drew1 | refine below_set ?_ (IsS97.ge HI0.out) | refine below_set ?_ GE122.out | refine below_set ?_ GE123.out | refine below_set ?_ GE127.out) | exact HB.out)); rintro e w19 ⟨rfl, hi, hb, hk⟩; refine ⟨_, rfl, ?_⟩; replace HO1_0 := Aside0.mk (Kd.R_mono (Kd.R_keep (IsS97.apart (show IsS97 w0 _ g s0_0 s0_1 s0_2 from q2_0) (pe (rf HO1_0 BK127 (.slice Ao14 t124.length co14))) (by decide)) hk (fun _ h => h.2)) (fun _ h => h.1)); replace BK122 := Aside0.mk (KeepBut.blk hk (g' := gb122) (o := .cells #[.slice Ao6 l1_0.length co6] 26 (0, 0)) q2_15 NB122_0.out (by simp)); replace BK123 := Aside0.mk (KeepBut.blk hk (g' := gb123) (o := .cells #[.slice none 0 0] 26 (0, 0)) q2_14 NB123_0.out (by simp)); replace HO126 := Aside0.mk (Kd.R_mono (Kd.R_keep (IsS97.apart (show IsS97 w0 _ g s0_0 s0_1 s0_2 from q2_0) (pe (rf HO126 BK127 (.slice Ao14 t124.length co14))) (by decide)) hk (fun _ h => h.2)) (fun _ h => h.1)); replace BK127 := Aside0.mk (KeepBut.blk hk (g' := gb127) (o := .cells #[.slice Ao14 t124.length co14] 26 (0, 0)) q2_13 NB127_0.out (by simp)); replace HK := Aside0.mk (Kept.of_keep (S := (fun k_ => (P1_0_ k_) ∨ k_ = g)) q2_1 hk (.inl (.inr rfl))); replace HB := Aside0.mk (hb); replace HI0 := Aside0.mk (hi); (try clear hb); (try clear hb2); (try clear hk); (try clear hi); have hnb20 := NB123_0.out; have hnc20 := NB0_123.out; have hcz21_0 : w19.cell? ⟨gb123, 0, none⟩ = some (.slice none 0 0) := (blk_cell BK123.out 0).trans rfl; have hfz21_0 := blk_frozen BK123.out 0))
  refine bodyPost_ret (results_cell_row rfl _ _ gb123 26 #[.slice none 0 0] (0, 0) _ rfl q2_16 Try.underlying26 rfl (by kernel_rfl)) rfl ?_
  exact ⟨_, ew, by first | exact Kd.R_nil _ _ _ _ _ | exact Kd.N_nil _ _ _ _ _ | exact Kd.V_nil _ _ _ _ _ | exact Kd.Q_nil _ _ _ _ _ | exact Kd.S_nil _ _ _ _ _, q2_0, q2_2, q2_1⟩
 rw [if_neg c5] at H
 have c5b0 : (t128 == 0) = false := beq_eq_false_iff_ne.mpr c5
 have c5b1 : (t128 != 0) = true := bne_iff_ne.mpr c5
 by_cases c22 : t128 = 1
 rotate_left
 ·rw [if_neg c22] at H
  have c22b0 : (t128 == 1) = false := beq_eq_false_iff_ne.mpr c22
  have c22b1 : (t128 != 1) = true := bne_iff_ne.mpr c22
  by_cases c56 : t128 = 2
  rotate_left
  ·rw [if_neg c56] at H
   have c56b0 : (t128 == 2) = false := beq_eq_false_iff_ne.mpr c56
   have c56b1 : (t128 != 2) = true := bne_iff_ne.mpr c56
   simp only [Option.some.injEq, Prod.mk.injEq] at H
   obtain ⟨rfl, rfl, rfl⟩ := H
   obtain ⟨Ao78, co78, eo78⟩ := Kd.R_slice HO1_0.out
   subst eo78
   go_enter Try.func76, Try.ntmps76
   go_wp2_with (first | ((with_reducible refine gate_dst (N := 3) rfl ?_); refine box_event ?hg (N := 3) ?hd (cs := #[.slice Ao78 l1_0.length co78]) (t := 26) ?hr ?_; (case hd => rfl); (case hg => rfl); (case hr => exact gs); intro gb122 hg w79 hbox hb; replace HO1_0 := rb HO1_0 hb; have BK122 := Aside0.mk (hbox); have GW122 := Aside0.mk (q2_17 : w.heap.size ≤ gb122); replace HK := Aside0.mk (Kept.below (S := (fun k_ => (P1_0_ k_) ∨ k_ = g)) q2_11 hb); have GE122 := Aside0.mk (by rw [hg]; exact (below_size q2_10) : w0.heap.size ≤ gb122); replace HB := Aside0.mk (below_step q2_10 hb); have NB0_122 := Aside0.mk (q2_20 : g ≠ gb122); have NB122_0 := Aside0.mk (q2_23 : gb122 ≠ g); replace HI0 := Aside0.mk (IsS97.below q2_7 hb); clear hb hbox hg) | ((with_reducible refine gate_dst (N := 4) rfl ?_); refine box_event ?hg (N := 4) ?hd (cs := #[.slice none 0 0]) (t := 26) ?hr ?_; (case hd => rfl); (case hg => rfl); (case hr => exact gs); intro gb123 hg w80 hbox hb; replace HO1_0 := rb HO1_0 hb; have BK123 := Aside0.mk (hbox); have GW123 := Aside0.mk (q2_18 : w.heap.size ≤ gb123); replace HK := Aside0.mk (Kept.below (S := (fun k_ => (P1_0_ k_) ∨ k_ = g)) q2_8 hb); have GE123 := Aside0.mk (by rw [hg]; exact (below_size q2_9) : w0.heap.size ≤ gb123); replace HB := Aside0.mk (below_step q2_9 hb); have NB122_123 := Aside0.mk (nel hg (blk_lt (pb BK122.out)) : gb122 ≠ gb123); have NB123_122 := Aside0.mk (neg hg (blk_lt (pb BK122.out)) : gb123 ≠ gb122); replace BK122 := bb BK122 hb; have NB0_123 := Aside0.mk (q2_21 : g ≠ gb123); have NB123_0 := Aside0.mk (q2_24 : gb123 ≠ g); replace HI0 := Aside0.mk (IsS97.below q2_6 hb); clear hb hbox hg; have hnb81 := NB122_123.out; have hnc81 := NB123_122.out; have hnb82 := NB122_0.out; have hnc82 := NB0_122.out; have hcz83_0 : w80.cell? ⟨gb122, 0, none⟩ = some (.slice Ao78 l1_0.length co78) := (blk_cell BK122.out 0).trans rfl; have hfz83_0 := blk_frozen BK122.out 0) | ((with_reducible refine gate_callee (f := 92) rfl ?_); refine goesL_ (some 7) rfl rfl Try.func92 (by kernel_rfl) rfl #[.agg #[.slice Ao78 l1_0.length co78]] rfl am ?_; (with_reducible refine (spec_l01Copy.calls _ _ l1_0 t124 _ ?side1 ?side2 A3.out).mono ?_); (case side1 => exact pc ((Kd.R_reads' HO1_0.out).2.2)); (case side2 => exact (Kd.R_reads' HO1_0.out).2.1); rintro e w84 ⟨v125, rfl, ho0, hb⟩; refine ⟨_, rfl, ?_⟩; have HO126 := Aside0.mk (Kd.R_lower (Kd.R_new' (Kd.R_newM (M := fun k_ => (P1_0_ k_ ∨ w.heap.size ≤ k_)) ho0 q2_12 (fun k_ h_ => .inr h_)) (Kd.R_lt (pe HO1_0.out))) (below_size q2_5)); replace HO1_0 := rn HO1_0 ho0 hb; replace BK122 := bb BK122 hb; replace BK123 := bb BK123 hb; replace HK := Aside0.mk (Kept.below (S := (fun k_ => (P1_0_ k_) ∨ k_ = g)) q2_3 hb); replace HB := Aside0.mk (below_step q2_5 hb); replace HI0 := Aside0.mk (IsS97.below q2_4 hb); (try clear hb); (try clear hb2); (try clear hk); (try clear hi); (try clear ho0)) | ((with_reducible refine gate_dst (N := 5) rfl ?_); refine box_event ?hg (N := 5) ?hd (cs := #[.slice none 0 0]) (t := 26) ?hr ?_; (case hd => rfl); (case hg => rfl); (case hr => exact gs); intro gb127 hg w85 hbox hb; replace HO1_0 := rb HO1_0 hb; replace HO126 := rb HO126 hb; have BK127 := Aside0.mk (hbox); have GW127 := Aside0.mk (by rw [hg]; exact q2_12 : w.heap.size ≤ gb127); replace HK := Aside0.mk (Kept.below (S := (fun k_ => (P1_0_ k_) ∨ k_ = g)) q2_3 hb); have GE127 := Aside0.mk (by rw [hg]; exact (below_size q2_5) : w0.heap.size ≤ gb127); replace HB := Aside0.mk (below_step q2_5 hb); have NB122_127 := Aside0.mk (nel hg (blk_lt (pb BK122.out)) : gb122 ≠ gb127); have NB127_122 := Aside0.mk (neg hg (blk_lt (pb BK122.out)) : gb127 ≠ gb122); replace BK122 := bb BK122 hb; have NB123_127 := Aside0.mk (nel hg (blk_lt (pb BK123.out)) : gb123 ≠ gb127); have NB127_123 := Aside0.mk (neg hg (blk_lt (pb BK123.out)) : gb127 ≠ gb123); replace BK123 := bb BK123 hb; have NB0_127 := Aside0.mk (q2_22 : g ≠ gb127); have NB127_0 := Aside0.mk (q2_25 : gb127 ≠ g); replace HI0 := Aside0.mk (IsS97.below q2_4 hb); clear hb hbox hg; obtain ⟨Ao86, co86, eo86⟩ := Kd.R_slice HO126.out; subst eo86; have hnb87 := NB127_122.out; have hnc87 := NB122_127.out; have hnb88 := NB127_123.out; have hnc88 := NB123_127.out; have hnb89 := NB127_0.out; have hnc89 := NB0_127.out; have hcz90_0 : w85.cell? ⟨gb127, 0, none⟩ = some (.slice none 0 0) := (blk_cell BK127.out 0).trans rfl; have hfz90_0 := blk_frozen BK127.out 0) | ((with_reducible refine gate_callee (f := 82) rfl ?_); refine goesL_ (some 9) rfl rfl Try.func82 (by kernel_rfl) rfl #[.pointer (some ⟨g, 0, none⟩), .int .i64 50] rfl am ?_; (with_reducible refine (spec_l01Next.calls g s0_0 s0_1 s0_2 50 t128 t129 t130 w0 _ ?side1 ?side2 A4.out).mono ?_); (case side1 => repeat (first | (with_reducible first | exact HI0.out | apply IsS97.alloc | apply IsS97.drewN | apply IsS97.drew | apply IsS97.set_1 | apply IsS97.set_2 | refine IsS97.far ?_ NB0_122.out _ | refine IsS97.far ?_ NB0_123.out _ | refine IsS97.far ?_ NB0_127.out _) | exact HI0.out)); (case side2 => repeat (first | (with_reducible first | exact HB.out | apply below_alloc | apply pw_below_drewN | apply below_drew1 | refine below_set ?_ (IsS97.ge HI0.out) | refine below_set ?_ GE122.out | refine below_set ?_ GE123.out | refine below_set ?_ GE127.out) | exact HB.out)); rintro e w91 ⟨rfl, hi, hb, hk⟩; refine ⟨_, rfl, ?_⟩; replace HO1_0 := Aside0.mk (Kd.R_mono (Kd.R_keep (IsS97.apart (show IsS97 w0 _ g s0_0 s0_1 s0_2 from q2_0) (pe (rf HO1_0 BK127 (.slice Ao86 t124.length co86))) (by decide)) hk (fun _ h => h.2)) (fun _ h => h.1)); replace BK122 := Aside0.mk (KeepBut.blk hk (g' := gb122) (o := .cells #[.slice Ao78 l1_0.length co78] 26 (0, 0)) q2_15 NB122_0.out (by simp)); replace BK123 := Aside0.mk (KeepBut.blk hk (g' := gb123) (o := .cells #[.slice none 0 0] 26 (0, 0)) q2_14 NB123_0.out (by simp)); replace HO126 := Aside0.mk (Kd.R_mono (Kd.R_keep (IsS97.apart (show IsS97 w0 _ g s0_0 s0_1 s0_2 from q2_0) (pe (rf HO126 BK127 (.slice Ao86 t124.length co86))) (by decide)) hk (fun _ h => h.2)) (fun _ h => h.1)); replace BK127 := Aside0.mk (KeepBut.blk hk (g' := gb127) (o := .cells #[.slice Ao86 t124.length co86] 26 (0, 0)) q2_13 NB127_0.out (by simp)); replace HK := Aside0.mk (Kept.of_keep (S := (fun k_ => (P1_0_ k_) ∨ k_ = g)) q2_1 hk (.inl (.inr rfl))); replace HB := Aside0.mk (hb); replace HI0 := Aside0.mk (hi); (try clear hb); (try clear hb2); (try clear hk); (try clear hi); have hcz92_0 : w91.cell? ⟨gb122, 0, none⟩ = some (.slice Ao78 l1_0.length co78) := (blk_cell BK122.out 0).trans rfl; have hfz92_0 := blk_frozen BK122.out 0; have hnb93 := NB123_0.out; have hnc93 := NB0_123.out; have hcz94_0 : w91.cell? ⟨gb123, 0, none⟩ = some (.slice none 0 0) := (blk_cell BK123.out 0).trans rfl; have hfz94_0 := blk_frozen BK123.out 0))
   refine bodyPost_ret (results_cell_row rfl _ _ gb123 26 #[.slice Ao78 l1_0.length co78] (0, 0) _ rfl q2_16 Try.underlying26 rfl (by kernel_rfl)) rfl ?_
   exact ⟨_, ew, pe (Kd.R_mono (Kd.R_far (p := ⟨gb123, 0, none⟩) (Kd.R_types HO1_0.out BK123.out (by decide)) (fun _ hk => hk.2) (.slice Ao78 l1_0.length co78)) (fun _ hk => hk.1.1)), q2_0, q2_2, q2_1⟩
  rw [if_pos c56] at H
  have c56b0 : (t128 == 2) = true := beq_iff_eq.mpr c56
  have c56b1 : (t128 != 2) = false := bne_eq_false_iff_eq.mpr c56
  clear c56
  by_cases c57 : t124.length < 17592186044416
  rotate_left
  ·rw [if_neg c57] at H
   exact absurd H (by simp)
  rw [if_pos c57] at H
  have LMc57 := Aside0.mk c57
  clear c57
  obtain ⟨y142, hy142⟩ : ∃ y_ : List Int, y_ = (t124 ++ [0]) := ⟨_, rfl⟩
  replace H : (some (y142, t129, t130)) = some (r1, r2, r3) := by first | (rw [hy142]; with_reducible exact H) | (have H2_ := (Option.bind_some _ _).symm.trans H; rw [hy142]; with_reducible exact H2_) | (have H2_ := (Option.bind_some _ _).symm.trans H; with_reducible exact H2_) | with_reducible exact H | (rw [hy142]; exact H) | exact H
  have Ny142 := Aside0.mk hy142
  clear hy142
  simp only [Option.some.injEq, Prod.mk.injEq] at H
  obtain ⟨rfl, rfl, rfl⟩ := H
  obtain ⟨Ao58, co58, eo58⟩ := Kd.R_slice HO1_0.out
  subst eo58
  go_enter Try.func76, Try.ntmps76
  go_wp2_with (first | ((with_reducible refine gate_dst (N := 3) rfl ?_); refine box_event ?hg (N := 3) ?hd (cs := #[.slice Ao58 l1_0.length co58]) (t := 26) ?hr ?_; (case hd => rfl); (case hg => rfl); (case hr => exact gs); intro gb122 hg w59 hbox hb; replace HO1_0 := rb HO1_0 hb; have BK122 := Aside0.mk (hbox); have GW122 := Aside0.mk (q2_17 : w.heap.size ≤ gb122); replace HK := Aside0.mk (Kept.below (S := (fun k_ => (P1_0_ k_) ∨ k_ = g)) q2_11 hb); have GE122 := Aside0.mk (by rw [hg]; exact (below_size q2_10) : w0.heap.size ≤ gb122); replace HB := Aside0.mk (below_step q2_10 hb); have NB0_122 := Aside0.mk (q2_20 : g ≠ gb122); have NB122_0 := Aside0.mk (q2_23 : gb122 ≠ g); replace HI0 := Aside0.mk (IsS97.below q2_7 hb); clear hb hbox hg) | ((with_reducible refine gate_dst (N := 4) rfl ?_); refine box_event ?hg (N := 4) ?hd (cs := #[.slice none 0 0]) (t := 26) ?hr ?_; (case hd => rfl); (case hg => rfl); (case hr => exact gs); intro gb123 hg w60 hbox hb; replace HO1_0 := rb HO1_0 hb; have BK123 := Aside0.mk (hbox); have GW123 := Aside0.mk (q2_18 : w.heap.size ≤ gb123); replace HK := Aside0.mk (Kept.below (S := (fun k_ => (P1_0_ k_) ∨ k_ = g)) q2_8 hb); have GE123 := Aside0.mk (by rw [hg]; exact (below_size q2_9) : w0.heap.size ≤ gb123); replace HB := Aside0.mk (below_step q2_9 hb); have NB122_123 := Aside0.mk (nel hg (blk_lt (pb BK122.out)) : gb122 ≠ gb123); have NB123_122 := Aside0.mk (neg hg (blk_lt (pb BK122.out)) : gb123 ≠ gb122); replace BK122 := bb BK122 hb; have NB0_123 := Aside0.mk (q2_21 : g ≠ gb123); have NB123_0 := Aside0.mk (q2_24 : gb123 ≠ g); replace HI0 := Aside0.mk (IsS97.below q2_6 hb); clear hb hbox hg; have hnb61 := NB122_123.out; have hnc61 := NB123_122.out; have hnb62 := NB122_0.out; have hnc62 := NB0_122.out; have hcz63_0 : w60.cell? ⟨gb122, 0, none⟩ = some (.slice Ao58 l1_0.length co58) := (blk_cell BK122.out 0).trans rfl; have hfz63_0 := blk_frozen BK122.out 0) | ((with_reducible refine gate_callee (f := 92) rfl ?_); refine goesL_ (some 7) rfl rfl Try.func92 (by kernel_rfl) rfl #[.agg #[.slice Ao58 l1_0.length co58]] rfl am ?_; (with_reducible refine (spec_l01Copy.calls _ _ l1_0 t124 _ ?side1 ?side2 A3.out).mono ?_); (case side1 => exact pc ((Kd.R_reads' HO1_0.out).2.2)); (case side2 => exact (Kd.R_reads' HO1_0.out).2.1); rintro e w64 ⟨v125, rfl, ho0, hb⟩; refine ⟨_, rfl, ?_⟩; have HO126 := Aside0.mk (Kd.R_lower (Kd.R_new' (Kd.R_newM (M := fun k_ => (P1_0_ k_ ∨ w.heap.size ≤ k_)) ho0 q2_12 (fun k_ h_ => .inr h_)) (Kd.R_lt (pe HO1_0.out))) (below_size q2_5)); replace HO1_0 := rn HO1_0 ho0 hb; replace BK122 := bb BK122 hb; replace BK123 := bb BK123 hb; replace HK := Aside0.mk (Kept.below (S := (fun k_ => (P1_0_ k_) ∨ k_ = g)) q2_3 hb); replace HB := Aside0.mk (below_step q2_5 hb); replace HI0 := Aside0.mk (IsS97.below q2_4 hb); (try clear hb); (try clear hb2); (try clear hk); (try clear hi); (try clear ho0)) | ((with_reducible refine gate_dst (N := 5) rfl ?_); refine box_event ?hg (N := 5) ?hd (cs := #[.slice none 0 0]) (t := 26) ?hr ?_; (case hd => rfl); (case hg => rfl); (case hr => exact gs); intro gb127 hg w65 hbox hb; replace HO1_0 := rb HO1_0 hb; replace HO126 := rb HO126 hb; have BK127 := Aside0.mk (hbox); have GW127 := Aside0.mk (by rw [hg]; exact q2_12 : w.heap.size ≤ gb127); replace HK := Aside0.mk (Kept.below (S := (fun k_ => (P1_0_ k_) ∨ k_ = g)) q2_3 hb); have GE127 := Aside0.mk (by rw [hg]; exact (below_size q2_5) : w0.heap.size ≤ gb127); replace HB := Aside0.mk (below_step q2_5 hb); have NB122_127 := Aside0.mk (nel hg (blk_lt (pb BK122.out)) : gb122 ≠ gb127); have NB127_122 := Aside0.mk (neg hg (blk_lt (pb BK122.out)) : gb127 ≠ gb122); replace BK122 := bb BK122 hb; have NB123_127 := Aside0.mk (nel hg (blk_lt (pb BK123.out)) : gb123 ≠ gb127); have NB127_123 := Aside0.mk (neg hg (blk_lt (pb BK123.out)) : gb127 ≠ gb123); replace BK123 := bb BK123 hb; have NB0_127 := Aside0.mk (q2_22 : g ≠ gb127); have NB127_0 := Aside0.mk (q2_25 : gb127 ≠ g); replace HI0 := Aside0.mk (IsS97.below q2_4 hb); clear hb hbox hg; obtain ⟨Ao66, co66, eo66⟩ := Kd.R_slice HO126.out; subst eo66; have hnb67 := NB127_122.out; have hnc67 := NB122_127.out; have hnb68 := NB127_123.out; have hnc68 := NB123_127.out; have hnb69 := NB127_0.out; have hnc69 := NB0_127.out; have hcz70_0 : w65.cell? ⟨gb127, 0, none⟩ = some (.slice none 0 0) := (blk_cell BK127.out 0).trans rfl; have hfz70_0 := blk_frozen BK127.out 0) | ((with_reducible refine gate_callee (f := 82) rfl ?_); refine goesL_ (some 9) rfl rfl Try.func82 (by kernel_rfl) rfl #[.pointer (some ⟨g, 0, none⟩), .int .i64 50] rfl am ?_; (with_reducible refine (spec_l01Next.calls g s0_0 s0_1 s0_2 50 t128 t129 t130 w0 _ ?side1 ?side2 A4.out).mono ?_); (case side1 => repeat (first | (with_reducible first | exact HI0.out | apply IsS97.alloc | apply IsS97.drewN | apply IsS97.drew | apply IsS97.set_1 | apply IsS97.set_2 | refine IsS97.far ?_ NB0_122.out _ | refine IsS97.far ?_ NB0_123.out _ | refine IsS97.far ?_ NB0_127.out _) | exact HI0.out)); (case side2 => repeat (first | (with_reducible first | exact HB.out | apply below_alloc | apply pw_below_drewN | apply below_drew1 | refine below_set ?_ (IsS97.ge HI0.out) | refine below_set ?_ GE122.out | refine below_set ?_ GE123.out | refine below_set ?_ GE127.out) | exact HB.out)); rintro e w71 ⟨rfl, hi, hb, hk⟩; refine ⟨_, rfl, ?_⟩; replace HO1_0 := Aside0.mk (Kd.R_mono (Kd.R_keep (IsS97.apart (show IsS97 w0 _ g s0_0 s0_1 s0_2 from q2_0) (pe (rf HO1_0 BK127 (.slice Ao66 t124.length co66))) (by decide)) hk (fun _ h => h.2)) (fun _ h => h.1)); replace BK122 := Aside0.mk (KeepBut.blk hk (g' := gb122) (o := .cells #[.slice Ao58 l1_0.length co58] 26 (0, 0)) q2_15 NB122_0.out (by simp)); replace BK123 := Aside0.mk (KeepBut.blk hk (g' := gb123) (o := .cells #[.slice none 0 0] 26 (0, 0)) q2_14 NB123_0.out (by simp)); replace HO126 := Aside0.mk (Kd.R_mono (Kd.R_keep (IsS97.apart (show IsS97 w0 _ g s0_0 s0_1 s0_2 from q2_0) (pe (rf HO126 BK127 (.slice Ao66 t124.length co66))) (by decide)) hk (fun _ h => h.2)) (fun _ h => h.1)); replace BK127 := Aside0.mk (KeepBut.blk hk (g' := gb127) (o := .cells #[.slice Ao66 t124.length co66] 26 (0, 0)) q2_13 NB127_0.out (by simp)); replace HK := Aside0.mk (Kept.of_keep (S := (fun k_ => (P1_0_ k_) ∨ k_ = g)) q2_1 hk (.inl (.inr rfl))); replace HB := Aside0.mk (hb); replace HI0 := Aside0.mk (hi); (try clear hb); (try clear hb2); (try clear hk); (try clear hi); have hcz72_0 : w71.cell? ⟨gb127, 0, none⟩ = some (.slice Ao66 t124.length co66) := (blk_cell BK127.out 0).trans rfl; have hfz72_0 := blk_frozen BK127.out 0) | ((with_reducible refine gate_builtin (b := .append) (xs := #[.tmp 29, .tmp 30]) rfl ?_); at_builtin; refine Kd.R_append (Kd.int .i64) (w0 := w0) w0.heap.size rfl (.tmp 29) (.tmp 30) 24 2 (.int .i64 0) 8 rfl Try.underlying24 info2 rfl (by decide) (by omega) (.slice Ao66 t124.length co66) t124 0 [.int .i64 0] (fun k_ => (P1_0_ k_ ∨ w.heap.size ≤ k_) ∧ some k_ ≠ (.slice Ao58 l1_0.length co58 : Value).ownBlock) (fun _ => False) rfl rfl ?aP (fun _ hk => hk.elim) ?aF ?aO ?aB ?aS ?aL ?_; (case aP => exact rfl); (case aB => exact q2_2); (case aF => exact (fun k_ hk => ⟨(.inr (Nat.le_trans q2_19 hk)), Kd.fresh' (Kd.R_lt (pe HO1_0.out)) k_ hk⟩)); (case aO => exact (pe (Kd.R_mono HO126.out (fun _ hk => ⟨hk.1.1, hk.2⟩)))); (case aS => exact (below_size q2_2)); (case aL => have := LMc57.out; omega); intro v143 w73 ho hb hg hat; rw [← Ny142.out] at ho; replace HI0 := Aside0.mk (IsS97.grown q2_0 hg (IsS97.own_ne HI0.out HO126.out (by decide))); replace HO1_0 := Aside0.mk (Kd.R_after (ok := (fun k_ => (P1_0_ k_ ∨ w.heap.size ≤ k_))) (pe HO1_0.out) hg hat); replace BK122 := Aside0.mk (blk_grown (g := gb122) (o := .cells #[.slice Ao58 l1_0.length co58] 26 (0, 0)) (pb BK122.out) hg (Kd.R_ne HO126.out BK122.out (by decide))); replace BK123 := Aside0.mk (blk_grown (g := gb123) (o := .cells #[.slice none 0 0] 26 (0, 0)) (pb BK123.out) hg (Kd.R_ne HO126.out BK123.out (by decide))); replace BK127 := Aside0.mk (blk_grown (g := gb127) (o := .cells #[.slice Ao66 t124.length co66] 26 (0, 0)) (pb BK127.out) hg (Kd.R_ne HO126.out BK127.out (by decide))); replace HB := Aside0.mk (hb); replace HK := Aside0.mk (Kept.of_grown (S := (fun k_ => (P1_0_ k_) ∨ k_ = g)) hg q2_1 (fun k_ e_ => Or.imp_left Or.inl ((HO126.out.1 k_ e_).1.1))); have HO144 := Aside0.mk (ho); clear HO126; clear ho hb hg hat; obtain ⟨Ao74, co74, eo74⟩ := Kd.R_slice HO144.out; subst eo74; have hcz75_0 : w73.cell? ⟨gb127, 0, none⟩ = some (.slice Ao66 t124.length co66) := (blk_cell BK127.out 0).trans rfl; have hfz75_0 := blk_frozen BK127.out 0; have hnb76 := NB123_0.out; have hnc76 := NB0_123.out; have hcz77_0 : w73.cell? ⟨gb123, 0, none⟩ = some (.slice none 0 0) := (blk_cell BK123.out 0).trans rfl; have hfz77_0 := blk_frozen BK123.out 0))
  refine bodyPost_ret (results_cell_row rfl _ _ gb123 26 #[.slice Ao74 y142.length co74] (0, 0) _ rfl (by (with_reducible repeat (first | refine blk_drewN ?_ _ | refine blk_drew ?_ | refine blk_alloc ?_ _)); refine blk_put (cs := #[.slice none 0 0]) ?_ 0 _ rfl; (with_reducible repeat (first | refine blk_drewN ?_ _ | refine blk_drew ?_ | refine blk_alloc ?_ _)); refine blk_far ?_ NB123_127.out _; exact pb BK123.out) Try.underlying26 rfl (by kernel_rfl)) rfl ?_
  exact ⟨_, ew, pe (Kd.R_mono (Kd.R_far (p := ⟨gb123, 0, none⟩) (Kd.R_far (p := ⟨gb127, 0, none⟩) (Kd.R_types (Kd.R_types HO144.out BK127.out (by decide)) BK123.out (by decide)) (fun _ hk => hk.1.2) (.slice Ao74 y142.length co74)) (fun _ hk => hk.2) (.slice Ao74 y142.length co74)) (fun _ hk => hk.1.1.1)), q2_0, q2_2, q2_1⟩
 rw [if_pos c22] at H
 have c22b0 : (t128 == 1) = true := beq_iff_eq.mpr c22
 have c22b1 : (t128 != 1) = false := bne_eq_false_iff_eq.mpr c22
 clear c22
 replace H := Option.bind_eq_some_iff.mp H
 obtain ⟨t131, A230, H⟩ := H
 replace H : ((spec_l01Next.f s0_0 t129 t130 t131).bind fun bt132 => ((spec_l01Pick.f s0_0 bt132.2.1 bt132.2.2 ([(-1), 0, 1, 2, 25] : List Int)).bind fun bt138 => (if 0 ≤ bt132.1 then (if bt132.1 < (t124.length : Int) then (some ((t124.set (bt132.1 : Int).toNat bt138.1), bt138.2.1, bt138.2.2)) else (none)) else (none)))) = some (r1, r2, r3) := H
 have A23 := Aside0.mk A230
 clear A230
 replace H := Option.bind_eq_some_iff.mp H
 obtain ⟨⟨t132, t133, t134⟩, A240, H⟩ := H
 replace H : ((spec_l01Pick.f s0_0 t133 t134 ([(-1), 0, 1, 2, 25] : List Int)).bind fun bt138 => (if 0 ≤ t132 then (if t132 < (t124.length : Int) then (some ((t124.set (t132 : Int).toNat bt138.1), bt138.2.1, bt138.2.2)) else (none)) else (none))) = some (r1, r2, r3) := H
 have A24 := Aside0.mk A240
 clear A240
 obtain ⟨y135, hy135⟩ : ∃ y_ : List Int, y_ = ([(-1), 0, 1, 2, 25] : List Int) := ⟨_, rfl⟩
 replace H : ((spec_l01Pick.f s0_0 t133 t134 y135).bind fun bt138 => (if 0 ≤ t132 then (if t132 < (t124.length : Int) then (some ((t124.set (t132 : Int).toNat bt138.1), bt138.2.1, bt138.2.2)) else (none)) else (none))) = some (r1, r2, r3) := by first | (rw [hy135]; with_reducible exact H) | (have H2_ := (Option.bind_some _ _).symm.trans H; rw [hy135]; with_reducible exact H2_) | (have H2_ := (Option.bind_some _ _).symm.trans H; with_reducible exact H2_) | with_reducible exact H | (rw [hy135]; exact H) | exact H
 have Ny135 := Aside0.mk hy135
 clear hy135
 replace H := Option.bind_eq_some_iff.mp H
 obtain ⟨⟨t138, t139, t140⟩, A250, H⟩ := H
 replace H : (if 0 ≤ t132 then (if t132 < (t124.length : Int) then (some ((t124.set (t132 : Int).toNat t138), t139, t140)) else (none)) else (none)) = some (r1, r2, r3) := H
 have A25 := Aside0.mk A250
 clear A250
 by_cases c26 : 0 ≤ t132
 rotate_left
 ·rw [if_neg c26] at H
  exact absurd H (by simp)
 rw [if_pos c26] at H
 have c26b0 : decide (0 ≤ t132) = true := decide_eq_true c26
 clear c26
 by_cases c27 : t132 < (t124.length : Int)
 rotate_left
 ·rw [if_neg c27] at H
  exact absurd H (by simp)
 rw [if_pos c27] at H
 have c27b0 : decide (t132 < (t124.length : Int)) = true := decide_eq_true c27
 clear c27
 obtain ⟨y141, hy141⟩ : ∃ y_ : List Int, y_ = (t124.set (t132 : Int).toNat t138) := ⟨_, rfl⟩
 replace H : (some (y141, t139, t140)) = some (r1, r2, r3) := by first | (rw [hy141]; with_reducible exact H) | (have H2_ := (Option.bind_some _ _).symm.trans H; rw [hy141]; with_reducible exact H2_) | (have H2_ := (Option.bind_some _ _).symm.trans H; with_reducible exact H2_) | with_reducible exact H | (rw [hy141]; exact H) | exact H
 have Ny141 := Aside0.mk hy141
 clear hy141
 simp only [Option.some.injEq, Prod.mk.injEq] at H
 obtain ⟨rfl, rfl, rfl⟩ := H
 obtain ⟨Ao29, co29, eo29⟩ := Kd.R_slice HO1_0.out
 subst eo29
 go_enter Try.func76, Try.ntmps76
 try go_wp2_with (first | ((with_reducible refine gate_dst (N := 3) rfl ?_); refine box_event ?hg (N := 3) ?hd (cs := #[.slice Ao29 l1_0.length co29]) (t := 26) ?hr ?_; (case hd => rfl); (case hg => rfl); (case hr => exact gs); intro gb122 hg w30 hbox hb; replace HO1_0 := rb HO1_0 hb; have BK122 := Aside0.mk (hbox); have GW122 := Aside0.mk (q2_17 : w.heap.size ≤ gb122); replace HK := Aside0.mk (Kept.below (S := (fun k_ => (P1_0_ k_) ∨ k_ = g)) q2_11 hb); have GE122 := Aside0.mk (by rw [hg]; exact (below_size q2_10) : w0.heap.size ≤ gb122); replace HB := Aside0.mk (below_step q2_10 hb); have NB0_122 := Aside0.mk (q2_20 : g ≠ gb122); have NB122_0 := Aside0.mk (q2_23 : gb122 ≠ g); replace HI0 := Aside0.mk (IsS97.below q2_7 hb); clear hb hbox hg) | ((with_reducible refine gate_dst (N := 4) rfl ?_); refine box_event ?hg (N := 4) ?hd (cs := #[.slice none 0 0]) (t := 26) ?hr ?_; (case hd => rfl); (case hg => rfl); (case hr => exact gs); intro gb123 hg w31 hbox hb; replace HO1_0 := rb HO1_0 hb; have BK123 := Aside0.mk (hbox); have GW123 := Aside0.mk (q2_18 : w.heap.size ≤ gb123); replace HK := Aside0.mk (Kept.below (S := (fun k_ => (P1_0_ k_) ∨ k_ = g)) q2_8 hb); have GE123 := Aside0.mk (by rw [hg]; exact (below_size q2_9) : w0.heap.size ≤ gb123); replace HB := Aside0.mk (below_step q2_9 hb); have NB122_123 := Aside0.mk (nel hg (blk_lt (pb BK122.out)) : gb122 ≠ gb123); have NB123_122 := Aside0.mk (neg hg (blk_lt (pb BK122.out)) : gb123 ≠ gb122); replace BK122 := bb BK122 hb; have NB0_123 := Aside0.mk (q2_21 : g ≠ gb123); have NB123_0 := Aside0.mk (q2_24 : gb123 ≠ g); replace HI0 := Aside0.mk (IsS97.below q2_6 hb); clear hb hbox hg; have hnb32 := NB122_123.out; have hnc32 := NB123_122.out; have hnb33 := NB122_0.out; have hnc33 := NB0_122.out; have hcz34_0 : w31.cell? ⟨gb122, 0, none⟩ = some (.slice Ao29 l1_0.length co29) := (blk_cell BK122.out 0).trans rfl; have hfz34_0 := blk_frozen BK122.out 0) | ((with_reducible refine gate_callee (f := 92) rfl ?_); refine goesL_ (some 7) rfl rfl Try.func92 (by kernel_rfl) rfl #[.agg #[.slice Ao29 l1_0.length co29]] rfl am ?_; (with_reducible refine (spec_l01Copy.calls _ _ l1_0 t124 _ ?side1 ?side2 A3.out).mono ?_); (case side1 => exact pc ((Kd.R_reads' HO1_0.out).2.2)); (case side2 => exact (Kd.R_reads' HO1_0.out).2.1); rintro e w35 ⟨v125, rfl, ho0, hb⟩; refine ⟨_, rfl, ?_⟩; have HO126 := Aside0.mk (Kd.R_lower (Kd.R_new' (Kd.R_newM (M := fun k_ => (P1_0_ k_ ∨ w.heap.size ≤ k_)) ho0 q2_12 (fun k_ h_ => .inr h_)) (Kd.R_lt (pe HO1_0.out))) (below_size q2_5)); replace HO1_0 := rn HO1_0 ho0 hb; replace BK122 := bb BK122 hb; replace BK123 := bb BK123 hb; replace HK := Aside0.mk (Kept.below (S := (fun k_ => (P1_0_ k_) ∨ k_ = g)) q2_3 hb); replace HB := Aside0.mk (below_step q2_5 hb); replace HI0 := Aside0.mk (IsS97.below q2_4 hb); (try clear hb); (try clear hb2); (try clear hk); (try clear hi); (try clear ho0)) | ((with_reducible refine gate_dst (N := 5) rfl ?_); refine box_event ?hg (N := 5) ?hd (cs := #[.slice none 0 0]) (t := 26) ?hr ?_; (case hd => rfl); (case hg => rfl); (case hr => exact gs); intro gb127 hg w36 hbox hb; replace HO1_0 := rb HO1_0 hb; replace HO126 := rb HO126 hb; have BK127 := Aside0.mk (hbox); have GW127 := Aside0.mk (by rw [hg]; exact q2_12 : w.heap.size ≤ gb127); replace HK := Aside0.mk (Kept.below (S := (fun k_ => (P1_0_ k_) ∨ k_ = g)) q2_3 hb); have GE127 := Aside0.mk (by rw [hg]; exact (below_size q2_5) : w0.heap.size ≤ gb127); replace HB := Aside0.mk (below_step q2_5 hb); have NB122_127 := Aside0.mk (nel hg (blk_lt (pb BK122.out)) : gb122 ≠ gb127); have NB127_122 := Aside0.mk (neg hg (blk_lt (pb BK122.out)) : gb127 ≠ gb122); replace BK122 := bb BK122 hb; have NB123_127 := Aside0.mk (nel hg (blk_lt (pb BK123.out)) : gb123 ≠ gb127); have NB127_123 := Aside0.mk (neg hg (blk_lt (pb BK123.out)) : gb127 ≠ gb123); replace BK123 := bb BK123 hb; have NB0_127 := Aside0.mk (q2_22 : g ≠ gb127); have NB127_0 := Aside0.mk (q2_25 : gb127 ≠ g); replace HI0 := Aside0.mk (IsS97.below q2_4 hb); clear hb hbox hg; obtain ⟨Ao37, co37, eo37⟩ := Kd.R_slice HO126.out; subst eo37; have hnb38 := NB127_122.out; have hnc38 := NB122_127.out; have hnb39 := NB127_123.out; have hnc39 := NB123_127.out; have hnb40 := NB127_0.out; have hnc40 := NB0_127.out; have hcz41_0 : w36.cell? ⟨gb127, 0, none⟩ = some (.slice none 0 0) := (blk_cell BK127.out 0).trans rfl; have hfz41_0 := blk_frozen BK127.out 0) | ((with_reducible refine gate_callee (f := 82) rfl ?_); refine goesL_ (some 9) rfl rfl Try.func82 (by kernel_rfl) rfl #[.pointer (some ⟨g, 0, none⟩), .int .i64 50] rfl am ?_; (with_reducible refine (spec_l01Next.calls g s0_0 s0_1 s0_2 50 t128 t129 t130 w0 _ ?side1 ?side2 A4.out).mono ?_); (case side1 => repeat (first | (with_reducible first | exact HI0.out | apply IsS97.alloc | apply IsS97.drewN | apply IsS97.drew | apply IsS97.set_1 | apply IsS97.set_2 | refine IsS97.far ?_ NB0_122.out _ | refine IsS97.far ?_ NB0_123.out _ | refine IsS97.far ?_ NB0_127.out _) | exact HI0.out)); (case side2 => repeat (first | (with_reducible first | exact HB.out | apply below_alloc | apply pw_below_drewN | apply below_drew1 | refine below_set ?_ (IsS97.ge HI0.out) | refine below_set ?_ GE122.out | refine below_set ?_ GE123.out | refine below_set ?_ GE127.out) | exact HB.out)); rintro e w42 ⟨rfl, hi, hb, hk⟩; refine ⟨_, rfl, ?_⟩; replace HO1_0 := Aside0.mk (Kd.R_mono (Kd.R_keep (IsS97.apart (show IsS97 w0 _ g s0_0 s0_1 s0_2 from q2_0) (pe (rf HO1_0 BK127 (.slice Ao37 t124.length co37))) (by decide)) hk (fun _ h => h.2)) (fun _ h => h.1)); replace BK122 := Aside0.mk (KeepBut.blk hk (g' := gb122) (o := .cells #[.slice Ao29 l1_0.length co29] 26 (0, 0)) q2_15 NB122_0.out (by simp)); replace BK123 := Aside0.mk (KeepBut.blk hk (g' := gb123) (o := .cells #[.slice none 0 0] 26 (0, 0)) q2_14 NB123_0.out (by simp)); replace HO126 := Aside0.mk (Kd.R_mono (Kd.R_keep (IsS97.apart (show IsS97 w0 _ g s0_0 s0_1 s0_2 from q2_0) (pe (rf HO126 BK127 (.slice Ao37 t124.length co37))) (by decide)) hk (fun _ h => h.2)) (fun _ h => h.1)); replace BK127 := Aside0.mk (KeepBut.blk hk (g' := gb127) (o := .cells #[.slice Ao37 t124.length co37] 26 (0, 0)) q2_13 NB127_0.out (by simp)); replace HK := Aside0.mk (Kept.of_keep (S := (fun k_ => (P1_0_ k_) ∨ k_ = g)) q2_1 hk (.inl (.inr rfl))); replace HB := Aside0.mk (hb); replace HI0 := Aside0.mk (hi); (try clear hb); (try clear hb2); (try clear hk); (try clear hi)))
 have n0_ := Aside0.mk (Kd.R_drew HO1_0.out)
 have n1_ := Aside0.mk (Kd.R_drew HO126.out)
 have n2_ := Aside0.mk (blk_drew BK122.out)
 have n3_ := Aside0.mk (blk_drew BK123.out)
 have n4_ := Aside0.mk (blk_drew BK127.out)
 have n5_ := Aside0.mk (IsS97.drew HI0.out)
 have n6_ := Aside0.mk (Kept.drew HK.out)
 have n7_ := Aside0.mk (below_drew1 HB.out)
 clear HO1_0
 clear HO126
 clear BK122
 clear BK123
 clear BK127
 clear HI0
 clear HK
 clear HB
 have HO1_0 := n0_
 have HO126 := n1_
 have BK122 := n2_
 have BK123 := n3_
 have BK127 := n4_
 have HI0 := n5_
 have HK := n6_
 have HB := n7_
 clear n0_ n1_ n2_ n3_ n4_ n5_ n6_ n7_
 refine start_ (n := 11) (S := fun w' => w'.cell? ⟨gb127, 0, none⟩ = some (.slice Ao37 t124.length co37) ∧ w'.cell? ⟨gb122, 0, none⟩ = some (.slice Ao29 l1_0.length co29)) (ds := [10]) #[false, false, false, false, false, false, false, false, false, false, false] (by kernel_rfl) rfl rfl ⟨(blk_cell BK127.out 0).trans rfl, (blk_cell BK122.out 0).trans rfl⟩ (fun hHeld => ?_); refine with_tabW spec_l01Bad.tab6 spec_l01Bad.bits6 (fun HT_ HW_ => ?_)
 generalize w42.drew = w43 at HO1_0 HO126 BK122 BK123 BK127 HI0 HK HB hHeld ⊢
 refine pure_ (i := 0) (N := some 15) (v := ?_) (a' := ?_) #[true, false, false, false, false, false, false, false, false, false, false] rfl rfl (any_of HT_.out (by kernel_rfl)) (fun _ _ _ h => h) (Or.inl ⟨by rfl, ?_⟩) ?_ ?_
 rotate_left
 ·intro w'
  go_simp
  with_reducible rfl
 rotate_left
 ·simp only [Act.put, sIB, sc0, scs, i64_w, i32_w]
  rfl
 refine pure_ (i := 2) (N := some 17) (v := ?_) (a' := ?_) #[true, false, true, false, false, false, false, false, false, false, false] rfl rfl (any_of HT_.out (by kernel_rfl)) (fun _ _ _ h => h) (Or.inl ⟨by rfl, ?_⟩) ?_ ?_
 rotate_left
 ·intro w'
  go_simp
  with_reducible rfl
 rotate_left
 ·simp only [Act.put, sIB, sc0, scs, i64_w, i32_w]
  rfl
 refine pure_ (i := 6) (N := some 21) (v := ?_) (a' := ?_) #[true, false, true, false, false, false, true, false, false, false, false] rfl rfl (any_of HT_.out (by kernel_rfl)) (fun _ _ _ h => h) (Or.inl ⟨by rfl, ?_⟩) ?_ ?_
 rotate_left
 ·intro w'
  go_simp
  with_reducible rfl
 rotate_left
 ·simp only [Act.put, sIB, sc0, scs, i64_w, i32_w]
  rfl
 refine take_ (i := 1) (N := some 16) (v := ?_) (a' := ?_) #[true, true, true, false, false, false, true, false, false, false, false] rfl rfl (take_ofW HT_.out HW_.out (by kernel_rfl)) (fun _ _ _ h => h) (Or.inl ⟨by rfl, ?_⟩) hHeld ?_ ?_
 rotate_left
 ·rintro w' ⟨s0, s1⟩
  go_simp
  with_reducible rfl
 rotate_left
 ·simp only [Act.put, sIB, sc0, scs, i64_w, i32_w]
  rfl
 refine take_ (i := 3) (N := some 18) (v := ?_) (a' := ?_) #[true, true, true, true, false, false, true, false, false, false, false] rfl rfl (take_ofW HT_.out HW_.out (by kernel_rfl)) (fun _ _ _ h => h) (Or.inl ⟨by rfl, ?_⟩) hHeld ?_ ?_
 rotate_left
 ·rintro w' ⟨s0, s1⟩
  go_simp
  with_reducible rfl
 rotate_left
 ·simp only [Act.put, sIB, sc0, scs, i64_w, i32_w]
  rfl
 refine join_ (σ := Value) 3 #[true, true, true, true, true, true, true, true, false, false, false] (fun s_ => [(19, .int .i64 t131), (20, .int .i64 t132), (22, s_)]) (fun s_ w' => (w'.cell? ⟨gb127, 0, none⟩ = some (.slice Ao37 t124.length co37) ∧ w'.cell? ⟨gb122, 0, none⟩ = some (.slice Ao29 l1_0.length co29)) ∧ (Kd.R (Kd.int .i64) 2 w' w0.heap.size (fun k_ => (P1_0_ k_ ∨ w.heap.size ≤ k_) ∧ some k_ ≠ (s_ : Value).ownBlock ∧ some k_ ≠ (.slice Ao29 l1_0.length co29 : Value).ownBlock) (.slice Ao37 t124.length co37) t124) ∧ (Kd.R (Kd.int .i64) 2 w' w0.heap.size (fun k_ => (P1_0_ k_ ∨ w.heap.size ≤ k_) ∧ some k_ ≠ (.slice Ao37 t124.length co37 : Value).ownBlock ∧ some k_ ≠ (.slice Ao29 l1_0.length co29 : Value).ownBlock) s_ y135) ∧ (Kd.R (Kd.int .i64) 2 w' w0.heap.size (fun k_ => (P1_0_ k_ ∨ w.heap.size ≤ k_) ∧ some k_ ≠ (.slice Ao37 t124.length co37 : Value).ownBlock ∧ some k_ ≠ (s_ : Value).ownBlock) (.slice Ao29 l1_0.length co29) l1_0) ∧ (w'.heap[gb122]? = some (.cells #[.slice Ao29 l1_0.length co29] 26 (0, 0))) ∧ (w'.heap[gb123]? = some (.cells #[.slice none 0 0] 26 (0, 0))) ∧ (w'.heap[gb127]? = some (.cells #[.slice Ao37 t124.length co37] 26 (0, 0))) ∧ (IsS97 w0 w' g s0_0 t133 t134) ∧ (Kept w w' (fun k_ => (P1_0_ k_) ∨ k_ = g)) ∧ (Below w0.heap.size w0 w')) ?_ ?_
 rotate_left
 ·intro hCont
  refine two_ (i := 4) (j := 7) (Ni := some 19) (Nj := some 22) #[true, true, true, true, true, false, true, false, false, false, false] #[true, true, true, true, false, false, true, true, false, false, false] rfl rfl rfl rfl (two_of HT_.out (by kernel_rfl)) (by decide) (by decide) (fun K hK => ?_) (fun K hK => ?_)
  ·skip
   refine goes_ Try.func44 (by kernel_rfl) rfl #[.agg #[.slice Ao29 l1_0.length co29]] (by rfl) rfl rfl am ?_
   with_reducible refine (spec_l01N.calls _ _ l1_0 t131 _ ?side1 ?side2 A23.out).mono ?_
   (case side1 => exact pc ((Kd.R_reads' HO1_0.out).2.2))
   (case side2 => exact (Kd.R_reads' HO1_0.out).2.1)
   rintro e w44 ⟨rfl, hb⟩
   refine ⟨_, rfl, ?_⟩
   have n0_ := rb HO1_0 hb
   have n1_ := rb HO126 hb
   have n2_ := Aside0.mk (IsS97.below q2_0 hb)
   have n3_ := bb BK122 hb
   have n4_ := bb BK123 hb
   have n5_ := bb BK127 hb
   have n6_ := Aside0.mk (Kept.below (S := (fun k_ => (P1_0_ k_) ∨ k_ = g)) q2_1 hb)
   have n7_ := Aside0.mk (below_step q2_2 hb)
   clear HO1_0
   clear HO126
   clear HI0
   clear BK122
   clear BK123
   clear BK127
   clear HK
   clear HB
   have HO1_0 := n0_
   have HO126 := n1_
   have HI0 := n2_
   have BK122 := n3_
   have BK123 := n4_
   have BK127 := n5_
   have HK := n6_
   have HB := n7_
   clear n0_ n1_ n2_ n3_ n4_ n5_ n6_ n7_
   (try clear hb)
   (try clear hb2)
   (try clear hk)
   (try clear hi)
   refine hK.out _ _ ⟨(blk_cell BK127.out 0).trans rfl, (blk_cell BK122.out 0).trans rfl⟩ (fun hHeld => ?_)
   clear hK K
   refine norm_ (a' := ?_) ?_ ?_
   rotate_left
   ·show Act.put _ (some 19) _ = _
    simp only [Act.put, sIB, sc0, scs, i64_w, i32_w]
    rfl
   refine two_ (i := 5) (j := 7) (Ni := some 20) (Nj := some 22) #[true, true, true, true, true, true, true, false, false, false, false] #[true, true, true, true, true, false, true, true, false, false, false] rfl rfl rfl rfl (two_of HT_.out (by kernel_rfl)) (by decide) (by decide) (fun K hK => ?_) (fun K hK => ?_)
   ·skip
    refine goes_ Try.func82 (by kernel_rfl) rfl #[.pointer (some ⟨g, 0, none⟩), .int .i64 t131] (by rfl) rfl rfl am ?_
    with_reducible refine (spec_l01Next.calls g s0_0 t129 t130 t131 t132 t133 t134 w0 _ ?side1 ?side2 A24.out).mono ?_
    (case side1 => repeat (first | (with_reducible first | exact HI0.out | apply IsS97.alloc | apply IsS97.drewN | apply IsS97.drew | apply IsS97.set_1 | apply IsS97.set_2 | refine IsS97.far ?_ NB0_122.out _ | refine IsS97.far ?_ NB0_123.out _ | refine IsS97.far ?_ NB0_127.out _) | exact HI0.out))
    (case side2 => repeat (first | (with_reducible first | exact HB.out | apply below_alloc | apply pw_below_drewN | apply below_drew1 | refine below_set ?_ (IsS97.ge HI0.out) | refine below_set ?_ GE122.out | refine below_set ?_ GE123.out | refine below_set ?_ GE127.out) | exact HB.out))
    rintro e w45 ⟨rfl, hi, hb, hk⟩
    refine ⟨_, rfl, ?_⟩
    have n0_ := Aside0.mk (Kd.R_mono (Kd.R_keep (IsS97.apart (show IsS97 w0 _ g s0_0 t129 t130 from q2_0) (pe HO1_0.out) (by decide)) hk (fun _ h => h.2)) (fun _ h => h.1))
    have n1_ := Aside0.mk (KeepBut.blk hk (g' := gb122) (o := .cells #[.slice Ao29 l1_0.length co29] 26 (0, 0)) (pb BK122.out) NB122_0.out (by simp))
    have n2_ := Aside0.mk (KeepBut.blk hk (g' := gb123) (o := .cells #[.slice none 0 0] 26 (0, 0)) (pb BK123.out) NB123_0.out (by simp))
    have n3_ := Aside0.mk (Kd.R_mono (Kd.R_keep (IsS97.apart (show IsS97 w0 _ g s0_0 t129 t130 from q2_0) (pe HO126.out) (by decide)) hk (fun _ h => h.2)) (fun _ h => h.1))
    have n4_ := Aside0.mk (KeepBut.blk hk (g' := gb127) (o := .cells #[.slice Ao37 t124.length co37] 26 (0, 0)) (pb BK127.out) NB127_0.out (by simp))
    have n5_ := Aside0.mk (Kept.of_keep (S := (fun k_ => (P1_0_ k_) ∨ k_ = g)) q2_1 hk (.inl (.inr rfl)))
    have n6_ := Aside0.mk (hb)
    have n7_ := Aside0.mk (hi)
    clear HO1_0
    clear BK122
    clear BK123
    clear HO126
    clear BK127
    clear HK
    clear HB
    clear HI0
    have HO1_0 := n0_
    have BK122 := n1_
    have BK123 := n2_
    have HO126 := n3_
    have BK127 := n4_
    have HK := n5_
    have HB := n6_
    have HI0 := n7_
    clear n0_ n1_ n2_ n3_ n4_ n5_ n6_ n7_
    (try clear hb)
    (try clear hb2)
    (try clear hk)
    (try clear hi)
    refine hK.out _ _ ⟨(blk_cell BK127.out 0).trans rfl, (blk_cell BK122.out 0).trans rfl⟩ (fun hHeld => ?_)
    clear hK K
    refine norm_ (a' := ?_) ?_ ?_
    rotate_left
    ·show Act.put _ (some 20) _ = _
     simp only [Act.put, sIB, sc0, scs, i64_w, i32_w]
     rfl
    refine one_ (i := 7) (N := some 22) #[true, true, true, true, true, true, true, true, false, false, false] rfl rfl (one_of HT_.out (by kernel_rfl)) (by decide) (fun K hK => ?_)
    refine Kd.R_lit_step (Kd.int .i64) _ 2 ?hg (N := 22) ?hd (xs := ([(-1), 0, 1, 2, 25] : List Int)) (inner := [.int .i64 (-1), .int .i64 0, .int .i64 1, .int .i64 2, .int .i64 25]) (ok := fun _ => True) (okp := fun _ => True) ?hr ?hp (fun _ hk => hk) trivial (Below.refl _ _) (Nat.le_refl _) (by simp) ?_; (case hd => rfl); (case hg => rfl); (case hr => exact gs); (case hp => exact (Reps.one (show Kd.M (Kd.int .i64) _ _ _ (-1) [.int .i64 (-1)] from rfl) (Reps.one (show Kd.M (Kd.int .i64) _ _ _ 0 [.int .i64 0] from rfl) (Reps.one (show Kd.M (Kd.int .i64) _ _ _ 1 [.int .i64 1] from rfl) (Reps.one (show Kd.M (Kd.int .i64) _ _ _ 2 [.int .i64 2] from rfl) (Reps.one (show Kd.M (Kd.int .i64) _ _ _ 25 [.int .i64 25] from rfl) (Reps.none _ _)))))))
    intro v136 w46 ho47 hb hg_ hnew_
    clear hg_ hnew_
    (first | rw [← Ny135.out] at ho47 | (simp only [Int.reduceToNat] at ho47; rw [← Ny135.out] at ho47))
    have n0_ := rn HO1_0 ho47 hb
    have n1_ := rn HO126 ho47 hb
    have n2_ := Aside0.mk (Kd.R_lower (Kd.R_new' (Kd.R_new' (Kd.R_newM (M := fun k_ => (P1_0_ k_ ∨ w.heap.size ≤ k_)) ho47 q2_19 (fun k_ h_ => .inr h_)) (Kd.R_lt (pe HO1_0.out))) (Kd.R_lt (pe HO126.out))) (below_size q2_2))
    have n3_ := Aside0.mk (IsS97.below q2_0 hb)
    have n4_ := bb BK122 hb
    have n5_ := bb BK123 hb
    have n6_ := bb BK127 hb
    have n7_ := Aside0.mk (Kept.below (S := (fun k_ => (P1_0_ k_) ∨ k_ = g)) q2_1 hb)
    have n8_ := Aside0.mk (below_step q2_2 hb)
    clear HO1_0
    clear HO126
    clear HI0
    clear BK122
    clear BK123
    clear BK127
    clear HK
    clear HB
    have HO1_0 := n0_
    have HO126 := n1_
    have HO137 := n2_
    have HI0 := n3_
    have BK122 := n4_
    have BK123 := n5_
    have BK127 := n6_
    have HK := n7_
    have HB := n8_
    clear n0_ n1_ n2_ n3_ n4_ n5_ n6_ n7_ n8_
    clear hb ho47
    refine hK.out _ _ ⟨(blk_cell BK127.out 0).trans rfl, (blk_cell BK122.out 0).trans rfl⟩ (fun hHeld => ?_)
    clear hK K
    refine norm_ (a' := ?_) ?_ ?_
    rotate_left
    ·show Act.put _ (some 22) _ = _
     simp only [Act.put, sIB, sc0, scs, i64_w, i32_w]
     rfl
    exact norm_ q2_26 (hCont (v136) _ ⟨hHeld, (pe (Kd.R_mono HO126.out (fun _ hk => ⟨hk.1.1.1, ⟨hk.2, hk.1.2⟩⟩))), (pe (Kd.R_mono HO137.out (fun _ hk => ⟨hk.1.1.1, ⟨hk.2, hk.1.2⟩⟩))), (pe (Kd.R_mono HO1_0.out (fun _ hk => ⟨hk.1.1, ⟨hk.1.2, hk.2⟩⟩))), (pb BK122.out), (pb BK123.out), (pb BK127.out), q2_0, q2_1, q2_2⟩)
   ·skip
    refine Kd.R_lit_step (Kd.int .i64) _ 2 ?hg (N := 22) ?hd (xs := ([(-1), 0, 1, 2, 25] : List Int)) (inner := [.int .i64 (-1), .int .i64 0, .int .i64 1, .int .i64 2, .int .i64 25]) (ok := fun _ => True) (okp := fun _ => True) ?hr ?hp (fun _ hk => hk) trivial (Below.refl _ _) (Nat.le_refl _) (by simp) ?_; (case hd => rfl); (case hg => rfl); (case hr => exact gs); (case hp => exact (Reps.one (show Kd.M (Kd.int .i64) _ _ _ (-1) [.int .i64 (-1)] from rfl) (Reps.one (show Kd.M (Kd.int .i64) _ _ _ 0 [.int .i64 0] from rfl) (Reps.one (show Kd.M (Kd.int .i64) _ _ _ 1 [.int .i64 1] from rfl) (Reps.one (show Kd.M (Kd.int .i64) _ _ _ 2 [.int .i64 2] from rfl) (Reps.one (show Kd.M (Kd.int .i64) _ _ _ 25 [.int .i64 25] from rfl) (Reps.none _ _)))))))
    intro v136 w45 ho46 hb hg_ hnew_
    clear hg_ hnew_
    (first | rw [← Ny135.out] at ho46 | (simp only [Int.reduceToNat] at ho46; rw [← Ny135.out] at ho46))
    have n0_ := rn HO1_0 ho46 hb
    have n1_ := rn HO126 ho46 hb
    have n2_ := Aside0.mk (Kd.R_lower (Kd.R_new' (Kd.R_new' (Kd.R_newM (M := fun k_ => (P1_0_ k_ ∨ w.heap.size ≤ k_)) ho46 q2_19 (fun k_ h_ => .inr h_)) (Kd.R_lt (pe HO1_0.out))) (Kd.R_lt (pe HO126.out))) (below_size q2_2))
    have n3_ := Aside0.mk (IsS97.below q2_0 hb)
    have n4_ := bb BK122 hb
    have n5_ := bb BK123 hb
    have n6_ := bb BK127 hb
    have n7_ := Aside0.mk (Kept.below (S := (fun k_ => (P1_0_ k_) ∨ k_ = g)) q2_1 hb)
    have n8_ := Aside0.mk (below_step q2_2 hb)
    clear HO1_0
    clear HO126
    clear HI0
    clear BK122
    clear BK123
    clear BK127
    clear HK
    clear HB
    have HO1_0 := n0_
    have HO126 := n1_
    have HO137 := n2_
    have HI0 := n3_
    have BK122 := n4_
    have BK123 := n5_
    have BK127 := n6_
    have HK := n7_
    have HB := n8_
    clear n0_ n1_ n2_ n3_ n4_ n5_ n6_ n7_ n8_
    clear hb ho46
    refine hK.out _ _ ⟨(blk_cell BK127.out 0).trans rfl, (blk_cell BK122.out 0).trans rfl⟩ (fun hHeld => ?_)
    clear hK K
    refine norm_ (a' := ?_) ?_ ?_
    rotate_left
    ·show Act.put _ (some 22) _ = _
     simp only [Act.put, sIB, sc0, scs, i64_w, i32_w]
     rfl
    refine one_ (i := 5) (N := some 20) #[true, true, true, true, true, true, true, true, false, false, false] rfl rfl (one_of HT_.out (by kernel_rfl)) (by decide) (fun K hK => ?_)
    refine goes_ Try.func82 (by kernel_rfl) rfl #[.pointer (some ⟨g, 0, none⟩), .int .i64 t131] (by rfl) rfl rfl am ?_
    with_reducible refine (spec_l01Next.calls g s0_0 t129 t130 t131 t132 t133 t134 w0 _ ?side1 ?side2 A24.out).mono ?_
    (case side1 => repeat (first | (with_reducible first | exact HI0.out | apply IsS97.alloc | apply IsS97.drewN | apply IsS97.drew | apply IsS97.set_1 | apply IsS97.set_2 | refine IsS97.far ?_ NB0_122.out _ | refine IsS97.far ?_ NB0_123.out _ | refine IsS97.far ?_ NB0_127.out _) | exact HI0.out))
    (case side2 => repeat (first | (with_reducible first | exact HB.out | apply below_alloc | apply pw_below_drewN | apply below_drew1 | refine below_set ?_ (IsS97.ge HI0.out) | refine below_set ?_ GE122.out | refine below_set ?_ GE123.out | refine below_set ?_ GE127.out) | exact HB.out))
    rintro e w47 ⟨rfl, hi, hb, hk⟩
    refine ⟨_, rfl, ?_⟩
    have n0_ := Aside0.mk (Kd.R_mono (Kd.R_keep (IsS97.apart (show IsS97 w0 _ g s0_0 t129 t130 from q2_0) (pe HO1_0.out) (by decide)) hk (fun _ h => h.2)) (fun _ h => h.1))
    have n1_ := Aside0.mk (KeepBut.blk hk (g' := gb122) (o := .cells #[.slice Ao29 l1_0.length co29] 26 (0, 0)) (pb BK122.out) NB122_0.out (by simp))
    have n2_ := Aside0.mk (KeepBut.blk hk (g' := gb123) (o := .cells #[.slice none 0 0] 26 (0, 0)) (pb BK123.out) NB123_0.out (by simp))
    have n3_ := Aside0.mk (Kd.R_mono (Kd.R_keep (IsS97.apart (show IsS97 w0 _ g s0_0 t129 t130 from q2_0) (pe HO126.out) (by decide)) hk (fun _ h => h.2)) (fun _ h => h.1))
    have n4_ := Aside0.mk (KeepBut.blk hk (g' := gb127) (o := .cells #[.slice Ao37 t124.length co37] 26 (0, 0)) (pb BK127.out) NB127_0.out (by simp))
    have n5_ := Aside0.mk (Kd.R_mono (Kd.R_keep (IsS97.apart (show IsS97 w0 _ g s0_0 t129 t130 from q2_0) (pe HO137.out) (by decide)) hk (fun _ h => h.2)) (fun _ h => h.1))
    have n6_ := Aside0.mk (Kept.of_keep (S := (fun k_ => (P1_0_ k_) ∨ k_ = g)) q2_1 hk (.inl (.inr rfl)))
    have n7_ := Aside0.mk (hb)
    have n8_ := Aside0.mk (hi)
    clear HO1_0
    clear BK122
    clear BK123
    clear HO126
    clear BK127
    clear HO137
    clear HK
    clear HB
    clear HI0
    have HO1_0 := n0_
    have BK122 := n1_
    have BK123 := n2_
    have HO126 := n3_
    have BK127 := n4_
    have HO137 := n5_
    have HK := n6_
    have HB := n7_
    have HI0 := n8_
    clear n0_ n1_ n2_ n3_ n4_ n5_ n6_ n7_ n8_
    (try clear hb)
    (try clear hb2)
    (try clear hk)
    (try clear hi)
    refine hK.out _ _ ⟨(blk_cell BK127.out 0).trans rfl, (blk_cell BK122.out 0).trans rfl⟩ (fun hHeld => ?_)
    clear hK K
    refine norm_ (a' := ?_) ?_ ?_
    rotate_left
    ·show Act.put _ (some 20) _ = _
     simp only [Act.put, sIB, sc0, scs, i64_w, i32_w]
     rfl
    exact norm_ q2_26 (hCont (v136) _ ⟨hHeld, (pe (Kd.R_mono HO126.out (fun _ hk => ⟨hk.1.1.1, ⟨hk.2, hk.1.2⟩⟩))), (pe (Kd.R_mono HO137.out (fun _ hk => ⟨hk.1.1.1, ⟨hk.2, hk.1.2⟩⟩))), (pe (Kd.R_mono HO1_0.out (fun _ hk => ⟨hk.1.1, ⟨hk.1.2, hk.2⟩⟩))), (pb BK122.out), (pb BK123.out), (pb BK127.out), q2_0, q2_1, q2_2⟩)
  ·skip
   refine Kd.R_lit_step (Kd.int .i64) _ 2 ?hg (N := 22) ?hd (xs := ([(-1), 0, 1, 2, 25] : List Int)) (inner := [.int .i64 (-1), .int .i64 0, .int .i64 1, .int .i64 2, .int .i64 25]) (ok := fun _ => True) (okp := fun _ => True) ?hr ?hp (fun _ hk => hk) trivial (Below.refl _ _) (Nat.le_refl _) (by simp) ?_; (case hd => rfl); (case hg => rfl); (case hr => exact gs); (case hp => exact (Reps.one (show Kd.M (Kd.int .i64) _ _ _ (-1) [.int .i64 (-1)] from rfl) (Reps.one (show Kd.M (Kd.int .i64) _ _ _ 0 [.int .i64 0] from rfl) (Reps.one (show Kd.M (Kd.int .i64) _ _ _ 1 [.int .i64 1] from rfl) (Reps.one (show Kd.M (Kd.int .i64) _ _ _ 2 [.int .i64 2] from rfl) (Reps.one (show Kd.M (Kd.int .i64) _ _ _ 25 [.int .i64 25] from rfl) (Reps.none _ _)))))))
   intro v136 w44 ho45 hb hg_ hnew_
   clear hg_ hnew_
   (first | rw [← Ny135.out] at ho45 | (simp only [Int.reduceToNat] at ho45; rw [← Ny135.out] at ho45))
   have n0_ := rn HO1_0 ho45 hb
   have n1_ := rn HO126 ho45 hb
   have n2_ := Aside0.mk (Kd.R_lower (Kd.R_new' (Kd.R_new' (Kd.R_newM (M := fun k_ => (P1_0_ k_ ∨ w.heap.size ≤ k_)) ho45 q2_19 (fun k_ h_ => .inr h_)) (Kd.R_lt (pe HO1_0.out))) (Kd.R_lt (pe HO126.out))) (below_size q2_2))
   have n3_ := Aside0.mk (IsS97.below q2_0 hb)
   have n4_ := bb BK122 hb
   have n5_ := bb BK123 hb
   have n6_ := bb BK127 hb
   have n7_ := Aside0.mk (Kept.below (S := (fun k_ => (P1_0_ k_) ∨ k_ = g)) q2_1 hb)
   have n8_ := Aside0.mk (below_step q2_2 hb)
   clear HO1_0
   clear HO126
   clear HI0
   clear BK122
   clear BK123
   clear BK127
   clear HK
   clear HB
   have HO1_0 := n0_
   have HO126 := n1_
   have HO137 := n2_
   have HI0 := n3_
   have BK122 := n4_
   have BK123 := n5_
   have BK127 := n6_
   have HK := n7_
   have HB := n8_
   clear n0_ n1_ n2_ n3_ n4_ n5_ n6_ n7_ n8_
   clear hb ho45
   refine hK.out _ _ ⟨(blk_cell BK127.out 0).trans rfl, (blk_cell BK122.out 0).trans rfl⟩ (fun hHeld => ?_)
   clear hK K
   refine norm_ (a' := ?_) ?_ ?_
   rotate_left
   ·show Act.put _ (some 22) _ = _
    simp only [Act.put, sIB, sc0, scs, i64_w, i32_w]
    rfl
   refine one_ (i := 4) (N := some 19) #[true, true, true, true, true, false, true, true, false, false, false] rfl rfl (one_of HT_.out (by kernel_rfl)) (by decide) (fun K hK => ?_)
   refine goes_ Try.func44 (by kernel_rfl) rfl #[.agg #[.slice Ao29 l1_0.length co29]] (by rfl) rfl rfl am ?_
   with_reducible refine (spec_l01N.calls _ _ l1_0 t131 _ ?side1 ?side2 A23.out).mono ?_
   (case side1 => exact pc ((Kd.R_reads' HO1_0.out).2.2))
   (case side2 => exact (Kd.R_reads' HO1_0.out).2.1)
   rintro e w46 ⟨rfl, hb⟩
   refine ⟨_, rfl, ?_⟩
   have n0_ := rb HO1_0 hb
   have n1_ := rb HO126 hb
   have n2_ := rb HO137 hb
   have n3_ := Aside0.mk (IsS97.below q2_0 hb)
   have n4_ := bb BK122 hb
   have n5_ := bb BK123 hb
   have n6_ := bb BK127 hb
   have n7_ := Aside0.mk (Kept.below (S := (fun k_ => (P1_0_ k_) ∨ k_ = g)) q2_1 hb)
   have n8_ := Aside0.mk (below_step q2_2 hb)
   clear HO1_0
   clear HO126
   clear HO137
   clear HI0
   clear BK122
   clear BK123
   clear BK127
   clear HK
   clear HB
   have HO1_0 := n0_
   have HO126 := n1_
   have HO137 := n2_
   have HI0 := n3_
   have BK122 := n4_
   have BK123 := n5_
   have BK127 := n6_
   have HK := n7_
   have HB := n8_
   clear n0_ n1_ n2_ n3_ n4_ n5_ n6_ n7_ n8_
   (try clear hb)
   (try clear hb2)
   (try clear hk)
   (try clear hi)
   refine hK.out _ _ ⟨(blk_cell BK127.out 0).trans rfl, (blk_cell BK122.out 0).trans rfl⟩ (fun hHeld => ?_)
   clear hK K
   refine norm_ (a' := ?_) ?_ ?_
   rotate_left
   ·show Act.put _ (some 19) _ = _
    simp only [Act.put, sIB, sc0, scs, i64_w, i32_w]
    rfl
   refine one_ (i := 5) (N := some 20) #[true, true, true, true, true, true, true, true, false, false, false] rfl rfl (one_of HT_.out (by kernel_rfl)) (by decide) (fun K hK => ?_)
   refine goes_ Try.func82 (by kernel_rfl) rfl #[.pointer (some ⟨g, 0, none⟩), .int .i64 t131] (by rfl) rfl rfl am ?_
   with_reducible refine (spec_l01Next.calls g s0_0 t129 t130 t131 t132 t133 t134 w0 _ ?side1 ?side2 A24.out).mono ?_
   (case side1 => repeat (first | (with_reducible first | exact HI0.out | apply IsS97.alloc | apply IsS97.drewN | apply IsS97.drew | apply IsS97.set_1 | apply IsS97.set_2 | refine IsS97.far ?_ NB0_122.out _ | refine IsS97.far ?_ NB0_123.out _ | refine IsS97.far ?_ NB0_127.out _) | exact HI0.out))
   (case side2 => repeat (first | (with_reducible first | exact HB.out | apply below_alloc | apply pw_below_drewN | apply below_drew1 | refine below_set ?_ (IsS97.ge HI0.out) | refine below_set ?_ GE122.out | refine below_set ?_ GE123.out | refine below_set ?_ GE127.out) | exact HB.out))
   rintro e w47 ⟨rfl, hi, hb, hk⟩
   refine ⟨_, rfl, ?_⟩
   have n0_ := Aside0.mk (Kd.R_mono (Kd.R_keep (IsS97.apart (show IsS97 w0 _ g s0_0 t129 t130 from q2_0) (pe HO1_0.out) (by decide)) hk (fun _ h => h.2)) (fun _ h => h.1))
   have n1_ := Aside0.mk (KeepBut.blk hk (g' := gb122) (o := .cells #[.slice Ao29 l1_0.length co29] 26 (0, 0)) (pb BK122.out) NB122_0.out (by simp))
   have n2_ := Aside0.mk (KeepBut.blk hk (g' := gb123) (o := .cells #[.slice none 0 0] 26 (0, 0)) (pb BK123.out) NB123_0.out (by simp))
   have n3_ := Aside0.mk (Kd.R_mono (Kd.R_keep (IsS97.apart (show IsS97 w0 _ g s0_0 t129 t130 from q2_0) (pe HO126.out) (by decide)) hk (fun _ h => h.2)) (fun _ h => h.1))
   have n4_ := Aside0.mk (KeepBut.blk hk (g' := gb127) (o := .cells #[.slice Ao37 t124.length co37] 26 (0, 0)) (pb BK127.out) NB127_0.out (by simp))
   have n5_ := Aside0.mk (Kd.R_mono (Kd.R_keep (IsS97.apart (show IsS97 w0 _ g s0_0 t129 t130 from q2_0) (pe HO137.out) (by decide)) hk (fun _ h => h.2)) (fun _ h => h.1))
   have n6_ := Aside0.mk (Kept.of_keep (S := (fun k_ => (P1_0_ k_) ∨ k_ = g)) q2_1 hk (.inl (.inr rfl)))
   have n7_ := Aside0.mk (hb)
   have n8_ := Aside0.mk (hi)
   clear HO1_0
   clear BK122
   clear BK123
   clear HO126
   clear BK127
   clear HO137
   clear HK
   clear HB
   clear HI0
   have HO1_0 := n0_
   have BK122 := n1_
   have BK123 := n2_
   have HO126 := n3_
   have BK127 := n4_
   have HO137 := n5_
   have HK := n6_
   have HB := n7_
   have HI0 := n8_
   clear n0_ n1_ n2_ n3_ n4_ n5_ n6_ n7_ n8_
   (try clear hb)
   (try clear hb2)
   (try clear hk)
   (try clear hi)
   refine hK.out _ _ ⟨(blk_cell BK127.out 0).trans rfl, (blk_cell BK122.out 0).trans rfl⟩ (fun hHeld => ?_)
   clear hK K
   refine norm_ (a' := ?_) ?_ ?_
   rotate_left
   ·show Act.put _ (some 20) _ = _
    simp only [Act.put, sIB, sc0, scs, i64_w, i32_w]
    rfl
   exact norm_ q2_26 (hCont (v136) _ ⟨hHeld, (pe (Kd.R_mono HO126.out (fun _ hk => ⟨hk.1.1.1, ⟨hk.2, hk.1.2⟩⟩))), (pe (Kd.R_mono HO137.out (fun _ hk => ⟨hk.1.1.1, ⟨hk.2, hk.1.2⟩⟩))), (pe (Kd.R_mono HO1_0.out (fun _ hk => ⟨hk.1.1, ⟨hk.1.2, hk.2⟩⟩))), (pb BK122.out), (pb BK123.out), (pb BK127.out), q2_0, q2_1, q2_2⟩)
 rintro v136 w48 ⟨hS_, h0_, h1_, h2_, h3_, h4_, h5_, h6_, h7_, h8_⟩
 have n0_ : Aside0 (Kd.R (Kd.int .i64) 2 w48 w0.heap.size (fun k_ => (P1_0_ k_ ∨ w.heap.size ≤ k_) ∧ some k_ ≠ (v136 : Value).ownBlock ∧ some k_ ≠ (.slice Ao29 l1_0.length co29 : Value).ownBlock) (.slice Ao37 t124.length co37) t124) := ⟨h0_⟩
 have n1_ : Aside0 (Kd.R (Kd.int .i64) 2 w48 w0.heap.size (fun k_ => (P1_0_ k_ ∨ w.heap.size ≤ k_) ∧ some k_ ≠ (.slice Ao37 t124.length co37 : Value).ownBlock ∧ some k_ ≠ (.slice Ao29 l1_0.length co29 : Value).ownBlock) v136 y135) := ⟨h1_⟩
 have n2_ : Aside0 (Kd.R (Kd.int .i64) 2 w48 w0.heap.size (fun k_ => (P1_0_ k_ ∨ w.heap.size ≤ k_) ∧ some k_ ≠ (.slice Ao37 t124.length co37 : Value).ownBlock ∧ some k_ ≠ (v136 : Value).ownBlock) (.slice Ao29 l1_0.length co29) l1_0) := ⟨h2_⟩
 have n3_ : Aside0 (w48.heap[gb122]? = some (.cells #[.slice Ao29 l1_0.length co29] 26 (0, 0))) := ⟨h3_⟩
 have n4_ : Aside0 (w48.heap[gb123]? = some (.cells #[.slice none 0 0] 26 (0, 0))) := ⟨h4_⟩
 have n5_ : Aside0 (w48.heap[gb127]? = some (.cells #[.slice Ao37 t124.length co37] 26 (0, 0))) := ⟨h5_⟩
 have n6_ : Aside0 (IsS97 w0 w48 g s0_0 t133 t134) := ⟨h6_⟩
 have n7_ : Aside0 (Kept w w48 (fun k_ => (P1_0_ k_) ∨ k_ = g)) := ⟨h7_⟩
 have n8_ : Aside0 (Below w0.heap.size w0 w48) := ⟨h8_⟩
 clear HO1_0
 clear HO126
 clear BK122
 clear BK123
 clear BK127
 clear HI0
 clear HK
 clear HB
 clear h0_ h1_ h2_ h3_ h4_ h5_ h6_ h7_ h8_
 have HO126 := n0_
 have HO137 := n1_
 have HO1_0 := n2_
 have BK122 := n3_
 have BK123 := n4_
 have BK127 := n5_
 have HI0 := n6_
 have HK := n7_
 have HB := n8_
 clear n0_ n1_ n2_ n3_ n4_ n5_ n6_ n7_ n8_
 have hHeld : w48.cell? ⟨gb127, 0, none⟩ = some (.slice Ao37 t124.length co37) ∧ w48.cell? ⟨gb122, 0, none⟩ = some (.slice Ao29 l1_0.length co29) := hS_
 obtain ⟨Ao49, co49, eo49⟩ := Kd.R_slice HO137.out
 (first | subst eo49 | (injection eo49 with f1_ f2_ f3_; have f4_ := f1_.symm; have f5_ := f3_.symm; clear f1_ f2_ f3_; subst f4_; subst f5_))
 refine norm_ (a' := ?_) ?_ ?_
 rotate_left
 ·simp only [putAll, Act.put, List.setIfInBounds_toArray, List.set_cons_zero, List.set_cons_succ]
  rfl
 refine one_ (i := 8) (N := some 23) #[true, true, true, true, true, true, true, true, true, false, false] rfl rfl (one_of HT_.out (by kernel_rfl)) (by decide) (fun K hK => ?_)
 refine goes_ Try.func54 (by kernel_rfl) rfl #[.pointer (some ⟨g, 0, none⟩), .slice Ao49 y135.length co49] (by rfl) rfl rfl am ?_
 with_reducible refine (spec_l01Pick.calls g s0_0 t133 t134 _ _ y135 t138 t139 t140 w0 _ ?side1 ?side2 ?side3 ?side4 ?side5 A25.out).mono ?_
 (case side1 => repeat (first | (with_reducible first | exact HI0.out | apply IsS97.alloc | apply IsS97.drewN | apply IsS97.drew | apply IsS97.set_1 | apply IsS97.set_2 | refine IsS97.far ?_ NB0_122.out _ | refine IsS97.far ?_ NB0_123.out _ | refine IsS97.far ?_ NB0_127.out _) | exact HI0.out))
 (case side2 => repeat (first | (with_reducible first | exact HB.out | apply below_alloc | apply pw_below_drewN | apply below_drew1 | refine below_set ?_ (IsS97.ge HI0.out) | refine below_set ?_ GE122.out | refine below_set ?_ GE123.out | refine below_set ?_ GE127.out) | exact HB.out))
 (case side3 => exact pc ((Kd.R_reads' HO137.out).2.2))
 (case side4 => exact (Kd.R_reads' HO137.out).2.1)
 (case side5 => exact far_slice (IsS97.own_ne HI0.out HO137.out (by decide)))
 rintro e w50 ⟨rfl, hi, hb, hk⟩
 refine ⟨_, rfl, ?_⟩
 have n0_ := Aside0.mk (Kd.R_mono (Kd.R_keep (IsS97.apart (show IsS97 w0 _ g s0_0 t133 t134 from q2_0) (pe HO1_0.out) (by decide)) hk (fun _ h => h.2)) (fun _ h => h.1))
 have n1_ := Aside0.mk (KeepBut.blk hk (g' := gb122) (o := .cells #[.slice Ao29 l1_0.length co29] 26 (0, 0)) (pb BK122.out) NB122_0.out (by simp))
 have n2_ := Aside0.mk (KeepBut.blk hk (g' := gb123) (o := .cells #[.slice none 0 0] 26 (0, 0)) (pb BK123.out) NB123_0.out (by simp))
 have n3_ := Aside0.mk (Kd.R_mono (Kd.R_keep (IsS97.apart (show IsS97 w0 _ g s0_0 t133 t134 from q2_0) (pe HO126.out) (by decide)) hk (fun _ h => h.2)) (fun _ h => h.1))
 have n4_ := Aside0.mk (KeepBut.blk hk (g' := gb127) (o := .cells #[.slice Ao37 t124.length co37] 26 (0, 0)) (pb BK127.out) NB127_0.out (by simp))
 have n5_ := Aside0.mk (Kd.R_mono (Kd.R_keep (IsS97.apart (show IsS97 w0 _ g s0_0 t133 t134 from q2_0) (pe HO137.out) (by decide)) hk (fun _ h => h.2)) (fun _ h => h.1))
 have n6_ := Aside0.mk (Kept.of_keep (S := (fun k_ => (P1_0_ k_) ∨ k_ = g)) q2_1 hk (.inl (.inr rfl)))
 have n7_ := Aside0.mk (hb)
 have n8_ := Aside0.mk (hi)
 clear HO1_0
 clear BK122
 clear BK123
 clear HO126
 clear BK127
 clear HO137
 clear HK
 clear HB
 clear HI0
 have HO1_0 := n0_
 have BK122 := n1_
 have BK123 := n2_
 have HO126 := n3_
 have BK127 := n4_
 have HO137 := n5_
 have HK := n6_
 have HB := n7_
 have HI0 := n8_
 clear n0_ n1_ n2_ n3_ n4_ n5_ n6_ n7_ n8_
 (try clear hb)
 (try clear hb2)
 (try clear hk)
 (try clear hi)
 have p28 : 0 ≤ (t132 : Int) := of_decide_eq_true (by first | (with_reducible assumption) | assumption)
 have q28 : (t132 : Int) < ((t124.length : Int) : Int) := of_decide_eq_true (by first | (with_reducible assumption) | assumption)
 obtain ⟨go28, co28, eo28, gb28, gl28, cl28, HG28⟩ := Kd.R_form HO126.out (by omega)
 (first | cases eo28 | (injection eo28 with ea_ en_ ec_; (first | subst ea_ | (injection ea_ with ea_; subst ea_)); subst ec_; clear en_))
 have GB28 := Aside0.mk gb28
 have GG28 := Aside0.mk HG28
 clear gb28 gl28 HG28
 have HMgo28 := Aside0.mk (show (P1_0_ go28 ∨ w.heap.size ≤ go28) from (HO126.out.1 _ rfl).1)
 obtain ⟨hx28_0, hf28_0⟩ := Kd.R_celln 0 HO126.out (t132 : Int) p28 q28
 replace p28 := eq_true p28
 replace q28 := eq_true q28
 have HN0_go28 := Aside0.mk (show g ≠ go28 from by have h_ := IsS97.own_ne HI0.out HO126.out (by decide); intro e_; exact h_ (by rw [e_]; rfl))
 have HP51 := Kd.R_putn HO126.out (t132 : Int) t138
 rw [← Ny141.out] at HP51
 have HQ51 := Aside0.mk HP51
 clear HP51
 refine hK.out _ _ ⟨(blk_cell BK127.out 0).trans rfl, (blk_cell BK122.out 0).trans rfl⟩ (fun hHeld => ?_)
 clear hK K
 refine norm_ (a' := ?_) ?_ ?_
 rotate_left
 ·show Act.put _ (some 23) _ = _
  simp only [Act.put, sIB, sc0, scs, i64_w, i32_w]
  rfl
 refine pure_ (i := 9) (N := some 24) (v := ?_) (a' := ?_) #[true, true, true, true, true, true, true, true, true, true, false] rfl rfl (any_of HT_.out (by kernel_rfl)) (fun _ _ _ h => h) (Or.inl ⟨by rfl, ?_⟩) ?_ ?_
 rotate_left
 ·intro w'
  go_simp
  with_reducible rfl
 rotate_left
 ·simp only [Act.put, sIB, sc0, scs, i64_w, i32_w]
  rfl
 refine last_ (i := 10) (N := none) #[true, true, true, true, true, true, true, true, true, true, true] rfl rfl (one_of HT_.out (by kernel_rfl)) (by decide) (fun K hK => ?_)
 refine skip_ (w1 := ?_) (by rfl) rfl ?_ ?_
 rotate_left
 ·go_simp
  rfl
 refine hK.out _ _ ?_
 clear hK K
 refine done_ (done_of HT_.out (by kernel_rfl)) ?_
 have n0_ : Aside0 (Kd.R (Kd.int .i64) 2 (w50.setCell ⟨go28, (t132 : Int).toNat, none⟩ (.int .i64 t138)) w0.heap.size (fun k_ => (P1_0_ k_ ∨ w.heap.size ≤ k_) ∧ some k_ ≠ (.slice (some ⟨go28, 0, none⟩) t124.length co37 : Value).ownBlock ∧ some k_ ≠ (.slice Ao49 y135.length co49 : Value).ownBlock) (.slice Ao29 l1_0.length co29) l1_0) := ⟨pe (Kd.R_mono (Kd.R_far (p := ⟨go28, (t132 : Int).toNat, none⟩) (Kd.R_mono HO1_0.out (fun k_ hk => (⟨hk, fun e_ => hk.2.1 (by rw [e_]; rfl)⟩ : _ ∧ k_ ≠ go28))) (fun _ hk => hk.2) (.int .i64 t138)) (fun _ hk => ⟨hk.1.1, ⟨hk.1.2.1, hk.1.2.2⟩⟩))⟩
 have n1_ : Aside0 (Kd.R (Kd.int .i64) 2 (w50.setCell ⟨go28, (t132 : Int).toNat, none⟩ (.int .i64 t138)) w0.heap.size (fun k_ => (P1_0_ k_ ∨ w.heap.size ≤ k_) ∧ some k_ ≠ (.slice Ao29 l1_0.length co29 : Value).ownBlock ∧ some k_ ≠ (.slice Ao49 y135.length co49 : Value).ownBlock) (.slice (some ⟨go28, 0, none⟩) t124.length co37) y141) := ⟨pe (Kd.R_mono HQ51.out (fun _ hk => ⟨hk.1, ⟨hk.2.2, hk.2.1⟩⟩))⟩
 have n2_ : Aside0 (Kd.R (Kd.int .i64) 2 (w50.setCell ⟨go28, (t132 : Int).toNat, none⟩ (.int .i64 t138)) w0.heap.size (fun k_ => (P1_0_ k_ ∨ w.heap.size ≤ k_) ∧ some k_ ≠ (.slice Ao29 l1_0.length co29 : Value).ownBlock ∧ some k_ ≠ (.slice (some ⟨go28, 0, none⟩) t124.length co37 : Value).ownBlock) (.slice Ao49 y135.length co49) y135) := ⟨pe (Kd.R_mono (Kd.R_far (p := ⟨go28, (t132 : Int).toNat, none⟩) (Kd.R_mono HO137.out (fun k_ hk => (⟨hk, fun e_ => hk.2.1 (by rw [e_]; rfl)⟩ : _ ∧ k_ ≠ go28))) (fun _ hk => hk.2) (.int .i64 t138)) (fun _ hk => ⟨hk.1.1, ⟨hk.1.2.2, hk.1.2.1⟩⟩))⟩
 have n3_ : Aside0 ((w50.setCell ⟨go28, (t132 : Int).toNat, none⟩ (.int .i64 t138)).heap[gb122]? = some (.cells #[.slice Ao29 l1_0.length co29] 26 (0, 0))) := ⟨by (with_reducible repeat (first | refine blk_drewN ?_ _ | refine blk_drew ?_ | refine blk_alloc ?_ _)); refine blk_far ?_ (by have h_ := Kd.R_ne HO126.out BK122.out (by decide); intro e_; exact h_ (by rw [e_]; rfl)) _; exact pb BK122.out⟩
 have n4_ : Aside0 ((w50.setCell ⟨go28, (t132 : Int).toNat, none⟩ (.int .i64 t138)).heap[gb123]? = some (.cells #[.slice none 0 0] 26 (0, 0))) := ⟨by (with_reducible repeat (first | refine blk_drewN ?_ _ | refine blk_drew ?_ | refine blk_alloc ?_ _)); refine blk_far ?_ (by have h_ := Kd.R_ne HO126.out BK123.out (by decide); intro e_; exact h_ (by rw [e_]; rfl)) _; exact pb BK123.out⟩
 have n5_ : Aside0 ((w50.setCell ⟨go28, (t132 : Int).toNat, none⟩ (.int .i64 t138)).heap[gb127]? = some (.cells #[.slice (some ⟨go28, 0, none⟩) t124.length co37] 26 (0, 0))) := ⟨by (with_reducible repeat (first | refine blk_drewN ?_ _ | refine blk_drew ?_ | refine blk_alloc ?_ _)); refine blk_far ?_ (by have h_ := Kd.R_ne HO126.out BK127.out (by decide); intro e_; exact h_ (by rw [e_]; rfl)) _; exact pb BK127.out⟩
 have n6_ : Aside0 (IsS97 w0 (w50.setCell ⟨go28, (t132 : Int).toNat, none⟩ (.int .i64 t138)) g s0_0 t139 t140) := ⟨by repeat (first | (with_reducible first | exact HI0.out | apply IsS97.alloc | apply IsS97.drewN | apply IsS97.drew | apply IsS97.set_1 | apply IsS97.set_2 | refine IsS97.far ?_ HN0_go28.out _ | refine IsS97.far ?_ NB0_122.out _ | refine IsS97.far ?_ NB0_123.out _ | refine IsS97.far ?_ NB0_127.out _) | exact HI0.out)⟩
 have n7_ : Aside0 (Kept w (w50.setCell ⟨go28, (t132 : Int).toNat, none⟩ (.int .i64 t138)) (fun k_ => (P1_0_ k_) ∨ k_ = g)) := ⟨by repeat (first | (with_reducible first | exact HK.out | apply Kept.alloc | apply Kept.drewN | apply Kept.drew | refine Kept.setCell ?_ (Or.imp_left Or.inl HMgo28.out) _ | refine Kept.setCell ?_ (.inl (.inr rfl)) _ | refine Kept.setCell ?_ (.inr GW122.out) _ | refine Kept.setCell ?_ (.inr GW123.out) _ | refine Kept.setCell ?_ (.inr GW127.out) _) | exact HK.out)⟩
 have n8_ : Aside0 (Below w0.heap.size w0 (w50.setCell ⟨go28, (t132 : Int).toNat, none⟩ (.int .i64 t138))) := ⟨by repeat (first | (with_reducible first | exact HB.out | apply below_alloc | apply pw_below_drewN | apply below_drew1 | refine below_set ?_ GB28.out | refine below_set ?_ (IsS97.ge HI0.out) | refine below_set ?_ GE122.out | refine below_set ?_ GE123.out | refine below_set ?_ GE127.out) | exact HB.out)⟩
 (try clear HO1_0)
 (try clear HO126)
 (try clear HO137)
 (try clear BK122)
 (try clear BK123)
 (try clear BK127)
 (try clear HI0)
 (try clear HK)
 (try clear HB)
 generalize (w50.setCell ⟨go28, (t132 : Int).toNat, none⟩ (.int .i64 t138)) = w52 at n0_ n1_ n2_ n3_ n4_ n5_ n6_ n7_ n8_ ⊢
 have HO1_0 := n0_
 have HO126 := n1_
 have HO137 := n2_
 have BK122 := n3_
 have BK123 := n4_
 have BK127 := n5_
 have HI0 := n6_
 have HK := n7_
 have HB := n8_
 clear n0_ n1_ n2_ n3_ n4_ n5_ n6_ n7_ n8_
 have hcz53_0 : w52.cell? ⟨gb127, 0, none⟩ = some (.slice (some ⟨go28, 0, none⟩) t124.length co37) := (blk_cell BK127.out 0).trans rfl
 have hfz53_0 := blk_frozen BK127.out 0
 have hnb54 := NB123_0.out
 have hnc54 := NB0_123.out
 have hcz55_0 : w52.cell? ⟨gb123, 0, none⟩ = some (.slice none 0 0) := (blk_cell BK123.out 0).trans rfl
 have hfz55_0 := blk_frozen BK123.out 0
 try go_wp2
 refine bodyPost_ret (results_cell_row rfl _ _ gb123 26 #[.slice (some ⟨go28, 0, none⟩) t124.length co37] (0, 0) _ rfl q2_16 Try.underlying26 rfl (by kernel_rfl)) rfl ?_
 exact ⟨_, ew, pe (Kd.R_mono (Kd.R_far (p := ⟨gb123, 0, none⟩) (Kd.R_types HO126.out BK123.out (by decide)) (fun _ hk => hk.2) (.slice (some ⟨go28, 0, none⟩) t124.length co37)) (fun _ hk => hk.1.1)), q2_0, q2_2, q2_1⟩

end Go.Proofs.Ytlppkilencpmeaa.QFnHeavyPaths
