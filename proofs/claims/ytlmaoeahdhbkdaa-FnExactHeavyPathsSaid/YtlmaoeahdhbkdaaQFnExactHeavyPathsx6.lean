/- Functions as Lean functions, with their contracts: written by a program of this claim over the translation; some contracts are proved by hand. -/
import Derived.Test.YtlmaoeahdhbkdaaQFnExactHeavyPathsx0
import Derived.Test.YtlmaoeahdhbkdaaQFnExactHeavyPathsx1
import Derived.Test.YtlmaoeahdhbkdaaQFnExactHeavyPathsx3
import Derived.Test.YtlmaoeahdhbkdaaQFnExactHeavyPathsx5
namespace Go.Proofs.Ytlmaoeahdhbkdaa.QFnExactHeavyPaths
open Go.RowKit Go.Proofs.Ytlmaoeahdhbkdaa.Gl Go.Proofs.YtlmaoeahdhbkdaaW.PrintWords Go.Proofs.YtlmaoeahdhbkdaaW.PrintLast Go.Proofs.YtlmaoeahdhbkdaaW.PrintMore
attribute [local go_sem] max2_int min2_int max_two min_two max_three min_three max_four min_four   -- for this text's walks alone
set_option linter.unusedVariables false
set_option linter.unusedSimpArgs false

/-! ### laws_FnExactHeavyPaths: function 5 -/
def laws_FnExactHeavyPaths.f (k : Nat) (l0_0 : List Int) : Option Bool := (laws_szTree.f l0_0 1048576).bind fun sz => if sz < 0 then some true else (laws_toTree.f k l0_0).bind fun t => (spec_HeavyPaths.f k t).bind fun s => (impl_HeavyPaths.f k t).bind fun g => (laws_eqInt64SS.f k g.1 s.1).bind fun e1 => if e1 = true then (if g.2 = s.2 then (laws_eqTree.f k t t).bind fun e2 => if e2 = true then (laws_markTree.f k t 1).bind fun m => if m.1 < 0 then none else (laws_markInt64SS.f k g.1 1).bind fun n => (laws_heldInt64SS.f k n.2 1).bind fun q => if q < 0 then none else if q = n.1 then some true else none else none else none) else none
theorem hp_cell {w W : World} {p : Addr} {v : Value} (hb : Below w.heap.size w W) (hc : w.cell? p = some v) : W.cell? p = some v := (hb.cell (p := p) (World.block_lt_of_cell? w p hc)).trans hc
set_option maxHeartbeats 8000000 in
set_option maxRecDepth 100000 in
theorem laws_FnExactHeavyPaths.calls (k : Nat) (A0_0 : Option Addr) (c0_0 : Nat) (l0_0 : List Int) (r : Bool) (w : World) (hr0_0 : Kd.C (Kd.int .i64) w A0_0 l0_0.length l0_0) (hc0_0 : l0_0.length ≤ c0_0) (h : laws_FnExactHeavyPaths.f k l0_0 = some r) :
  Calls Try.prog 5 #[.agg #[.slice A0_0 l0_0.length c0_0]] w fun e w' => e = .returned (.bool r) ∧ Below w.heap.size w w' := by
 have hu24 := Try.underlying24
 have hu36 := Try.underlying36
 have HR0 := Aside0.mk hr0_0
 have HC0 := Aside0.mk hc0_0
 clear hr0_0 hc0_0
 unfold laws_FnExactHeavyPaths.f at h
 obtain ⟨sz, a1, h⟩ := Option.bind_eq_some_iff.mp h
 have A1 := Aside0.mk a1
 clear a1
 by_cases c1 : sz < 0
 ·rw [if_pos c1] at h
  obtain rfl := Option.some.inj h
  have c1b : decide (sz < 0) = true := decide_eq_true c1
  clear c1 h
  go_enter Try.func5, Try.ntmps5
  go_wp2_with (first | ((with_reducible refine gate_dst (N := 1) rfl ?_); refine box_event ?hg (N := 1) ?hd (cs := #[.slice A0_0 l0_0.length c0_0]) (t := 36) ?hr ?_; (case hd => rfl); (case hg => rfl); (case hr => first | (go_simp; done) | (go_simp; rfl)); intro gb1 hg1 w1 hbox1 hb1; have HB1 := Aside0.mk hb1; have HR1 := Aside0.mk (Kd.C_below HR0.out hb1); have hcz1 : w1.cell? ⟨gb1, 0, none⟩ = some (.slice A0_0 l0_0.length c0_0) := (blk_cell hbox1 0).trans rfl; clear hbox1 hb1 hg1) | ((with_reducible refine gate_callee (f := 20) rfl ?_); refine goesL_ (some 16) rfl rfl Try.func20 (by kernel_rfl) rfl #[.agg #[.slice A0_0 l0_0.length c0_0], .int .i64 1048576] rfl (by (try simp only [List.map_toArray, List.map_cons, List.map_nil]); first | done | rfl) ?_; refine (laws_szTree.calls _ _ l0_0 1048576 sz _ HR1.out HC0.out A1.out).mono ?_; rintro e w2 ⟨rfl, hb2⟩; refine ⟨_, rfl, ?_⟩; have HB2 := Aside0.mk (below_step HB1.out hb2); clear hb2))
  go_ret
  exact ⟨rfl, HB2.out⟩
 ·rw [if_neg c1] at h
  have c1b : decide (sz < 0) = false := decide_eq_false c1
  clear c1
  obtain ⟨t, a2, h⟩ := Option.bind_eq_some_iff.mp h
  obtain ⟨⟨s1, s2⟩, a3, h⟩ := Option.bind_eq_some_iff.mp h
  obtain ⟨⟨g1, g2⟩, a5, h⟩ := Option.bind_eq_some_iff.mp h
  obtain ⟨e1, a6, h⟩ := Option.bind_eq_some_iff.mp h
  dsimp only at a6 h
  by_cases ce1 : e1 = true
  ·subst ce1
   rw [if_pos rfl] at h
   by_cases cg : g2 = s2
   ·subst cg
    rw [if_pos rfl] at h
    obtain ⟨e2, a7, h⟩ := Option.bind_eq_some_iff.mp h
    by_cases ce2 : e2 = true
    ·subst ce2
     rw [if_pos rfl] at h
     obtain ⟨⟨m1, m2⟩, a8, h⟩ := Option.bind_eq_some_iff.mp h
     dsimp only at h
     by_cases c8 : m1 < 0
     ·rw [if_pos c8] at h; cases h
     ·rw [if_neg c8] at h
      have c8b : decide (m1 < 0) = false := decide_eq_false c8
      clear c8
      obtain ⟨⟨n1, n2⟩, a10, h⟩ := Option.bind_eq_some_iff.mp h
      obtain ⟨q, a11, h⟩ := Option.bind_eq_some_iff.mp h
      dsimp only at a11 h
      by_cases c11 : q < 0
      ·rw [if_pos c11] at h; cases h
      ·rw [if_neg c11] at h
       have c11b : decide (q < 0) = false := decide_eq_false c11
       clear c11
       by_cases cq : q = n1
       ·subst cq
        rw [if_pos rfl] at h
        obtain rfl := Option.some.inj h
        clear h
        have A2 := Aside0.mk a2
        have A3 := Aside0.mk a3
        have A5 := Aside0.mk a5
        have A6 := Aside0.mk a6
        have A7 := Aside0.mk a7
        have A8 := Aside0.mk a8
        have A10 := Aside0.mk a10
        have A11 := Aside0.mk a11
        clear a2 a3 a5 a6 a7 a8 a10 a11
        have hne : (g2 != g2) = false := by simp
        have hnq : (q != q) = false := by simp
        go_enter Try.func5, Try.ntmps5
        go_wp2_with (first
         | ((with_reducible refine gate_dst (N := 1) rfl ?_); refine box_event ?hg (N := 1) ?hd (cs := #[.slice A0_0 l0_0.length c0_0]) (t := 36) ?hr ?_; (case hd => rfl); (case hg => rfl); (case hr => first | (go_simp; done) | (go_simp; rfl)); intro gb1 hg1 w1 hbox1 hb1; have HB1 := Aside0.mk hb1; have HR1 := Aside0.mk (Kd.C_below HR0.out hb1); have hcz1 : w1.cell? ⟨gb1, 0, none⟩ = some (.slice A0_0 l0_0.length c0_0) := (blk_cell hbox1 0).trans rfl; clear hbox1 hb1 hg1)
         | ((with_reducible refine gate_callee (f := 20) rfl ?_); refine goesL_ (some 16) rfl rfl Try.func20 (by kernel_rfl) rfl #[.agg #[.slice A0_0 l0_0.length c0_0], .int .i64 1048576] rfl (by (try simp only [List.map_toArray, List.map_cons, List.map_nil]); first | done | rfl) ?_; refine (laws_szTree.calls _ _ l0_0 1048576 sz _ HR1.out HC0.out A1.out).mono ?_; rintro e w2 ⟨rfl, hb2⟩; refine ⟨_, rfl, ?_⟩; have HB2 := Aside0.mk (below_step HB1.out hb2); have HR2 := Aside0.mk (Kd.C_below HR1.out hb2); have hcz2 := hp_cell hb2 hcz1; clear hb2 hcz1)
         | ((with_reducible refine gate_callee (f := 22) rfl ?_); refine goesL_ (some 21) rfl rfl Try.func22 (by kernel_rfl) rfl #[.agg #[.slice A0_0 l0_0.length c0_0]] rfl (by (try simp only [List.map_toArray, List.map_cons, List.map_nil]); first | done | rfl) ?_; refine (laws_toTree.calls k _ _ l0_0 t _ HR2.out HC0.out A2.out).mono ?_; rintro e w3 ⟨v3, rfl, ho3, hb3⟩; refine ⟨_, rfl, ?_⟩; obtain ⟨Ao3, co3, eo3⟩ := Kd.R_slice ho3; subst eo3; have HO3 := Aside0.mk ho3; have HB3 := Aside0.mk (below_step HB2.out hb3); have HR3 := Aside0.mk (Kd.C_below HR2.out hb3); have hcz3 := hp_cell hb3 hcz2; clear ho3 hb3 hcz2)
         | ((with_reducible refine gate_callee (f := 21) rfl ?_); refine goesL_ (some 22) rfl rfl Try.func21 (by kernel_rfl) rfl #[.agg #[.slice Ao3 t.length co3]] rfl (by (try simp only [List.map_toArray, List.map_cons, List.map_nil]); first | done | rfl) ?_; refine (spec_HeavyPaths.calls k _ _ t s1 g2 _ (Kd.R_reads' HO3.out).2.2 (Kd.R_reads' HO3.out).2.1 A3.out).mono ?_; rintro e w4 ⟨v4, rfl, ho4, hb4⟩; refine ⟨_, rfl, ?_⟩; obtain ⟨Ao4, co4, eo4⟩ := Kd.S_slice ho4; subst eo4; have HS4 := Aside0.mk (Kd.S_reads' ho4).2.2; have HT4 := Aside0.mk (Kd.S_reads' ho4).2.1; have HB4 := Aside0.mk (below_step HB3.out hb4); have HR4 := Aside0.mk (Kd.C_below HR3.out hb4); have hcz4 := hp_cell hb4 hcz3; clear ho4 hb4 hcz3)
         | ((with_reducible refine gate_callee (f := 22) rfl ?_); refine goesL_ (some 26) rfl rfl Try.func22 (by kernel_rfl) rfl #[.agg #[.slice A0_0 l0_0.length c0_0]] rfl (by (try simp only [List.map_toArray, List.map_cons, List.map_nil]); first | done | rfl) ?_; refine (laws_toTree.calls k _ _ l0_0 t _ HR4.out HC0.out A2.out).mono ?_; rintro e w5 ⟨v5, rfl, ho5, hb5⟩; refine ⟨_, rfl, ?_⟩; obtain ⟨Ao5, co5, eo5⟩ := Kd.R_slice ho5; subst eo5; have HO5 := Aside0.mk (Kd.R_mono (ok' := fun k_ => w4.heap.size ≤ k_ ∧ k_ < w5.heap.size) (Kd.R_bound ho5) (fun k_ hk_ => ⟨hk_.2.1, hk_.2.2.1⟩)); have HB5 := Aside0.mk hb5; clear ho5 hb5)
         | ((with_reducible refine gate_dst (N := 6) rfl ?_); refine box_event ?hg (N := 6) ?hd (cs := #[.slice none 0 0]) (t := 24) ?hr ?_; (case hd => rfl); (case hg => rfl); (case hr => first | (go_simp; done) | (go_simp; rfl)); intro gb6 hg6 w6 hbox6 hb6; have BK6 := Aside0.mk hbox6; have HB6 := Aside0.mk (below_step HB5.out hb6); have HO6 := Aside0.mk (Kd.R_below HO5.out hb6); have GE6 := Aside0.mk (show w5.heap.size ≤ gb6 from Nat.le_of_eq hg6.symm); have GE4 := Aside0.mk (show w4.heap.size ≤ gb6 from Nat.le_trans HB5.out.size (Nat.le_of_eq hg6.symm)); clear hbox6 hb6 hg6; have hcz6 : w6.cell? ⟨gb6, 0, none⟩ = some (.slice none 0 0) := (blk_cell BK6.out 0).trans rfl; have hfz6 := blk_frozen BK6.out 0)
         | ((with_reducible refine gate_callee (f := 23) rfl ?_); refine goesL_ (some 29) rfl rfl Try.func23 (by kernel_rfl) rfl #[.agg #[.slice Ao5 t.length co5]] rfl (by (try simp only [List.map_toArray, List.map_cons, List.map_nil]); first | done | rfl) ?_; have BK7 := Aside0.mk (blk_set BK6.out 0 (.slice Ao5 t.length co5)); have HB7 := Aside0.mk (below_set (j := 0) (v := .slice Ao5 t.length co5) HB6.out GE4.out); have HO7 := Aside0.mk (Kd.R_far (p := ⟨gb6, 0, none⟩) HO6.out (fun k_ hk_ => by have h1_ := GE6.out; have h2_ : k_ < w5.heap.size := hk_.2; show k_ ≠ gb6; omega) (.slice Ao5 t.length co5)); refine (impl_HeavyPaths.calls k _ _ t g1 g2 _ (Kd.R_reads' HO7.out).2.2 (Kd.R_reads' HO7.out).2.1 A5.out).mono ?_; rintro e w8 ⟨v8, rfl, ho8, hb8⟩; refine ⟨_, rfl, ?_⟩; obtain ⟨Ao8, co8, eo8⟩ := Kd.S_slice ho8; subst eo8; have HG8 := Aside0.mk (Kd.S_lower (base' := w5.heap.size) ho8 (by have := GE6.out; have h2 := blk_lt BK7.out; omega)); have HB8 := Aside0.mk (below_step HB7.out hb8); have HO8 := Aside0.mk (Kd.R_below HO7.out hb8); have hd8 := hp_cell hb8 ((blk_cell BK7.out 0).trans rfl); clear ho8 hb8)
         | ((with_reducible refine gate_callee (f := 24) rfl ?_); refine goesL_ (some 34) rfl rfl Try.func24 (by kernel_rfl) rfl #[.slice Ao8 g1.length co8, .slice Ao4 s1.length co4] rfl (by (try simp only [List.map_toArray, List.map_cons, List.map_nil]); first | done | rfl) ?_; refine (laws_eqInt64SS.calls k _ _ g1 _ _ s1 true _ (Kd.S_reads' HG8.out).2.2 (Kd.S_reads' HG8.out).2.1 (Kd.C_below HS4.out HB8.out) HT4.out A6.out).mono ?_; rintro e w' ⟨rfl, ⟨nd, rfl⟩⟩; refine ⟨_, rfl, ?_⟩))
        have HX4 := Aside0.mk (below_drew1 (pw_below_drewN HB8.out nd))
        have HXG := Aside0.mk (Kd.S_drew (Kd.S_drewN HG8.out nd))
        have HXO := Aside0.mk (Kd.R_drew (Kd.R_drewN HO8.out nd))
        refine start_ (n := 5) (S := fun w' => w'.cell? ⟨gb6, 0, none⟩ = some (.slice Ao5 t.length co5) ∧ w'.cell? ⟨gb1, 0, none⟩ = some (.slice A0_0 l0_0.length c0_0)) (ds := []) #[false, false, false, false, false] (by kernel_rfl) rfl rfl ⟨hd8, hp_cell HX4.out hcz4⟩ (fun hHeld => ?_)
        generalize (w8.drewN nd).drew = w9 at HX4 HXG HXO hHeld ⊢
        refine take_ (i := 0) (N := some 41) (v := ?_) (a' := ?_) #[true, false, false, false, false] rfl rfl (by kernel_rfl) (fun _ _ _ h => h) (Or.inl ⟨by rfl, ?_⟩) hHeld ?_ ?_
        rotate_left
        ·rintro w' ⟨s0, s1⟩
         go_simp
         with_reducible rfl
        rotate_left
        ·simp only [Act.put, List.setIfInBounds_toArray, List.set_cons_zero, List.set_cons_succ, i64_w, i32_w]
         rfl
        refine take_ (i := 1) (N := some 42) (v := ?_) (a' := ?_) #[true, true, false, false, false] rfl rfl (by kernel_rfl) (fun _ _ _ h => h) (Or.inl ⟨by rfl, ?_⟩) hHeld ?_ ?_
        rotate_left
        ·rintro w' ⟨s0, s1⟩
         go_simp
         with_reducible rfl
        rotate_left
        ·simp only [Act.put, List.setIfInBounds_toArray, List.set_cons_zero, List.set_cons_succ, i64_w, i32_w]
         rfl
        refine one_ (i := 2) (N := some 43) #[true, true, true, false, false] rfl rfl (by kernel_rfl) (by decide) (fun K hK => ?_)
        refine goes_ Try.func22 (by kernel_rfl) rfl #[.agg #[.slice A0_0 l0_0.length c0_0]] (by rfl) rfl rfl (by (try simp only [List.map_toArray, List.map_cons, List.map_nil]); first | done | rfl) ?_
        refine (laws_toTree.calls k _ _ l0_0 t _ (Kd.C_below HR4.out HX4.out) HC0.out A2.out).mono ?_
        rintro e w10 ⟨v10, rfl, ho10, hb10⟩
        refine ⟨_, rfl, ?_⟩
        obtain ⟨Ao10, co10, eo10⟩ := Kd.R_slice ho10
        subst eo10
        have HO10 := Aside0.mk ho10
        have HY4 := Aside0.mk (below_step HX4.out hb10)
        have HYG := Aside0.mk (Kd.S_below HXG.out hb10)
        have HYO := Aside0.mk (Kd.R_below HXO.out hb10)
        have hs6 := hp_cell hb10 hHeld.1
        have hs1 := hp_cell hb10 hHeld.2
        clear hb10 ho10 HX4 HXG HXO
        refine hK.out _ _ ⟨hs6, hs1⟩ (fun hHeld => ?_)
        clear hK K
        refine norm_ (a' := ?_) ?_ ?_
        rotate_left
        ·show Act.put _ (some 43) _ = _
         simp only [Act.put, List.setIfInBounds_toArray, List.set_cons_zero, List.set_cons_succ, i64_w, i32_w]
         rfl
        refine one_ (i := 3) (N := some 44) #[true, true, true, true, false] rfl rfl (by kernel_rfl) (by decide) (fun K hK => ?_)
        refine goes_ Try.func12 (by kernel_rfl) rfl #[.agg #[.slice Ao5 t.length co5], .agg #[.slice Ao10 t.length co10]] (by rfl) rfl rfl (by (try simp only [List.map_toArray, List.map_cons, List.map_nil]); first | done | rfl) ?_
        refine (laws_eqTree.calls k _ _ t _ _ t true _ (Kd.R_reads' HYO.out).2.2 (Kd.R_reads' HYO.out).2.1 (Kd.R_reads' HO10.out).2.2 (Kd.R_reads' HO10.out).2.1 A7.out).mono ?_
        rintro e w11 ⟨rfl, hb11⟩
        refine ⟨_, rfl, ?_⟩
        have HX4 := Aside0.mk (below_step HY4.out hb11)
        have HXG := Aside0.mk (Kd.S_below HYG.out hb11)
        have HXO := Aside0.mk (Kd.R_below HYO.out hb11)
        have ht6 := hp_cell hb11 hHeld.1
        have ht1 := hp_cell hb11 hHeld.2
        clear hb11 HY4 HYG HYO HO10 hs6 hs1
        refine hK.out _ _ ⟨ht6, ht1⟩ (fun hHeld => ?_)
        clear hK K
        refine norm_ (a' := ?_) ?_ ?_
        rotate_left
        ·show Act.put _ (some 44) _ = _
         simp only [Act.put, List.setIfInBounds_toArray, List.set_cons_zero, List.set_cons_succ, i64_w, i32_w]
         rfl
        refine pure_ (i := 4) (N := some 45) (v := ?_) (a' := ?_) #[true, true, true, true, true] rfl rfl (by kernel_rfl) (fun _ _ _ h => h) (Or.inl ⟨by rfl, ?_⟩) ?_ ?_
        rotate_left
        ·intro w'
         go_simp
         with_reducible rfl
        rotate_left
        ·simp only [Act.put, List.setIfInBounds_toArray, List.set_cons_zero, List.set_cons_succ, i64_w, i32_w]
         rfl
        refine done_ (by kernel_rfl) ?_
        clear hHeld
        go_wp2_with (first
         | ((with_reducible refine gate_callee (f := 15) rfl ?_); refine goesL_ (some 48) rfl rfl Try.func15 (by kernel_rfl) rfl #[.agg #[.slice Ao5 t.length co5], .int .i64 1] rfl (by (try simp only [List.map_toArray, List.map_cons, List.map_nil]); first | done | rfl) ?_; refine (laws_markTree.calls k (fun k_ => w4.heap.size ≤ k_ ∧ k_ < w5.heap.size) (.slice Ao5 t.length co5) t 1 m1 m2 w4 _ HX4.out HXO.out A8.out).mono ?_; rintro e w12 ⟨rfl, hy12, hb12, hkp12⟩; refine ⟨_, rfl, ?_⟩; have HZ4 := Aside0.mk hb12; have HZG := Aside0.mk (Kd.S_kept (Kd.S_bound HXG.out) hkp12 (fun k_ hk_ hs_ => absurd hs_.2 (Nat.not_lt.2 hk_.2.1))); clear hy12 hb12 hkp12)
         | (go_at_call 24; refine (laws_eqInt64SS.calls k _ _ g1 _ _ s1 true _ (Kd.S_reads' HZG.out).2.2 (Kd.S_reads' HZG.out).2.1 (Kd.C_below HS4.out HZ4.out) HT4.out A6.out).mono ?_; rintro e w' ⟨rfl, ⟨nd2, rfl⟩⟩)
         | ((with_reducible refine gate_callee (f := 25) rfl ?_); refine goesL_ (some 64) rfl rfl Try.func25 (by kernel_rfl) rfl #[.slice Ao8 g1.length co8, .int .i64 1] rfl (by (try simp only [List.map_toArray, List.map_cons, List.map_nil]); first | done | rfl) ?_; refine (laws_markInt64SS.calls k _ _ g1 1 q n2 w4 _ (pw_below_drewN HZ4.out nd2) (Kd.S_lower (Kd.S_drewN HZG.out nd2) HB5.out.size) A10.out).mono ?_; rintro e w13 ⟨rfl, hy13, hb13⟩; refine ⟨_, rfl, ?_⟩; have HLN : Aside0 (g1.length = n2.length) := Aside0.mk (Kd.S_reads' hy13).1; have HM := Aside0.mk (Kd.S_reads' hy13).2.2; have HV4 := Aside0.mk hb13; have HH := Aside0.mk (fun W (hC : Kd.C (Kd.slice 2 (Kd.int .i64)) W Ao8 n2.length n2) => show Calls Try.prog 26 #[.slice Ao8 g1.length co8, .int .i64 1] W (fun e w' => e = .returned (.int .i64 q) ∧ Drawn0 W w') from by have h_ := laws_heldInt64SS.calls k Ao8 co8 n2 1 q W hC (by rw [← HLN.out]; exact (Kd.S_reads' hy13).2.1) A11.out; rw [← HLN.out] at h_; exact h_); clear hy13 hb13)
         | ((with_reducible refine gate_callee (f := 26) rfl ?_); refine goesL_ (some 67) rfl rfl Try.func26 (by kernel_rfl) rfl #[.slice Ao8 g1.length co8, .int .i64 1] rfl (by (try simp only [List.map_toArray, List.map_cons, List.map_nil]); first | done | rfl) ?_; refine (HH.out _ HM.out).mono ?_; rintro e w' ⟨rfl, ⟨nd3, rfl⟩⟩; refine ⟨_, rfl, ?_⟩; have hc13 := hp_cell (pw_below_drewN HV4.out nd3) hcz4)
         | ((with_reducible refine gate_callee (f := 22) rfl ?_); refine goesL_ (some 75) rfl rfl Try.func22 (by kernel_rfl) rfl #[.agg #[.slice A0_0 l0_0.length c0_0]] rfl (by (try simp only [List.map_toArray, List.map_cons, List.map_nil]); first | done | rfl) ?_; refine (laws_toTree.calls k _ _ l0_0 t _ (Kd.C_below HR4.out (pw_below_drewN HV4.out nd3)) HC0.out A2.out).mono ?_; rintro e w14 ⟨v14, rfl, ho14, hb14⟩; refine ⟨_, rfl, ?_⟩; obtain ⟨Ao14, co14, eo14⟩ := Kd.R_slice ho14; subst eo14; have HO14 := Aside0.mk ho14; have HW4 := Aside0.mk (below_step (pw_below_drewN HV4.out nd3) hb14); have HWM := Aside0.mk (below_step (pw_below_drewN (Below.refl w13.heap.size w13) nd3) hb14); clear ho14 hb14)
         | ((with_reducible refine gate_callee (f := 23) rfl ?_); refine goesL_ (some 76) rfl rfl Try.func23 (by kernel_rfl) rfl #[.agg #[.slice Ao14 t.length co14]] rfl (by (try simp only [List.map_toArray, List.map_cons, List.map_nil]); first | done | rfl) ?_; refine (impl_HeavyPaths.calls k _ _ t g1 g2 _ (Kd.R_reads' HO14.out).2.2 (Kd.R_reads' HO14.out).2.1 A5.out).mono ?_; rintro e w15 ⟨v15, rfl, ho15, hb15⟩; refine ⟨_, rfl, ?_⟩; obtain ⟨Ao15, co15, eo15⟩ := Kd.S_slice ho15; subst eo15; have HG15 := Aside0.mk ho15; have HU4 := Aside0.mk (below_step HW4.out hb15); have HUM := Aside0.mk (below_step HWM.out hb15); clear ho15 hb15)
         | ((with_reducible refine gate_callee (f := 24) rfl ?_); refine goesL_ (some 81) rfl rfl Try.func24 (by kernel_rfl) rfl #[.slice Ao15 g1.length co15, .slice Ao4 s1.length co4] rfl (by (try simp only [List.map_toArray, List.map_cons, List.map_nil]); first | done | rfl) ?_; refine (laws_eqInt64SS.calls k _ _ g1 _ _ s1 true _ (Kd.S_reads' HG15.out).2.2 (Kd.S_reads' HG15.out).2.1 (Kd.C_below HS4.out HU4.out) HT4.out A6.out).mono ?_; rintro e w' ⟨rfl, ⟨nd5, rfl⟩⟩; refine ⟨_, rfl, ?_⟩)
         | ((with_reducible refine gate_callee (f := 26) rfl ?_); refine goesL_ (some 90) rfl rfl Try.func26 (by kernel_rfl) rfl #[.slice Ao8 g1.length co8, .int .i64 1] rfl (by (try simp only [List.map_toArray, List.map_cons, List.map_nil]); first | done | rfl) ?_; refine (HH.out _ (Kd.C_below HM.out (pw_below_drewN HUM.out nd5))).mono ?_; rintro e w' ⟨rfl, ⟨nd6, rfl⟩⟩; refine ⟨_, rfl, ?_⟩))
        go_ret
        exact ⟨rfl, below_step HB4.out (pw_below_drewN HU4.out _)⟩
       ·rw [if_neg cq] at h; cases h
    ·rw [if_neg ce2] at h; cases h
   ·rw [if_neg cg] at h; cases h
  ·rw [if_neg ce1] at h; cases h

end Go.Proofs.Ytlmaoeahdhbkdaa.QFnExactHeavyPaths
