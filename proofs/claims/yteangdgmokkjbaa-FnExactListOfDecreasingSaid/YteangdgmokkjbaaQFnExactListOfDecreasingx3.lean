/- Functions as Lean functions, with their contracts: written by a program of this claim over the translation; some contracts are proved by hand. -/
import Derived.Test.YteangdgmokkjbaaQFnExactListOfDecreasingx0
import Derived.Test.YteangdgmokkjbaaQFnExactListOfDecreasingx1
import Derived.Test.YteangdgmokkjbaaQFnExactListOfDecreasingx2
namespace Go.Proofs.Yteangdgmokkjbaa.QFnExactListOfDecreasing
open Go.RowKit Go.Proofs.Yteangdgmokkjbaa.Gl Go.Proofs.YteangdgmokkjbaaW.PrintWords Go.Proofs.YteangdgmokkjbaaW.PrintLast Go.Proofs.YteangdgmokkjbaaW.PrintMore
attribute [local go_sem] max2_int min2_int max_two min_two max_three min_three max_four min_four   -- for this text's walks alone
set_option linter.unusedVariables false
set_option linter.unusedSimpArgs false

/-! ### laws_FnExactListOfDecreasing: function 4 -/
def laws_FnExactListOfDecreasing.f (k : Nat) (a0 : ByteArray) : Option (Bool) := if (a0.size : Int) > 1048576 then (some true) else ((spec_ListOfDecreasing.f k a0).bind fun bt134 => ((impl_ListOfDecreasing.f k a0).bind fun bt138 => ((laws_eqInt64S.f k bt138.1 bt134.1).bind fun t142 => (if t142 = true then (if bt138.2 = bt134.2 then ((laws_markInt64S.f k bt138.1 1).bind fun bt143 => ((laws_heldInt64S.f k bt143.2 1).bind fun t145 => (if t145 < 0 then (none) else (if t145 = bt143.1 then ((impl_ListOfDecreasing.f k a0).bind fun bt146 => ((laws_eqInt64S.f k bt146.1 bt134.1).bind fun t150 => (if t150 = true then (if bt146.2 = bt134.2 then ((laws_heldInt64S.f k bt143.2 1).bind fun t151 => (if t151 < 0 then (none) else (if t151 = bt143.1 then (some true) else (none)))) else (none)) else (none)))) else (none))))) else (none)) else (none)))))
theorem laws_FnExactListOfDecreasing.mono : ∀ a0 k, LeO (laws_FnExactListOfDecreasing.f k a0) (laws_FnExactListOfDecreasing.f (k + 1) a0) := by
 intro a0 k
 unfold laws_FnExactListOfDecreasing.f
 repeat' first
   | (with_reducible exact impl_ListOfDecreasing.mono _ _)
   | (with_reducible exact laws_eqInt64S.mono _ _ _)
   | (with_reducible exact laws_heldInt64S.mono _ _ _)
   | (with_reducible exact laws_markInt64S.mono _ _ _)
   | (with_reducible exact spec_ListOfDecreasing.mono _ _)
   | (with_reducible exact LeO.refl _)
   | (with_reducible exact LeO.none _)
   | (with_reducible refine LeO.ite ?_ ?_)
   | (with_reducible refine LeO.bind ?_ (fun _ => ?_))
   | exact impl_ListOfDecreasing.mono _ _
   | exact laws_eqInt64S.mono _ _ _
   | exact laws_heldInt64S.mono _ _ _
   | exact laws_markInt64S.mono _ _ _
   | exact spec_ListOfDecreasing.mono _ _
   | exact LeO.none _
   | refine LeO.ite ?_ ?_
   | refine LeO.bind ?_ (fun _ => ?_)
set_option maxHeartbeats 8000000 in
set_option maxRecDepth 100000 in
theorem laws_FnExactListOfDecreasing.calls (k : Nat) (a0 : ByteArray) (r : Bool) (w : World) (h : laws_FnExactListOfDecreasing.f k a0 = some r) :
  Calls Try.prog 4 #[.string a0] w fun e w' => e = .returned (.bool r) ∧ Below w.heap.size w w' := by
 have HB := Aside0.mk (Below.refl w.heap.size w)
 have H : (if (a0.size : Int) > 1048576 then (some true) else ((spec_ListOfDecreasing.f k a0).bind fun bt134 => ((impl_ListOfDecreasing.f k a0).bind fun bt138 => ((laws_eqInt64S.f k bt138.1 bt134.1).bind fun t142 => (if t142 = true then (if bt138.2 = bt134.2 then ((laws_markInt64S.f k bt138.1 1).bind fun bt143 => ((laws_heldInt64S.f k bt143.2 1).bind fun t145 => (if t145 < 0 then (none) else (if t145 = bt143.1 then ((impl_ListOfDecreasing.f k a0).bind fun bt146 => ((laws_eqInt64S.f k bt146.1 bt134.1).bind fun t150 => (if t150 = true then (if bt146.2 = bt134.2 then ((laws_heldInt64S.f k bt143.2 1).bind fun t151 => (if t151 < 0 then (none) else (if t151 = bt143.1 then (some true) else (none)))) else (none)) else (none)))) else (none))))) else (none)) else (none)))))) = some r := h
 clear h
 by_cases c2 : (a0.size : Int) > 1048576
 ·rw [if_pos c2] at H
  have c2b0 : decide (1048576 < (a0.size : Int)) = true := decide_eq_true c2
  have c2b1 : decide (1048576 < a0.size) = true := decide_eq_true (by omega)
  clear c2
  obtain rfl := Option.some.inj H
  go_enter Try.func4, Try.ntmps4
  go_wp2
  go_ret
  exact ⟨by first | rfl | (simp [errW_none, errW_some] <;> rfl) | (simp [*, errW_none, errW_some] <;> rfl), by repeat (first | (with_reducible first | exact HB.out | apply below_alloc | apply pw_below_drewN | apply below_drew1) | exact HB.out)⟩
 ·rw [if_neg c2] at H
  have c2b0 : decide (1048576 < (a0.size : Int)) = false := decide_eq_false c2
  have c2b1 : decide (1048576 < a0.size) = false := decide_eq_false (by omega)
  clear c2
  replace H := Option.bind_eq_some_iff.mp H
  obtain ⟨⟨t134, t135⟩, A30, H⟩ := H
  replace H : ((impl_ListOfDecreasing.f k a0).bind fun bt138 => ((laws_eqInt64S.f k bt138.1 t134).bind fun t142 => (if t142 = true then (if bt138.2 = t135 then ((laws_markInt64S.f k bt138.1 1).bind fun bt143 => ((laws_heldInt64S.f k bt143.2 1).bind fun t145 => (if t145 < 0 then (none) else (if t145 = bt143.1 then ((impl_ListOfDecreasing.f k a0).bind fun bt146 => ((laws_eqInt64S.f k bt146.1 t134).bind fun t150 => (if t150 = true then (if bt146.2 = t135 then ((laws_heldInt64S.f k bt143.2 1).bind fun t151 => (if t151 < 0 then (none) else (if t151 = bt143.1 then (some true) else (none)))) else (none)) else (none)))) else (none))))) else (none)) else (none)))) = some r := H
  have A3 := Aside0.mk A30
  clear A30
  replace H := Option.bind_eq_some_iff.mp H
  obtain ⟨⟨t138, t139⟩, A40, H⟩ := H
  replace H : ((laws_eqInt64S.f k t138 t134).bind fun t142 => (if t142 = true then (if t139 = t135 then ((laws_markInt64S.f k t138 1).bind fun bt143 => ((laws_heldInt64S.f k bt143.2 1).bind fun t145 => (if t145 < 0 then (none) else (if t145 = bt143.1 then ((impl_ListOfDecreasing.f k a0).bind fun bt146 => ((laws_eqInt64S.f k bt146.1 t134).bind fun t150 => (if t150 = true then (if bt146.2 = t135 then ((laws_heldInt64S.f k bt143.2 1).bind fun t151 => (if t151 < 0 then (none) else (if t151 = bt143.1 then (some true) else (none)))) else (none)) else (none)))) else (none))))) else (none)) else (none))) = some r := H
  have A4 := Aside0.mk A40
  clear A40
  replace H := Option.bind_eq_some_iff.mp H
  obtain ⟨t142, A50, H⟩ := H
  replace H : (if t142 = true then (if t139 = t135 then ((laws_markInt64S.f k t138 1).bind fun bt143 => ((laws_heldInt64S.f k bt143.2 1).bind fun t145 => (if t145 < 0 then (none) else (if t145 = bt143.1 then ((impl_ListOfDecreasing.f k a0).bind fun bt146 => ((laws_eqInt64S.f k bt146.1 t134).bind fun t150 => (if t150 = true then (if bt146.2 = t135 then ((laws_heldInt64S.f k bt143.2 1).bind fun t151 => (if t151 < 0 then (none) else (if t151 = bt143.1 then (some true) else (none)))) else (none)) else (none)))) else (none))))) else (none)) else (none)) = some r := H
  have A5 := Aside0.mk A50
  clear A50
  by_cases c6 : t142 = true
  ·subst c6
   have H1 : (if t139 = t135 then ((laws_markInt64S.f k t138 1).bind fun bt143 => ((laws_heldInt64S.f k bt143.2 1).bind fun t145 => (if t145 < 0 then (none) else (if t145 = bt143.1 then ((impl_ListOfDecreasing.f k a0).bind fun bt146 => ((laws_eqInt64S.f k bt146.1 t134).bind fun t150 => (if t150 = true then (if bt146.2 = t135 then ((laws_heldInt64S.f k bt143.2 1).bind fun t151 => (if t151 < 0 then (none) else (if t151 = bt143.1 then (some true) else (none)))) else (none)) else (none)))) else (none))))) else (none)) = some r := by rw [if_pos rfl] at H; exact H
   clear H
   have H := H1
   clear H1
   by_cases c7 : t139 = t135
   ·rw [if_pos c7] at H
    have c7b0 : (t139 == t135) = true := beq_iff_eq.mpr c7
    have c7b1 : (t139 != t135) = false := bne_eq_false_iff_eq.mpr c7
    clear c7
    replace H := Option.bind_eq_some_iff.mp H
    obtain ⟨⟨t143, t144⟩, A80, H⟩ := H
    replace H : ((laws_heldInt64S.f k t144 1).bind fun t145 => (if t145 < 0 then (none) else (if t145 = t143 then ((impl_ListOfDecreasing.f k a0).bind fun bt146 => ((laws_eqInt64S.f k bt146.1 t134).bind fun t150 => (if t150 = true then (if bt146.2 = t135 then ((laws_heldInt64S.f k t144 1).bind fun t151 => (if t151 < 0 then (none) else (if t151 = t143 then (some true) else (none)))) else (none)) else (none)))) else (none)))) = some r := H
    have A8 := Aside0.mk A80
    clear A80
    replace H := Option.bind_eq_some_iff.mp H
    obtain ⟨t145, A90, H⟩ := H
    replace H : (if t145 < 0 then (none) else (if t145 = t143 then ((impl_ListOfDecreasing.f k a0).bind fun bt146 => ((laws_eqInt64S.f k bt146.1 t134).bind fun t150 => (if t150 = true then (if bt146.2 = t135 then ((laws_heldInt64S.f k t144 1).bind fun t151 => (if t151 < 0 then (none) else (if t151 = t143 then (some true) else (none)))) else (none)) else (none)))) else (none))) = some r := H
    have A9 := Aside0.mk A90
    clear A90
    by_cases c10 : t145 < 0
    ·rw [if_pos c10] at H
     exact absurd H (by simp)
    ·rw [if_neg c10] at H
     have c10b0 : decide (t145 < 0) = false := decide_eq_false c10
     clear c10
     by_cases c11 : t145 = t143
     ·rw [if_pos c11] at H
      have c11b0 : (t145 == t143) = true := beq_iff_eq.mpr c11
      have c11b1 : (t145 != t143) = false := bne_eq_false_iff_eq.mpr c11
      clear c11
      replace H := Option.bind_eq_some_iff.mp H
      obtain ⟨⟨t146, t147⟩, A120, H⟩ := H
      replace H : ((laws_eqInt64S.f k t146 t134).bind fun t150 => (if t150 = true then (if t147 = t135 then ((laws_heldInt64S.f k t144 1).bind fun t151 => (if t151 < 0 then (none) else (if t151 = t143 then (some true) else (none)))) else (none)) else (none))) = some r := H
      have A12 := Aside0.mk A120
      clear A120
      replace H := Option.bind_eq_some_iff.mp H
      obtain ⟨t150, A130, H⟩ := H
      replace H : (if t150 = true then (if t147 = t135 then ((laws_heldInt64S.f k t144 1).bind fun t151 => (if t151 < 0 then (none) else (if t151 = t143 then (some true) else (none)))) else (none)) else (none)) = some r := H
      have A13 := Aside0.mk A130
      clear A130
      by_cases c14 : t150 = true
      ·subst c14
       have H1 : (if t147 = t135 then ((laws_heldInt64S.f k t144 1).bind fun t151 => (if t151 < 0 then (none) else (if t151 = t143 then (some true) else (none)))) else (none)) = some r := by rw [if_pos rfl] at H; exact H
       clear H
       have H := H1
       clear H1
       by_cases c15 : t147 = t135
       ·rw [if_pos c15] at H
        have c15b0 : (t147 == t135) = true := beq_iff_eq.mpr c15
        have c15b1 : (t147 != t135) = false := bne_eq_false_iff_eq.mpr c15
        clear c15
        replace H := Option.bind_eq_some_iff.mp H
        obtain ⟨t151, A160, H⟩ := H
        replace H : (if t151 < 0 then (none) else (if t151 = t143 then (some true) else (none))) = some r := H
        have A16 := Aside0.mk A160
        clear A160
        by_cases c17 : t151 < 0
        ·rw [if_pos c17] at H
         exact absurd H (by simp)
        ·rw [if_neg c17] at H
         have c17b0 : decide (t151 < 0) = false := decide_eq_false c17
         clear c17
         by_cases c18 : t151 = t143
         ·rw [if_pos c18] at H
          have c18b0 : (t151 == t143) = true := beq_iff_eq.mpr c18
          have c18b1 : (t151 != t143) = false := bne_eq_false_iff_eq.mpr c18
          clear c18
          obtain rfl := Option.some.inj H
          go_enter Try.func4, Try.ntmps4
          go_wp2_with (first | ((with_reducible refine gate_callee (f := 18) rfl ?_); refine goesL_ (some 16) rfl rfl Try.func18 (by kernel_rfl) rfl #[.string a0] rfl (by (try simp only [List.map_toArray, List.map_cons, List.map_nil]); first | done | rfl | (simp only [List.length_drop, List.length_take]; rfl)) ?_; (with_reducible refine (spec_ListOfDecreasing.calls k a0 t134 t135 _ A3.out).mono ?_); rintro e w19 ⟨v136, rfl, ho0, hb⟩; refine ⟨_, rfl, ?_⟩; have n0_ := Aside0.mk (Kd.R_lower ho0 (below_size (by repeat (first | (with_reducible first | exact HB.out | apply below_alloc | apply pw_below_drewN | apply below_drew1) | exact HB.out)))); have n1_ := Aside0.mk (below_step (by repeat (first | (with_reducible first | exact HB.out | apply below_alloc | apply pw_below_drewN | apply below_drew1) | exact HB.out)) hb); clear HB; have HO137 := n0_; have HB := n1_; clear n0_ n1_; (try clear hb); (try clear hb2); (try clear hk); (try clear hi); (try clear ho0)) | ((with_reducible refine gate_callee (f := 19) rfl ?_); refine goesL_ (some 21) rfl rfl Try.func19 (by kernel_rfl) rfl #[.string a0] rfl (by (try simp only [List.map_toArray, List.map_cons, List.map_nil]); first | done | rfl | (simp only [List.length_drop, List.length_take]; rfl)) ?_; (with_reducible refine (impl_ListOfDecreasing.calls k a0 t138 t139 _ A4.out).mono ?_); rintro e w20 ⟨v140, rfl, ho0, hb⟩; refine ⟨_, rfl, ?_⟩; have n0_ := Aside0.mk (Kd.R_elder' (by (with_reducible repeat (first | apply Kd.R_alloc | apply Kd.R_drewN | apply Kd.R_drew)); exact HO137.out) (Kd.R_base ho0) hb); have n1_ := Aside0.mk (Kd.R_lower (Kd.R_new' ho0 (Kd.R_lt (by (with_reducible repeat (first | apply Kd.R_alloc | apply Kd.R_drewN | apply Kd.R_drew)); exact HO137.out))) (below_size (by repeat (first | (with_reducible first | exact HB.out | apply below_alloc | apply pw_below_drewN | apply below_drew1) | exact HB.out)))); have n2_ := Aside0.mk (below_step (by repeat (first | (with_reducible first | exact HB.out | apply below_alloc | apply pw_below_drewN | apply below_drew1) | exact HB.out)) hb); clear HO137; clear HB; have HO137 := n0_; have HO141 := n1_; have HB := n2_; clear n0_ n1_ n2_; (try clear hb); (try clear hb2); (try clear hk); (try clear hi); (try clear ho0); obtain ⟨Ao21, co21, eo21⟩ := Kd.R_slice HO141.out; subst eo21; obtain ⟨Ao22, co22, eo22⟩ := Kd.R_slice HO137.out; subst eo22) | ((with_reducible refine gate_callee (f := 13) rfl ?_); refine goesL_ (some 26) rfl rfl Try.func13 (by kernel_rfl) rfl #[.slice Ao21 t138.length co21, .slice Ao22 t134.length co22] rfl (by (try simp only [List.map_toArray, List.map_cons, List.map_nil]); first | done | rfl | (simp only [List.length_drop, List.length_take]; rfl)) ?_; (with_reducible refine (laws_eqInt64S.calls k _ _ t138 _ _ t134 true _ ?side1 ?side2 ?side3 ?side4 A5.out).mono ?_); (case side1 => repeat (first | exact (Kd.R_reads' HO141.out).2.2 | (with_reducible refine Kd.C_alloc ?_ _) | (with_reducible refine Kd.C_drewN ?_ _) | (with_reducible refine Kd.C_drew ?_))); (case side2 => exact (Kd.R_reads' HO141.out).2.1); (case side3 => repeat (first | exact (Kd.R_reads' HO137.out).2.2 | (with_reducible refine Kd.C_alloc ?_ _) | (with_reducible refine Kd.C_drewN ?_ _) | (with_reducible refine Kd.C_drew ?_))); (case side4 => exact (Kd.R_reads' HO137.out).2.1); rintro e w' ⟨rfl, ⟨nd, rfl⟩⟩; refine ⟨_, rfl, ?_⟩; (try (rw [drewN_self w20]; generalize hq_ : World.drewN w20 _ = w20; have n0_ := Aside0.mk (Kd.R_at hq_ HO137.out); have n1_ := Aside0.mk (Kd.R_at hq_ HO141.out); have n2_ := Aside0.mk (below_at hq_ HB.out); clear hq_ HO137 HO141 HB; have HO137 := n0_; have HO141 := n1_; have HB := n2_; clear n0_ n1_ n2_))) | ((with_reducible refine gate_callee (f := 14) rfl ?_); refine goesL_ (some 35) rfl rfl Try.func14 (by kernel_rfl) rfl #[.slice Ao21 t138.length co21, .int .i64 1] rfl (by (try simp only [List.map_toArray, List.map_cons, List.map_nil]); first | done | rfl | (simp only [List.length_drop, List.length_take]; rfl)) ?_; (with_reducible refine (laws_markInt64S.calls k (fun k_ => some k_ = (.slice Ao21 t138.length co21 : Value).ownBlock) (.slice Ao21 t138.length co21) t138 1 t143 t144 w _ ?side1 ?side2 A8.out).mono ?_); (case side1 => repeat (first | (with_reducible first | exact HB.out | apply below_alloc | apply pw_below_drewN | apply below_drew1) | exact HB.out)); (case side2 => exact Kd.R_tight rfl HO141.out); rintro e w23 ⟨rfl, hy0, hb, hkp⟩; refine ⟨_, rfl, ?_⟩; have n0_ := Aside0.mk (Kd.R_mono (ok' := fun k_ => some k_ ≠ (.slice Ao21 t138.length co21 : Value).ownBlock) (Kd.R_keptB (HO137.out) hkp (fun k_ hk_ hs_ => (hk_.2) hs_)) (fun k_ hk_ => hk_.1.2)); have n1_ := Aside0.mk (Kd.R_reok rfl hy0 (fun k_ e_ => HO141.out.1 k_ e_)); have n2_ := Aside0.mk (hb); clear HO137; clear HO141; clear HB; have HO137 := n0_; have HO141 := n1_; have HB := n2_; clear n0_ n1_ n2_; (try clear hb); (try clear hkp); (try clear hy0)) | ((with_reducible refine gate_callee (f := 17) rfl ?_); refine goesL_ (some 38) rfl rfl Try.func17 (by kernel_rfl) rfl #[.slice Ao21 t144.length co21, .int .i64 1] rfl (by (try simp only [List.map_toArray, List.map_cons, List.map_nil]); first | done | (rw [show t144.length = t138.length from (Kd.R_reads' HO141.out).1.symm] <;> rfl) | rfl | (simp only [List.length_drop, List.length_take]; rfl)) ?_; (with_reducible refine (laws_heldInt64S.calls k _ _ t144 1 t145 _ ?side1 ?side2 A9.out).mono ?_); (case side1 => repeat (first | exact (Kd.R_reads' HO141.out).2.2 | (with_reducible refine Kd.C_alloc ?_ _) | (with_reducible refine Kd.C_drewN ?_ _) | (with_reducible refine Kd.C_drew ?_))); (case side2 => rw [show t144.length = t138.length from (Kd.R_reads' HO141.out).1.symm]; exact (Kd.R_reads' HO141.out).2.1); rintro e w' ⟨rfl, ⟨nd, rfl⟩⟩; refine ⟨_, rfl, ?_⟩) | ((with_reducible refine gate_callee (f := 19) rfl ?_); refine goesL_ (some 46) rfl rfl Try.func19 (by kernel_rfl) rfl #[.string a0] rfl (by (try simp only [List.map_toArray, List.map_cons, List.map_nil]); first | done | rfl | (simp only [List.length_drop, List.length_take]; rfl)) ?_; (with_reducible refine (impl_ListOfDecreasing.calls k a0 t146 t147 _ A12.out).mono ?_); rintro e w24 ⟨v148, rfl, ho0, hb⟩; refine ⟨_, rfl, ?_⟩; have n0_ := Aside0.mk (Kd.R_elder' (by (with_reducible repeat (first | apply Kd.R_alloc | apply Kd.R_drewN | apply Kd.R_drew)); exact HO137.out) (Kd.R_base ho0) hb); have n1_ := Aside0.mk (Kd.R_elder' (by (with_reducible repeat (first | apply Kd.R_alloc | apply Kd.R_drewN | apply Kd.R_drew)); exact HO141.out) (Kd.R_base ho0) hb); have n2_ := Aside0.mk (Kd.R_lower (Kd.R_new' (Kd.R_new' ho0 (Kd.R_lt (by (with_reducible repeat (first | apply Kd.R_alloc | apply Kd.R_drewN | apply Kd.R_drew)); exact HO137.out))) (Kd.R_lt (by (with_reducible repeat (first | apply Kd.R_alloc | apply Kd.R_drewN | apply Kd.R_drew)); exact HO141.out))) (below_size (by repeat (first | (with_reducible first | exact HB.out | apply below_alloc | apply pw_below_drewN | apply below_drew1) | exact HB.out)))); have n3_ := Aside0.mk (below_step (by repeat (first | (with_reducible first | exact HB.out | apply below_alloc | apply pw_below_drewN | apply below_drew1) | exact HB.out)) hb); clear HO137; clear HO141; clear HB; have HO137 := n0_; have HO141 := n1_; have HO149 := n2_; have HB := n3_; clear n0_ n1_ n2_ n3_; (try clear hb); (try clear hb2); (try clear hk); (try clear hi); (try clear ho0); obtain ⟨Ao25, co25, eo25⟩ := Kd.R_slice HO149.out; subst eo25) | ((with_reducible refine gate_callee (f := 13) rfl ?_); refine goesL_ (some 51) rfl rfl Try.func13 (by kernel_rfl) rfl #[.slice Ao25 t146.length co25, .slice Ao22 t134.length co22] rfl (by (try simp only [List.map_toArray, List.map_cons, List.map_nil]); first | done | rfl | (simp only [List.length_drop, List.length_take]; rfl)) ?_; (with_reducible refine (laws_eqInt64S.calls k _ _ t146 _ _ t134 true _ ?side1 ?side2 ?side3 ?side4 A13.out).mono ?_); (case side1 => repeat (first | exact (Kd.R_reads' HO149.out).2.2 | (with_reducible refine Kd.C_alloc ?_ _) | (with_reducible refine Kd.C_drewN ?_ _) | (with_reducible refine Kd.C_drew ?_))); (case side2 => exact (Kd.R_reads' HO149.out).2.1); (case side3 => repeat (first | exact (Kd.R_reads' HO137.out).2.2 | (with_reducible refine Kd.C_alloc ?_ _) | (with_reducible refine Kd.C_drewN ?_ _) | (with_reducible refine Kd.C_drew ?_))); (case side4 => exact (Kd.R_reads' HO137.out).2.1); rintro e w' ⟨rfl, ⟨nd, rfl⟩⟩; refine ⟨_, rfl, ?_⟩) | ((with_reducible refine gate_callee (f := 17) rfl ?_); refine goesL_ (some 60) rfl rfl Try.func17 (by kernel_rfl) rfl #[.slice Ao21 t144.length co21, .int .i64 1] rfl (by (try simp only [List.map_toArray, List.map_cons, List.map_nil]); first | done | (rw [show t144.length = t138.length from (Kd.R_reads' HO141.out).1.symm] <;> rfl) | rfl | (simp only [List.length_drop, List.length_take]; rfl)) ?_; (with_reducible refine (laws_heldInt64S.calls k _ _ t144 1 t151 _ ?side1 ?side2 A16.out).mono ?_); (case side1 => repeat (first | exact (Kd.R_reads' HO141.out).2.2 | (with_reducible refine Kd.C_alloc ?_ _) | (with_reducible refine Kd.C_drewN ?_ _) | (with_reducible refine Kd.C_drew ?_))); (case side2 => rw [show t144.length = t138.length from (Kd.R_reads' HO141.out).1.symm]; exact (Kd.R_reads' HO141.out).2.1); rintro e w' ⟨rfl, ⟨nd, rfl⟩⟩; refine ⟨_, rfl, ?_⟩))
          go_ret
          exact ⟨by first | rfl | (simp [errW_none, errW_some] <;> rfl) | (simp [*, errW_none, errW_some] <;> rfl), by repeat (first | (with_reducible first | exact HB.out | apply below_alloc | apply pw_below_drewN | apply below_drew1) | exact HB.out)⟩
         ·rw [if_neg c18] at H
          exact absurd H (by simp)
       ·rw [if_neg c15] at H
        exact absurd H (by simp)
      ·replace c14 := Bool.eq_false_iff.mpr c14
       subst c14
       have H1 : (none) = some r := by rw [if_neg (show ¬ (false = true) by decide)] at H; exact H
       clear H
       have H := H1
       clear H1
       exact absurd H (by simp)
     ·rw [if_neg c11] at H
      exact absurd H (by simp)
   ·rw [if_neg c7] at H
    exact absurd H (by simp)
  ·replace c6 := Bool.eq_false_iff.mpr c6
   subst c6
   have H1 : (none) = some r := by rw [if_neg (show ¬ (false = true) by decide)] at H; exact H
   clear H
   have H := H1
   clear H1
   exact absurd H (by simp)

/-- THE ONE PURE STATEMENT of laws_FnExactListOfDecreasing: yours. -/
def laws_FnExactListOfDecreasing.Pure : Prop := ∀ (a0 : ByteArray), a0.size ≤ 140737488351232 → ∃ k, laws_FnExactListOfDecreasing.f k a0 = some true
theorem laws_FnExactListOfDecreasing.walk (P : laws_FnExactListOfDecreasing.Pure) (a0 : ByteArray) (w : World) (w0 : a0.size ≤ 140737488351232) :
  Calls Try.prog 4 #[.string a0] w fun e w' => e = .returned (.bool true) ∧ Below w.heap.size w w' := by
 obtain ⟨k, h⟩ := P a0 w0
 refine (laws_FnExactListOfDecreasing.calls k a0 true w h).mono ?_
 rintro e w' ⟨rfl, hd⟩
 exact ⟨rfl, hd⟩

end Go.Proofs.Yteangdgmokkjbaa.QFnExactListOfDecreasing
