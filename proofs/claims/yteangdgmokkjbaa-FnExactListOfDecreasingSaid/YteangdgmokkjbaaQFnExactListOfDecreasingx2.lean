/- Functions as Lean functions, with their contracts: written by a program of this claim over the translation; some contracts are proved by hand. -/
import Derived.Test.YteangdgmokkjbaaQFnExactListOfDecreasingx0
namespace Go.Proofs.Yteangdgmokkjbaa.QFnExactListOfDecreasing
open Go.RowKit Go.Proofs.Yteangdgmokkjbaa.Gl Go.Proofs.YteangdgmokkjbaaW.PrintWords Go.Proofs.YteangdgmokkjbaaW.PrintLast Go.Proofs.YteangdgmokkjbaaW.PrintMore
attribute [local go_sem] max2_int min2_int max_two min_two max_three min_three max_four min_four   -- for this text's walks alone
set_option linter.unusedVariables false
set_option linter.unusedSimpArgs false

/-! ### impl_endBinary: function 58 -/
mutual
def impl_endBinary.l0 : Nat → ByteArray → Int → Option (ByteArray × Bool)
 | 0, _, _ => none
 | k + 1, x0, x4 => if x4 > 0 then (if x0.toList = ([] : List UInt8) then (impl_endBinary.j1 k x0 x4 true) else (if 0 < (x0.size : Int) then (if (bt x0 0) = 48 then (impl_endBinary.j1 k x0 x4 false) else (impl_endBinary.j1 k x0 x4 ((bt x0 0) != 49))) else (none))) else (some (x0, true))
def impl_endBinary.j1 : Nat → ByteArray → Int → Bool → Option (ByteArray × Bool)
 | 0, _, _, _ => none
 | k + 1, x0, x4, x9 => if x9 = true then (some ((⟨#[]⟩ : ByteArray), false)) else (if 0 < (x0.size : Int) then (if (bt x0 0) = 49 then (if 1 ≤ (x0.size : Int) then (impl_endBinary.l0 k (x0.extract 1 x0.size) (wrap64 (x4 + 1))) else (none)) else (if 1 ≤ (x0.size : Int) then (impl_endBinary.l0 k (x0.extract 1 x0.size) (wrap64 (x4 - 1))) else (none))) else (none))
end
def impl_endBinary.f (k : Nat) (a0 : ByteArray) : Option (ByteArray × Bool) := impl_endBinary.l0 k a0 1
theorem impl_endBinary.mono_l : ∀ k, (∀ y0 y1, LeO (impl_endBinary.l0 k y0 y1) (impl_endBinary.l0 (k + 1) y0 y1)) ∧ (∀ y0 y1 y2, LeO (impl_endBinary.j1 k y0 y1 y2) (impl_endBinary.j1 (k + 1) y0 y1 y2))
 | 0 => ⟨fun _ _ r h => by simp [impl_endBinary.l0] at h, fun _ _ _ r h => by simp [impl_endBinary.j1] at h⟩
 | k + 1 => by
  obtain ⟨ih0, ih1⟩ := impl_endBinary.mono_l k
  refine ⟨?_, ?_⟩
  ·intro y0 y1
   unfold impl_endBinary.l0
   repeat' first
   | (with_reducible exact ih0 _ _)
   | (with_reducible exact ih1 _ _ _)
   | (with_reducible exact LeO.refl _)
   | (with_reducible exact LeO.none _)
   | (with_reducible refine LeO.ite ?_ ?_)
   | (with_reducible refine LeO.bind ?_ (fun _ => ?_))
   | exact ih0 _ _
   | exact ih1 _ _ _
   | exact LeO.none _
   | refine LeO.ite ?_ ?_
   | refine LeO.bind ?_ (fun _ => ?_)
  ·intro y0 y1 y2
   unfold impl_endBinary.j1
   repeat' first
   | (with_reducible exact ih0 _ _)
   | (with_reducible exact ih1 _ _ _)
   | (with_reducible exact LeO.refl _)
   | (with_reducible exact LeO.none _)
   | (with_reducible refine LeO.ite ?_ ?_)
   | (with_reducible refine LeO.bind ?_ (fun _ => ?_))
   | exact ih0 _ _
   | exact ih1 _ _ _
   | exact LeO.none _
   | refine LeO.ite ?_ ?_
   | refine LeO.bind ?_ (fun _ => ?_)
theorem impl_endBinary.mono : ∀ a0 k, LeO (impl_endBinary.f k a0) (impl_endBinary.f (k + 1) a0) := by
 intro a0 k
 obtain ⟨ih0, ih1⟩ := impl_endBinary.mono_l k
 unfold impl_endBinary.f
 repeat' first
   | (with_reducible exact ih0 _ _)
   | (with_reducible exact ih1 _ _ _)
   | (with_reducible exact LeO.refl _)
   | (with_reducible exact LeO.none _)
   | (with_reducible refine LeO.ite ?_ ?_)
   | (with_reducible refine LeO.bind ?_ (fun _ => ?_))
   | exact ih0 _ _
   | exact ih1 _ _ _
   | exact LeO.none _
   | refine LeO.ite ?_ ?_
   | refine LeO.bind ?_ (fun _ => ?_)
set_option maxHeartbeats 8000000 in
set_option maxRecDepth 100000 in
theorem impl_endBinary.calls (k : Nat) (a0 : ByteArray) (r1 : ByteArray) (r2 : Bool) (w : World) (h : impl_endBinary.f k a0 = some (r1, r2)) :
  Calls Try.prog 58 #[.string a0] w fun e w' => e = .returned (.tuple #[.string r1, .bool r2]) ∧ Drawn0 w w' := by
 have H : (impl_endBinary.l0 k a0 1) = some (r1, r2) := h
 clear h
 have H' := Aside0.mk H
 clear H
 go_enter Try.func58, Try.ntmps58
 go_wp2
 go_loopg [0, 4] k (fun kq v0 v4 w' => ∃ (x0_1 : ByteArray) (x4_1 : Int), v0 = .string x0_1 ∧ v4 = .int .i64 x4_1 ∧ Aside0 (impl_endBinary.l0 kq x0_1 x4_1 = some (r1, r2)) ∧ Aside0 (kq ≤ k) ∧ Drawn0 w w')
 case atStart => exact ⟨(a0), (1), (by first | rfl | (simp; done) | (simp [*]; done)), (by first | rfl | (simp; done) | (simp [*]; done)), H', ⟨Nat.le_refl _⟩, by repeat (first | exact Drawn0.refl _ | apply Drawn0.step)⟩
 case round =>
  clear H'
  obtain ⟨x0_1, x4_1, rfl, rfl, HA, HK1, ⟨m1, rfl⟩⟩ := hrel
  cases gk with
  | zero => exact absurd HA.out (by simp [impl_endBinary.l0])
  | succ k1 =>
   have H := HA.out
   clear HA
   simp only [impl_endBinary.l0] at H
   by_cases c2 : x4_1 > 0
   ·rw [if_pos c2] at H
    have c2b0 : decide (0 < x4_1) = true := decide_eq_true c2
    clear c2
    have HC3 := Aside0.mk H
    clear H
    go_upto_region 4 with (fail)
    go_cut [9] (fun v9 wc => ∃ (kq : Nat) (x9_2 : Bool), v9 = .bool x9_2 ∧ Aside0 (impl_endBinary.j1 kq x0_1 x4_1 x9_2 = some (r1, r2)) ∧ Aside0 (kq ≤ k1) ∧ Drawn0 w wc)
    case first =>
     have H := HC3.out
     clear HC3
     by_cases c4 : x0_1.toList = ([] : List UInt8)
     ·rw [if_pos c4] at H
      have c4b0 : (x0_1.toList == ([] : List UInt8)) = true := beq_iff_eq.mpr c4
      have c4b1 : (x0_1.toList != ([] : List UInt8)) = false := bne_eq_false_iff_eq.mpr c4
      clear c4
      (first | rw [c4b0] | (simp only [i64_w, i32_w]; rw [c4b0]) | skip)
      have H' := Aside0.mk H
      clear H
      go_wp2
      go_meet
      case rel => exact ⟨_, (true), (by first | rfl | (simp; done) | (simp [*]; done)), H', ⟨by have := HK1.out; first | omega | exact Nat.le_refl _⟩, by repeat (first | exact Drawn0.refl _ | apply Drawn0.step)⟩
     ·rw [if_neg c4] at H
      have c4b0 : (x0_1.toList == ([] : List UInt8)) = false := beq_eq_false_iff_ne.mpr c4
      have c4b1 : (x0_1.toList != ([] : List UInt8)) = true := bne_iff_ne.mpr c4
      (first | rw [c4b0] | (simp only [i64_w, i32_w]; rw [c4b0]) | skip)
      by_cases c5 : 0 < (x0_1.size : Int)
      ·rw [if_pos c5] at H
       have c5b0 : decide (0 < (x0_1.size : Int)) = true := decide_eq_true c5
       have c5b1 : decide (0 < x0_1.size) = true := decide_eq_true (by omega)
       clear c5
       by_cases c7 : (bt x0_1 0) = 48
       ·rw [if_pos c7] at H
        have c7b0 : ((bt x0_1 0) == 48) = true := beq_iff_eq.mpr c7
        have c7b1 : ((bt x0_1 0) != 48) = false := bne_eq_false_iff_eq.mpr c7
        clear c7
        have H' := Aside0.mk H
        clear H
        have p6 : 0 ≤ (0 : Int) := (by omega)
        have q6 : 0 < x0_1.size := (by have : (0 : Int) < (x0_1.size : Int) := of_decide_eq_true (by first | (with_reducible assumption) | assumption); omega)
        have hx6 : ∀ h : 0 < x0_1.size, ((x0_1[0]'h).toNat : Int) = bt x0_1 0 := bt_at x0_1 0
        clear p6
        have qi6 : (0 < (x0_1.size : Int)) = True := eq_true (of_decide_eq_true (by first | (with_reducible assumption) | assumption))
        replace q6 := eq_true q6
        go_wp2
        go_meet
        case rel => exact ⟨_, (false), (by first | rfl | (simp; done) | (simp [*]; done)), H', ⟨by have := HK1.out; first | omega | exact Nat.le_refl _⟩, by repeat (first | exact Drawn0.refl _ | apply Drawn0.step)⟩
       ·rw [if_neg c7] at H
        have c7b0 : ((bt x0_1 0) == 48) = false := beq_eq_false_iff_ne.mpr c7
        have c7b1 : ((bt x0_1 0) != 48) = true := bne_iff_ne.mpr c7
        have H' := Aside0.mk H
        clear H
        have p6 : 0 ≤ (0 : Int) := (by omega)
        have q6 : 0 < x0_1.size := (by have : (0 : Int) < (x0_1.size : Int) := of_decide_eq_true (by first | (with_reducible assumption) | assumption); omega)
        have hx6 : ∀ h : 0 < x0_1.size, ((x0_1[0]'h).toNat : Int) = bt x0_1 0 := bt_at x0_1 0
        clear p6
        have qi6 : (0 < (x0_1.size : Int)) = True := eq_true (of_decide_eq_true (by first | (with_reducible assumption) | assumption))
        replace q6 := eq_true q6
        have p8 : 0 ≤ (0 : Int) := (by omega)
        have q8 : 0 < x0_1.size := (by have : (0 : Int) < (x0_1.size : Int) := of_decide_eq_true (by first | (with_reducible assumption) | assumption); omega)
        have hx8 : ∀ h : 0 < x0_1.size, ((x0_1[0]'h).toNat : Int) = bt x0_1 0 := bt_at x0_1 0
        clear p8
        have qi8 : (0 < (x0_1.size : Int)) = True := eq_true (of_decide_eq_true (by first | (with_reducible assumption) | assumption))
        replace q8 := eq_true q8
        go_wp2
        go_meet
        case rel => exact ⟨_, (((bt x0_1 0) != 49)), (by first | rfl | (simp; done) | (simp [*]; done)), H', ⟨by have := HK1.out; first | omega | exact Nat.le_refl _⟩, by repeat (first | exact Drawn0.refl _ | apply Drawn0.step)⟩
      ·rw [if_neg c5] at H
       exact absurd H (by simp)
    case rest =>
     clear HC3
     try clear c2
     try clear c2b0
     try clear p2
     try clear c4
     try clear c4b0
     try clear c4b1
     try clear c5
     try clear c5b0
     try clear c5b1
     try clear p6
     try clear q6
     try clear hx6
     try clear qi6
     try clear c7
     try clear c7b0
     try clear c7b1
     try clear p8
     try clear q8
     try clear hx8
     try clear qi8
     try clear p6
     try clear p8
     try clear q6
     try clear q8
     obtain ⟨kq, x9_2, rfl, HA, HJ2, ⟨mc2, rfl⟩⟩ := hcut
     cases kq with
     | zero => exact absurd HA.out (by simp [impl_endBinary.j1])
     | succ kj2 =>
      have H := HA.out
      clear HA
      simp only [impl_endBinary.j1] at H
      by_cases c9 : x9_2 = true
      ·subst c9
       have H1 : (some ((⟨#[]⟩ : ByteArray), false)) = some (r1, r2) := by rw [if_pos rfl] at H; exact H
       clear H
       have H := H1
       clear H1
       simp only [Option.some.injEq, Prod.mk.injEq] at H
       obtain ⟨rfl, rfl⟩ := H
       go_wp2
       go_ret2
       exact ⟨by first | rfl | (simp; done) | (simp [*]; done), by repeat (first | exact Drawn0.refl _ | apply Drawn0.step)⟩
      ·replace c9 := Bool.eq_false_iff.mpr c9
       subst c9
       have H1 : (if 0 < (x0_1.size : Int) then (if (bt x0_1 0) = 49 then (if 1 ≤ (x0_1.size : Int) then (impl_endBinary.l0 kj2 (x0_1.extract 1 x0_1.size) (wrap64 (x4_1 + 1))) else (none)) else (if 1 ≤ (x0_1.size : Int) then (impl_endBinary.l0 kj2 (x0_1.extract 1 x0_1.size) (wrap64 (x4_1 - 1))) else (none))) else (none)) = some (r1, r2) := by rw [if_neg (show ¬ (false = true) by decide)] at H; exact H
       clear H
       have H := H1
       clear H1
       by_cases c10 : 0 < (x0_1.size : Int)
       ·rw [if_pos c10] at H
        have c10b0 : decide (0 < (x0_1.size : Int)) = true := decide_eq_true c10
        have c10b1 : decide (0 < x0_1.size) = true := decide_eq_true (by omega)
        clear c10
        by_cases c12 : (bt x0_1 0) = 49
        ·rw [if_pos c12] at H
         have c12b0 : ((bt x0_1 0) == 49) = true := beq_iff_eq.mpr c12
         have c12b1 : ((bt x0_1 0) != 49) = false := bne_eq_false_iff_eq.mpr c12
         clear c12
         by_cases c13 : 1 ≤ (x0_1.size : Int)
         ·rw [if_pos c13] at H
          have c13b0 := eq_true c13
          have c13b1 : decide (1 ≤ (x0_1.size : Int)) = true := decide_eq_true c13
          clear c13
          have H' := Aside0.mk H
          clear H
          have p11 : 0 ≤ (0 : Int) := (by omega)
          have q11 : 0 < x0_1.size := (by have : (0 : Int) < (x0_1.size : Int) := of_decide_eq_true (by first | (with_reducible assumption) | assumption); omega)
          have hx11 : ∀ h : 0 < x0_1.size, ((x0_1[0]'h).toNat : Int) = bt x0_1 0 := bt_at x0_1 0
          clear p11
          have qi11 : (0 < (x0_1.size : Int)) = True := eq_true (of_decide_eq_true (by first | (with_reducible assumption) | assumption))
          replace q11 := eq_true q11
          go_wp2
          go_roundg kj2
          case measure => have := HK1.out; have := HJ2.out; omega
          case rel => exact ⟨(x0_1.extract 1 x0_1.size), (wrap64 (x4_1 + 1)), (by first | rfl | (simp; done) | (simp [*]; done)), (by first | rfl | (simp; done) | (simp [*]; done)), H', ⟨by have := HK1.out; have := HJ2.out; omega⟩, by repeat (first | exact Drawn0.refl _ | apply Drawn0.step)⟩
         ·rw [if_neg c13] at H
          exact absurd H (by simp)
        ·rw [if_neg c12] at H
         have c12b0 : ((bt x0_1 0) == 49) = false := beq_eq_false_iff_ne.mpr c12
         have c12b1 : ((bt x0_1 0) != 49) = true := bne_iff_ne.mpr c12
         by_cases c14 : 1 ≤ (x0_1.size : Int)
         ·rw [if_pos c14] at H
          have c14b0 := eq_true c14
          have c14b1 : decide (1 ≤ (x0_1.size : Int)) = true := decide_eq_true c14
          clear c14
          have H' := Aside0.mk H
          clear H
          have p11 : 0 ≤ (0 : Int) := (by omega)
          have q11 : 0 < x0_1.size := (by have : (0 : Int) < (x0_1.size : Int) := of_decide_eq_true (by first | (with_reducible assumption) | assumption); omega)
          have hx11 : ∀ h : 0 < x0_1.size, ((x0_1[0]'h).toNat : Int) = bt x0_1 0 := bt_at x0_1 0
          clear p11
          have qi11 : (0 < (x0_1.size : Int)) = True := eq_true (of_decide_eq_true (by first | (with_reducible assumption) | assumption))
          replace q11 := eq_true q11
          go_wp2
          go_roundg kj2
          case measure => have := HK1.out; have := HJ2.out; omega
          case rel => exact ⟨(x0_1.extract 1 x0_1.size), (wrap64 (x4_1 - 1)), (by first | rfl | (simp; done) | (simp [*]; done)), (by first | rfl | (simp; done) | (simp [*]; done)), H', ⟨by have := HK1.out; have := HJ2.out; omega⟩, by repeat (first | exact Drawn0.refl _ | apply Drawn0.step)⟩
         ·rw [if_neg c14] at H
          exact absurd H (by simp)
       ·rw [if_neg c10] at H
        exact absurd H (by simp)
   ·rw [if_neg c2] at H
    have c2b0 : decide (0 < x4_1) = false := decide_eq_false c2
    clear c2
    simp only [Option.some.injEq, Prod.mk.injEq] at H
    obtain ⟨rfl, rfl⟩ := H
    go_wp2
    go_ret2
    exact ⟨by first | rfl | (simp; done) | (simp [*]; done), by repeat (first | exact Drawn0.refl _ | apply Drawn0.step)⟩

/-! ### impl_IsBinary: function 38 -/
def impl_IsBinary.f (k : Nat) (a0 : ByteArray) : Option (Bool) := if (a0.size : Int) > 47 then (some false) else ((impl_endBinary.f k a0).bind fun bt130 => (if bt130.2 = true then (some (bt130.1.toList == ([] : List UInt8))) else (some false)))
theorem impl_IsBinary.mono : ∀ a0 k, LeO (impl_IsBinary.f k a0) (impl_IsBinary.f (k + 1) a0) := by
 intro a0 k
 unfold impl_IsBinary.f
 repeat' first
   | (with_reducible exact impl_endBinary.mono _ _)
   | (with_reducible exact LeO.refl _)
   | (with_reducible exact LeO.none _)
   | (with_reducible refine LeO.ite ?_ ?_)
   | (with_reducible refine LeO.bind ?_ (fun _ => ?_))
   | exact impl_endBinary.mono _ _
   | exact LeO.none _
   | refine LeO.ite ?_ ?_
   | refine LeO.bind ?_ (fun _ => ?_)
set_option maxHeartbeats 8000000 in
set_option maxRecDepth 100000 in
theorem impl_IsBinary.calls (k : Nat) (a0 : ByteArray) (r : Bool) (w : World) (h : impl_IsBinary.f k a0 = some r) :
  Calls Try.prog 38 #[.string a0] w fun e w' => e = .returned (.bool r) ∧ Drawn0 w w' := by
 have H : (if (a0.size : Int) > 47 then (some false) else ((impl_endBinary.f k a0).bind fun bt130 => (if bt130.2 = true then (some (bt130.1.toList == ([] : List UInt8))) else (some false)))) = some r := h
 clear h
 by_cases c2 : (a0.size : Int) > 47
 ·rw [if_pos c2] at H
  have c2b0 : decide (47 < (a0.size : Int)) = true := decide_eq_true c2
  have c2b1 : decide (47 < a0.size) = true := decide_eq_true (by omega)
  clear c2
  obtain rfl := Option.some.inj H
  go_enter Try.func38, Try.ntmps38
  go_wp2
  go_ret
  exact ⟨by first | rfl | (simp; done) | (simp [*]; done), by repeat (first | exact Drawn0.refl _ | apply Drawn0.step)⟩
 ·rw [if_neg c2] at H
  have c2b0 : decide (47 < (a0.size : Int)) = false := decide_eq_false c2
  have c2b1 : decide (47 < a0.size) = false := decide_eq_false (by omega)
  clear c2
  replace H := Option.bind_eq_some_iff.mp H
  obtain ⟨⟨t130, t131⟩, A30, H⟩ := H
  replace H : (if t131 = true then (some (t130.toList == ([] : List UInt8))) else (some false)) = some r := H
  have A3 := Aside0.mk A30
  clear A30
  by_cases c4 : t131 = true
  ·subst c4
   have H1 : (some (t130.toList == ([] : List UInt8))) = some r := by rw [if_pos rfl] at H; exact H
   clear H
   have H := H1
   clear H1
   obtain rfl := Option.some.inj H
   go_enter Try.func38, Try.ntmps38
   go_wp2_with (first | ((with_reducible refine gate_callee (f := 58) rfl ?_); refine goesL_ (some 10) rfl rfl Try.func58 (by kernel_rfl) rfl #[.string a0] rfl (by (try simp only [List.map_toArray, List.map_cons, List.map_nil]); first | done | rfl | (simp only [List.length_drop, List.length_take]; rfl)) ?_; (with_reducible refine (impl_endBinary.calls k a0 t130 true _ A3.out).mono ?_); rintro e w' ⟨rfl, ⟨nd, rfl⟩⟩; refine ⟨_, rfl, ?_⟩))
   go_ret
   exact ⟨by first | rfl | (simp; done) | (simp [*]; done), by repeat (first | exact Drawn0.refl _ | apply Drawn0.step)⟩
  ·replace c4 := Bool.eq_false_iff.mpr c4
   subst c4
   have H1 : (some false) = some r := by rw [if_neg (show ¬ (false = true) by decide)] at H; exact H
   clear H
   have H := H1
   clear H1
   obtain rfl := Option.some.inj H
   go_enter Try.func38, Try.ntmps38
   go_wp2_with (first | ((with_reducible refine gate_callee (f := 58) rfl ?_); refine goesL_ (some 10) rfl rfl Try.func58 (by kernel_rfl) rfl #[.string a0] rfl (by (try simp only [List.map_toArray, List.map_cons, List.map_nil]); first | done | rfl | (simp only [List.length_drop, List.length_take]; rfl)) ?_; (with_reducible refine (impl_endBinary.calls k a0 t130 false _ A3.out).mono ?_); rintro e w' ⟨rfl, ⟨nd, rfl⟩⟩; refine ⟨_, rfl, ?_⟩))
   go_ret
   exact ⟨by first | rfl | (simp; done) | (simp [*]; done), by repeat (first | exact Drawn0.refl _ | apply Drawn0.step)⟩

/-! ### impl_nodesOf: function 39 -/
def impl_nodesOf.f (a0 : ByteArray) : Option (Int) := some (wrap64 ((a0.size : Int) / 2))
set_option maxHeartbeats 8000000 in
set_option maxRecDepth 100000 in
theorem impl_nodesOf.calls (a0 : ByteArray) (r : Int) (w : World) (h : impl_nodesOf.f a0 = some r) :
  Calls Try.prog 39 #[.string a0] w fun e w' => e = .returned (.int .i64 r) ∧ Drawn0 w w' := by
 have H : (some (wrap64 ((a0.size : Int) / 2))) = some r := h
 clear h
 obtain rfl := Option.some.inj H
 go_enter Try.func39, Try.ntmps39
 go_wp2
 go_ret
 exact ⟨by first | rfl | (simp; done) | (simp [*]; done), by repeat (first | exact Drawn0.refl _ | apply Drawn0.step)⟩

/-! ### impl_sides: function 41 -/
def impl_sides.f (k : Nat) (a0 : ByteArray) : Option (ByteArray × ByteArray) := if 1 ≤ (a0.size : Int) then ((impl_endBinary.f k (a0.extract 1 a0.size)).bind fun bt132 => (if 1 ≤ (wrap64 ((a0.size : Int) - (bt132.1.size : Int))) then (if (wrap64 ((a0.size : Int) - (bt132.1.size : Int))) ≤ (a0.size : Int) then (some (a0.extract 1 ((wrap64 ((a0.size : Int) - (bt132.1.size : Int))) : Int).toNat, bt132.1)) else (none)) else (none))) else (none)
theorem impl_sides.mono : ∀ a0 k, LeO (impl_sides.f k a0) (impl_sides.f (k + 1) a0) := by
 intro a0 k
 unfold impl_sides.f
 repeat' first
   | (with_reducible exact impl_endBinary.mono _ _)
   | (with_reducible exact LeO.refl _)
   | (with_reducible exact LeO.none _)
   | (with_reducible refine LeO.ite ?_ ?_)
   | (with_reducible refine LeO.bind ?_ (fun _ => ?_))
   | exact impl_endBinary.mono _ _
   | exact LeO.none _
   | refine LeO.ite ?_ ?_
   | refine LeO.bind ?_ (fun _ => ?_)
set_option maxHeartbeats 8000000 in
set_option maxRecDepth 100000 in
theorem impl_sides.calls (k : Nat) (a0 : ByteArray) (r1 : ByteArray) (r2 : ByteArray) (w : World) (h : impl_sides.f k a0 = some (r1, r2)) :
  Calls Try.prog 41 #[.string a0] w fun e w' => e = .returned (.tuple #[.string r1, .string r2]) ∧ Drawn0 w w' := by
 have H : (if 1 ≤ (a0.size : Int) then ((impl_endBinary.f k (a0.extract 1 a0.size)).bind fun bt132 => (if 1 ≤ (wrap64 ((a0.size : Int) - (bt132.1.size : Int))) then (if (wrap64 ((a0.size : Int) - (bt132.1.size : Int))) ≤ (a0.size : Int) then (some (a0.extract 1 ((wrap64 ((a0.size : Int) - (bt132.1.size : Int))) : Int).toNat, bt132.1)) else (none)) else (none))) else (none)) = some (r1, r2) := h
 clear h
 by_cases c2 : 1 ≤ (a0.size : Int)
 ·rw [if_pos c2] at H
  have c2b0 := eq_true c2
  have c2b1 : decide (1 ≤ (a0.size : Int)) = true := decide_eq_true c2
  clear c2
  replace H := Option.bind_eq_some_iff.mp H
  obtain ⟨⟨t132, t133⟩, A30, H⟩ := H
  replace H : (if 1 ≤ (wrap64 ((a0.size : Int) - (t132.size : Int))) then (if (wrap64 ((a0.size : Int) - (t132.size : Int))) ≤ (a0.size : Int) then (some (a0.extract 1 ((wrap64 ((a0.size : Int) - (t132.size : Int))) : Int).toNat, t132)) else (none)) else (none)) = some (r1, r2) := H
  have A3 := Aside0.mk A30
  clear A30
  by_cases c4 : 1 ≤ (wrap64 ((a0.size : Int) - (t132.size : Int)))
  ·rw [if_pos c4] at H
   have c4b0 := eq_true c4
   have c4b1 : decide (1 ≤ (wrap64 ((a0.size : Int) - (t132.size : Int)))) = true := decide_eq_true c4
   clear c4
   by_cases c5 : (wrap64 ((a0.size : Int) - (t132.size : Int))) ≤ (a0.size : Int)
   ·rw [if_pos c5] at H
    have c5b0 := eq_true c5
    have c5b1 : decide ((wrap64 ((a0.size : Int) - (t132.size : Int))) ≤ (a0.size : Int)) = true := decide_eq_true c5
    clear c5
    simp only [Option.some.injEq, Prod.mk.injEq] at H
    obtain ⟨rfl, rfl⟩ := H
    go_enter Try.func41, Try.ntmps41
    go_wp2_with (first | ((with_reducible refine gate_callee (f := 58) rfl ?_); refine goesL_ (some 9) rfl rfl Try.func58 (by kernel_rfl) rfl #[.string (a0.extract 1 a0.size)] rfl (by (try simp only [List.map_toArray, List.map_cons, List.map_nil]); first | done | rfl | (simp only [List.length_drop, List.length_take]; rfl)) ?_; (with_reducible refine (impl_endBinary.calls k (a0.extract 1 a0.size) t132 t133 _ A3.out).mono ?_); rintro e w' ⟨rfl, ⟨nd, rfl⟩⟩; refine ⟨_, rfl, ?_⟩))
    go_ret2
    exact ⟨by first | rfl | (simp; done) | (simp [*]; done), by repeat (first | exact Drawn0.refl _ | apply Drawn0.step)⟩
   ·rw [if_neg c5] at H
    exact absurd H (by simp)
  ·rw [if_neg c4] at H
   exact absurd H (by simp)
 ·rw [if_neg c2] at H
  exact absurd H (by simp)

/-! ### impl_ListOfDecreasing: function 19 -/
section
variable {P : Program} {ops : Array Oper} {a : Act} {Q : Exit → Act → World → Prop} {w : World}
/-- A call, by what it enters and its contract, as an arm of the walk. -/
theorem callL_ {rest : List Oper} {oi : Oper} (N : Option Tmp) (hd : oi.dst = N) (hg : oi.guard = none) (f : FuncId) (args : Array Value) (hrun : (execOp a.eval oi).run P w = .ok (.enter f args) w)
  (h : Calls P f args w fun e w' => ∃ v, e = .returned v ∧ wpList P ops Q rest (a.put N v) w') : wpList P ops Q (oi :: rest) a w := by
 refine wpList_plain hg fun K hK => ?_
 unfold Oper.wp
 rw [hrun, Oper.upon_enter]
 refine h.mono fun e w'' hh => ?_
 obtain ⟨v, rfl, hk⟩ := hh
 subst hd
 exact hK _ _ hk
end
/-- The function that the program calls upon itself. -/
def impl_ListOfDecreasing.w (k : Nat) : Nat → ByteArray → Int → Int → List Int → Option (Int × List Int)
 | 0, _, _, _, _ => none
 | m + 1, s, from_, next, L => if s.toList = ([48] : List UInt8) then some (next, L) else (impl_sides.f k s).bind fun b => (impl_nodesOf.f b.1).bind fun n => if 0 ≤ wrap64 (from_ + n) then (if wrap64 (from_ + n) < (L.length : Int) then (impl_ListOfDecreasing.w k m b.1 from_ (wrap64 (next - 1)) (L.set (wrap64 (from_ + n)).toNat next)).bind fun q => impl_ListOfDecreasing.w k m b.2 (wrap64 (wrap64 (from_ + n) + 1)) q.1 q.2 else none) else none
def FW (bn bo bw : Nat) : Value := .func (.func 40) #[] #[.pointer (some ⟨bn, 0, none⟩), .pointer (some ⟨bo, 0, none⟩), .pointer (some ⟨bw, 0, none⟩)]
/-- The captured variables. -/
def CS (base bn bo bw : Nat) (A : Option Addr) (N c : Nat) (w : World) (next : Int) (L : List Int) : Prop :=
 w.heap[bn]? = some (.cells #[.int .i64 next] 2 (0, 0)) ∧ w.heap[bo]? = some (.cells #[.slice A N c] 22 (0, 0)) ∧ w.heap[bw]? = some (.cells #[FW bn bo bw] 55 (0, 0)) ∧ Kd.R (Kd.int .i64) 2 w base (fun k_ => k_ ≠ bn) (.slice A N c) L ∧ L.length = N ∧ base ≤ bn
def SS (bn : Nat) (v : Value) (k_ : Nat) : Prop := k_ = bn ∨ some k_ = v.ownBlock
def WPost (base bn bo bw : Nat) (A : Option Addr) (N c : Nat) (w : World) (r : Int × List Int) (e : Ending) (w' : World) : Prop :=
 e = .returned (.tuple #[]) ∧ CS base bn bo bw A N c w' r.1 r.2 ∧ Below base w w' ∧ Kept w w' (SS bn (.slice A N c))
theorem CS.below {base bn bo bw : Nat} {A : Option Addr} {N c : Nat} {w w' : World} {next : Int} {L : List Int} (h : CS base bn bo bw A N c w next L) (hb : Below w.heap.size w w') : CS base bn bo bw A N c w' next L :=
 ⟨blk_below h.1 hb, blk_below h.2.1 hb, blk_below h.2.2.1 hb, Kd.R_below h.2.2.2.1 hb, h.2.2.2.2⟩
theorem CS.lt {base bn bo bw : Nat} {A : Option Addr} {N c : Nat} {w : World} {next : Int} {L : List Int} (h : CS base bn bo bw A N c w next L) : base ≤ w.heap.size := Nat.le_trans h.2.2.2.2.2 (Nat.le_of_lt (blk_lt h.1))
/-- The next number. -/
theorem CS.next {base bn bo bw : Nat} {A : Option Addr} {N c : Nat} {w : World} {next : Int} {L : List Int} (h : CS base bn bo bw A N c w next L) (x : Int) : CS base bn bo bw A N c (w.setCell ⟨bn, 0, none⟩ (.int .i64 x)) x L ∧ Below base w (w.setCell ⟨bn, 0, none⟩ (.int .i64 x)) ∧ Kept w (w.setCell ⟨bn, 0, none⟩ (.int .i64 x)) (SS bn (.slice A N c)) := by
 obtain ⟨h1, h2, h3, h4, h5, h6⟩ := h
 have n2 : bo ≠ bn := by intro e; rw [e, h1] at h2; injection h2 with h2; injection h2 with _ h2; exact absurd h2 (by decide)
 have n3 : bw ≠ bn := by intro e; rw [e, h1] at h3; injection h3 with h3; injection h3 with _ h3; exact absurd h3 (by decide)
 exact ⟨⟨(blk_set h1 0 _).trans rfl, (Below.heap_setCell _ _ _ _ n2).trans h2, (Below.heap_setCell _ _ _ _ n3).trans h3, Kd.R_far (p := ⟨bn, 0, none⟩) h4 (fun k hk => hk) _, h5, h6⟩, (Below.refl base w).setCell h6 _, (Kept.refl w _).setCell (.inl (.inl rfl)) _⟩
/-- A number of the list. -/
theorem CS.store {base bn bo bw : Nat} {A : Option Addr} {N c : Nat} {w : World} {next : Int} {L : List Int} (h : CS base bn bo bw A N c w next L) {i : Int} (h0 : 0 ≤ i) (hi : i < (L.length : Int)) (x : Int) : ∃ g, A = some ⟨g, 0, none⟩ ∧ w.cell? ⟨g, i.toNat, none⟩ = some (.int .i64 (rd L i)) ∧ w.frozen? ⟨g, i.toNat, none⟩ = false ∧ (i < (N : Int)) ∧
  CS base bn bo bw A N c (w.setCell ⟨g, i.toNat, none⟩ (.int .i64 x)) next (L.set i.toNat x) ∧ Below base w (w.setCell ⟨g, i.toNat, none⟩ (.int .i64 x)) ∧ Kept w (w.setCell ⟨g, i.toNat, none⟩ (.int .i64 x)) (SS bn (.slice A N c)) := by
 obtain ⟨h1, h2, h3, h4, h5, h6⟩ := h
 obtain ⟨g, cap, hv, hb, hl, _⟩ := Kd.R_form h4 (by omega)
 injection hv with hA hN hc
 subst hA
 subst hc
 have n1 : bn ≠ g := fun e => h4.1 g rfl e.symm
 have n2 : bo ≠ g := fun e => Kd.R_ne h4 h2 (by decide) (by rw [e]; rfl)
 have n3 : bw ≠ g := fun e => Kd.R_ne h4 h3 (by decide) (by rw [e]; rfl)
 have hc := Kd.R_celln 0 h4 i h0 (by rw [← h5]; exact hi)
 have hp := Kd.R_putg h4 i x
 exact ⟨g, rfl, hc.1, hc.2, by rw [← h5]; exact hi, ⟨(Below.heap_setCell _ _ _ _ n1).trans h1, (Below.heap_setCell _ _ _ _ n2).trans h2, (Below.heap_setCell _ _ _ _ n3).trans h3, hp.1, by rw [List.length_set]; exact h5, h6⟩, (Below.refl base w).setCell hb _, (Kept.refl w _).setCell (.inl (.inr rfl)) _⟩

set_option maxHeartbeats 8000000 in
set_option maxRecDepth 100000 in
theorem impl_ListOfDecreasing.walk (k base bn bo bw : Nat) (A : Option Addr) (N c : Nat) : ∀ (m : Nat) (s : ByteArray) (from_ next : Int) (L : List Int) (r : Int × List Int) (w : World), impl_ListOfDecreasing.w k m s from_ next L = some r → CS base bn bo bw A N c w next L →
  Calls Try.prog 40 #[.string s, .int .i64 from_, .pointer (some ⟨bn, 0, none⟩), .pointer (some ⟨bo, 0, none⟩), .pointer (some ⟨bw, 0, none⟩)] w (WPost base bn bo bw A N c w r) := by
 intro m
 induction m with
 | zero => intro s from_ next L r w h _; cases h
 | succ m ih =>
  intro s from_ next L r w h hC
  unfold impl_ListOfDecreasing.w at h
  by_cases c3 : s.toList = ([48] : List UInt8)
  ·rw [if_pos c3] at h
   obtain rfl := Option.some.inj h
   have HC := Aside0.mk hC
   have c3b0 : (s.toList == ([48] : List UInt8)) = true := beq_iff_eq.mpr c3
   have c3b1 : (s.toList != ([48] : List UInt8)) = false := bne_eq_false_iff_eq.mpr c3
   clear h hC ih c3
   go_enter Try.func40, Try.ntmps40
   go_wp2
   refine bodyPost_ret (v := .tuple #[]) (by simp [results, Try.results40, go_sem]) rfl ⟨rfl, HC.out, Below.refl _ _, Kept.refl _ _⟩
  ·rw [if_neg c3] at h
   have c3b0 : (s.toList == ([48] : List UInt8)) = false := beq_eq_false_iff_ne.mpr c3
   have c3b1 : (s.toList != ([48] : List UInt8)) = true := bne_iff_ne.mpr c3
   clear c3
   obtain ⟨⟨b1, b2⟩, hs, h⟩ := Option.bind_eq_some_iff.mp h
   obtain ⟨n, hn, h⟩ := Option.bind_eq_some_iff.mp h
   dsimp only at hn h
   by_cases c1 : 0 ≤ wrap64 (from_ + n)
   rotate_left
   ·rw [if_neg c1] at h; cases h
   rw [if_pos c1] at h
   by_cases c2 : wrap64 (from_ + n) < (L.length : Int)
   rotate_left
   ·rw [if_neg c2] at h; cases h
   rw [if_pos c2] at h
   obtain ⟨⟨q1, q2⟩, hq, h⟩ := Option.bind_eq_some_iff.mp h
   dsimp only at h
   obtain ⟨i, hi⟩ : ∃ i, wrap64 (from_ + n) = i := ⟨_, rfl⟩
   rw [hi] at c1 c2 hq h
   have HI := Aside0.mk hi
   have HS := Aside0.mk hs
   have HN := Aside0.mk hn
   have HQ := Aside0.mk hq
   have HH := Aside0.mk h
   have HC := Aside0.mk hC
   have IH := Aside0.mk ih
   have C1 := Aside0.mk c1
   have C2 := Aside0.mk c2
   clear hs hn hq h hC ih c1 c2 hi
   go_enter Try.func40, Try.ntmps40
   go_wp2_with ((with_reducible refine gate_dst (N := 13) rfl ?_); refine goesL_ (some 13) rfl rfl Try.func41 (by kernel_rfl) rfl #[.string s] rfl (by (try simp only [List.map_toArray, List.map_cons, List.map_nil]); first | done | rfl) ?_; refine (impl_sides.calls k s b1 b2 _ HS.out).mono ?_; rintro e w1 ⟨rfl, hd⟩; refine ⟨_, rfl, ?_⟩; have hb := hd.below; have HC1 := Aside0.mk (HC.out.below hb); have HB := Aside0.mk (hb.mono HC.out.lt); have HK := Aside0.mk (Kept.of_below (S := SS bn (.slice A N c)) hb); clear hd hb)
   have n0_ := Aside0.mk (HC1.out.below (below_drew1 (Below.refl _ _)))
   have n1_ := Aside0.mk (below_drew1 HB.out)
   have n2_ := Aside0.mk HK.out.drew
   clear HC1 HB HK
   have HC1 := n0_
   have HB := n1_
   have HK := n2_
   clear n0_ n1_ n2_
   refine start_ (n := 8) (S := fun w' => w'.cell? ⟨bo, 0, none⟩ = some (.slice A N c) ∧ w'.cell? ⟨bn, 0, none⟩ = some (.int .i64 next)) (ds := [7]) #[false, false, false, false, false, false, false, false] (by kernel_rfl) rfl rfl (⟨(blk_cell HC1.out.2.1 0).trans rfl, (blk_cell HC1.out.1 0).trans rfl⟩) (fun hHeld => ?_)
   generalize w1.drew = w2 at HC1 HB HK hHeld ⊢
   refine pure_ (i := 1) (N := some 17) (v := ?_) (a' := ?_) #[false, true, false, false, false, false, false, false] rfl rfl (by kernel_rfl) (fun _ _ _ h => h) (Or.inl ⟨by rfl, ?_⟩) ?_ ?_
   rotate_left
   ·intro w'
    go_simp
    with_reducible rfl
   rotate_left
   ·simp only [Act.put, sIB, sc0, scs, i64_w, i32_w]
    rfl
   refine pure_ (i := 2) (N := some 18) (v := ?_) (a' := ?_) #[false, true, true, false, false, false, false, false] rfl rfl (by kernel_rfl) (fun _ _ _ h => h) (Or.inl ⟨by rfl, ?_⟩) ?_ ?_
   rotate_left
   ·intro w'
    go_simp
    with_reducible rfl
   rotate_left
   ·simp only [Act.put, sIB, sc0, scs, i64_w, i32_w]
    rfl
   refine take_ (i := 0) (N := some 16) (v := ?_) (a' := ?_) #[true, true, true, false, false, false, false, false] rfl rfl (by kernel_rfl) (fun _ _ _ h => h) (Or.inl ⟨by rfl, ?_⟩) hHeld ?_ ?_
   rotate_left
   ·rintro w' ⟨s0, s1⟩
    go_simp
    with_reducible rfl
   rotate_left
   ·simp only [Act.put, sIB, sc0, scs, i64_w, i32_w]
    rfl
   refine take_ (i := 5) (N := some 21) (v := ?_) (a' := ?_) #[true, true, true, false, false, true, false, false] rfl rfl (by kernel_rfl) (fun _ _ _ h => h) (Or.inl ⟨by rfl, ?_⟩) hHeld ?_ ?_
   rotate_left
   ·rintro w' ⟨s0, s1⟩
    go_simp
    with_reducible rfl
   rotate_left
   ·simp only [Act.put, sIB, sc0, scs, i64_w, i32_w]
    rfl
   refine one_ (i := 3) (N := some 19) #[true, true, true, true, false, true, false, false] rfl rfl (by kernel_rfl) (by decide) (fun K hK => ?_)
   refine goes_ Try.func39 (by kernel_rfl) rfl #[.string b1] (by rfl) rfl rfl (by (try simp only [List.map_toArray, List.map_cons, List.map_nil]); first | done | rfl) ?_
   refine (impl_nodesOf.calls b1 n _ HN.out).mono ?_
   rintro e w3 ⟨rfl, hd⟩
   refine ⟨_, rfl, ?_⟩
   have hb := hd.below
   have n0_ := Aside0.mk (HC1.out.below hb)
   have n1_ := Aside0.mk (HB.out.trans (hb.mono HC1.out.lt))
   have n2_ := Aside0.mk (HK.out.below hb)
   clear HC1 HB HK hd hb
   have HC1 := n0_
   have HB := n1_
   have HK := n2_
   clear n0_ n1_ n2_
   refine hK.out _ _ ⟨(blk_cell HC1.out.2.1 0).trans rfl, (blk_cell HC1.out.1 0).trans rfl⟩ (fun hHeld => ?_)
   clear hK K
   refine norm_ (a' := ?_) ?_ ?_
   rotate_left
   ·show Act.put _ (some 19) _ = _
    simp only [Act.put, sIB, sc0, scs, i64_w, i32_w]
    rfl
   refine pure_ (i := 4) (N := some 20) (v := ?_) (a' := ?_) #[true, true, true, true, true, true, false, false] rfl rfl (by kernel_rfl) (fun _ _ _ h => h) (Or.inl ⟨by rfl, ?_⟩) ?_ ?_
   rotate_left
   ·intro w'
    go_simp
    with_reducible rfl
   rotate_left
   ·simp only [Act.put, sIB, sc0, scs, i64_w, i32_w]
    rfl
   obtain ⟨g, hA, hcc, hff, hiN, hC4, hB4, hK4⟩ := HC1.out.store C1.out C2.out next
   subst hA
   have hi0 := C1.out
   have hi1 := HI.out
   have HC4 := Aside0.mk hC4
   have HB4 := Aside0.mk (HB.out.trans hB4)
   have HK4 := Aside0.mk (HK.out.then_ hK4 (fun _ h => .inl h))
   clear hC4 hB4 hK4 HC1 HB HK
   refine pure_ (i := 6) (N := some 22) (v := ?_) (a' := ?_) #[true, true, true, true, true, true, true, false] rfl rfl (by kernel_rfl) (fun _ _ _ h => h) (Or.inl ⟨by rfl, ?_⟩) ?_ ?_
   rotate_left
   ·intro w'
    go_simp
    with_reducible rfl
   rotate_left
   ·simp only [Act.put, sIB, sc0, scs, i64_w, i32_w]
    rfl
   refine last_ (i := 7) (N := none) #[true, true, true, true, true, true, true, true] rfl rfl (by kernel_rfl) (by decide) (fun K hK => ?_)
   refine skip_ (w1 := w3.setCell ⟨g, i.toNat, none⟩ (.int .i64 next)) (by rfl) rfl (by go_simp) ?_
   clear hcc hff hHeld
   refine hK.out _ _ ?_
   clear hK K
   refine done_ (by kernel_rfl) ?_

   generalize w3.setCell ⟨g, i.toNat, none⟩ (Value.int IntKind.i64 next) = w4 at HC4 HB4 HK4 ⊢
   obtain ⟨hC5, hB5, hK5⟩ := HC4.out.next (wrap64 (next - 1))
   have hc0 := (blk_cell HC4.out.1 0).trans (rfl : _ = some (Value.int .i64 next))
   have hf0 := blk_frozen HC4.out.1 0
   have hcw := (blk_cell hC5.2.2.1 0).trans (rfl : _ = some (FW bn bo bw))
   have HC5 := Aside0.mk hC5
   have HB5 := Aside0.mk (HB4.out.trans hB5)
   have HK5 := Aside0.mk (HK4.out.then_ hK5 (fun _ h => .inl h))
   clear hC5 hB5 hK5 HC4 HB4 HK4
   go_wp2_with ((with_reducible refine gate_dst (N := 28) rfl ?_); refine callL_ (some 28) rfl rfl 40 #[.string b1, .int .i64 from_, .pointer (some ⟨bn, 0, none⟩), .pointer (some ⟨bo, 0, none⟩), .pointer (some ⟨bw, 0, none⟩)] ?_ ?_; (next => (have he := enters_ Try.func40 (by kernel_rfl) rfl #[.string b1, .int .i64 from_, .pointer (some ⟨bn, 0, none⟩), .pointer (some ⟨bo, 0, none⟩), .pointer (some ⟨bw, 0, none⟩)] (w4.setCell ⟨bn, 0, none⟩ (Value.int IntKind.i64 (wrap64 (next - 1)))); unfold execOp; simp [FW, resolve, Deferred.ofValue, invoke, Act.eval, go_sem, he]; done)); refine (IH.out b1 from_ (wrap64 (next - 1)) (L.set i.toNat next) (q1, q2) _ HQ.out HC5.out).mono ?_; rintro e w6 ⟨rfl, hC, hb, hk⟩; refine ⟨_, rfl, ?_⟩; have HC6 := Aside0.mk hC; have HB6 := Aside0.mk (HB5.out.trans hb); have HK6 := Aside0.mk (HK5.out.then_ hk (fun _ h => .inl h)); clear hC hb hk HC5 HB5 HK5 hc0 hf0 hcw)
   have n0_ := Aside0.mk (HC6.out.below (below_drew1 (Below.refl _ _)))
   have n1_ := Aside0.mk (below_drew1 HB6.out)
   have n2_ := Aside0.mk HK6.out.drew
   clear HC6 HB6 HK6
   have HC1 := n0_
   have HB := n1_
   have HK := n2_
   clear n0_ n1_ n2_
   refine start_ (n := 8) (S := fun w' => w'.cell? ⟨bw, 0, none⟩ = some (FW bn bo bw)) (ds := []) #[false, false, false, false, false, false, false, false] (by kernel_rfl) rfl rfl (((blk_cell HC1.out.2.2.1 0).trans rfl)) (fun hHeld => ?_)
   refine pure_ (i := 1) (N := some 30) (v := ?_) (a' := ?_) #[false, true, false, false, false, false, false, false] rfl rfl (by kernel_rfl) (fun _ _ _ h => h) (Or.inl ⟨by rfl, ?_⟩) ?_ ?_
   rotate_left
   ·intro w'
    go_simp
    with_reducible rfl
   rotate_left
   ·simp only [Act.put, sIB, sc0, scs, i64_w, i32_w]
    rfl
   refine pure_ (i := 2) (N := some 31) (v := ?_) (a' := ?_) #[false, true, true, false, false, false, false, false] rfl rfl (by kernel_rfl) (fun _ _ _ h => h) (Or.inl ⟨by rfl, ?_⟩) ?_ ?_
   rotate_left
   ·intro w'
    go_simp
    with_reducible rfl
   rotate_left
   ·simp only [Act.put, sIB, sc0, scs, i64_w, i32_w]
    rfl
   refine pure_ (i := 3) (N := some 32) (v := ?_) (a' := ?_) #[false, true, true, true, false, false, false, false] rfl rfl (by kernel_rfl) (fun _ _ _ h => h) (Or.inl ⟨by rfl, ?_⟩) ?_ ?_
   rotate_left
   ·intro w'
    go_simp
    with_reducible rfl
   rotate_left
   ·simp only [Act.put, sIB, sc0, scs, i64_w, i32_w]
    rfl
   refine take_ (i := 0) (N := some 29) (v := ?_) (a' := ?_) #[true, true, true, true, false, false, false, false] rfl rfl (by kernel_rfl) (fun _ _ _ h => h) (Or.inl ⟨by rfl, ?_⟩) hHeld ?_ ?_
   rotate_left
   ·rintro w' s0
    go_simp
    with_reducible rfl
   rotate_left
   ·simp only [Act.put, sIB, sc0, scs, i64_w, i32_w]
    rfl
   refine one_ (i := 4) (N := some 33) #[true, true, true, true, true, false, false, false] rfl rfl (by kernel_rfl) (by decide) (fun K hK => ?_)
   refine goes_ Try.func39 (by kernel_rfl) rfl #[.string b1] (by rfl) rfl rfl (by (try simp only [List.map_toArray, List.map_cons, List.map_nil]); first | done | rfl) ?_
   refine (impl_nodesOf.calls b1 n _ HN.out).mono ?_
   rintro e w8 ⟨rfl, hd⟩
   refine ⟨_, rfl, ?_⟩
   have hb := hd.below
   have n0_ := Aside0.mk (HC1.out.below hb)
   have n1_ := Aside0.mk (HB.out.trans (hb.mono HC1.out.lt))
   have n2_ := Aside0.mk (HK.out.below hb)
   clear HC1 HB HK hd hb
   have HC1 := n0_
   have HB := n1_
   have HK := n2_
   clear n0_ n1_ n2_
   refine hK.out _ _ ((blk_cell HC1.out.2.2.1 0).trans rfl) (fun hHeld => ?_)
   clear hK K
   refine norm_ (a' := ?_) ?_ ?_
   rotate_left
   ·show Act.put _ (some 33) _ = _
    simp only [Act.put, sIB, sc0, scs, i64_w, i32_w]
    rfl
   refine pure_ (i := 5) (N := some 34) (v := ?_) (a' := ?_) #[true, true, true, true, true, true, false, false] rfl rfl (by kernel_rfl) (fun _ _ _ h => h) (Or.inl ⟨by rfl, ?_⟩) ?_ ?_
   rotate_left
   ·intro w'
    go_simp
    with_reducible rfl
   rotate_left
   ·simp only [Act.put, sIB, sc0, scs, i64_w, i32_w]
    rfl
   refine pure_ (i := 6) (N := some 35) (v := ?_) (a' := ?_) #[true, true, true, true, true, true, true, false] rfl rfl (by kernel_rfl) (fun _ _ _ h => h) (Or.inl ⟨by rfl, ?_⟩) ?_ ?_
   rotate_left
   ·intro w'
    go_simp
    with_reducible rfl
   rotate_left
   ·simp only [Act.put, sIB, sc0, scs, i64_w, i32_w]
    rfl
   refine one_ (i := 7) (N := some 36) #[true, true, true, true, true, true, true, true] rfl rfl (by kernel_rfl) (by decide) (fun K hK => ?_)
   refine call_ 40 #[.string b2, .int .i64 (wrap64 (i + 1)), .pointer (some ⟨bn, 0, none⟩), .pointer (some ⟨bo, 0, none⟩), .pointer (some ⟨bw, 0, none⟩)] (by rfl) rfl ?_ ?_
   ·have he := enters_ Try.func40 (by kernel_rfl) rfl #[.string b2, .int .i64 (wrap64 (i + 1)), .pointer (some ⟨bn, 0, none⟩), .pointer (some ⟨bo, 0, none⟩), .pointer (some ⟨bw, 0, none⟩)] w8
    unfold execOp
    simp [FW, resolve, Deferred.ofValue, invoke, Act.eval, go_sem, HI.out, he]
   refine (IH.out b2 (wrap64 (i + 1)) q1 q2 r _ HH.out HC1.out).mono ?_
   rintro e w9 ⟨rfl, hC, hb, hk⟩
   refine ⟨_, rfl, ?_⟩
   have n0_ := Aside0.mk hC
   have n1_ := Aside0.mk (HB.out.trans hb)
   have n2_ := Aside0.mk (HK.out.then_ hk (fun _ h => .inl h))
   clear HC1 HB HK hC hb hk
   have HC1 := n0_
   have HB := n1_
   have HK := n2_
   clear n0_ n1_ n2_
   refine hK.out _ _ ((blk_cell HC1.out.2.2.1 0).trans rfl) (fun hHeld => ?_)
   clear hK K
   refine norm_ (a' := ?_) ?_ ?_
   rotate_left
   ·show Act.put _ (some 36) _ = _
    simp only [Act.put, sIB, sc0, scs, i64_w, i32_w]
    rfl
   refine done_ (by kernel_rfl) ?_

   go_wp2
   refine bodyPost_end (v := .tuple #[]) (by simp [results, Try.results40, go_sem]) rfl ⟨rfl, HC1.out, HB.out, HK.out⟩

def impl_ListOfDecreasing.f (k : Nat) (a0 : ByteArray) : Option (List Int × Int) := (impl_IsBinary.f k a0).bind fun b => if b = true then (impl_nodesOf.f a0).bind fun n => if 0 ≤ n ∧ n ≤ 1000 then (impl_ListOfDecreasing.w k k a0 0 (wrap64 (n - 1)) (List.replicate n.toNat 0)).bind fun q => some (q.2, 0) else none else some ([], 1)
theorem impl_ListOfDecreasing.w_mono (k : Nat) : ∀ (m : Nat) (s : ByteArray) (a b : Int) (L : List Int), LeO (impl_ListOfDecreasing.w k m s a b L) (impl_ListOfDecreasing.w (k + 1) (m + 1) s a b L) := by
 intro m
 induction m with
 | zero => intro s a b L r h; cases h
 | succ m ih =>
  intro s a b L r h
  rw [impl_ListOfDecreasing.w] at h ⊢
  by_cases c : s.toList = ([48] : List UInt8)
  ·rw [if_pos c] at h ⊢; exact h
  ·rw [if_neg c] at h ⊢
   obtain ⟨b1, hs, h⟩ := Option.bind_eq_some_iff.mp h
   obtain ⟨n, hn, h⟩ := Option.bind_eq_some_iff.mp h
   refine Option.bind_eq_some_iff.mpr ⟨b1, impl_sides.mono _ _ _ hs, Option.bind_eq_some_iff.mpr ⟨n, hn, ?_⟩⟩
   by_cases c1 : 0 ≤ wrap64 (a + n)
   ·rw [if_pos c1] at h ⊢
    by_cases c2 : wrap64 (a + n) < (L.length : Int)
    ·rw [if_pos c2] at h ⊢
     obtain ⟨q, hq, h⟩ := Option.bind_eq_some_iff.mp h
     exact Option.bind_eq_some_iff.mpr ⟨q, ih _ _ _ _ _ hq, ih _ _ _ _ _ h⟩
    ·rw [if_neg c2] at h; cases h
   ·rw [if_neg c1] at h; cases h
theorem impl_ListOfDecreasing.mono : ∀ a0 k, LeO (impl_ListOfDecreasing.f k a0) (impl_ListOfDecreasing.f (k + 1) a0) := by
 intro a0 k r h
 unfold impl_ListOfDecreasing.f at h ⊢
 obtain ⟨b, hb, h⟩ := Option.bind_eq_some_iff.mp h
 refine Option.bind_eq_some_iff.mpr ⟨b, impl_IsBinary.mono _ _ _ hb, ?_⟩
 by_cases c : b = true
 ·rw [if_pos c] at h ⊢
  obtain ⟨n, hn, h⟩ := Option.bind_eq_some_iff.mp h
  refine Option.bind_eq_some_iff.mpr ⟨n, hn, ?_⟩
  by_cases c1 : 0 ≤ n ∧ n ≤ 1000
  ·rw [if_pos c1] at h ⊢
   obtain ⟨q, hq, h⟩ := Option.bind_eq_some_iff.mp h
   exact Option.bind_eq_some_iff.mpr ⟨q, impl_ListOfDecreasing.w_mono k k _ _ _ _ _ hq, h⟩
  ·rw [if_neg c1] at h; cases h
 ·rw [if_neg c] at h ⊢; exact h
theorem ld_far {w4 w5 w6 : World} {base g q : Nat} {v u : Value} {L : List Int} (h : Kd.R (Kd.int .i64) 2 w4 base (fun k => k < q) v L) (hb : Below w4.heap.size w4 w5) (hg : q ≤ g) : Kd.R (Kd.int .i64) 2 (w5.setCell ⟨g, 0, none⟩ u) base (fun k => k < q) v L :=
 Kd.R_far (p := ⟨g, 0, none⟩) (Kd.R_below h hb) (fun k hk => by show k ≠ g; omega) _
def ldW (w5 : World) (bo : Nat) (x : Int) : World := ((w5.alloc (.cells #[.int .i64 x] 2 (0, 0))).alloc (.cells #[Value.nilFunc] 55 (0, 0)))
def ldV (w5 : World) (bo : Nat) (x : Int) : World := ((w5.alloc (.cells #[.int .i64 x] 2 (0, 0))).alloc (.cells #[FW w5.heap.size bo (w5.heap.size + 1)] 55 (0, 0)))
theorem ld_start {w w3 w5 : World} {A : Option Addr} {m c : Nat} {L : List Int} (x : Int) (HB : Below w.heap.size w w3) (HO : Kd.R (Kd.int .i64) 2 w3 w.heap.size (fun k => k < w3.heap.size) (.slice A m c) L) (hL : L.length = m)
  (hb : Below (w3.alloc (.cells #[.slice A m c] 22 (0, 0))).heap.size (w3.alloc (.cells #[.slice A m c] 22 (0, 0))) w5) :
  (ldW w5 w3.heap.size x).cell? ⟨w5.heap.size + 1, 0, none⟩ = some Value.nilFunc ∧ (ldW w5 w3.heap.size x).frozen? ⟨w5.heap.size + 1, 0, none⟩ = false ∧ CS w.heap.size w5.heap.size w3.heap.size (w5.heap.size + 1) A m c (ldV w5 w3.heap.size x) x L ∧ Below w.heap.size w (ldV w5 w3.heap.size x) := by
 have hlt : w3.heap.size < w5.heap.size := by have h := hb.size; simp at h; omega
 have h0 : w.heap.size ≤ w3.heap.size := below_size HB
 have hs : (w5.alloc (.cells #[.int .i64 x] 2 (0, 0))).heap.size = w5.heap.size + 1 := by simp
 have hn := blk_new (w5.alloc (.cells #[.int .i64 x] 2 (0, 0))) (.cells #[Value.nilFunc] 55 (0, 0))
 have hm := blk_new (w5.alloc (.cells #[.int .i64 x] 2 (0, 0))) (.cells #[FW w5.heap.size w3.heap.size (w5.heap.size + 1)] 55 (0, 0))
 rw [hs] at hn hm
 have hn : (ldW w5 w3.heap.size x).heap[w5.heap.size + 1]? = some (.cells #[Value.nilFunc] 55 (0, 0)) := hn
 have hm : (ldV w5 w3.heap.size x).heap[w5.heap.size + 1]? = some (.cells #[FW w5.heap.size w3.heap.size (w5.heap.size + 1)] 55 (0, 0)) := hm
 have h1 : (ldV w5 w3.heap.size x).heap[w5.heap.size]? = some (.cells #[.int .i64 x] 2 (0, 0)) := blk_alloc (blk_new w5 _) _
 have h2 : (ldV w5 w3.heap.size x).heap[w3.heap.size]? = some (.cells #[.slice A m c] 22 (0, 0)) := blk_alloc (blk_alloc (blk_below (blk_new w3 _) hb) _) _
 have h3 : Kd.R (Kd.int .i64) 2 (ldV w5 w3.heap.size x) w.heap.size (fun k => k < w3.heap.size) (.slice A m c) L := Kd.R_alloc (Kd.R_alloc (Kd.R_below (Kd.R_alloc HO _) hb) _) _
 have h4 : Below w.heap.size w (ldV w5 w3.heap.size x) := below_alloc (below_alloc (below_step (below_alloc HB _) hb) _) _
 exact ⟨(blk_cell hn 0).trans rfl, blk_frozen hn 0, ⟨h1, h2, hm, Kd.R_mono h3 (fun k hk => by omega), hL, by omega⟩, h4⟩
@[go_sem] theorem ld_store_func {P : Program} {w : World} {a : Addr} {m : Mode} (fn : Fn) (first captured : Array Value) : (store a (.func fn first captured) m).run P w = stored P w a (.func fn first captured) m := run_store P w a _ m rfl
theorem ld_info : (Try.prog.info? 2).map (fun i => (i.zero, i.size, i.bytes)) = some (some (.int .i64 0), 1, 8) := by kernel_rfl
set_option maxHeartbeats 8000000 in
set_option maxRecDepth 100000 in
theorem impl_ListOfDecreasing.calls (k : Nat) (a0 : ByteArray) (r1 : List Int) (r2 : Int) (w : World) (h : impl_ListOfDecreasing.f k a0 = some (r1, r2)) :
  Calls Try.prog 19 #[.string a0] w fun e w' => ∃ v0_ : Value, e = .returned (.tuple #[v0_, .int .i64 r2]) ∧ Kd.R (Kd.int .i64) 2 w' w.heap.size (fun _ => True) v0_ r1 ∧ Below w.heap.size w w' := by
 unfold impl_ListOfDecreasing.f at h
 obtain ⟨b, hb, h⟩ := Option.bind_eq_some_iff.mp h
 have HIB := Aside0.mk hb
 clear hb
 cases b with
 | false =>
  rw [if_neg (by decide)] at h
  obtain ⟨rfl, rfl⟩ := Prod.mk.inj (Option.some.inj h)
  clear h
  go_enter Try.func19, Try.ntmps19
  go_wp2_with ((with_reducible refine gate_dst (N := 8) rfl ?_); refine goesL_ (some 8) rfl rfl Try.func38 (by kernel_rfl) rfl #[.string a0] rfl (by (try simp only [List.map_toArray, List.map_cons, List.map_nil]); first | done | rfl) ?_; refine (impl_IsBinary.calls k a0 _ _ HIB.out).mono ?_; rintro e w1 ⟨rfl, hd⟩; refine ⟨_, rfl, ?_⟩; have HB := Aside0.mk hd.below; clear hd)
  refine bodyPost_ret (v := .tuple #[.slice none 0 0, .int .i64 1]) (by simp [results, Try.results19, go_sem]) rfl ⟨_, rfl, Kd.R_nil _ _ _ _ _, HB.out⟩
 | true =>
  rw [if_pos rfl] at h
  obtain ⟨n, hn, h⟩ := Option.bind_eq_some_iff.mp h
  by_cases c1 : 0 ≤ n ∧ n ≤ 1000
  rotate_left
  ·rw [if_neg c1] at h; cases h
  rw [if_pos c1] at h
  obtain ⟨q, hq, h⟩ := Option.bind_eq_some_iff.mp h
  obtain ⟨rfl, rfl⟩ := Prod.mk.inj (Option.some.inj h)
  have HN := Aside0.mk hn
  have HQ := Aside0.mk hq
  have C1 := Aside0.mk c1
  clear h hn hq c1
  go_enter Try.func19, Try.ntmps19
  go_wp2_with (first | ((with_reducible refine gate_dst (N := 8) rfl ?_); refine goesL_ (some 8) rfl rfl Try.func38 (by kernel_rfl) rfl #[.string a0] rfl (by (try simp only [List.map_toArray, List.map_cons, List.map_nil]); first | done | rfl) ?_; refine (impl_IsBinary.calls k a0 _ _ HIB.out).mono ?_; rintro e w1 ⟨rfl, hd⟩; refine ⟨_, rfl, ?_⟩; have HB := Aside0.mk hd.below; clear hd) | ((with_reducible refine gate_dst (N := 11) rfl ?_); refine goesL_ (some 11) rfl rfl Try.func39 (by kernel_rfl) rfl #[.string a0] rfl (by (try simp only [List.map_toArray, List.map_cons, List.map_nil]); first | done | rfl) ?_; refine (impl_nodesOf.calls a0 _ _ HN.out).mono ?_; rintro e w2 ⟨rfl, hd⟩; refine ⟨_, rfl, ?_⟩; have n_ := Aside0.mk (below_step HB.out hd.below); clear HB hd; have HB := n_; clear n_) | ((with_reducible refine gate_dst (N := 12) rfl ?_); refine Kd.R_make (Kd.int .i64) _ 2 rfl (N := 12) rfl 22 _ _ rfl n rfl rfl Try.underlying22 (.int .i64 0) 8 ld_info rfl (by decide) (by omega) 0 (ok := fun _ => True) (okp := fun _ => True) rfl (fun _ hk => hk) trivial C1.out.1 (by have h_ := C1.out; omega) (Below.refl _ _) (Nat.le_refl _) ?_; intro v w3 ho hb hg_ hnew_; clear hg_ hnew_; obtain ⟨A, c, hv⟩ := Kd.R_slice ho; rw [List.length_replicate] at hv; subst hv; have HO := Aside0.mk (Kd.R_mono (Kd.R_bound (Kd.R_lower ho (below_size HB.out))) (fun k hk => hk.2.2.1)); have n_ := Aside0.mk (below_step HB.out hb); clear HB hb ho; have HB := n_; clear n_) | ((with_reducible refine gate_dst (N := 14) rfl ?_); refine goesL_ (some 14) rfl rfl Try.func39 (by kernel_rfl) rfl #[.string a0] rfl (by (try simp only [List.map_toArray, List.map_cons, List.map_nil]); first | done | rfl) ?_; refine (impl_nodesOf.calls a0 _ _ HN.out).mono ?_; rintro e w5 ⟨rfl, hd⟩; refine ⟨_, rfl, ?_⟩; obtain ⟨hz6, hf6, hC, hB⟩ := ld_start (wrap64 (n - 1)) HB.out HO.out List.length_replicate hd.below; have hz7 := (blk_cell hC.2.2.1 0).trans (rfl : _ = some (FW w5.heap.size w3.heap.size (w5.heap.size + 1))); clear HB HO; have HC := Aside0.mk hC; have HB := Aside0.mk hB; clear hC hB hd; unfold FW ldV at hz7; unfold ldW at hz6 hf6) | ((with_reducible refine gate_dst (N := 19) rfl ?_); refine callL_ (some 19) rfl rfl 40 #[.string a0, .int .i64 0, .pointer (some ⟨w5.heap.size, 0, none⟩), .pointer (some ⟨w3.heap.size, 0, none⟩), .pointer (some ⟨w5.heap.size + 1, 0, none⟩)] ?_ ?_; (next => (have he := enters_ Try.func40 (by kernel_rfl) rfl (#[.string a0, .int .i64 0, .pointer (some ⟨w5.heap.size, 0, none⟩), .pointer (some ⟨w3.heap.size, 0, none⟩), .pointer (some ⟨w5.heap.size + 1, 0, none⟩)]) (ldV w5 w3.heap.size (wrap64 (n - 1))); unfold ldV FW at he; unfold execOp; simp [FW, resolve, Deferred.ofValue, invoke, Act.eval, go_sem, he]; done)); refine (impl_ListOfDecreasing.walk k w.heap.size w5.heap.size w3.heap.size (w5.heap.size + 1) A n.toNat c k a0 0 (wrap64 (n - 1)) _ q _ HQ.out HC.out).mono ?_; rintro e w8 ⟨rfl, hC, hb, _⟩; refine ⟨_, rfl, ?_⟩; have hz8 := (blk_cell hC.2.1 0).trans (rfl : _ = some (Value.slice A n.toNat c)); have m_ := Aside0.mk (HB.out.trans hb); have n_ := Aside0.mk hC; clear HC HB hC hb hz7 hz6 hf6; have HB := m_; have HC := n_; clear n_ m_))
  refine bodyPost_ret (v := .tuple #[.slice A n.toNat c, .int .i64 0]) (by simp [results, Try.results19, go_sem]) rfl ⟨_, rfl, Kd.R_mono HC.out.2.2.2.1 (fun _ _ => trivial), HB.out⟩

end Go.Proofs.Yteangdgmokkjbaa.QFnExactListOfDecreasing
