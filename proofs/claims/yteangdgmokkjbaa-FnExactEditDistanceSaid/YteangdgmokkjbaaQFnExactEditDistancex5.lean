/- Functions as Lean functions, with their contracts: written by a program of this claim over the translation; some contracts are proved by hand. -/
import Derived.Test.YteangdgmokkjbaaQFnExactEditDistancex0
import Derived.Test.YteangdgmokkjbaaQFnExactEditDistancex4
namespace Go.Proofs.Yteangdgmokkjbaa.QFnExactEditDistance
open Go.RowKit Go.Proofs.Yteangdgmokkjbaa.Gl Go.Proofs.YteangdgmokkjbaaW.PrintWords Go.Proofs.YteangdgmokkjbaaW.PrintLast Go.Proofs.YteangdgmokkjbaaW.PrintMore
attribute [local go_sem] max2_int min2_int max_two min_two max_three min_three max_four min_four   -- for this text's walks alone
set_option linter.unusedVariables false
set_option linter.unusedSimpArgs false

/-! ### slices_Concat: function 71 -/
def slices_Concat.f (l0 : List (List Int)) : Option (List Int) := if l0.length ≤ 1000 ∧ l0.flatten.length ≤ 1000000 then some l0.flatten else none
theorem slices_Concat.row {w : World} {A : Option Addr} {n : Nat} {xs : List (List Int)} (h : Kd.C (Kd.slice 2 (Kd.int .i64)) w A n xs) (i : Nat) (h1 : i < n) : ∃ ad A0 c0, A = some ad ∧ w.cell? (ad.add i) = some (.slice A0 (xs.getD i []).length c0) ∧ (xs.getD i []).length ≤ c0 ∧ (Kd.int .i64).C w A0 (xs.getD i []).length (xs.getD i []) := by
 obtain ⟨ad, c, e, _, hK, hc0⟩ := Kd.C_get h ([] : List Int) (i : Int) (Int.natCast_nonneg _) (Int.ofNat_lt.2 h1)
 have hc : ∀ j u, c[j]? = some u → w.cell? (ad.add ((i : Int).toNat * 1 + j)) = some u := hc0
 obtain ⟨A0, c0, rfl, l0, g0⟩ := hK
 exact ⟨ad, A0, c0, e, by have hq := hc 0 _ rfl; rwa [Nat.mul_one, Nat.add_zero, Int.toNat_natCast] at hq, l0, g0⟩
theorem slices_Concat.take {l : List (List Int)} {i : Nat} (h : i < l.length) : (l.take (i + 1)).flatten = (l.take i).flatten ++ l.getD i [] := by
 rw [List.take_succ_eq_append_getElem h, List.flatten_append, List.getD_eq_getElem?_getD, List.getElem?_eq_getElem h]; simp
theorem slices_Concat.len {l : List (List Int)} (i : Nat) : (l.take i).flatten.length ≤ l.flatten.length := by
 have e : l.flatten = (l.take i).flatten ++ (l.drop i).flatten := by rw [← List.flatten_append, List.take_append_drop]
 rw [e, List.length_append]; omega
set_option maxHeartbeats 8000000 in
set_option maxRecDepth 100000 in
theorem slices_Concat.calls (A0 : Option Addr) (c0 : Nat) (l0 : List (List Int)) (r : List Int) (w : World) (hr0 : Kd.C (Kd.slice 2 (Kd.int .i64)) w A0 l0.length l0) (hc0 : l0.length ≤ c0) (h : slices_Concat.f l0 = some r) :
  Calls Try.prog 71 #[.slice A0 l0.length c0] w fun e w' => ∃ v0_ : Value, e = .returned (v0_) ∧ Kd.R (Kd.int .i64) 2 w' w.heap.size (fun _ => True) v0_ r ∧ Below w.heap.size w w' := by
 unfold slices_Concat.f at h
 by_cases hc : l0.length ≤ 1000 ∧ l0.flatten.length ≤ 1000000
 ·rw [if_pos hc] at h
  obtain rfl := Option.some.inj h
  have HL := Aside0.mk hc
  have HR0 := Aside0.mk hr0
  have HC0 := Aside0.mk hc0
  obtain ⟨T, hT⟩ : ∃ T, T = l0.flatten.length := ⟨_, rfl⟩
  have HG := Aside0.mk (show slices_Grow.f [] (T : Int) = some [] from by unfold slices_Grow.f; rw [if_pos ⟨rfl, by omega, by omega⟩])
  have HT := Aside0.mk hT
  clear h hc hr0 hc0 hT
  go_enter Try.func71, Try.ntmps71
  go_wp2
  go_loop [3, 11] (fun v3 v11 => ∃ i a : Nat, v3 = .int .i64 (a : Int) ∧ v11 = .int .i64 (i : Int) ∧ Aside0 (i ≤ l0.length) ∧ Aside0 (a = (l0.take i).flatten.length)) (fun _ v11 => l0.length - (intOf v11).toNat)
  case atStart => exact ⟨0, 0, rfl, rfl, ⟨Nat.zero_le _⟩, ⟨rfl⟩⟩
  case round =>
   obtain ⟨i, a, rfl, rfl, hi, HA⟩ := hrel
   by_cases hlt : i < l0.length
   ·have hl : ((i : Nat) : Int) < ((l0.length : Nat) : Int) := Int.ofNat_lt.2 hlt
    have hrow := slices_Concat.row HR0.out i hlt
    have h1_ := slices_Concat.len (l := l0) (i + 1)
    have htk := slices_Concat.take hlt
    obtain ⟨xs, hxs⟩ : ∃ xs, xs = l0.getD i [] := ⟨_, rfl⟩
    rw [← hxs] at htk hrow
    rw [htk, List.length_append, ← HA.out] at h1_
    obtain ⟨ad, Ai, ci, rfl, hx, hci, hCi⟩ := hrow
    obtain ⟨b, hb⟩ : ∃ b, b = xs.length := ⟨_, rfl⟩
    rw [← hb] at h1_ hx
    have h2_ := HL.out
    have hw : wrap64 ((a : Int) + (b : Int)) = ((a + b : Nat) : Int) := by unfold wrap64; omega
    have HW := Aside0.mk hw
    have hw0 : ¬ ((a + b : Nat) : Int) < 0 := by omega
    have hw1 : wrap64 ((i : Int) + 1) = ((i + 1 : Nat) : Int) := by clear hw; unfold wrap64; omega
    have HW1 := Aside0.mk hw1
    have HN := Aside0.mk (show a + b = (l0.take (i + 1)).flatten.length by rw [htk, List.length_append, ← HA.out, ← hb])
    have HLT := Aside0.mk hlt
    clear hb h1_ h2_ hCi hci htk hxs hw1
    go_wp2
    go_round
    case rel => exact ⟨i + 1, a + b, by first | rfl | exact congrArg (Value.int .i64) HW.out, by first | rfl | (rw [HW1.out]), ⟨HLT.out⟩, HN⟩
    case measure =>
     have h_ := HLT.out
     first | (rw [HW1.out]; simp only [intOf, Int.toNat_natCast]; exact Nat.sub_lt_sub_left h_ (Nat.lt_succ_self i)) | (simp only [intOf, Int.toNat_natCast]; exact Nat.sub_lt_sub_left h_ (Nat.lt_succ_self i))
   ·have hl : ¬ ((i : Nat) : Int) < ((l0.length : Nat) : Int) := fun h => hlt (Int.ofNat_lt.1 h)
    have hil := hi.out
    have he : a = T := by rw [HA.out, List.take_of_length_le (by omega)]; exact HT.out.symm
    subst he
    clear hil hlt
    go_wp2_with ((with_reducible refine gate_callee (f := 73) rfl ?_); refine goesL_ (some 24) rfl rfl Try.func73 (by kernel_rfl) rfl #[.slice none 0 0, .int .i64 (a : Int)] rfl (by (try simp only [List.map_toArray, List.map_cons, List.map_nil]); first | done | rfl) ?_; refine (slices_Grow.calls none 0 [] (a : Int) [] _ (Kd.C_nil _ _) (Nat.le_refl _) HG.out).mono ?_; rintro e w1 ⟨v24, rfl, ho, hb⟩; refine ⟨_, rfl, ?_⟩; have HO := Aside0.mk ho; have HB := Aside0.mk hb; clear ho hb)
    go_loopw [6, 27] (fun v6 v27 w' => ∃ (j : Nat) (s : List Int), v27 = .int .i64 (j : Int) ∧ Aside0 (j ≤ l0.length) ∧ Aside0 (s = (l0.take j).flatten) ∧ Aside0 (Kd.R (Kd.int .i64) 2 w' w.heap.size (fun _ => True) v6 s) ∧ Aside0 (Below w.heap.size w w')) (fun _ v27 _ => l0.length - (intOf v27).toNat)
    case atStart => exact ⟨0, [], rfl, ⟨Nat.zero_le _⟩, ⟨rfl⟩, HO, HB⟩
    case round =>
     obtain ⟨j, s, rfl, hj, HS, ho, hb⟩ := hrel
     by_cases hlt : j < l0.length
     ·have hl : ((j : Nat) : Int) < ((l0.length : Nat) : Int) := Int.ofNat_lt.2 hlt
      have hrow := slices_Concat.row (Kd.C_below HR0.out hb.out) j hlt
      have h1_ := slices_Concat.len (l := l0) (j + 1)
      have htk := slices_Concat.take hlt
      obtain ⟨xs, hxs⟩ : ∃ xs, xs = l0.getD j [] := ⟨_, rfl⟩
      rw [← hxs] at htk hrow
      rw [htk, List.length_append, ← HS.out] at h1_
      rw [← HS.out] at htk
      obtain ⟨ad, Ai, ci, rfl, hx, hci, hCi⟩ := hrow
      have h2_ := HL.out
      have HLEN := Aside0.mk (show (s.length + xs.length) * 8 ≤ 140737488355328 by omega)
      have HTK := Aside0.mk htk
      have hw1 : wrap64 ((j : Int) + 1) = ((j + 1 : Nat) : Int) := by unfold wrap64; omega
      have HW1 := Aside0.mk hw1
      have HLT := Aside0.mk hlt
      have HCI := Aside0.mk hCi
      obtain ⟨A6, c6, e6⟩ := Kd.R_slice ho.out
      subst e6
      clear h1_ h2_ hCi hci htk hxs hw1
      go_wp2_with ((with_reducible refine gate_builtin (b := .append) (xs := #[.tmp 31, .tmp 32]) rfl ?_); at_builtin; refine Kd.R_append_rows (Kd.int .i64) (w0 := w) w.heap.size rfl (.tmp 31) (.tmp 32) 22 2 (.int .i64 0) 8 rfl Try.underlying22 info2 rfl (by decide) (by omega) (.slice A6 s.length c6) s xs Ai xs.length ci (fun _ => True) (fun _ => False) rfl rfl ho.out HCI.out (fun _ _ h => h) (fun _ h => h.elim) (fun _ h => trivial) hb.out hb.out.size HLEN.out ?_; intro v1 w2 ho2 hb2 hg2 _; have HO2 := Aside0.mk ho2; have HB2 := Aside0.mk hb2; clear ho2 hb2 hg2)
      go_roundw
      case rel => exact ⟨j + 1, s ++ xs, by first | rfl | (rw [HW1.out]), ⟨HLT.out⟩, ⟨HTK.out.symm⟩, HO2, HB2⟩
      case measure =>
       have h_ := HLT.out
       first | (rw [HW1.out]; simp only [intOf, Int.toNat_natCast]; exact Nat.sub_lt_sub_left h_ (Nat.lt_succ_self j)) | (simp only [intOf, Int.toNat_natCast]; exact Nat.sub_lt_sub_left h_ (Nat.lt_succ_self j))
     ·have hl : ¬ ((j : Nat) : Int) < ((l0.length : Nat) : Int) := fun h => hlt (Int.ofNat_lt.1 h)
      have hjl := hj.out
      have hoo := ho.out
      rw [HS.out, List.take_of_length_le (by omega)] at hoo
      have HO3 := Aside0.mk hoo
      clear hoo hjl hlt
      go_wp2
      go_ret
      exact ⟨_, rfl, HO3.out, hb.out⟩
 ·rw [if_neg hc] at h; cases h

end Go.Proofs.Yteangdgmokkjbaa.QFnExactEditDistance
