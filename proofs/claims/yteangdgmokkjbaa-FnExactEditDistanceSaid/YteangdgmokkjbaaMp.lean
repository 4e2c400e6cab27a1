import Derived.Test.YteangdgmokkjbaaProg
import Derived.Below
import Derived.Deep.Draws
import Derived.Deep.AppendLies
import Derived.Maps.AppendAt
import Derived.OwnWalk
import Derived.Laws.BytesArg
import Derived.Laws.MakeOwn
import Derived.Laws.OwnMore
import Derived.Deep.OwnRows
import Derived.Tactics
import Derived.Lib.ConvBytes
import Derived.Laws.Slices
import Derived.WalkKit
import Derived.KernelRfl
import Derived.RowKit3
import Derived.Deep.LoopGhost
import Derived.Deep.QuietTactic
import Derived.BigQuiet
import Derived.WideLaws
import Derived.Deep.DeepCutAuto
import Derived.Deep.CutBlock
import Derived.Deep.RegionHeld3
import Derived.Laws.Rows
import Derived.Lib.AppendStr
import Derived.ArgAppend
import Derived.Laws.IdiomCopy
import Derived.OrdersHeld
import Derived.Laws.BitsLemmas
import Derived.RowKit
import Derived.Test.YteangdgmokkjbaaWWords
import Derived.Test.YteangdgmokkjbaaWLast
import Derived.Test.YteangdgmokkjbaaWTab
import Derived.Test.YteangdgmokkjbaaWFour
import Derived.Test.YteangdgmokkjbaaWQPut
import Derived.Test.YteangdgmokkjbaaWApart
import Derived.Test.YteangdgmokkjbaaWArr
import Derived.Test.YteangdgmokkjbaaWZeros
import Derived.Test.YteangdgmokkjbaaWFoot
import Derived.Test.YteangdgmokkjbaaWKept
import Derived.Test.YteangdgmokkjbaaWShare
import Derived.Test.YteangdgmokkjbaaWN
import Derived.Test.YteangdgmokkjbaaWFootNe
import Derived.Test.YteangdgmokkjbaaWAt
import Derived.Test.YteangdgmokkjbaaWEqStruct
import Derived.Test.YteangdgmokkjbaaWRepsOne
import Derived.Test.YteangdgmokkjbaaWInv
import Derived.Test.YteangdgmokkjbaaWInvWords
import Derived.Test.YteangdgmokkjbaaWGuard
import Derived.Test.YteangdgmokkjbaaWNEv
import Derived.Test.YteangdgmokkjbaaWMore
import Derived.Test.YteangdgmokkjbaaGl
import Derived.Test.YteangdgmokkjbaaEd
import Derived.Test.YteangdgmokkjbaaMo
namespace Go.Proofs.Yteangdgmokkjbaa.Mp
open Go.RowKit Go.Proofs.Yteangdgmokkjbaa Go.Proofs.Yteangdgmokkjbaa.Gl Go.Proofs.YteangdgmokkjbaaW.PrintWords Go.Proofs.YteangdgmokkjbaaW.PrintLast Go.Proofs.YteangdgmokkjbaaW.PrintMore
attribute [local go_sem] max2_int min2_int max_two min_two max_three min_three max_four min_four
set_option linter.unusedVariables false
set_option linter.unusedSimpArgs false
open Go.Proofs.Yteangdgmokkjbaa.Mo

theorem wrap8_id {x : Int} (h0 : -128 ≤ x) (h1 : x < 128) : IntKind.i8.wrap x = x := by
  simp [IntKind.wrap, IntKind.bits, IntKind.signed]
  omega
theorem len_wrap {n : Nat} (h : n ≤ 24) : wrap64 ((n : Int) + 1) = ((n + 1 : Nat) : Int) := by rw [Tr.wrap_id (by omega) (by omega)]; omega
theorem idx_wraps {n m a b c d : Nat} (hn : n ≤ 25) (hm : m ≤ 25) (ha : a ≤ 24) (hb : b ≤ 24) (hc : c ≤ 24) (hd : d ≤ 24) : ∃ e1 e3 e5 : Nat, mix n m a b c d = e5 + d ∧ wrap64 ((a : Int) * (n : Int)) = (e1 : Int) ∧ wrap64 ((e1 : Int) + (b : Int)) = ((e1 + b : Nat) : Int) ∧ wrap64 (((e1 + b : Nat) : Int) * (m : Int)) = (e3 : Int) ∧ wrap64 ((e3 : Int) + (c : Int)) = ((e3 + c : Nat) : Int) ∧ wrap64 (((e3 + c : Nat) : Int) * (m : Int)) = (e5 : Int) ∧ wrap64 ((e5 : Int) + (d : Int)) = ((e5 + d : Nat) : Int) := by
  have b1_ : a * n ≤ 24 * 25 := Nat.mul_le_mul ha hn
  have b2_ : (a * n + b) * m ≤ 624 * 25 := Nat.mul_le_mul (by omega) hm
  have b3_ : ((a * n + b) * m + c) * m ≤ 15624 * 25 := Nat.mul_le_mul (by omega) hm
  have e1_ : (a : Int) * (n : Int) = ((a * n : Nat) : Int) := (Int.natCast_mul a n).symm
  have e3_ : (((a * n + b : Nat) : Int)) * (m : Int) = (((a * n + b) * m : Nat) : Int) := (Int.natCast_mul _ m).symm
  have e5_ : ((((a * n + b) * m + c : Nat) : Int)) * (m : Int) = ((((a * n + b) * m + c) * m : Nat) : Int) := (Int.natCast_mul _ m).symm
  refine ⟨a * n, (a * n + b) * m, ((a * n + b) * m + c) * m, rfl, ?_, ?_, ?_, ?_, ?_, ?_⟩
  · rw [e1_]; exact Tr.wrap_id (by omega) (by omega)
  · rw [Tr.wrap_id (by omega) (by omega)]; exact (Int.natCast_add _ _).symm
  · rw [e3_]; exact Tr.wrap_id (by omega) (by omega)
  · rw [Tr.wrap_id (by omega) (by omega)]; exact (Int.natCast_add _ _).symm
  · rw [e5_]; exact Tr.wrap_id (by omega) (by omega)
  · rw [Tr.wrap_id (by omega) (by omega)]; exact (Int.natCast_add _ _).symm

theorem mostAt (A0 A1 Af As : Option Addr) (q0 c0 q1 c1 cf cs base g N cN : Nat) (fs ss : List Int) (hfl : fs.length ≤ 24) (hsl : ss.length ≤ 24) (hcf : fs.length ≤ cf) (hcs : ss.length ≤ cs) : ∀ s, MostAt A0 A1 Af As q0 c0 q1 c1 cf cs base g N cN fs ss s := by
  intro s
  induction s with
  | zero =>
    intro X Y a b c d K w hs hab hcd hb hd h1 h2 hI
    exact most_nil A0 A1 Af As q0 c0 q1 c1 cf cs base g N cN fs ss X Y a b c d K w (.inl (Tr.F.size_zero (by omega))) hab hcd hI (Nat.le_trans (Kd.R_base hI.1 g rfl) (Nat.le_of_lt (Kd.R_lt hI.1 g rfl)))
  | succ s ih =>
    intro X Y a b c d K w hs hab hcd hb hd h1 h2 hI
    have hbase := Nat.le_trans (Kd.R_base hI.1 g rfl) (Nat.le_of_lt (Kd.R_lt hI.1 g rfl))
    cases X with
    | nil => exact most_nil A0 A1 Af As q0 c0 q1 c1 cf cs base g N cN fs ss .nil Y a b c d K w (.inl rfl) hab hcd hI hbase
    | cons b1 n1 =>
      cases Y with
      | nil => exact most_nil A0 A1 Af As q0 c0 q1 c1 cf cs base g N cN fs ss (.cons b1 n1) .nil a b c d K w (.inr rfl) hab hcd hI hbase
      | cons b2 n2 =>
        have hM := hI.2.1.2 a b c d _ _ hb hd h1 h2 hab hcd
        have hlt := mix_lt (n := fs.length + 1) (m := ss.length + 1) (a := a) (b := b) (c := c) (d := d) (by omega) (by omega) (by omega) (by omega)
        have hN : mix (fs.length + 1) (ss.length + 1) a b c d < N := by rw [← hI.2.2.1, hI.2.1.1]; exact hlt
        have hset := fun K (hK : MP fs ss K) => MP_set hK hb hd h1 h2 hab hcd
        have hpc := Tr.F.pc_le _ (.cons b1 n1) (.cons b2 n2) (Nat.le_refl _)
        obtain ⟨e1, e3, e5, hmx, w2_, w3_, w4_, w5_, w6_, w7_⟩ := idx_wraps (n := fs.length + 1) (m := ss.length + 1) (a := a) (b := b) (c := c) (d := d) (by omega) (by omega) (by omega) (by omega) (by omega) (by omega)
        rw [hmx] at hM hN hset
        have w0_ := len_wrap hfl
        have w1_ := len_wrap hsl
        have W2 := Aside0.mk w2_
        have W3 := Aside0.mk w3_
        have W4 := Aside0.mk w4_
        have W5 := Aside0.mk w5_
        have W6 := Aside0.mk w6_
        have W7 := Aside0.mk w7_
        have W0 := Aside0.mk w0_
        have W1 := Aside0.mk w1_
        clear w0_ w1_ w2_ w3_ w4_ w5_ w6_ w7_ hmx hlt
        simp only [Tr.F.size] at hab hcd hs hpc
        rcases hM with hM | hM
        · obtain ⟨hb1, hr1, i1, i2⟩ := h1
          obtain ⟨hb2, hr2, j1, j2⟩ := h2
          have hpc1 := Tr.F.pc_cons b1 n1 b2 n2
          refine most_new A0 A1 Af As q0 c0 q1 c1 cf cs base g N cN fs ss a b c d (fs.length + 1) (ss.length + 1) e1 (e1 + b) e3 (e3 + c) e5 (e5 + d) (Tr.F.pc (b1.app n1) (.cons b2 n2)) (Tr.F.pc (.cons b1 n1) (b2.app n2)) (1 + Tr.F.pc b1 b2 + Tr.F.pc n1 n2) (max (Tr.F.pc (b1.app n1) (.cons b2 n2)) (Tr.F.pc (.cons b1 n1) (b2.app n2))) _ K w (by omega) (by omega) hM hN W0.out W1.out W2.out W3.out W4.out W5.out W6.out W7.out
            (by rw [Tr.wrap_id (by omega) (by omega)]; omega) (by rw [Tr.wrap_id (by omega) (by omega)]; omega) (by split <;> omega) (by rw [hpc1]; split <;> omega) (by rw [show IntKind.i8.wrap (Tr.F.pc (.cons b1 n1) (.cons b2 n2) : Int) = (Tr.F.pc (.cons b1 n1) (.cons b2 n2) : Int) from wrap8_id (by omega) (by omega)])
            (fun K w hK => ih (b1.app n1) (.cons b2 n2) a (b - 1) c d K w (by simp only [Tr.F.size, Tr.F.app_size]; omega) (by simp only [Tr.F.app_size]; omega) (by simp only [Tr.F.size]; omega) (by omega) hd (Tr.F.IV_app _ _ _ i1 i2 (by omega)) ⟨hb2, hr2, j1, j2⟩ hK)
            (fun K w hK => ih (.cons b1 n1) (b2.app n2) a b c (d - 1) K w (by simp only [Tr.F.size, Tr.F.app_size]; omega) (by simp only [Tr.F.size]; omega) (by simp only [Tr.F.app_size]; omega) hb (by omega) ⟨hb1, hr1, i1, i2⟩ (Tr.F.IV_app _ _ _ j1 j2 (by omega)) hK)
            (fun K w hK hbs => paired A0 A1 Af As q0 c0 q1 c1 cf cs base g N cN fs ss s (by omega) (by omega) hcf hcs ih b1 n1 b2 n2 a b c d K w (by omega) (by omega) (by simp only [Tr.F.size]; omega) (by simp only [Tr.F.size]; omega) hb hd ⟨hb1, hr1, i1, i2⟩ ⟨hb2, hr2, j1, j2⟩ hK hbs) hset hI hbase
        · exact most_known A0 A1 Af As q0 c0 q1 c1 cf cs base g N cN fs ss a b c d (fs.length + 1) (ss.length + 1) e1 (e1 + b) e3 (e3 + c) e5 (e5 + d) _ K w (by omega) (by omega) hM (Tr.wrap_id (by omega) (by omega)) hN W0.out W1.out W2.out W3.out W4.out W5.out W6.out W7.out hI hbase

end Go.Proofs.Yteangdgmokkjbaa.Mp
