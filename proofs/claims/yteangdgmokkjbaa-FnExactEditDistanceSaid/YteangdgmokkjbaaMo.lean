import Derived.Test.YteangdgmokkjbaaProg
import Derived.Below
import Derived.Deep.Draws
import Derived.Deep.AppendLies
import Derived.Maps.AppendAt
import Derived.OwnWalk
import Derived.Laws.BytesArg
import Derived.Laws.MakeOwn
import Derived.Laws.OwnMore
import Derived.Deep.OwnRows
import Derived.Tactics
import Derived.Lib.ConvBytes
import Derived.Laws.Slices
import Derived.WalkKit
import Derived.KernelRfl
import Derived.RowKit3
import Derived.Deep.LoopGhost
import Derived.Deep.QuietTactic
import Derived.BigQuiet
import Derived.WideLaws
import Derived.Deep.DeepCutAuto
import Derived.Deep.CutBlock
import Derived.Deep.RegionHeld3
import Derived.Laws.Rows
import Derived.Lib.AppendStr
import Derived.ArgAppend
import Derived.Laws.IdiomCopy
import Derived.OrdersHeld
import Derived.Laws.BitsLemmas
import Derived.RowKit
import Derived.Test.YteangdgmokkjbaaWWords
import Derived.Test.YteangdgmokkjbaaWLast
import Derived.Test.YteangdgmokkjbaaWTab
import Derived.Test.YteangdgmokkjbaaWFour
import Derived.Test.YteangdgmokkjbaaWQPut
import Derived.Test.YteangdgmokkjbaaWApart
import Derived.Test.YteangdgmokkjbaaWArr
import Derived.Test.YteangdgmokkjbaaWZeros
import Derived.Test.YteangdgmokkjbaaWFoot
import Derived.Test.YteangdgmokkjbaaWKept
import Derived.Test.YteangdgmokkjbaaWShare
import Derived.Test.YteangdgmokkjbaaWN
import Derived.Test.YteangdgmokkjbaaWFootNe
import Derived.Test.YteangdgmokkjbaaWAt
import Derived.Test.YteangdgmokkjbaaWEqStruct
import Derived.Test.YteangdgmokkjbaaWRepsOne
import Derived.Test.YteangdgmokkjbaaWInv
import Derived.Test.YteangdgmokkjbaaWInvWords
import Derived.Test.YteangdgmokkjbaaWGuard
import Derived.Test.YteangdgmokkjbaaWNEv
import Derived.Test.YteangdgmokkjbaaWMore
import Derived.Test.YteangdgmokkjbaaGl
import Derived.Test.YteangdgmokkjbaaEd
namespace Go.Proofs.Yteangdgmokkjbaa.Mo
open Go.RowKit Go.Proofs.Yteangdgmokkjbaa Go.Proofs.Yteangdgmokkjbaa.Gl Go.Proofs.YteangdgmokkjbaaW.PrintWords Go.Proofs.YteangdgmokkjbaaW.PrintLast Go.Proofs.YteangdgmokkjbaaW.PrintMore
attribute [local go_sem] max2_int min2_int max_two min_two max_three min_three max_four min_four
set_option linter.unusedVariables false
set_option linter.unusedSimpArgs false

/-- The place of (a, b, c, d) in the memory. -/
def mix (n m a b c d : Nat) : Nat := ((a * n + b) * m + c) * m + d
/-- The memory: what is known is right. -/
def MP (fs ss : List Int) (K : List Int) : Prop :=
  K.length = (fs.length + 1) * (fs.length + 1) * (ss.length + 1) * (ss.length + 1) ∧ ∀ (a b c d : Nat) (X Y : Tr.F), b ≤ fs.length → d ≤ ss.length → Tr.F.IV fs b X → Tr.F.IV ss d Y → a + X.size = b → c + Y.size = d →
    rd K ((mix (fs.length + 1) (ss.length + 1) a b c d : Nat) : Int) = -1 ∨ rd K ((mix (fs.length + 1) (ss.length + 1) a b c d : Nat) : Int) = (Tr.F.pc X Y : Int)
def MInv (base g N cN : Nat) (Af As : Option Addr) (fs ss : List Int) (w : World) (K : List Int) : Prop :=
  Kd.R (Kd.int .i8) 78 w base (fun k_ => k_ = g) (.slice (some ⟨g, 0, none⟩) N cN) K ∧ MP fs ss K ∧ K.length = N ∧ (∀ W', Kept w W' (fun k_ => k_ = g) → Kd.C (Kd.int .i64) W' Af fs.length fs) ∧ (∀ W', Kept w W' (fun k_ => k_ = g) → Kd.C (Kd.int .i64) W' As ss.length ss)
def MPost (base g N cN : Nat) (Af As : Option Addr) (fs ss : List Int) (w : World) (r : Nat) (e : Ending) (w' : World) : Prop :=
  ∃ K', e = .returned (.int .i64 (r : Int)) ∧ MInv base g N cN Af As fs ss w' K' ∧ Below base w w' ∧ Kept w w' (fun k_ => k_ = g)
def MArgs (A0 A1 Af As : Option Addr) (q0 c0 q1 c1 cf cs g N cN : Nat) (fs ss : List Int) (a b c d : Nat) : Array Value :=
  #[.agg #[.slice A0 q0 c0, .slice A1 q1 c1, .slice (some ⟨g, 0, none⟩) N cN], .slice Af fs.length cf, .slice As ss.length cs, .int .i64 (a : Int), .int .i64 (b : Int), .int .i64 (c : Int), .int .i64 (d : Int)]
/-- 'Most' answers rightly for lists of trees of at most s nodes together. -/
def MostAt (A0 A1 Af As : Option Addr) (q0 c0 q1 c1 cf cs base g N cN : Nat) (fs ss : List Int) (s : Nat) : Prop :=
  ∀ (X Y : Tr.F) (a b c d : Nat) (K : List Int) (w : World), X.size + Y.size ≤ s → a + X.size = b → c + Y.size = d → b ≤ fs.length → d ≤ ss.length → Tr.F.IV fs b X → Tr.F.IV ss d Y → MInv base g N cN Af As fs ss w K →
    Calls Try.prog 59 (MArgs A0 A1 Af As q0 c0 q1 c1 cf cs g N cN fs ss a b c d) w (MPost base g N cN Af As fs ss w (Tr.F.pc X Y))
theorem MInv.kept {base g N cN : Nat} {Af As : Option Addr} {fs ss K : List Int} {w w' : World} (h : MInv base g N cN Af As fs ss w K) (hb : Below w.heap.size w w') : MInv base g N cN Af As fs ss w' K :=
  ⟨Kd.R_below h.1 hb, h.2.1, h.2.2.1, Kd.C_kept_step h.2.2.2.1 (Kept.of_below hb _), Kd.C_kept_step h.2.2.2.2 (Kept.of_below hb _)⟩
theorem MPost.of {base g N cN : Nat} {Af As : Option Addr} {fs ss : List Int} {w w1 w' : World} {r : Nat} {e : Ending} (h : MPost base g N cN Af As fs ss w1 r e w') (hb : Below w.heap.size w w1) (hbase : base ≤ w.heap.size) : MPost base g N cN Af As fs ss w r e w' := by
  obtain ⟨K', h1, h2, h3, h4⟩ := h
  exact ⟨K', h1, h2, (hb.mono hbase).trans h3, (Kept.of_below hb _).then_ h4 (fun _ hk => .inl hk)⟩

theorem radix {m x x' d d' : Nat} (hd : d < m) (hd' : d' < m) (h : x * m + d = x' * m + d') : x = x' ∧ d = d' := by
  have h1 : x = x' := by
    have e1 : (x * m + d) / m = x := by rw [Nat.mul_comm, Nat.mul_add_div (by omega), Nat.div_eq_of_lt hd]; rfl
    have e2 : (x' * m + d') / m = x' := by rw [Nat.mul_comm, Nat.mul_add_div (by omega), Nat.div_eq_of_lt hd']; rfl
    rw [← e1, h, e2]
  subst h1
  exact ⟨rfl, by omega⟩
theorem radix_lt {m n x d : Nat} (hx : x < n) (hd : d < m) : x * m + d < n * m := by
  have h1 : (x + 1) * m ≤ n * m := Nat.mul_le_mul_right m hx
  rw [Nat.add_mul] at h1
  omega
theorem mix_inj {n m a b c d a' b' c' d' : Nat} (hb : b < n) (hb' : b' < n) (hc : c < m) (hc' : c' < m) (hd : d < m) (hd' : d' < m) (h : mix n m a b c d = mix n m a' b' c' d') : a = a' ∧ b = b' ∧ c = c' ∧ d = d' := by
  unfold mix at h
  obtain ⟨h1, h2⟩ := radix hd hd' h
  obtain ⟨h3, h4⟩ := radix hc hc' h1
  obtain ⟨h5, h6⟩ := radix hb hb' h3
  exact ⟨h5, h6, h4, h2⟩
theorem mix_lt {n m a b c d : Nat} (ha : a < n) (hb : b < n) (hc : c < m) (hd : d < m) : mix n m a b c d < n * n * m * m :=
  radix_lt (radix_lt (radix_lt ha hb) hc) hd
theorem MP_set {fs ss K : List Int} (h : MP fs ss K) {a b c d : Nat} {X Y : Tr.F} (hb : b ≤ fs.length) (hd : d ≤ ss.length) (h1 : Tr.F.IV fs b X) (h2 : Tr.F.IV ss d Y) (hab : a + X.size = b) (hcd : c + Y.size = d) :
    MP fs ss (K.set (mix (fs.length + 1) (ss.length + 1) a b c d) (Tr.F.pc X Y : Int)) := by
  refine ⟨by rw [List.length_set]; exact h.1, ?_⟩
  intro a' b' c' d' X' Y' hb' hd' h1' h2' hab' hcd'
  have hlt := mix_lt (n := fs.length + 1) (m := ss.length + 1) (a := a') (b := b') (c := c') (d := d') (by omega) (by omega) (by omega) (by omega)
  have e := Tr.rd_set (l := K) (c := ((mix (fs.length + 1) (ss.length + 1) a b c d : Nat) : Int)) (x := (Tr.F.pc X Y : Int)) (i := mix (fs.length + 1) (ss.length + 1) a' b' c' d') (by rw [h.1]; exact hlt) (by omega)
  rw [Int.toNat_natCast] at e
  rw [e]
  by_cases hm : ((mix (fs.length + 1) (ss.length + 1) a b c d : Nat) : Int) = ((mix (fs.length + 1) (ss.length + 1) a' b' c' d' : Nat) : Int)
  · rw [if_pos hm]
    obtain ⟨r1, r2, r3, r4⟩ := mix_inj (by omega) (by omega) (by omega) (by omega) (by omega) (by omega) (Int.ofNat.inj hm)
    subst r1 r2 r3 r4
    rw [Tr.F.IV_uniq X _ X' h1 h1' (by omega), Tr.F.IV_uniq Y _ Y' h2 h2' (by omega)]
    exact .inr rfl
  · rw [if_neg hm]
    exact h.2 a' b' c' d' X' Y' hb' hd' h1' h2' hab' hcd'

set_option maxHeartbeats 8000000 in
set_option maxRecDepth 100000 in
theorem paired (A0 A1 Af As : Option Addr) (q0 c0 q1 c1 cf cs base g N cN : Nat) (fs ss : List Int) (s : Nat) (hfl : fs.length ≤ 1000) (hsl : ss.length ≤ 1000) (hcf : fs.length ≤ cf) (hcs : ss.length ≤ cs) (IH : MostAt A0 A1 Af As q0 c0 q1 c1 cf cs base g N cN fs ss s) (b1 n1 b2 n2 : Tr.F) (a b c d : Nat) (K : List Int) (w : World)
    (hs1 : b1.size + b2.size ≤ s) (hs2 : n1.size + n2.size ≤ s) (hab : a + (Tr.F.cons b1 n1).size = b) (hcd : c + (Tr.F.cons b2 n2).size = d) (hb : b ≤ fs.length) (hd : d ≤ ss.length) (h1 : Tr.F.IV fs b (.cons b1 n1)) (h2 : Tr.F.IV ss d (.cons b2 n2)) (hI : MInv base g N cN Af As fs ss w K) (hbase : base ≤ w.heap.size) :
    Calls Try.prog 62 (MArgs A0 A1 Af As q0 c0 q1 c1 cf cs g N cN fs ss a b c d) w (MPost base g N cN Af As fs ss w (1 + Tr.F.pc b1 b2 + Tr.F.pc n1 n2)) := by
  obtain ⟨hb1, hr1, i1, i2⟩ := h1
  obtain ⟨hb2, hr2, j1, j2⟩ := h2
  simp only [Tr.F.size] at hab hcd
  have pb1 := Tr.F.pc_le _ b1 b2 (Nat.le_refl _)
  have pb2 := Tr.F.pc_le _ n1 n2 (Nat.le_refl _)
  obtain ⟨p, hp⟩ : ∃ p, p = b - 1 - b1.size := ⟨_, rfl⟩
  obtain ⟨q, hq⟩ : ∃ q, q = d - 1 - b2.size := ⟨_, rfl⟩
  rw [← hp] at hr1 i2
  rw [← hq] at hr2 j2
  have hwb : wrap64 ((b : Int) - 1) = ((b - 1 : Nat) : Int) := by unfold wrap64; omega
  have hwd : wrap64 ((d : Int) - 1) = ((d - 1 : Nat) : Int) := by unfold wrap64; omega
  have hmp : (if p < a then (a : Int) else (p : Int)) = (p : Int) := if_neg (by omega)
  have hmq : (if q < c then (c : Int) else (q : Int)) = (q : Int) := if_neg (by omega)
  have hw1 : wrap64 (1 + (Tr.F.pc b1 b2 : Int)) = 1 + (Tr.F.pc b1 b2 : Int) := by unfold wrap64; omega
  have hw2 : wrap64 (1 + (Tr.F.pc b1 b2 : Int) + (Tr.F.pc n1 n2 : Int)) = 1 + (Tr.F.pc b1 b2 : Int) + (Tr.F.pc n1 n2 : Int) := by clear hw1; unfold wrap64; omega
  obtain ⟨adf, e1, hxf⟩ := Kd.at_int (hI.2.2.2.1 w ⟨Nat.le_refl _, fun _ _ _ => rfl⟩) ((b - 1 : Nat) : Int) (by omega) (by omega)
  obtain ⟨ads, e2, hxs⟩ := Kd.at_int (hI.2.2.2.2 w ⟨Nat.le_refl _, fun _ _ _ => rfl⟩) ((d - 1 : Nat) : Int) (by omega) (by omega)
  subst e1
  subst e2
  rw [hr1, Int.toNat_natCast] at hxf
  rw [hr2, Int.toNat_natCast] at hxs
  have hlb : ((b - 1 : Nat) : Int) < (fs.length : Int) := by omega
  have hld : ((d - 1 : Nat) : Int) < (ss.length : Int) := by omega
  have hbl : b - 1 < fs.length := by omega
  have hdl : d - 1 < ss.length := by omega
  have HI := Aside0.mk hI
  have HB0 := Aside0.mk hbase
  have IHB := Aside0.mk (fun K w => IH b1 b2 p (b - 1) q (d - 1) K w hs1 (by omega) (by omega) (by omega) (by omega) i1 j1)
  have IHN := Aside0.mk (fun K w => IH n1 n2 a p c q K w hs2 (by omega) (by omega) (by omega) (by omega) i2 j2)
  have HS := Aside0.mk (And.intro hp (And.intro hq (And.intro hab (And.intro hcd (And.intro hb (And.intro hd (And.intro pb1 pb2)))))))
  clear IH hs1 hs2 hI hp hq hab hcd hb hd hbase hr1 hr2 hb1 hb2 i1 i2 j1 j2 pb1 pb2 hfl hsl
  unfold MArgs
  go_enter Try.func62, Try.ntmps62
  go_wp2_with ((with_reducible refine gate_dst (N := 7) rfl ?_); refine box_event ?hg (N := 7) ?hd (cs := #[.slice A0 q0 c0, .slice A1 q1 c1, .slice (some ⟨g, 0, none⟩) N cN]) (t := 65) ?hr ?_; (case hd => rfl); (case hg => rfl); (case hr => first | (go_simp; done) | (go_simp; rfl)); intro gb hg1 w1 hbox hb1; have HB1 := Aside0.mk hb1; have BK := Aside0.mk hbox; have HG := Aside0.mk hg1; clear hbox hb1 hg1)
  have HNE : Aside0 (¬ gb = g) := ⟨fun e => by have h1_ := HG.out; have h2_ := Kd.R_lt HI.out.1 g (by rfl); omega⟩
  have hF1 := (HB1.out.cell (World.block_lt_of_cell? w _ hxf)).trans hxf
  have hS1 := (HB1.out.cell (World.block_lt_of_cell? w _ hxs)).trans hxs
  refine start_ (n := 16) (S := fun w' => w'.cell? (adf.add (b - 1)) = some (.int .i64 (p : Int)) ∧ w'.cell? (ads.add (d - 1)) = some (.int .i64 (q : Int))) (ds := []) #[false, false, false, false, false, false, false, false, false, false, false, false, false, false, false, false] (by kernel_rfl) rfl rfl (⟨hF1, hS1⟩) (fun hHeld => ?_)
  refine pure_ (i := 0) (N := some 17) (v := ?_) (a' := ?_) #[true, false, false, false, false, false, false, false, false, false, false, false, false, false, false, false] rfl rfl (by kernel_rfl) (fun _ _ _ h => h) (Or.inl ⟨by rfl, ?_⟩) ?_ ?_
  rotate_left
  · intro w'
    go_simp
    with_reducible rfl
  rotate_left
  · simp only [Act.put, List.setIfInBounds_toArray, List.set_cons_zero, List.set_cons_succ, i64_w, i32_w]
    rfl
  refine pure_ (i := 1) (N := some 18) (v := ?_) (a' := ?_) #[true, true, false, false, false, false, false, false, false, false, false, false, false, false, false, false] rfl rfl (by kernel_rfl) (fun _ _ _ h => h) (Or.inl ⟨by rfl, ?_⟩) ?_ ?_
  rotate_left
  · intro w'
    go_simp
    with_reducible rfl
  rotate_left
  · simp only [Act.put, List.setIfInBounds_toArray, List.set_cons_zero, List.set_cons_succ, i64_w, i32_w]
    rfl
  refine pure_ (i := 2) (N := some 19) (v := ?_) (a' := ?_) #[true, true, true, false, false, false, false, false, false, false, false, false, false, false, false, false] rfl rfl (by kernel_rfl) (fun _ _ _ h => h) (Or.inl ⟨by rfl, ?_⟩) ?_ ?_
  rotate_left
  · intro w'
    go_simp
    with_reducible rfl
  rotate_left
  · simp only [Act.put, List.setIfInBounds_toArray, List.set_cons_zero, List.set_cons_succ, i64_w, i32_w]
    rfl
  refine pure_ (i := 3) (N := some 20) (v := ?_) (a' := ?_) #[true, true, true, true, false, false, false, false, false, false, false, false, false, false, false, false] rfl rfl (by kernel_rfl) (fun _ _ _ h => h) (Or.inl ⟨by rfl, ?_⟩) ?_ ?_
  rotate_left
  · intro w'
    go_simp
    with_reducible rfl
  rotate_left
  · simp only [Act.put, List.setIfInBounds_toArray, List.set_cons_zero, List.set_cons_succ, i64_w, i32_w]
    rfl
  refine pure_ (i := 5) (N := some 22) (v := ?_) (a' := ?_) #[true, true, true, true, false, true, false, false, false, false, false, false, false, false, false, false] rfl rfl (by kernel_rfl) (fun _ _ _ h => h) (Or.inl ⟨by rfl, ?_⟩) ?_ ?_
  rotate_left
  · intro w'
    go_simp
    with_reducible rfl
  rotate_left
  · simp only [Act.put, List.setIfInBounds_toArray, List.set_cons_zero, List.set_cons_succ, i64_w, i32_w]
    rfl
  refine pure_ (i := 7) (N := some 24) (v := ?_) (a' := ?_) #[true, true, true, true, false, true, false, true, false, false, false, false, false, false, false, false] rfl rfl (by kernel_rfl) (fun _ _ _ h => h) (Or.inl ⟨by rfl, ?_⟩) ?_ ?_
  rotate_left
  · intro w'
    go_simp
    with_reducible rfl
  rotate_left
  · simp only [Act.put, List.setIfInBounds_toArray, List.set_cons_zero, List.set_cons_succ, i64_w, i32_w]
    rfl
  refine pure_ (i := 8) (N := some 25) (v := ?_) (a' := ?_) #[true, true, true, true, false, true, false, true, true, false, false, false, false, false, false, false] rfl rfl (by kernel_rfl) (fun _ _ _ h => h) (Or.inl ⟨by rfl, ?_⟩) ?_ ?_
  rotate_left
  · intro w'
    go_simp
    with_reducible rfl
  rotate_left
  · simp only [Act.put, List.setIfInBounds_toArray, List.set_cons_zero, List.set_cons_succ, i64_w, i32_w]
    rfl
  refine pure_ (i := 9) (N := some 26) (v := ?_) (a' := ?_) #[true, true, true, true, false, true, false, true, true, true, false, false, false, false, false, false] rfl rfl (by kernel_rfl) (fun _ _ _ h => h) (Or.inl ⟨by rfl, ?_⟩) ?_ ?_
  rotate_left
  · intro w'
    go_simp
    with_reducible rfl
  rotate_left
  · simp only [Act.put, List.setIfInBounds_toArray, List.set_cons_zero, List.set_cons_succ, i64_w, i32_w]
    rfl
  refine pure_ (i := 10) (N := some 27) (v := ?_) (a' := ?_) #[true, true, true, true, false, true, false, true, true, true, true, false, false, false, false, false] rfl rfl (by kernel_rfl) (fun _ _ _ h => h) (Or.inl ⟨by rfl, ?_⟩) ?_ ?_
  rotate_left
  · intro w'
    go_simp
    with_reducible rfl
  rotate_left
  · simp only [Act.put, List.setIfInBounds_toArray, List.set_cons_zero, List.set_cons_succ, i64_w, i32_w]
    rfl
  refine pure_ (i := 12) (N := some 29) (v := ?_) (a' := ?_) #[true, true, true, true, false, true, false, true, true, true, true, false, true, false, false, false] rfl rfl (by kernel_rfl) (fun _ _ _ h => h) (Or.inl ⟨by rfl, ?_⟩) ?_ ?_
  rotate_left
  · intro w'
    go_simp
    with_reducible rfl
  rotate_left
  · simp only [Act.put, List.setIfInBounds_toArray, List.set_cons_zero, List.set_cons_succ, i64_w, i32_w]
    rfl
  refine take_ (i := 4) (N := some 21) (v := ?_) (a' := ?_) #[true, true, true, true, true, true, false, true, true, true, true, false, true, false, false, false] rfl rfl (by kernel_rfl) (fun _ _ _ h => h) (Or.inl ⟨by rfl, ?_⟩) hHeld ?_ ?_
  rotate_left
  · rintro w' ⟨s0, s1⟩
    go_simp
    with_reducible rfl
  rotate_left
  · simp only [Act.put, List.setIfInBounds_toArray, List.set_cons_zero, List.set_cons_succ, i64_w, i32_w]
    rfl
  refine pure_ (i := 6) (N := some 23) (v := ?_) (a' := ?_) #[true, true, true, true, true, true, true, true, true, true, true, false, true, false, false, false] rfl rfl (by kernel_rfl) (fun _ _ _ h => h) (Or.inl ⟨by rfl, ?_⟩) ?_ ?_
  rotate_left
  · intro w'
    go_simp
    with_reducible rfl
  rotate_left
  · simp only [Act.put, List.setIfInBounds_toArray, List.set_cons_zero, List.set_cons_succ, i64_w, i32_w]
    rfl
  refine pure_ (i := 14) (N := some 15) (v := ?_) (a' := ?_) #[true, true, true, true, true, true, true, true, true, true, true, false, true, false, true, false] rfl rfl (by kernel_rfl) (fun _ _ _ h => h) (Or.inl ⟨by rfl, ?_⟩) ?_ ?_
  rotate_left
  · intro w'
    go_simp
    with_reducible rfl
  rotate_left
  · simp only [Act.put, List.setIfInBounds_toArray, List.set_cons_zero, List.set_cons_succ, i64_w, i32_w]
    rfl
  refine take_ (i := 11) (N := some 28) (v := ?_) (a' := ?_) #[true, true, true, true, true, true, true, true, true, true, true, true, true, false, true, false] rfl rfl (by kernel_rfl) (fun _ _ _ h => h) (Or.inl ⟨by rfl, ?_⟩) hHeld ?_ ?_
  rotate_left
  · rintro w' ⟨s0, s1⟩
    go_simp
    with_reducible rfl
  rotate_left
  · simp only [Act.put, List.setIfInBounds_toArray, List.set_cons_zero, List.set_cons_succ, i64_w, i32_w]
    rfl
  refine pure_ (i := 13) (N := some 30) (v := ?_) (a' := ?_) #[true, true, true, true, true, true, true, true, true, true, true, true, true, true, true, false] rfl rfl (by kernel_rfl) (fun _ _ _ h => h) (Or.inl ⟨by rfl, ?_⟩) ?_ ?_
  rotate_left
  · intro w'
    go_simp
    with_reducible rfl
  rotate_left
  · simp only [Act.put, List.setIfInBounds_toArray, List.set_cons_zero, List.set_cons_succ, i64_w, i32_w]
    rfl
  refine pure_ (i := 15) (N := some 16) (v := ?_) (a' := ?_) #[true, true, true, true, true, true, true, true, true, true, true, true, true, true, true, true] rfl rfl (by kernel_rfl) (fun _ _ _ h => h) (Or.inl ⟨by rfl, ?_⟩) ?_ ?_
  rotate_left
  · intro w'
    go_simp
    with_reducible rfl
  rotate_left
  · simp only [Act.put, List.setIfInBounds_toArray, List.set_cons_zero, List.set_cons_succ, i64_w, i32_w]
    rfl
  refine done_ (by kernel_rfl) ?_


  have HI1 := Aside0.mk ((HI.out.kept HB1.out).kept (below_drew1 (Below.refl _ w1)))
  have HK1 := Aside0.mk ((Kept.of_below HB1.out (fun k_ => k_ = g)).drew)
  have BK1 := Aside0.mk (blk_drew BK.out)
  have HBB := Aside0.mk (below_drew1 (HB1.out.mono HB0.out))
  clear HB1 HI BK hF1 hS1 hHeld
  have HB1 := HBB
  clear HBB
  generalize w1.drew = w4 at HI1 HK1 BK1 HB1 ⊢
  go_wp2
  have n0_ := Aside0.mk (HI1.out.kept (below_drew1 (Below.refl _ w4)))
  have n1_ := Aside0.mk HK1.out.drew
  have n2_ := Aside0.mk (blk_drew BK1.out)
  have n3_ := Aside0.mk (below_drew1 HB1.out)
  clear HI1 HK1 BK1 HB1
  have HI1 := n0_
  have HK1 := n1_
  have BK1 := n2_
  have HB1 := n3_
  clear n0_ n1_ n2_ n3_
  refine start_ (n := 21) (S := fun w' => w'.cell? ⟨gb, 0, none⟩ = some (.slice A0 q0 c0) ∧ w'.cell? ⟨gb, 1, none⟩ = some (.slice A1 q1 c1) ∧ w'.cell? ⟨gb, 2, none⟩ = some (.slice (some ⟨g, 0, none⟩) N cN)) (ds := []) #[false, false, false, false, false, false, false, false, false, false, false, false, false, false, false, false, false, false, false, false, false] (by kernel_rfl) rfl rfl (⟨(blk_cell BK1.out 0).trans rfl, (blk_cell BK1.out 1).trans rfl, (blk_cell BK1.out 2).trans rfl⟩) (fun hHeld => ?_)
  generalize w4.drew = w5 at HI1 HK1 BK1 HB1 hHeld ⊢
  refine pure_ (i := 1) (N := some 32) (v := ?_) (a' := ?_) #[false, true, false, false, false, false, false, false, false, false, false, false, false, false, false, false, false, false, false, false, false] rfl rfl (by kernel_rfl) (fun _ _ _ h => h) (Or.inl ⟨by rfl, ?_⟩) ?_ ?_
  rotate_left
  · intro w'
    go_simp
    with_reducible rfl
  rotate_left
  · simp only [Act.put, List.setIfInBounds_toArray, List.set_cons_zero, List.set_cons_succ, i64_w, i32_w]
    rfl
  refine pure_ (i := 2) (N := some 33) (v := ?_) (a' := ?_) #[false, true, true, false, false, false, false, false, false, false, false, false, false, false, false, false, false, false, false, false, false] rfl rfl (by kernel_rfl) (fun _ _ _ h => h) (Or.inl ⟨by rfl, ?_⟩) ?_ ?_
  rotate_left
  · intro w'
    go_simp
    with_reducible rfl
  rotate_left
  · simp only [Act.put, List.setIfInBounds_toArray, List.set_cons_zero, List.set_cons_succ, i64_w, i32_w]
    rfl
  refine pure_ (i := 3) (N := some 34) (v := ?_) (a' := ?_) #[false, true, true, true, false, false, false, false, false, false, false, false, false, false, false, false, false, false, false, false, false] rfl rfl (by kernel_rfl) (fun _ _ _ h => h) (Or.inl ⟨by rfl, ?_⟩) ?_ ?_
  rotate_left
  · intro w'
    go_simp
    with_reducible rfl
  rotate_left
  · simp only [Act.put, List.setIfInBounds_toArray, List.set_cons_zero, List.set_cons_succ, i64_w, i32_w]
    rfl
  refine pure_ (i := 4) (N := some 35) (v := ?_) (a' := ?_) #[false, true, true, true, true, false, false, false, false, false, false, false, false, false, false, false, false, false, false, false, false] rfl rfl (by kernel_rfl) (fun _ _ _ h => h) (Or.inl ⟨by rfl, ?_⟩) ?_ ?_
  rotate_left
  · intro w'
    go_simp
    with_reducible rfl
  rotate_left
  · simp only [Act.put, List.setIfInBounds_toArray, List.set_cons_zero, List.set_cons_succ, i64_w, i32_w]
    rfl
  refine pure_ (i := 5) (N := some 36) (v := ?_) (a' := ?_) #[false, true, true, true, true, true, false, false, false, false, false, false, false, false, false, false, false, false, false, false, false] rfl rfl (by kernel_rfl) (fun _ _ _ h => h) (Or.inl ⟨by rfl, ?_⟩) ?_ ?_
  rotate_left
  · intro w'
    go_simp
    with_reducible rfl
  rotate_left
  · simp only [Act.put, List.setIfInBounds_toArray, List.set_cons_zero, List.set_cons_succ, i64_w, i32_w]
    rfl
  refine pure_ (i := 6) (N := some 37) (v := ?_) (a' := ?_) #[false, true, true, true, true, true, true, false, false, false, false, false, false, false, false, false, false, false, false, false, false] rfl rfl (by kernel_rfl) (fun _ _ _ h => h) (Or.inl ⟨by rfl, ?_⟩) ?_ ?_
  rotate_left
  · intro w'
    go_simp
    with_reducible rfl
  rotate_left
  · simp only [Act.put, List.setIfInBounds_toArray, List.set_cons_zero, List.set_cons_succ, i64_w, i32_w]
    rfl
  refine pure_ (i := 7) (N := some 38) (v := ?_) (a' := ?_) #[false, true, true, true, true, true, true, true, false, false, false, false, false, false, false, false, false, false, false, false, false] rfl rfl (by kernel_rfl) (fun _ _ _ h => h) (Or.inl ⟨by rfl, ?_⟩) ?_ ?_
  rotate_left
  · intro w'
    go_simp
    with_reducible rfl
  rotate_left
  · simp only [Act.put, List.setIfInBounds_toArray, List.set_cons_zero, List.set_cons_succ, i64_w, i32_w]
    rfl
  refine pure_ (i := 8) (N := some 39) (v := ?_) (a' := ?_) #[false, true, true, true, true, true, true, true, true, false, false, false, false, false, false, false, false, false, false, false, false] rfl rfl (by kernel_rfl) (fun _ _ _ h => h) (Or.inl ⟨by rfl, ?_⟩) ?_ ?_
  rotate_left
  · intro w'
    go_simp
    with_reducible rfl
  rotate_left
  · simp only [Act.put, List.setIfInBounds_toArray, List.set_cons_zero, List.set_cons_succ, i64_w, i32_w]
    rfl
  refine pure_ (i := 12) (N := some 43) (v := ?_) (a' := ?_) #[false, true, true, true, true, true, true, true, true, false, false, false, true, false, false, false, false, false, false, false, false] rfl rfl (by kernel_rfl) (fun _ _ _ h => h) (Or.inl ⟨by rfl, ?_⟩) ?_ ?_
  rotate_left
  · intro w'
    go_simp
    with_reducible rfl
  rotate_left
  · simp only [Act.put, List.setIfInBounds_toArray, List.set_cons_zero, List.set_cons_succ, i64_w, i32_w]
    rfl
  refine pure_ (i := 13) (N := some 44) (v := ?_) (a' := ?_) #[false, true, true, true, true, true, true, true, true, false, false, false, true, true, false, false, false, false, false, false, false] rfl rfl (by kernel_rfl) (fun _ _ _ h => h) (Or.inl ⟨by rfl, ?_⟩) ?_ ?_
  rotate_left
  · intro w'
    go_simp
    with_reducible rfl
  rotate_left
  · simp only [Act.put, List.setIfInBounds_toArray, List.set_cons_zero, List.set_cons_succ, i64_w, i32_w]
    rfl
  refine pure_ (i := 14) (N := some 45) (v := ?_) (a' := ?_) #[false, true, true, true, true, true, true, true, true, false, false, false, true, true, true, false, false, false, false, false, false] rfl rfl (by kernel_rfl) (fun _ _ _ h => h) (Or.inl ⟨by rfl, ?_⟩) ?_ ?_
  rotate_left
  · intro w'
    go_simp
    with_reducible rfl
  rotate_left
  · simp only [Act.put, List.setIfInBounds_toArray, List.set_cons_zero, List.set_cons_succ, i64_w, i32_w]
    rfl
  refine pure_ (i := 15) (N := some 46) (v := ?_) (a' := ?_) #[false, true, true, true, true, true, true, true, true, false, false, false, true, true, true, true, false, false, false, false, false] rfl rfl (by kernel_rfl) (fun _ _ _ h => h) (Or.inl ⟨by rfl, ?_⟩) ?_ ?_
  rotate_left
  · intro w'
    go_simp
    with_reducible rfl
  rotate_left
  · simp only [Act.put, List.setIfInBounds_toArray, List.set_cons_zero, List.set_cons_succ, i64_w, i32_w]
    rfl
  refine pure_ (i := 16) (N := some 47) (v := ?_) (a' := ?_) #[false, true, true, true, true, true, true, true, true, false, false, false, true, true, true, true, true, false, false, false, false] rfl rfl (by kernel_rfl) (fun _ _ _ h => h) (Or.inl ⟨by rfl, ?_⟩) ?_ ?_
  rotate_left
  · intro w'
    go_simp
    with_reducible rfl
  rotate_left
  · simp only [Act.put, List.setIfInBounds_toArray, List.set_cons_zero, List.set_cons_succ, i64_w, i32_w]
    rfl
  refine pure_ (i := 17) (N := some 48) (v := ?_) (a' := ?_) #[false, true, true, true, true, true, true, true, true, false, false, false, true, true, true, true, true, true, false, false, false] rfl rfl (by kernel_rfl) (fun _ _ _ h => h) (Or.inl ⟨by rfl, ?_⟩) ?_ ?_
  rotate_left
  · intro w'
    go_simp
    with_reducible rfl
  rotate_left
  · simp only [Act.put, List.setIfInBounds_toArray, List.set_cons_zero, List.set_cons_succ, i64_w, i32_w]
    rfl
  refine take_ (i := 0) (N := some 31) (v := ?_) (a' := ?_) #[true, true, true, true, true, true, true, true, true, false, false, false, true, true, true, true, true, true, false, false, false] rfl rfl (by kernel_rfl) (fun _ _ _ h => h) (Or.inl ⟨by rfl, ?_⟩) hHeld ?_ ?_
  rotate_left
  · rintro w' ⟨s0, s1, s2⟩
    go_simp
    with_reducible rfl
  rotate_left
  · simp only [Act.put, List.setIfInBounds_toArray, List.set_cons_zero, List.set_cons_succ, i64_w, i32_w]
    rfl
  refine take_ (i := 11) (N := some 42) (v := ?_) (a' := ?_) #[true, true, true, true, true, true, true, true, true, false, false, true, true, true, true, true, true, true, false, false, false] rfl rfl (by kernel_rfl) (fun _ _ _ h => h) (Or.inl ⟨by rfl, ?_⟩) hHeld ?_ ?_
  rotate_left
  · rintro w' ⟨s0, s1, s2⟩
    go_simp
    with_reducible rfl
  rotate_left
  · simp only [Act.put, List.setIfInBounds_toArray, List.set_cons_zero, List.set_cons_succ, i64_w, i32_w]
    rfl
  refine one_ (i := 9) (N := some 40) #[true, true, true, true, true, true, true, true, true, true, false, true, true, true, true, true, true, true, false, false, false] rfl rfl (by kernel_rfl) (by decide) (fun K hK => ?_)
  refine goes_ Try.func59 (by kernel_rfl) rfl #[.agg #[.slice A0 q0 c0, .slice A1 q1 c1, .slice (some ⟨g, 0, none⟩) N cN], .slice (some adf) fs.length cf, .slice (some ads) ss.length cs, .int .i64 (p : Int), .int .i64 (wrap64 ((b : Int) - 1)), .int .i64 (q : Int), .int .i64 (wrap64 ((d : Int) - 1))] (by rfl) rfl rfl (by (try simp only [List.map_toArray, List.map_cons, List.map_nil]); first | done | rfl) ?_
  rw [hwb, hwd]
  refine (IHB.out _ _ HI1.out).mono ?_
  rintro e w2 ⟨K2, rfl, hI2, hb2, hk2⟩
  refine ⟨_, rfl, ?_⟩
  have HI2 := Aside0.mk hI2
  have HB2 := Aside0.mk (HB1.out.trans hb2)
  have HK2 := Aside0.mk (HK1.out.then_ hk2 (fun _ hk => .inl hk))
  have BK2 := Aside0.mk (blk_kept BK1.out hk2 HNE.out)
  clear hI2 hb2 hk2 HB1 HI1 HK1 BK1
  refine hK.out _ _ ⟨(blk_cell BK2.out 0).trans rfl, (blk_cell BK2.out 1).trans rfl, (blk_cell BK2.out 2).trans rfl⟩ (fun hHeld => ?_)
  clear hK K
  refine norm_ (a' := ?_) ?_ ?_
  rotate_left
  · show Act.put _ (some 40) _ = _
    simp only [Act.put, List.setIfInBounds_toArray, List.set_cons_zero, List.set_cons_succ, i64_w, i32_w]
    rfl
  refine pure_ (i := 10) (N := some 41) (v := ?_) (a' := ?_) #[true, true, true, true, true, true, true, true, true, true, true, true, true, true, true, true, true, true, false, false, false] rfl rfl (by kernel_rfl) (fun _ _ _ h => h) (Or.inl ⟨by rfl, ?_⟩) ?_ ?_
  rotate_left
  · intro w'
    go_simp
    with_reducible rfl
  rotate_left
  · simp only [Act.put, List.setIfInBounds_toArray, List.set_cons_zero, List.set_cons_succ, i64_w, i32_w]
    rfl
  refine one_ (i := 18) (N := some 49) #[true, true, true, true, true, true, true, true, true, true, true, true, true, true, true, true, true, true, true, false, false] rfl rfl (by kernel_rfl) (by decide) (fun K hK => ?_)
  refine goes_ Try.func59 (by kernel_rfl) rfl #[.agg #[.slice A0 q0 c0, .slice A1 q1 c1, .slice (some ⟨g, 0, none⟩) N cN], .slice (some adf) fs.length cf, .slice (some ads) ss.length cs, .int .i64 (a : Int), .int .i64 (p : Int), .int .i64 (c : Int), .int .i64 (q : Int)] (by rfl) rfl rfl (by (try simp only [List.map_toArray, List.map_cons, List.map_nil]); first | done | rfl) ?_
  refine (IHN.out _ _ HI2.out).mono ?_
  rintro e w3 ⟨K3, rfl, hI3, hb3, hk3⟩
  refine ⟨_, rfl, ?_⟩
  have HI3 := Aside0.mk hI3
  have HB3 := Aside0.mk (HB2.out.trans hb3)
  have HK3 := Aside0.mk (HK2.out.then_ hk3 (fun _ hk => .inl hk))
  have BK3 := Aside0.mk (blk_kept BK2.out hk3 HNE.out)
  clear hI3 hb3 hk3 HB2 HI2 HK2 BK2
  refine hK.out _ _ ⟨(blk_cell BK3.out 0).trans rfl, (blk_cell BK3.out 1).trans rfl, (blk_cell BK3.out 2).trans rfl⟩ (fun hHeld => ?_)
  clear hK K
  refine norm_ (a' := ?_) ?_ ?_
  rotate_left
  · show Act.put _ (some 49) _ = _
    simp only [Act.put, List.setIfInBounds_toArray, List.set_cons_zero, List.set_cons_succ, i64_w, i32_w]
    rfl
  refine pure_ (i := 19) (N := some 50) (v := ?_) (a' := ?_) #[true, true, true, true, true, true, true, true, true, true, true, true, true, true, true, true, true, true, true, true, false] rfl rfl (by kernel_rfl) (fun _ _ _ h => h) (Or.inl ⟨by rfl, ?_⟩) ?_ ?_
  rotate_left
  · intro w'
    go_simp
    with_reducible rfl
  rotate_left
  · simp only [Act.put, List.setIfInBounds_toArray, List.set_cons_zero, List.set_cons_succ, i64_w, i32_w]
    rfl
  refine pure_ (i := 20) (N := some 14) (v := ?_) (a' := ?_) #[true, true, true, true, true, true, true, true, true, true, true, true, true, true, true, true, true, true, true, true, true] rfl rfl (by kernel_rfl) (fun _ _ _ h => h) (Or.inl ⟨by rfl, ?_⟩) ?_ ?_
  rotate_left
  · intro w'
    go_simp
    with_reducible rfl
  rotate_left
  · simp only [Act.put, List.setIfInBounds_toArray, List.set_cons_zero, List.set_cons_succ, i64_w, i32_w]
    rfl
  refine done_ (by kernel_rfl) ?_

  go_wp2
  go_ret
  refine ⟨K3, ?_, HI3.out, HB3.out, HK3.out⟩
  first | rfl | (congr 2; rw [hw1, hw2]; push_cast; omega)

set_option maxHeartbeats 8000000 in
set_option maxRecDepth 100000 in
theorem most_nil (A0 A1 Af As : Option Addr) (q0 c0 q1 c1 cf cs base g N cN : Nat) (fs ss : List Int) (X Y : Tr.F) (a b c d : Nat) (K : List Int) (w : World) (hX : X = .nil ∨ Y = .nil) (hab : a + X.size = b) (hcd : c + Y.size = d) (hI : MInv base g N cN Af As fs ss w K) (hbase : base ≤ w.heap.size) :
    Calls Try.prog 59 (MArgs A0 A1 Af As q0 c0 q1 c1 cf cs g N cN fs ss a b c d) w (MPost base g N cN Af As fs ss w (Tr.F.pc X Y)) := by
  have hz : Tr.F.pc X Y = 0 := by
    rcases hX with rfl | rfl
    · exact Tr.F.pc_nil _
    · exact Tr.F.pc_nil2 _
  have hor : ((a : Int) == (b : Int)) = true ∨ ((a : Int) == (b : Int)) = false ∧ ((c : Int) == (d : Int)) = true := by
    rcases hX with rfl | rfl
    · left; simp only [Tr.F.size] at hab; simp; omega
    · by_cases h : a = b
      · left; simp; omega
      · right; simp only [Tr.F.size] at hcd; exact ⟨by simp; omega, by simp; omega⟩
  rw [hz]
  clear hX hab hcd hz
  have HI := Aside0.mk hI
  have HB0 := Aside0.mk hbase
  clear hI hbase
  unfold MArgs
  rcases hor with e1 | ⟨e1, e2⟩
  · go_enter Try.func59, Try.ntmps59
    go_wp2_with ((with_reducible refine gate_dst (N := 7) rfl ?_); refine box_event ?hg (N := 7) ?hd (cs := #[.slice A0 q0 c0, .slice A1 q1 c1, .slice (some ⟨g, 0, none⟩) N cN]) (t := 65) ?hr ?_; (case hd => rfl); (case hg => rfl); (case hr => first | (go_simp; done) | (go_simp; rfl)); intro gb hg1 w1 hbox hb1; have HB1 := Aside0.mk hb1; clear hbox hb1 hg1)
    go_ret
    exact ⟨K, rfl, HI.out.kept HB1.out, HB1.out.mono HB0.out, Kept.of_below HB1.out _⟩
  · go_enter Try.func59, Try.ntmps59
    go_wp2_with ((with_reducible refine gate_dst (N := 7) rfl ?_); refine box_event ?hg (N := 7) ?hd (cs := #[.slice A0 q0 c0, .slice A1 q1 c1, .slice (some ⟨g, 0, none⟩) N cN]) (t := 65) ?hr ?_; (case hd => rfl); (case hg => rfl); (case hr => first | (go_simp; done) | (go_simp; rfl)); intro gb hg1 w1 hbox hb1; have HB1 := Aside0.mk hb1; clear hbox hb1 hg1)
    go_ret
    exact ⟨K, rfl, HI.out.kept HB1.out, HB1.out.mono HB0.out, Kept.of_below HB1.out _⟩
set_option maxHeartbeats 8000000 in
set_option maxRecDepth 100000 in
theorem most_known (A0 A1 Af As : Option Addr) (q0 c0 q1 c1 cf cs base g N cN : Nat) (fs ss : List Int) (a b c d n m e1 e2 e3 e4 e5 at_ v : Nat) (K : List Int) (w : World) (hab : a < b) (hcd : c < d) (hv : rd K (at_ : Int) = (v : Int)) (hv2 : wrap64 (v : Int) = (v : Int)) (hat : at_ < N)
    (hn : wrap64 ((fs.length : Int) + 1) = (n : Int)) (hm : wrap64 ((ss.length : Int) + 1) = (m : Int)) (h1 : wrap64 ((a : Int) * (n : Int)) = (e1 : Int)) (h2 : wrap64 ((e1 : Int) + (b : Int)) = (e2 : Int)) (h3 : wrap64 ((e2 : Int) * (m : Int)) = (e3 : Int)) (h4 : wrap64 ((e3 : Int) + (c : Int)) = (e4 : Int)) (h5 : wrap64 ((e4 : Int) * (m : Int)) = (e5 : Int)) (h6 : wrap64 ((e5 : Int) + (d : Int)) = (at_ : Int))
    (hI : MInv base g N cN Af As fs ss w K) (hbase : base ≤ w.heap.size) :
    Calls Try.prog 59 (MArgs A0 A1 Af As q0 c0 q1 c1 cf cs g N cN fs ss a b c d) w (MPost base g N cN Af As fs ss w v) := by
  have hne1 : ((a : Int) == (b : Int)) = false := by clear h1 h2 h3 h4 h5 h6 hn hm hv; simp; omega
  have hne2 : ((c : Int) == (d : Int)) = false := by clear h1 h2 h3 h4 h5 h6 hn hm hv; simp; omega
  have hc := Kd.R_celln 0 hI.1 (at_ : Int) (Int.natCast_nonneg _) (Int.ofNat_lt.2 hat)
  have hk : rdOf 0 K (at_ : Int) = (v : Int) := hv
  rw [hk, Int.toNat_natCast] at hc
  have HI := Aside0.mk hI
  have HB0 := Aside0.mk hbase
  have hcc := Aside0.mk hc.1
  clear hI hbase hab hcd hv hk hc
  unfold MArgs
  go_enter Try.func59, Try.ntmps59
  go_wp2_with ((with_reducible refine gate_dst (N := 7) rfl ?_); refine box_event ?hg (N := 7) ?hd (cs := #[.slice A0 q0 c0, .slice A1 q1 c1, .slice (some ⟨g, 0, none⟩) N cN]) (t := 65) ?hr ?_; (case hd => rfl); (case hg => rfl); (case hr => first | (go_simp; done) | (go_simp; rfl)); intro gb hg1 w1 hbox hb1; have HB1 := Aside0.mk hb1; have hz2 : w1.cell? ⟨gb, 2, none⟩ = some (.slice (some ⟨g, 0, none⟩) N cN) := (blk_cell hbox 2).trans rfl; have hcw : w1.cell? ⟨g, at_, none⟩ = some (.int .i8 (v : Int)) := (hb1.cell (World.block_lt_of_cell? w _ hcc.out)).trans hcc.out; clear hbox hb1 hg1)
  go_ret
  exact ⟨K, by (show Ending.returned (.int .i64 (wrap64 (v : Int))) = _); rw [hv2], HI.out.kept HB1.out, HB1.out.mono HB0.out, Kept.of_below HB1.out _⟩

set_option maxHeartbeats 8000000 in
set_option maxRecDepth 100000 in
theorem most_new (A0 A1 Af As : Option Addr) (q0 c0 q1 c1 cf cs base g N cN : Nat) (fs ss : List Int) (a b c d n m e1 e2 e3 e4 e5 at_ r1 r2 r3 r12 r : Nat) (K : List Int) (w : World) (hab : a < b) (hcd : c < d) (hv : rd K (at_ : Int) = -1) (hat : at_ < N)
    (hn : wrap64 ((fs.length : Int) + 1) = (n : Int)) (hm : wrap64 ((ss.length : Int) + 1) = (m : Int)) (h1 : wrap64 ((a : Int) * (n : Int)) = (e1 : Int)) (h2 : wrap64 ((e1 : Int) + (b : Int)) = (e2 : Int)) (h3 : wrap64 ((e2 : Int) * (m : Int)) = (e3 : Int)) (h4 : wrap64 ((e3 : Int) + (c : Int)) = (e4 : Int)) (h5 : wrap64 ((e4 : Int) * (m : Int)) = (e5 : Int)) (h6 : wrap64 ((e5 : Int) + (d : Int)) = (at_ : Int))
    (hwb : wrap64 ((b : Int) - 1) = ((b - 1 : Nat) : Int)) (hwd : wrap64 ((d : Int) - 1) = ((d - 1 : Nat) : Int)) (hx1 : (if r1 < r2 then (r2 : Int) else (r1 : Int)) = (r12 : Int)) (hx2 : (if r12 < r3 then (r3 : Int) else (r12 : Int)) = (r : Int)) (hr8 : IntKind.i8.wrap (r : Int) = (r : Int))
    (ih1 : ∀ K w, MInv base g N cN Af As fs ss w K → Calls Try.prog 59 (MArgs A0 A1 Af As q0 c0 q1 c1 cf cs g N cN fs ss a (b - 1) c d) w (MPost base g N cN Af As fs ss w r1))
    (ih2 : ∀ K w, MInv base g N cN Af As fs ss w K → Calls Try.prog 59 (MArgs A0 A1 Af As q0 c0 q1 c1 cf cs g N cN fs ss a b c (d - 1)) w (MPost base g N cN Af As fs ss w r2))
    (ih3 : ∀ K w, MInv base g N cN Af As fs ss w K → base ≤ w.heap.size → Calls Try.prog 62 (MArgs A0 A1 Af As q0 c0 q1 c1 cf cs g N cN fs ss a b c d) w (MPost base g N cN Af As fs ss w r3))
    (hset : ∀ K, MP fs ss K → MP fs ss (K.set at_ (r : Int)))
    (hI : MInv base g N cN Af As fs ss w K) (hbase : base ≤ w.heap.size) :
    Calls Try.prog 59 (MArgs A0 A1 Af As q0 c0 q1 c1 cf cs g N cN fs ss a b c d) w (MPost base g N cN Af As fs ss w r) := by
  have hne1 : ((a : Int) == (b : Int)) = false := by clear h1 h2 h3 h4 h5 h6 hn hm hv hwb hwd hx1 hx2 hr8; simp; omega
  have hne2 : ((c : Int) == (d : Int)) = false := by clear h1 h2 h3 h4 h5 h6 hn hm hv hwb hwd hx1 hx2 hr8; simp; omega
  have hc := Kd.R_celln 0 hI.1 (at_ : Int) (Int.natCast_nonneg _) (Int.ofNat_lt.2 hat)
  have hk : rdOf 0 K (at_ : Int) = -1 := hv
  rw [hk, Int.toNat_natCast] at hc
  have HI := Aside0.mk hI
  have HB0 := Aside0.mk hbase
  have hcc := Aside0.mk hc.1
  have IH1 := Aside0.mk ih1
  have IH2 := Aside0.mk ih2
  have IH3 := Aside0.mk ih3
  have HSET := Aside0.mk hset
  have HW := Aside0.mk (And.intro hwb hwd)
  have H8 := Aside0.mk hr8
  clear hI hbase hab hcd hv hk hc ih1 ih2 ih3 hset hwb hwd
  unfold MArgs
  go_enter Try.func59, Try.ntmps59
  go_wp2_with ((with_reducible refine gate_dst (N := 7) rfl ?_); refine box_event ?hg (N := 7) ?hd (cs := #[.slice A0 q0 c0, .slice A1 q1 c1, .slice (some ⟨g, 0, none⟩) N cN]) (t := 65) ?hr ?_; (case hd => rfl); (case hg => rfl); (case hr => first | (go_simp; done) | (go_simp; rfl)); intro gb hg1 w1 hbox hb1; have HB1 := Aside0.mk hb1; have BK := Aside0.mk hbox; have HG := Aside0.mk hg1; have hz2 : w1.cell? ⟨gb, 2, none⟩ = some (.slice (some ⟨g, 0, none⟩) N cN) := (blk_cell hbox 2).trans rfl; have hcw : w1.cell? ⟨g, at_, none⟩ = some (.int .i8 (-1)) := (hb1.cell (World.block_lt_of_cell? w _ hcc.out)).trans hcc.out; clear hbox hb1 hg1)
  have HNE : Aside0 (¬ gb = g) := ⟨fun e => by have h1_ := HG.out; have h2_ := Kd.R_lt HI.out.1 g (by rfl); omega⟩
  have HI1 := Aside0.mk ((HI.out.kept HB1.out).kept (below_drew1 (Below.refl _ w1)))
  have HK1 := Aside0.mk ((Kept.of_below HB1.out (fun k_ => k_ = g)).drew)
  have BK1 := Aside0.mk (blk_drew BK.out)
  have HBB := Aside0.mk (below_drew1 (HB1.out.mono HB0.out))
  clear HB1 BK hz2 hcw
  have HB1 := HBB
  clear HBB
  refine start_ (n := 20) (S := fun w' => w'.cell? ⟨gb, 0, none⟩ = some (.slice A0 q0 c0) ∧ w'.cell? ⟨gb, 1, none⟩ = some (.slice A1 q1 c1) ∧ w'.cell? ⟨gb, 2, none⟩ = some (.slice (some ⟨g, 0, none⟩) N cN)) (ds := []) #[false, false, false, false, false, false, false, false, false, false, false, false, false, false, false, false, false, false, false, false] (by kernel_rfl) rfl rfl (⟨(blk_cell BK1.out 0).trans rfl, (blk_cell BK1.out 1).trans rfl, (blk_cell BK1.out 2).trans rfl⟩) (fun hHeld => ?_)
  generalize w1.drew = w5 at HI1 HK1 BK1 HB1 hHeld ⊢
  refine pure_ (i := 1) (N := some 59) (v := ?_) (a' := ?_) #[false, true, false, false, false, false, false, false, false, false, false, false, false, false, false, false, false, false, false, false] rfl rfl (by kernel_rfl) (fun _ _ _ h => h) (Or.inl ⟨by rfl, ?_⟩) ?_ ?_
  rotate_left
  · intro w'
    go_simp
    with_reducible rfl
  rotate_left
  · simp only [Act.put, List.setIfInBounds_toArray, List.set_cons_zero, List.set_cons_succ, i64_w, i32_w]
    rfl
  refine pure_ (i := 2) (N := some 60) (v := ?_) (a' := ?_) #[false, true, true, false, false, false, false, false, false, false, false, false, false, false, false, false, false, false, false, false] rfl rfl (by kernel_rfl) (fun _ _ _ h => h) (Or.inl ⟨by rfl, ?_⟩) ?_ ?_
  rotate_left
  · intro w'
    go_simp
    with_reducible rfl
  rotate_left
  · simp only [Act.put, List.setIfInBounds_toArray, List.set_cons_zero, List.set_cons_succ, i64_w, i32_w]
    rfl
  refine pure_ (i := 3) (N := some 61) (v := ?_) (a' := ?_) #[false, true, true, true, false, false, false, false, false, false, false, false, false, false, false, false, false, false, false, false] rfl rfl (by kernel_rfl) (fun _ _ _ h => h) (Or.inl ⟨by rfl, ?_⟩) ?_ ?_
  rotate_left
  · intro w'
    go_simp
    with_reducible rfl
  rotate_left
  · simp only [Act.put, List.setIfInBounds_toArray, List.set_cons_zero, List.set_cons_succ, i64_w, i32_w]
    rfl
  refine pure_ (i := 4) (N := some 62) (v := ?_) (a' := ?_) #[false, true, true, true, true, false, false, false, false, false, false, false, false, false, false, false, false, false, false, false] rfl rfl (by kernel_rfl) (fun _ _ _ h => h) (Or.inl ⟨by rfl, ?_⟩) ?_ ?_
  rotate_left
  · intro w'
    go_simp
    with_reducible rfl
  rotate_left
  · simp only [Act.put, List.setIfInBounds_toArray, List.set_cons_zero, List.set_cons_succ, i64_w, i32_w]
    rfl
  refine pure_ (i := 5) (N := some 63) (v := ?_) (a' := ?_) #[false, true, true, true, true, true, false, false, false, false, false, false, false, false, false, false, false, false, false, false] rfl rfl (by kernel_rfl) (fun _ _ _ h => h) (Or.inl ⟨by rfl, ?_⟩) ?_ ?_
  rotate_left
  · intro w'
    go_simp
    with_reducible rfl
  rotate_left
  · simp only [Act.put, List.setIfInBounds_toArray, List.set_cons_zero, List.set_cons_succ, i64_w, i32_w]
    rfl
  refine pure_ (i := 6) (N := some 64) (v := ?_) (a' := ?_) #[false, true, true, true, true, true, true, false, false, false, false, false, false, false, false, false, false, false, false, false] rfl rfl (by kernel_rfl) (fun _ _ _ h => h) (Or.inl ⟨by rfl, ?_⟩) ?_ ?_
  rotate_left
  · intro w'
    go_simp
    with_reducible rfl
  rotate_left
  · simp only [Act.put, List.setIfInBounds_toArray, List.set_cons_zero, List.set_cons_succ, i64_w, i32_w]
    rfl
  refine pure_ (i := 7) (N := some 65) (v := ?_) (a' := ?_) #[false, true, true, true, true, true, true, true, false, false, false, false, false, false, false, false, false, false, false, false] rfl rfl (by kernel_rfl) (fun _ _ _ h => h) (Or.inl ⟨by rfl, ?_⟩) ?_ ?_
  rotate_left
  · intro w'
    go_simp
    with_reducible rfl
  rotate_left
  · simp only [Act.put, List.setIfInBounds_toArray, List.set_cons_zero, List.set_cons_succ, i64_w, i32_w]
    rfl
  refine pure_ (i := 10) (N := some 68) (v := ?_) (a' := ?_) #[false, true, true, true, true, true, true, true, false, false, true, false, false, false, false, false, false, false, false, false] rfl rfl (by kernel_rfl) (fun _ _ _ h => h) (Or.inl ⟨by rfl, ?_⟩) ?_ ?_
  rotate_left
  · intro w'
    go_simp
    with_reducible rfl
  rotate_left
  · simp only [Act.put, List.setIfInBounds_toArray, List.set_cons_zero, List.set_cons_succ, i64_w, i32_w]
    rfl
  refine pure_ (i := 11) (N := some 69) (v := ?_) (a' := ?_) #[false, true, true, true, true, true, true, true, false, false, true, true, false, false, false, false, false, false, false, false] rfl rfl (by kernel_rfl) (fun _ _ _ h => h) (Or.inl ⟨by rfl, ?_⟩) ?_ ?_
  rotate_left
  · intro w'
    go_simp
    with_reducible rfl
  rotate_left
  · simp only [Act.put, List.setIfInBounds_toArray, List.set_cons_zero, List.set_cons_succ, i64_w, i32_w]
    rfl
  refine pure_ (i := 12) (N := some 70) (v := ?_) (a' := ?_) #[false, true, true, true, true, true, true, true, false, false, true, true, true, false, false, false, false, false, false, false] rfl rfl (by kernel_rfl) (fun _ _ _ h => h) (Or.inl ⟨by rfl, ?_⟩) ?_ ?_
  rotate_left
  · intro w'
    go_simp
    with_reducible rfl
  rotate_left
  · simp only [Act.put, List.setIfInBounds_toArray, List.set_cons_zero, List.set_cons_succ, i64_w, i32_w]
    rfl
  refine pure_ (i := 13) (N := some 71) (v := ?_) (a' := ?_) #[false, true, true, true, true, true, true, true, false, false, true, true, true, true, false, false, false, false, false, false] rfl rfl (by kernel_rfl) (fun _ _ _ h => h) (Or.inl ⟨by rfl, ?_⟩) ?_ ?_
  rotate_left
  · intro w'
    go_simp
    with_reducible rfl
  rotate_left
  · simp only [Act.put, List.setIfInBounds_toArray, List.set_cons_zero, List.set_cons_succ, i64_w, i32_w]
    rfl
  refine pure_ (i := 14) (N := some 72) (v := ?_) (a' := ?_) #[false, true, true, true, true, true, true, true, false, false, true, true, true, true, true, false, false, false, false, false] rfl rfl (by kernel_rfl) (fun _ _ _ h => h) (Or.inl ⟨by rfl, ?_⟩) ?_ ?_
  rotate_left
  · intro w'
    go_simp
    with_reducible rfl
  rotate_left
  · simp only [Act.put, List.setIfInBounds_toArray, List.set_cons_zero, List.set_cons_succ, i64_w, i32_w]
    rfl
  refine pure_ (i := 15) (N := some 73) (v := ?_) (a' := ?_) #[false, true, true, true, true, true, true, true, false, false, true, true, true, true, true, true, false, false, false, false] rfl rfl (by kernel_rfl) (fun _ _ _ h => h) (Or.inl ⟨by rfl, ?_⟩) ?_ ?_
  rotate_left
  · intro w'
    go_simp
    with_reducible rfl
  rotate_left
  · simp only [Act.put, List.setIfInBounds_toArray, List.set_cons_zero, List.set_cons_succ, i64_w, i32_w]
    rfl
  refine pure_ (i := 16) (N := some 74) (v := ?_) (a' := ?_) #[false, true, true, true, true, true, true, true, false, false, true, true, true, true, true, true, true, false, false, false] rfl rfl (by kernel_rfl) (fun _ _ _ h => h) (Or.inl ⟨by rfl, ?_⟩) ?_ ?_
  rotate_left
  · intro w'
    go_simp
    with_reducible rfl
  rotate_left
  · simp only [Act.put, List.setIfInBounds_toArray, List.set_cons_zero, List.set_cons_succ, i64_w, i32_w]
    rfl
  refine take_ (i := 0) (N := some 58) (v := ?_) (a' := ?_) #[true, true, true, true, true, true, true, true, false, false, true, true, true, true, true, true, true, false, false, false] rfl rfl (by kernel_rfl) (fun _ _ _ h => h) (Or.inl ⟨by rfl, ?_⟩) hHeld ?_ ?_
  rotate_left
  · rintro w' ⟨s0, s1, s2⟩
    go_simp
    with_reducible rfl
  rotate_left
  · simp only [Act.put, List.setIfInBounds_toArray, List.set_cons_zero, List.set_cons_succ, i64_w, i32_w]
    rfl
  refine take_ (i := 9) (N := some 67) (v := ?_) (a' := ?_) #[true, true, true, true, true, true, true, true, false, true, true, true, true, true, true, true, true, false, false, false] rfl rfl (by kernel_rfl) (fun _ _ _ h => h) (Or.inl ⟨by rfl, ?_⟩) hHeld ?_ ?_
  rotate_left
  · rintro w' ⟨s0, s1, s2⟩
    go_simp
    with_reducible rfl
  rotate_left
  · simp only [Act.put, List.setIfInBounds_toArray, List.set_cons_zero, List.set_cons_succ, i64_w, i32_w]
    rfl
  refine one_ (i := 8) (N := some 66) #[true, true, true, true, true, true, true, true, true, true, true, true, true, true, true, true, true, false, false, false] rfl rfl (by kernel_rfl) (by decide) (fun K hK => ?_)
  refine goes_ Try.func59 (by kernel_rfl) rfl #[.agg #[.slice A0 q0 c0, .slice A1 q1 c1, .slice (some ⟨g, 0, none⟩) N cN], .slice Af fs.length cf, .slice As ss.length cs, .int .i64 (a : Int), .int .i64 (wrap64 ((b : Int) - 1)), .int .i64 (c : Int), .int .i64 (d : Int)] (by rfl) rfl rfl (by (try simp only [List.map_toArray, List.map_cons, List.map_nil]); first | done | rfl) ?_
  rw [HW.out.1]
  refine (IH1.out _ _ HI1.out).mono ?_
  rintro e w2 ⟨K2, rfl, hI2, hb2, hk2⟩
  refine ⟨_, rfl, ?_⟩
  have HI2 := Aside0.mk hI2
  have HB2 := Aside0.mk (HB1.out.trans hb2)
  have HK2 := Aside0.mk (HK1.out.then_ hk2 (fun _ hk => .inl hk))
  have BK2 := Aside0.mk (blk_kept BK1.out hk2 HNE.out)
  clear hI2 hb2 hk2 HB1 HI1 HK1 BK1
  refine hK.out _ _ ⟨(blk_cell BK2.out 0).trans rfl, (blk_cell BK2.out 1).trans rfl, (blk_cell BK2.out 2).trans rfl⟩ (fun hHeld => ?_)
  clear hK K
  refine norm_ (a' := ?_) ?_ ?_
  rotate_left
  · show Act.put _ (some 66) _ = _
    simp only [Act.put, List.setIfInBounds_toArray, List.set_cons_zero, List.set_cons_succ, i64_w, i32_w]
    rfl
  refine one_ (i := 17) (N := some 75) #[true, true, true, true, true, true, true, true, true, true, true, true, true, true, true, true, true, true, false, false] rfl rfl (by kernel_rfl) (by decide) (fun K hK => ?_)
  refine goes_ Try.func59 (by kernel_rfl) rfl #[.agg #[.slice A0 q0 c0, .slice A1 q1 c1, .slice (some ⟨g, 0, none⟩) N cN], .slice Af fs.length cf, .slice As ss.length cs, .int .i64 (a : Int), .int .i64 (b : Int), .int .i64 (c : Int), .int .i64 (wrap64 ((d : Int) - 1))] (by rfl) rfl rfl (by (try simp only [List.map_toArray, List.map_cons, List.map_nil]); first | done | rfl) ?_
  rw [HW.out.2]
  refine (IH2.out _ _ HI2.out).mono ?_
  rintro e w3 ⟨K3, rfl, hI3, hb3, hk3⟩
  refine ⟨_, rfl, ?_⟩
  have HI3 := Aside0.mk hI3
  have HB3 := Aside0.mk (HB2.out.trans hb3)
  have HK3 := Aside0.mk (HK2.out.then_ hk3 (fun _ hk => .inl hk))
  have BK3 := Aside0.mk (blk_kept BK2.out hk3 HNE.out)
  clear hI3 hb3 hk3 HB2 HI2 HK2 BK2
  refine hK.out _ _ ⟨(blk_cell BK3.out 0).trans rfl, (blk_cell BK3.out 1).trans rfl, (blk_cell BK3.out 2).trans rfl⟩ (fun hHeld => ?_)
  clear hK K
  refine norm_ (a' := ?_) ?_ ?_
  rotate_left
  · show Act.put _ (some 75) _ = _
    simp only [Act.put, List.setIfInBounds_toArray, List.set_cons_zero, List.set_cons_succ, i64_w, i32_w]
    rfl
  refine pure_ (i := 18) (N := some 76) (v := ?_) (a' := ?_) #[true, true, true, true, true, true, true, true, true, true, true, true, true, true, true, true, true, true, true, false] rfl rfl (by kernel_rfl) (fun _ _ _ h => h) (Or.inl ⟨by rfl, ?_⟩) ?_ ?_
  rotate_left
  · intro w'
    go_simp
    with_reducible rfl
  rotate_left
  · simp only [Act.put, List.setIfInBounds_toArray, List.set_cons_zero, List.set_cons_succ, i64_w, i32_w]
    rfl
  refine pure_ (i := 19) (N := some 18) (v := ?_) (a' := ?_) #[true, true, true, true, true, true, true, true, true, true, true, true, true, true, true, true, true, true, true, true] rfl rfl (by kernel_rfl) (fun _ _ _ h => h) (Or.inl ⟨by rfl, ?_⟩) ?_ ?_
  rotate_left
  · intro w'
    go_simp
    with_reducible rfl
  rotate_left
  · simp only [Act.put, List.setIfInBounds_toArray, List.set_cons_zero, List.set_cons_succ, i64_w, i32_w]
    rfl
  refine done_ (by kernel_rfl) ?_

  clear hHeld
  have hz30 : w3.cell? ⟨gb, 0, none⟩ = some (.slice A0 q0 c0) := (blk_cell BK3.out 0).trans rfl
  have hz31 : w3.cell? ⟨gb, 1, none⟩ = some (.slice A1 q1 c1) := (blk_cell BK3.out 1).trans rfl
  have hz32 : w3.cell? ⟨gb, 2, none⟩ = some (.slice (some ⟨g, 0, none⟩) N cN) := (blk_cell BK3.out 2).trans rfl
  go_wp2_with (first | ((with_reducible refine gate_callee (f := 62) rfl ?_); refine goesL_ (some 85) rfl rfl Try.func62 (by kernel_rfl) rfl #[.agg #[.slice A0 q0 c0, .slice A1 q1 c1, .slice (some ⟨g, 0, none⟩) N cN], .slice Af fs.length cf, .slice As ss.length cs, .int .i64 (a : Int), .int .i64 (b : Int), .int .i64 (c : Int), .int .i64 (d : Int)] rfl (by (try simp only [List.map_toArray, List.map_cons, List.map_nil]); first | done | rfl) ?_; refine (IH3.out _ _ HI3.out (Nat.le_trans HB0.out HK3.out.1)).mono ?_; rintro e w4 ⟨K4, rfl, hI4, hb4, hk4⟩; refine ⟨_, rfl, ?_⟩; have HI4 := Aside0.mk hI4; have HB4 := Aside0.mk (HB3.out.trans hb4); have HK4 := Aside0.mk (HK3.out.then_ hk4 (fun _ hk => .inl hk)); have BK4 := Aside0.mk (blk_kept BK3.out hk4 HNE.out); have hz4 : w4.cell? ⟨gb, 2, none⟩ = some (.slice (some ⟨g, 0, none⟩) N cN) := (blk_cell BK4.out 2).trans rfl; have hcs4 := Kd.R_celln 0 HI4.out.1 (at_ : Int) (Int.natCast_nonneg _) (Int.ofNat_lt.2 hat); rw [Int.toNat_natCast] at hcs4; obtain ⟨hcs4, hfz4⟩ := hcs4; clear hI4 hb4 hk4 hz30 hz31 hz32))
  go_ret
  have hp := Kd.R_putg HI4.out.1 (at_ : Int) (r : Int)
  rw [Int.toNat_natCast] at hp
  have hkp : Kept w4 (w4.setCell ⟨g, at_, none⟩ (.int .i8 (r : Int))) (fun k_ => k_ = g) := (Kept.refl w4 (fun k_ => k_ = g)).setCell (p := ⟨g, at_, none⟩) (.inl rfl) _
  refine ⟨K4.set at_ (r : Int), rfl, ⟨hp.1, HSET.out _ HI4.out.2.1, by rw [List.length_set]; exact HI4.out.2.2.1, Kd.C_kept_step HI4.out.2.2.2.1 hkp, Kd.C_kept_step HI4.out.2.2.2.2 hkp⟩, ?_, HK4.out.then_ hkp (fun _ hk => .inl hk)⟩
  exact HB4.out.setCell (Kd.R_base HI4.out.1 g rfl) _

end Go.Proofs.Yteangdgmokkjbaa.Mo
