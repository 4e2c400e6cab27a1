import Derived.Test.YteangdgmokkjbaaProg
import Derived.Below
import Derived.Deep.Draws
import Derived.Deep.AppendLies
import Derived.Maps.AppendAt
import Derived.OwnWalk
import Derived.Laws.BytesArg
import Derived.Laws.MakeOwn
import Derived.Laws.OwnMore
import Derived.Deep.OwnRows
import Derived.Tactics
import Derived.Lib.ConvBytes
import Derived.Laws.Slices
import Derived.WalkKit
import Derived.KernelRfl
import Derived.RowKit3
import Derived.Deep.LoopGhost
import Derived.Deep.QuietTactic
import Derived.BigQuiet
import Derived.WideLaws
import Derived.Deep.DeepCutAuto
import Derived.Deep.CutBlock
import Derived.Deep.RegionHeld3
import Derived.Laws.Rows
import Derived.Lib.AppendStr
import Derived.ArgAppend
import Derived.Laws.IdiomCopy
import Derived.OrdersHeld
import Derived.Laws.BitsLemmas
import Derived.RowKit
import Derived.Test.YteangdgmokkjbaaWWords
import Derived.Test.YteangdgmokkjbaaWLast
import Derived.Test.YteangdgmokkjbaaWTab
import Derived.Test.YteangdgmokkjbaaWFour
import Derived.Test.YteangdgmokkjbaaWQPut
import Derived.Test.YteangdgmokkjbaaWApart
import Derived.Test.YteangdgmokkjbaaWArr
import Derived.Test.YteangdgmokkjbaaWZeros
import Derived.Test.YteangdgmokkjbaaWFoot
import Derived.Test.YteangdgmokkjbaaWKept
import Derived.Test.YteangdgmokkjbaaWShare
import Derived.Test.YteangdgmokkjbaaWN
import Derived.Test.YteangdgmokkjbaaWFootNe
import Derived.Test.YteangdgmokkjbaaWAt
import Derived.Test.YteangdgmokkjbaaWEqStruct
import Derived.Test.YteangdgmokkjbaaWRepsOne
import Derived.Test.YteangdgmokkjbaaWInv
import Derived.Test.YteangdgmokkjbaaWInvWords
import Derived.Test.YteangdgmokkjbaaWGuard
import Derived.Test.YteangdgmokkjbaaWNEv
import Derived.Test.YteangdgmokkjbaaWMore
import Derived.Test.YteangdgmokkjbaaGl
import Derived.Test.YteangdgmokkjbaaEd
namespace Go.Proofs.Yteangdgmokkjbaa.Mn
open Go.RowKit Go.Proofs.Yteangdgmokkjbaa Go.Proofs.Yteangdgmokkjbaa.Gl Go.Proofs.YteangdgmokkjbaaW.PrintWords Go.Proofs.YteangdgmokkjbaaW.PrintLast Go.Proofs.YteangdgmokkjbaaW.PrintMore
attribute [local go_sem] max2_int min2_int max_two min_two max_three min_three max_four min_four
set_option linter.unusedVariables false
set_option linter.unusedSimpArgs false

set_option maxRecDepth 100000 in
theorem n01 (A : Option Addr) (q c : Nat) (w : World) : Calls Try.prog 45 #[.agg #[.slice A q c]] w fun e w' => e = .returned (.int .i64 (q : Int)) ∧ Below w.heap.size w w' := by
  go_enter Try.func45, Try.ntmps45
  go_wp2_with ((with_reducible refine gate_dst (N := 1) rfl ?_); refine box_event ?hg (N := 1) ?hd (cs := #[.slice A q c]) (t := 24) ?hr ?_; (case hd => rfl); (case hg => rfl); (case hr => first | (go_simp; done) | (go_simp; rfl)); intro gb hg1 w1 hbox hb; have HB1 := Aside0.mk hb; have hz : w1.cell? ⟨gb, 0, none⟩ = some (.slice A q c) := (blk_cell hbox 0).trans rfl; clear hg1; clear hbox hb)
  go_ret
  exact ⟨rfl, HB1.out⟩

theorem ne_new {w : World} {g x : Nat} {o : Obj} (hg : g = w.heap.size) (h : w.heap[x]? = some o) : g ≠ x := by have := blk_lt h; omega
theorem ge_new {w0 w : World} {g : Nat} (hg : g = w.heap.size) (h : Below w0.heap.size w0 w) : w0.heap.size ≤ g := by have := h.size; omega
theorem info8 : (Try.prog.info? 78).map (fun i => (i.zero, i.size, i.bytes)) = some (some (.int .i8 0), 1, 1) := by kernel_rfl
/-- A row that 'make' has made. -/
theorem row8 {w : World} {base n : Nat} {v : Value} {ok : Nat → Prop} (h : Kd.R (Kd.int .i8) 78 w base ok v (List.replicate n 0)) (hn : 1 ≤ n) : ∃ g c, v = .slice (some ⟨g, 0, none⟩) n c ∧ base ≤ g ∧ g < w.heap.size ∧ Kd.R (Kd.int .i8) 78 w base (fun k_ => k_ = g) (.slice (some ⟨g, 0, none⟩) n c) (List.replicate n 0) := by
  obtain ⟨g, c, hv, hb, hl, _⟩ := Kd.R_form h (by simp; omega)
  rw [List.length_replicate] at hv
  subst hv
  exact ⟨g, c, rfl, hb, hl, Kd.R_mono (Kd.R_tight rfl h) (fun k hk => by simpa [Value.ownBlock] using hk)⟩

set_option maxHeartbeats 8000000 in
set_option maxRecDepth 100000 in
theorem new07 (A0 : Option Addr) (q0 c0 : Nat) (A1 : Option Addr) (q1 c1 n0 m0 p1 p2 N : Nat) (w : World) (hN1 : 1 ≤ N) (hN : N ≤ 1000000) (h1 : wrap64 ((q0 : Int) + 1) = (n0 : Int)) (h2 : wrap64 ((q1 : Int) + 1) = (m0 : Int)) (h3 : wrap64 ((n0 : Int) * (n0 : Int)) = (p1 : Int)) (h4 : wrap64 ((p1 : Int) * (m0 : Int)) = (p2 : Int)) (h5 : wrap64 ((p2 : Int) * (m0 : Int)) = (N : Int)) :
    Calls Try.prog 50 #[.agg #[.slice A0 q0 c0], .agg #[.slice A1 q1 c1]] w fun e w' => ∃ g cN, e = .returned (.agg #[.slice A0 q0 c0, .slice A1 q1 c1, .slice (some ⟨g, 0, none⟩) N cN]) ∧ Kd.R (Kd.int .i8) 78 w' w.heap.size (fun k_ => k_ = g) (.slice (some ⟨g, 0, none⟩) N cN) (List.replicate N (-1)) ∧ Below w.heap.size w w' := by
  have HN := Aside0.mk (And.intro hN1 hN)
  have H1 := Aside0.mk h1
  have H2 := Aside0.mk h2
  have H3 := Aside0.mk h3
  have H4 := Aside0.mk h4
  have H5 := Aside0.mk h5
  clear hN1 hN h1 h2 h3 h4 h5
  go_enter Try.func50, Try.ntmps50
  go_wp2_with (first | ((with_reducible refine gate_dst (N := 2) rfl ?_); refine box_event ?hg (N := 2) ?hd (cs := #[.slice A0 q0 c0]) (t := 24) ?hr ?_; (case hd => rfl); (case hg => rfl); (case hr => first | (go_simp; done) | (go_simp; rfl)); intro gt hgt w1 hbox hb; have HB := Aside0.mk hb; have BT := Aside0.mk hbox; have GT := Aside0.mk hgt; clear hgt; clear hbox hb) | ((with_reducible refine gate_dst (N := 3) rfl ?_); refine box_event ?hg (N := 3) ?hd (cs := #[.slice A1 q1 c1]) (t := 24) ?hr ?_; (case hd => rfl); (case hg => rfl); (case hr => first | (go_simp; done) | (go_simp; rfl)); intro gu hgu w2 hbox hb; have n_ := Aside0.mk (below_step HB.out hb); have m_ := Aside0.mk (blk_below BT.out hb); have l_ : Aside0 (gt ≠ gu) := ⟨(ne_new hgu BT.out).symm⟩; have GU := Aside0.mk (ge_new hgu HB.out); clear HB BT; have HB := n_; have BT := m_; have NTU := l_; clear n_ m_ l_; have BU := Aside0.mk hbox; clear hgu; clear hbox hb) | ((with_reducible refine gate_dst (N := 4) rfl ?_); refine box_event ?hg (N := 4) ?hd (cs := #[.slice none 0 0, .slice none 0 0, .slice none 0 0]) (t := 65) ?hr ?_; (case hd => rfl); (case hg => rfl); (case hr => first | (go_simp; done) | (go_simp; rfl)); intro gr hgr w3 hbox hb; have n_ := Aside0.mk (below_step HB.out hb); have m_ := Aside0.mk (blk_below BT.out hb); have k_ := Aside0.mk (blk_below BU.out hb); have l_ : Aside0 (gt ≠ gr ∧ gu ≠ gr) := ⟨(ne_new hgr BT.out).symm, (ne_new hgr BU.out).symm⟩; have GR := Aside0.mk (ge_new hgr HB.out); clear HB BT BU; have HB := n_; have BT := m_; have BU := k_; have NR := l_; clear n_ m_ k_ l_; have BR := Aside0.mk hbox; clear hgr; clear hbox hb))
  have h1 := H1.out
  have h2 := H2.out
  have h3 := H3.out
  have h4 := H4.out
  have n0_ := Aside0.mk (blk_drew BT.out)
  have n1_ := Aside0.mk (blk_drew BU.out)
  have n2_ := Aside0.mk (blk_drew BR.out)
  have n3_ := Aside0.mk (below_drew1 HB.out)
  clear BT BU BR HB
  have BT := n0_
  have BU := n1_
  have BR := n2_
  have HB := n3_
  clear n0_ n1_ n2_ n3_
  refine start_ (n := 8) (S := fun w' => w'.cell? ⟨gt, 0, none⟩ = some (.slice A0 q0 c0) ∧ w'.cell? ⟨gu, 0, none⟩ = some (.slice A1 q1 c1)) (ds := []) #[false, false, false, false, false, false, false, false] (by kernel_rfl) rfl rfl (⟨(blk_cell BT.out 0).trans rfl, (blk_cell BU.out 0).trans rfl⟩) (fun hHeld => ?_)
  generalize w3.drew = w4 at BT BU BR HB hHeld ⊢
  refine take_ (i := 0) (N := some 9) (v := ?_) (a' := ?_) #[true, false, false, false, false, false, false, false] rfl rfl (by kernel_rfl) (fun _ _ _ h => h) (Or.inl ⟨by rfl, ?_⟩) hHeld ?_ ?_
  rotate_left
  · rintro w' ⟨s0, s1⟩
    go_simp
    with_reducible rfl
  rotate_left
  · simp only [Act.put, List.setIfInBounds_toArray, List.set_cons_zero, List.set_cons_succ, i64_w, i32_w]
    rfl
  refine take_ (i := 3) (N := some 12) (v := ?_) (a' := ?_) #[true, false, false, true, false, false, false, false] rfl rfl (by kernel_rfl) (fun _ _ _ h => h) (Or.inl ⟨by rfl, ?_⟩) hHeld ?_ ?_
  rotate_left
  · rintro w' ⟨s0, s1⟩
    go_simp
    with_reducible rfl
  rotate_left
  · simp only [Act.put, List.setIfInBounds_toArray, List.set_cons_zero, List.set_cons_succ, i64_w, i32_w]
    rfl
  refine one_ (i := 1) (N := some 10) #[true, true, false, true, false, false, false, false] rfl rfl (by kernel_rfl) (by decide) (fun K hK => ?_)
  refine goes_ Try.func45 (by kernel_rfl) rfl #[.agg #[.slice A0 q0 c0]] (by rfl) rfl rfl (by (try simp only [List.map_toArray, List.map_cons, List.map_nil]); first | done | rfl) ?_
  refine (n01 A0 q0 c0 _).mono ?_
  rintro e w5 ⟨rfl, hb⟩
  refine ⟨_, rfl, ?_⟩
  have n0_ := Aside0.mk (blk_below BT.out hb)
  have n1_ := Aside0.mk (blk_below BU.out hb)
  have n2_ := Aside0.mk (blk_below BR.out hb)
  have n3_ := Aside0.mk (below_step HB.out hb)
  clear BT BU BR HB hb
  have BT := n0_
  have BU := n1_
  have BR := n2_
  have HB := n3_
  clear n0_ n1_ n2_ n3_
  refine hK.out _ _ ⟨(blk_cell BT.out 0).trans rfl, (blk_cell BU.out 0).trans rfl⟩ (fun hHeld => ?_)
  clear hK K
  refine norm_ (a' := ?_) ?_ ?_
  rotate_left
  · show Act.put _ (some 10) _ = _
    simp only [Act.put, List.setIfInBounds_toArray, List.set_cons_zero, List.set_cons_succ, i64_w, i32_w]
    rfl
  refine pure_ (i := 2) (N := some 11) (v := ?_) (a' := ?_) #[true, true, true, true, false, false, false, false] rfl rfl (by kernel_rfl) (fun _ _ _ h => h) (Or.inl ⟨by rfl, ?_⟩) ?_ ?_
  rotate_left
  · intro w'
    go_simp
    with_reducible rfl
  rotate_left
  · simp only [Act.put, List.setIfInBounds_toArray, List.set_cons_zero, List.set_cons_succ, i64_w, i32_w]
    rfl
  refine one_ (i := 4) (N := some 13) #[true, true, true, true, true, false, false, false] rfl rfl (by kernel_rfl) (by decide) (fun K hK => ?_)
  refine goes_ Try.func45 (by kernel_rfl) rfl #[.agg #[.slice A1 q1 c1]] (by rfl) rfl rfl (by (try simp only [List.map_toArray, List.map_cons, List.map_nil]); first | done | rfl) ?_
  refine (n01 A1 q1 c1 _).mono ?_
  rintro e w6 ⟨rfl, hb⟩
  refine ⟨_, rfl, ?_⟩
  have n0_ := Aside0.mk (blk_below BT.out hb)
  have n1_ := Aside0.mk (blk_below BU.out hb)
  have n2_ := Aside0.mk (blk_below BR.out hb)
  have n3_ := Aside0.mk (below_step HB.out hb)
  clear BT BU BR HB hb
  have BT := n0_
  have BU := n1_
  have BR := n2_
  have HB := n3_
  clear n0_ n1_ n2_ n3_
  refine hK.out _ _ ⟨(blk_cell BT.out 0).trans rfl, (blk_cell BU.out 0).trans rfl⟩ (fun hHeld => ?_)
  clear hK K
  refine norm_ (a' := ?_) ?_ ?_
  rotate_left
  · show Act.put _ (some 13) _ = _
    simp only [Act.put, List.setIfInBounds_toArray, List.set_cons_zero, List.set_cons_succ, i64_w, i32_w]
    rfl
  refine pure_ (i := 5) (N := some 14) (v := ?_) (a' := ?_) #[true, true, true, true, true, true, false, false] rfl rfl (by kernel_rfl) (fun _ _ _ h => h) (Or.inl ⟨by rfl, ?_⟩) ?_ ?_
  rotate_left
  · intro w'
    go_simp
    with_reducible rfl
  rotate_left
  · simp only [Act.put, List.setIfInBounds_toArray, List.set_cons_zero, List.set_cons_succ, i64_w, i32_w]
    rfl
  refine pure_ (i := 6) (N := some 5) (v := ?_) (a' := ?_) #[true, true, true, true, true, true, true, false] rfl rfl (by kernel_rfl) (fun _ _ _ h => h) (Or.inl ⟨by rfl, ?_⟩) ?_ ?_
  rotate_left
  · intro w'
    go_simp
    with_reducible rfl
  rotate_left
  · simp only [Act.put, List.setIfInBounds_toArray, List.set_cons_zero, List.set_cons_succ, i64_w, i32_w]
    rfl
  refine pure_ (i := 7) (N := some 6) (v := ?_) (a' := ?_) #[true, true, true, true, true, true, true, true] rfl rfl (by kernel_rfl) (fun _ _ _ h => h) (Or.inl ⟨by rfl, ?_⟩) ?_ ?_
  rotate_left
  · intro w'
    go_simp
    with_reducible rfl
  rotate_left
  · simp only [Act.put, List.setIfInBounds_toArray, List.set_cons_zero, List.set_cons_succ, i64_w, i32_w]
    rfl
  refine done_ (by kernel_rfl) ?_

  clear hHeld
  go_wp2
  have n0_ := Aside0.mk (blk_drew BT.out)
  have n1_ := Aside0.mk (blk_drew BU.out)
  have n2_ := Aside0.mk (blk_drew BR.out)
  have n3_ := Aside0.mk (below_drew1 HB.out)
  clear BT BU BR HB
  have BT := n0_
  have BU := n1_
  have BR := n2_
  have HB := n3_
  clear n0_ n1_ n2_ n3_
  refine start_ (n := 13) (S := fun w' => w'.cell? ⟨gt, 0, none⟩ = some (.slice A0 q0 c0) ∧ w'.cell? ⟨gu, 0, none⟩ = some (.slice A1 q1 c1)) (ds := []) #[false, false, false, false, false, false, false, false, false, false, false, false, false] (by kernel_rfl) rfl rfl (⟨(blk_cell BT.out 0).trans rfl, (blk_cell BU.out 0).trans rfl⟩) (fun hHeld => ?_)
  generalize w6.drew = w7 at BT BU BR HB hHeld ⊢
  refine pure_ (i := 2) (N := some 17) (v := ?_) (a' := ?_) #[false, false, true, false, false, false, false, false, false, false, false, false, false] rfl rfl (by kernel_rfl) (fun _ _ _ h => h) (Or.inl ⟨by rfl, ?_⟩) ?_ ?_
  rotate_left
  · intro w'
    go_simp
    with_reducible rfl
  rotate_left
  · simp only [Act.put, List.setIfInBounds_toArray, List.set_cons_zero, List.set_cons_succ, i64_w, i32_w]
    rfl
  refine pure_ (i := 3) (N := some 18) (v := ?_) (a' := ?_) #[false, false, true, true, false, false, false, false, false, false, false, false, false] rfl rfl (by kernel_rfl) (fun _ _ _ h => h) (Or.inl ⟨by rfl, ?_⟩) ?_ ?_
  rotate_left
  · intro w'
    go_simp
    with_reducible rfl
  rotate_left
  · simp only [Act.put, List.setIfInBounds_toArray, List.set_cons_zero, List.set_cons_succ, i64_w, i32_w]
    rfl
  refine pure_ (i := 4) (N := some 19) (v := ?_) (a' := ?_) #[false, false, true, true, true, false, false, false, false, false, false, false, false] rfl rfl (by kernel_rfl) (fun _ _ _ h => h) (Or.inl ⟨by rfl, ?_⟩) ?_ ?_
  rotate_left
  · intro w'
    go_simp
    with_reducible rfl
  rotate_left
  · simp only [Act.put, List.setIfInBounds_toArray, List.set_cons_zero, List.set_cons_succ, i64_w, i32_w]
    rfl
  refine pure_ (i := 5) (N := some 20) (v := ?_) (a' := ?_) #[false, false, true, true, true, true, false, false, false, false, false, false, false] rfl rfl (by kernel_rfl) (fun _ _ _ h => h) (Or.inl ⟨by rfl, ?_⟩) ?_ ?_
  rotate_left
  · intro w'
    go_simp
    with_reducible rfl
  rotate_left
  · simp only [Act.put, List.setIfInBounds_toArray, List.set_cons_zero, List.set_cons_succ, i64_w, i32_w]
    rfl
  refine pure_ (i := 6) (N := some 21) (v := ?_) (a' := ?_) #[false, false, true, true, true, true, true, false, false, false, false, false, false] rfl rfl (by kernel_rfl) (fun _ _ _ h => h) (Or.inl ⟨by rfl, ?_⟩) ?_ ?_
  rotate_left
  · intro w'
    go_simp
    with_reducible rfl
  rotate_left
  · simp only [Act.put, List.setIfInBounds_toArray, List.set_cons_zero, List.set_cons_succ, i64_w, i32_w]
    rfl
  refine pure_ (i := 7) (N := some 22) (v := ?_) (a' := ?_) #[false, false, true, true, true, true, true, true, false, false, false, false, false] rfl rfl (by kernel_rfl) (fun _ _ _ h => h) (Or.inl ⟨by rfl, ?_⟩) ?_ ?_
  rotate_left
  · intro w'
    go_simp
    with_reducible rfl
  rotate_left
  · simp only [Act.put, List.setIfInBounds_toArray, List.set_cons_zero, List.set_cons_succ, i64_w, i32_w]
    rfl
  refine pure_ (i := 8) (N := some 23) (v := ?_) (a' := ?_) #[false, false, true, true, true, true, true, true, true, false, false, false, false] rfl rfl (by kernel_rfl) (fun _ _ _ h => h) (Or.inl ⟨by rfl, ?_⟩) ?_ ?_
  rotate_left
  · intro w'
    go_simp
    with_reducible rfl
  rotate_left
  · simp only [Act.put, List.setIfInBounds_toArray, List.set_cons_zero, List.set_cons_succ, i64_w, i32_w]
    rfl
  refine take_ (i := 0) (N := some 15) (v := ?_) (a' := ?_) #[true, false, true, true, true, true, true, true, true, false, false, false, false] rfl rfl (by kernel_rfl) (fun _ _ _ h => h) (Or.inl ⟨by rfl, ?_⟩) hHeld ?_ ?_
  rotate_left
  · rintro w' ⟨s0, s1⟩
    go_simp
    with_reducible rfl
  rotate_left
  · simp only [Act.put, List.setIfInBounds_toArray, List.set_cons_zero, List.set_cons_succ, i64_w, i32_w]
    rfl
  refine take_ (i := 1) (N := some 16) (v := ?_) (a' := ?_) #[true, true, true, true, true, true, true, true, true, false, false, false, false] rfl rfl (by kernel_rfl) (fun _ _ _ h => h) (Or.inl ⟨by rfl, ?_⟩) hHeld ?_ ?_
  rotate_left
  · rintro w' ⟨s0, s1⟩
    go_simp
    with_reducible rfl
  rotate_left
  · simp only [Act.put, List.setIfInBounds_toArray, List.set_cons_zero, List.set_cons_succ, i64_w, i32_w]
    rfl

  clear h1 h2 h3 h4
  refine join_ (σ := Nat × Nat × Nat) 1 #[true, true, true, true, true, true, true, true, true, true, true, true, false] (fun s_ => [(24, .slice (some ⟨s_.1, 0, none⟩) N s_.2.1), (7, .pointer (some ⟨s_.2.2, 0, none⟩)), (25, .agg #[.slice A0 q0 c0, .slice A1 q1 c1, .slice (some ⟨s_.1, 0, none⟩) N s_.2.1])]) (fun s_ w' => (w'.cell? ⟨gt, 0, none⟩ = some (.slice A0 q0 c0) ∧ w'.cell? ⟨gu, 0, none⟩ = some (.slice A1 q1 c1)) ∧ Kd.R (Kd.int .i8) 78 w' w.heap.size (fun k_ => k_ = s_.1) (.slice (some ⟨s_.1, 0, none⟩) N s_.2.1) (List.replicate N 0) ∧ w'.heap[gr]? = some (.cells #[.slice none 0 0, .slice none 0 0, .slice none 0 0] 65 (0, 0)) ∧ w'.heap[s_.2.2]? = some (.cells #[.slice none 0 0, .slice none 0 0, .slice none 0 0] 65 (0, 0)) ∧ s_.2.2 ≠ gt ∧ s_.2.2 ≠ gu ∧ s_.2.2 ≠ gr ∧ w.heap.size ≤ s_.2.2 ∧ Below w.heap.size w w') ?_ ?_
  rotate_left
  · intro hCont
    refine two_ (i := 9) (j := 11) (Ni := some 24) (Nj := some 7) #[true, true, true, true, true, true, true, true, true, true, false, false, false] #[true, true, true, true, true, true, true, true, true, false, false, true, false] rfl rfl rfl rfl (by kernel_rfl) (by decide) (by decide) (fun K hK => ?_) (fun K hK => ?_)
    · skip
      refine Kd.R_make_step (Kd.int .i8) _ 78 (by rfl) (N := 24) rfl 63 _ _ rfl (N : Int) (by (show Value.int .i64 (wrap64 ((p2 : Int) * (m0 : Int))) = _); rw [H5.out]) (by (show Value.int .i64 (wrap64 ((p2 : Int) * (m0 : Int))) = _); rw [H5.out]) Try.underlying63 (.int .i8 0) 1 info8 rfl (by decide) (by omega) 0 (ok := fun _ => True) (okp := fun _ => True) rfl (fun _ hk => hk) trivial (Int.natCast_nonneg _) (by rw [Int.toNat_natCast, Nat.mul_one]; exact Nat.le_trans HN.out.2 (by decide)) (Below.refl _ _) (Nat.le_refl _) ?_
      intro vr w8 ho hb hg_ hnew_
      clear hg_ hnew_
      rw [Int.toNat_natCast] at ho
      obtain ⟨g, cN, rfl, hgb, hgl, HO_⟩ := row8 ho HN.out.1
      have n0_ := Aside0.mk (blk_below BT.out hb)
      have n1_ := Aside0.mk (blk_below BU.out hb)
      have n2_ := Aside0.mk (blk_below BR.out hb)
      have n3_ := Aside0.mk (below_step HB.out hb)
      have HO := Aside0.mk (Kd.R_lower HO_ (HB.out.size))
      clear BT BU BR HB hb ho HO_ hgb hgl
      have BT := n0_
      have BU := n1_
      have BR := n2_
      have HB := n3_
      clear n0_ n1_ n2_ n3_
      refine hK.out _ _ ⟨(blk_cell BT.out 0).trans rfl, (blk_cell BU.out 0).trans rfl⟩ (fun hHeld => ?_)
      clear hK K
      refine norm_ (a' := ?_) ?_ ?_
      rotate_left
      · show Act.put _ (some 24) _ = _
        simp only [Act.put, List.setIfInBounds_toArray, List.set_cons_zero, List.set_cons_succ, i64_w, i32_w]
        rfl
      refine pure_ (i := 10) (N := some 25) (v := ?_) (a' := ?_) #[true, true, true, true, true, true, true, true, true, true, true, false, false] rfl rfl (by kernel_rfl) (fun _ _ _ h => h) (Or.inl ⟨by rfl, ?_⟩) ?_ ?_
      rotate_left
      · intro w'
        go_simp
        with_reducible rfl
      rotate_left
      · simp only [Act.put, List.setIfInBounds_toArray, List.set_cons_zero, List.set_cons_succ, i64_w, i32_w]
        rfl
      refine one_ (i := 11) (N := some 7) #[true, true, true, true, true, true, true, true, true, true, true, true, false] rfl rfl (by kernel_rfl) (by decide) (fun K hK => ?_)
      refine box_step ?hg (N := 7) ?hd (cs := #[.slice none 0 0, .slice none 0 0, .slice none 0 0]) (t := 65) ?hr ?_; (case hd => rfl); (case hg => rfl); (case hr => first | (go_simp; done) | (go_simp; rfl))
      intro go hgo w9 hbox hb
      have n0_ := Aside0.mk (blk_below BT.out hb)
      have n1_ := Aside0.mk (blk_below BU.out hb)
      have n2_ := Aside0.mk (blk_below BR.out hb)
      have n3_ := Aside0.mk (below_step HB.out hb)
      have NO := Aside0.mk (show go ≠ gt ∧ go ≠ gu ∧ go ≠ gr ∧ w.heap.size ≤ go from ⟨ne_new hgo BT.out, ne_new hgo BU.out, ne_new hgo BR.out, ge_new hgo HB.out⟩)
      have BO := Aside0.mk hbox
      have n4_ := Aside0.mk (Kd.R_below HO.out hb)
      clear HO
      have HO := n4_
      clear n4_
      clear BT BU BR HB hb hbox hgo
      have BT := n0_
      have BU := n1_
      have BR := n2_
      have HB := n3_
      clear n0_ n1_ n2_ n3_
      refine hK.out _ _ ⟨(blk_cell BT.out 0).trans rfl, (blk_cell BU.out 0).trans rfl⟩ (fun hHeld => ?_)
      clear hK K
      refine norm_ (a' := ?_) ?_ ?_
      rotate_left
      · show Act.put _ (some 7) _ = _
        simp only [Act.put, List.setIfInBounds_toArray, List.set_cons_zero, List.set_cons_succ, i64_w, i32_w]
        rfl
      exact norm_ (by simp only [putAll, Act.put, List.setIfInBounds_toArray, List.set_cons_zero, List.set_cons_succ]) (hCont (g, cN, go) _ ⟨hHeld, HO.out, BR.out, BO.out, NO.out.1, NO.out.2.1, NO.out.2.2.1, NO.out.2.2.2, HB.out⟩)
    · skip
      refine box_step ?hg (N := 7) ?hd (cs := #[.slice none 0 0, .slice none 0 0, .slice none 0 0]) (t := 65) ?hr ?_; (case hd => rfl); (case hg => rfl); (case hr => first | (go_simp; done) | (go_simp; rfl))
      intro go hgo w9 hbox hb
      have n0_ := Aside0.mk (blk_below BT.out hb)
      have n1_ := Aside0.mk (blk_below BU.out hb)
      have n2_ := Aside0.mk (blk_below BR.out hb)
      have n3_ := Aside0.mk (below_step HB.out hb)
      have NO := Aside0.mk (show go ≠ gt ∧ go ≠ gu ∧ go ≠ gr ∧ w.heap.size ≤ go from ⟨ne_new hgo BT.out, ne_new hgo BU.out, ne_new hgo BR.out, ge_new hgo HB.out⟩)
      have BO := Aside0.mk hbox

      clear BT BU BR HB hb hbox hgo
      have BT := n0_
      have BU := n1_
      have BR := n2_
      have HB := n3_
      clear n0_ n1_ n2_ n3_
      refine hK.out _ _ ⟨(blk_cell BT.out 0).trans rfl, (blk_cell BU.out 0).trans rfl⟩ (fun hHeld => ?_)
      clear hK K
      refine norm_ (a' := ?_) ?_ ?_
      rotate_left
      · show Act.put _ (some 7) _ = _
        simp only [Act.put, List.setIfInBounds_toArray, List.set_cons_zero, List.set_cons_succ, i64_w, i32_w]
        rfl
      refine one_ (i := 9) (N := some 24) #[true, true, true, true, true, true, true, true, true, true, false, true, false] rfl rfl (by kernel_rfl) (by decide) (fun K hK => ?_)
      refine Kd.R_make_step (Kd.int .i8) _ 78 (by rfl) (N := 24) rfl 63 _ _ rfl (N : Int) (by (show Value.int .i64 (wrap64 ((p2 : Int) * (m0 : Int))) = _); rw [H5.out]) (by (show Value.int .i64 (wrap64 ((p2 : Int) * (m0 : Int))) = _); rw [H5.out]) Try.underlying63 (.int .i8 0) 1 info8 rfl (by decide) (by omega) 0 (ok := fun _ => True) (okp := fun _ => True) rfl (fun _ hk => hk) trivial (Int.natCast_nonneg _) (by rw [Int.toNat_natCast, Nat.mul_one]; exact Nat.le_trans HN.out.2 (by decide)) (Below.refl _ _) (Nat.le_refl _) ?_
      intro vr w8 ho hb hg_ hnew_
      clear hg_ hnew_
      rw [Int.toNat_natCast] at ho
      obtain ⟨g, cN, rfl, hgb, hgl, HO_⟩ := row8 ho HN.out.1
      have n0_ := Aside0.mk (blk_below BT.out hb)
      have n1_ := Aside0.mk (blk_below BU.out hb)
      have n2_ := Aside0.mk (blk_below BR.out hb)
      have n3_ := Aside0.mk (below_step HB.out hb)
      have n4_ := Aside0.mk (blk_below BO.out hb)
      clear BO
      have BO := n4_
      clear n4_
      have HO := Aside0.mk (Kd.R_lower HO_ (HB.out.size))
      clear BT BU BR HB hb ho HO_ hgb hgl
      have BT := n0_
      have BU := n1_
      have BR := n2_
      have HB := n3_
      clear n0_ n1_ n2_ n3_
      refine hK.out _ _ ⟨(blk_cell BT.out 0).trans rfl, (blk_cell BU.out 0).trans rfl⟩ (fun hHeld => ?_)
      clear hK K
      refine norm_ (a' := ?_) ?_ ?_
      rotate_left
      · show Act.put _ (some 24) _ = _
        simp only [Act.put, List.setIfInBounds_toArray, List.set_cons_zero, List.set_cons_succ, i64_w, i32_w]
        rfl
      refine pure_ (i := 10) (N := some 25) (v := ?_) (a' := ?_) #[true, true, true, true, true, true, true, true, true, true, true, true, false] rfl rfl (by kernel_rfl) (fun _ _ _ h => h) (Or.inl ⟨by rfl, ?_⟩) ?_ ?_
      rotate_left
      · intro w'
        go_simp
        with_reducible rfl
      rotate_left
      · simp only [Act.put, List.setIfInBounds_toArray, List.set_cons_zero, List.set_cons_succ, i64_w, i32_w]
        rfl
      exact norm_ (by simp only [putAll, Act.put, List.setIfInBounds_toArray, List.set_cons_zero, List.set_cons_succ]) (hCont (g, cN, go) _ ⟨hHeld, HO.out, BR.out, BO.out, NO.out.1, NO.out.2.1, NO.out.2.2.1, NO.out.2.2.2, HB.out⟩)
  rintro ⟨g, cN, go⟩ w10 ⟨hHeld, ho, hbr, hbo, hn1, hn2, hn3, hgo, hbl⟩
  clear BT BU BR HB
  replace ho : Kd.R (Kd.int .i8) 78 w10 w.heap.size (fun k_ => k_ = g) (.slice (some ⟨g, 0, none⟩) N cN) (List.replicate N 0) := ho
  refine norm_ (a' := ?_) ?_ ?_
  rotate_left
  · simp only [putAll, Act.put, List.setIfInBounds_toArray, List.set_cons_zero, List.set_cons_succ]
    rfl
  refine one_ (i := 12) (N := none) #[true, true, true, true, true, true, true, true, true, true, true, true, true] rfl rfl (by kernel_rfl) (by decide) (fun K hK => ?_)
  have hs0 : w10.cell? ⟨go, 0, none⟩ = some (.slice none 0 0) := (blk_cell hbo 0).trans rfl
  have hf0 := blk_frozen hbo 0
  have hs1 : w10.cell? ⟨go, 1, none⟩ = some (.slice none 0 0) := (blk_cell hbo 1).trans rfl
  have hf1 := blk_frozen hbo 1
  have hs2 : w10.cell? ⟨go, 2, none⟩ = some (.slice none 0 0) := (blk_cell hbo 2).trans rfl
  have hf2 := blk_frozen hbo 2
  have HO := Aside0.mk ho
  have BR := Aside0.mk hbr
  have BO := Aside0.mk hbo
  have HBL := Aside0.mk hbl
  have HGO := Aside0.mk hgo
  have HN1 := Aside0.mk hn1
  have HN2 := Aside0.mk hn2
  have HN3 := Aside0.mk hn3
  have HNG := Aside0.mk (show go ≠ g from fun e => Kd.R_ne ho hbo (by decide) (by rw [e]; rfl))
  have HNG2 := Aside0.mk (show gr ≠ g from fun e => Kd.R_ne ho hbr (by decide) (by rw [e]; rfl))
  clear ho hbr hbo hbl hgo
  refine skip_ (w1 := ((w10.setCell ⟨go, 0, none⟩ (.slice A0 q0 c0)).setCell ⟨go, 1, none⟩ (.slice A1 q1 c1)).setCell ⟨go, 2, none⟩ (.slice (some ⟨g, 0, none⟩) N cN)) (by rfl) rfl ?_ ?_
  · go_simp
  have hq1 : gt ≠ go := fun e => hn1 e.symm
  have hq2 : gu ≠ go := fun e => hn2 e.symm
  refine hK.out _ _ ⟨((cell_far (p := ⟨go, _, none⟩) hq1 _).trans ((cell_far (p := ⟨go, _, none⟩) hq1 _).trans ((cell_far (p := ⟨go, _, none⟩) hq1 _).trans hHeld.1))), ((cell_far (p := ⟨go, _, none⟩) hq2 _).trans ((cell_far (p := ⟨go, _, none⟩) hq2 _).trans ((cell_far (p := ⟨go, _, none⟩) hq2 _).trans hHeld.2)))⟩ (fun hHeld => ?_)
  clear hK K hHeld hs0 hs1 hs2 hf0 hf1 hf2 hn1 hn2 hn3 hq1 hq2
  refine done_ (by kernel_rfl) ?_
  have BO2 : Aside0 ((((w10.setCell ⟨go, 0, none⟩ (.slice A0 q0 c0)).setCell ⟨go, 1, none⟩ (.slice A1 q1 c1)).setCell ⟨go, 2, none⟩ (.slice (some ⟨g, 0, none⟩) N cN)).heap[go]? = some (.cells #[.slice A0 q0 c0, .slice A1 q1 c1, .slice (some ⟨g, 0, none⟩) N cN] 65 (0, 0))) := ⟨(blk_set (blk_set (blk_set BO.out 0 _) 1 _) 2 _).trans rfl⟩
  have BR2 : Aside0 ((((w10.setCell ⟨go, 0, none⟩ (.slice A0 q0 c0)).setCell ⟨go, 1, none⟩ (.slice A1 q1 c1)).setCell ⟨go, 2, none⟩ (.slice (some ⟨g, 0, none⟩) N cN)).heap[gr]? = some (.cells #[.slice none 0 0, .slice none 0 0, .slice none 0 0] 65 (0, 0))) := ⟨by rw [Below.heap_setCell _ _ _ _ (fun e => HN3.out e.symm), Below.heap_setCell _ _ _ _ (fun e => HN3.out e.symm), Below.heap_setCell _ _ _ _ (fun e => HN3.out e.symm)]; exact BR.out⟩
  have HO2 := Aside0.mk (Kd.R_far (p := ⟨go, 2, none⟩) (Kd.R_far (p := ⟨go, 1, none⟩) (Kd.R_far (p := ⟨go, 0, none⟩) HO.out (fun k hk e => HNG.out (by rw [← hk]; exact e.symm)) (.slice A0 q0 c0)) (fun k hk e => HNG.out (by rw [← hk]; exact e.symm)) (.slice A1 q1 c1)) (fun k hk e => HNG.out (by rw [← hk]; exact e.symm)) (.slice (some ⟨g, 0, none⟩) N cN))
  have HB2 := Aside0.mk (below_set (j := 2) (v := .slice (some ⟨g, 0, none⟩) N cN) (below_set (j := 1) (v := .slice A1 q1 c1) (below_set (j := 0) (v := .slice A0 q0 c0) HBL.out HGO.out) HGO.out) HGO.out)
  clear BO BR HO HBL
  generalize ((w10.setCell ⟨go, 0, none⟩ (.slice A0 q0 c0)).setCell ⟨go, 1, none⟩ (.slice A1 q1 c1)).setCell ⟨go, 2, none⟩ (.slice (some ⟨g, 0, none⟩) N cN) = w11 at BO2 BR2 HO2 HB2 ⊢
  have hz2 : w11.cell? ⟨go, 2, none⟩ = some (.slice (some ⟨g, 0, none⟩) N cN) := (blk_cell BO2.out 2).trans rfl
  go_wp2
  go_loopw [29] (fun v29 w' => ∃ k : Nat, v29 = .int .i64 (k : Int) ∧ Aside0 (k ≤ N) ∧ Aside0 (Kd.R (Kd.int .i8) 78 w' w.heap.size (fun k_ => k_ = g) (.slice (some ⟨g, 0, none⟩) N cN) (List.replicate k (-1) ++ List.replicate (N - k) 0)) ∧ Aside0 (w'.heap[go]? = some (.cells #[.slice A0 q0 c0, .slice A1 q1 c1, .slice (some ⟨g, 0, none⟩) N cN] 65 (0, 0))) ∧ Aside0 (w'.heap[gr]? = some (.cells #[.slice none 0 0, .slice none 0 0, .slice none 0 0] 65 (0, 0))) ∧ Aside0 (Below w.heap.size w w')) (fun v29 _ => N - (intOf v29).toNat)
  case atStart => exact ⟨0, rfl, ⟨Nat.zero_le _⟩, ⟨by simpa using HO2.out⟩, BO2, BR2, HB2⟩
  case round =>
    obtain ⟨k, rfl, hk, ho, hbo, hbr, hbl⟩ := hrel
    have hkN := hk.out
    have hz3 : wr.cell? ⟨go, 2, none⟩ = some (.slice (some ⟨g, 0, none⟩) N cN) := (blk_cell hbo.out 2).trans rfl
    clear hz2
    by_cases hlt : k < N
    · have hl : ((k : Nat) : Int) < ((N : Nat) : Int) := Int.ofNat_lt.2 hlt
      have hlen : (List.replicate k (-1 : Int) ++ List.replicate (N - k) 0).length = N := by simp; omega
      obtain ⟨hcc, hff⟩ := Kd.R_celln 0 ho.out (k : Int) (Int.natCast_nonneg _) hl
      rw [Int.toNat_natCast] at hcc hff
      have hp := Kd.R_putg ho.out (k : Int) (-1)
      rw [Int.toNat_natCast] at hp
      have hw1 : wrap64 ((k : Int) + 1) = ((k + 1 : Nat) : Int) := by have := HN.out; rw [Tr.wrap_id (by omega) (by omega)]; omega
      have HP := Aside0.mk hp
      have HLT := Aside0.mk hlt
      have HW1 := Aside0.mk hw1
      clear hp hlen
      go_wp2
      clear hw1 hcc hff
      go_roundw
      case measure =>
        have h_ := HLT.out
        rw [HW1.out]
        simp only [intOf, Int.toNat_natCast]
        exact Nat.sub_lt_sub_left h_ (Nat.lt_succ_self k)
      case rel =>
        refine ⟨k + 1, ?_, ⟨HLT.out⟩, ⟨?_⟩, ⟨(Below.heap_setCell _ _ _ _ HNG.out).trans hbo.out⟩, ⟨(Below.heap_setCell _ _ _ _ HNG2.out).trans hbr.out⟩, ⟨below_set hbl.out (Kd.R_base ho.out g rfl)⟩⟩
        · rw [HW1.out]
        · have h1_ := HP.out.1
          have e : (List.replicate k (-1 : Int) ++ List.replicate (N - k) 0).set k (-1) = List.replicate (k + 1) (-1) ++ List.replicate (N - (k + 1)) 0 := by
            have hlt := HLT.out
            rw [List.set_append_right _ _ (by simp), List.length_replicate, Nat.sub_self]
            obtain ⟨m, hm⟩ : ∃ m, N - k = m + 1 := ⟨N - k - 1, by omega⟩
            rw [hm, List.replicate_succ, List.set_cons_zero, show N - (k + 1) = m by omega, List.replicate_succ', List.append_assoc]
            rfl
          rw [e] at h1_
          exact h1_
    · have hl : ¬ ((k : Nat) : Int) < ((N : Nat) : Int) := fun h => hlt (Int.ofNat_lt.1 h)
      have hkk : k = N := by omega
      have r0 : wr.cell? ⟨gr, 0, none⟩ = some (.slice none 0 0) := (blk_cell hbr.out 0).trans rfl
      have r1 : wr.cell? ⟨gr, 1, none⟩ = some (.slice none 0 0) := (blk_cell hbr.out 1).trans rfl
      have r2 : wr.cell? ⟨gr, 2, none⟩ = some (.slice none 0 0) := (blk_cell hbr.out 2).trans rfl
      have f0 := blk_frozen hbr.out 0
      have f1 := blk_frozen hbr.out 1
      have f2 := blk_frozen hbr.out 2
      have o0 : wr.cell? ⟨go, 0, none⟩ = some (.slice A0 q0 c0) := (blk_cell hbo.out 0).trans rfl
      have o1 : wr.cell? ⟨go, 1, none⟩ = some (.slice A1 q1 c1) := (blk_cell hbo.out 1).trans rfl
      have hng := HN3.out
      have hng' : gr ≠ go := fun e => hng e.symm
      have HKK := Aside0.mk hkk
      clear hkk
      go_wp2
      refine bodyPost_ret (results_cell_row rfl _ _ gr 65 #[.slice A0 q0 c0, .slice A1 q1 c1, .slice (some ⟨g, 0, none⟩) N cN] (0, 0) _ rfl ((blk_set (blk_set (blk_set hbr.out 0 _) 1 _) 2 _).trans rfl) Try.underlying65 rfl (by kernel_rfl)) rfl ?_
      have hR := ho.out
      rw [HKK.out, Nat.sub_self, List.replicate_zero, List.append_nil] at hR
      have hgg : ∀ k_, k_ = g → k_ ≠ gr := fun k_ hk_ e => HNG2.out (by rw [← hk_]; exact e.symm)
      exact ⟨g, cN, rfl, Kd.R_far (p := ⟨gr, 2, none⟩) (Kd.R_far (p := ⟨gr, 1, none⟩) (Kd.R_far (p := ⟨gr, 0, none⟩) hR hgg _) hgg _) hgg _, below_set (below_set (below_set hbl.out GR.out) GR.out) GR.out⟩

end Go.Proofs.Yteangdgmokkjbaa.Mn
