/- Functions as Lean functions, with their contracts: written by a program of this claim over the translation; some contracts are proved by hand. -/
import Derived.Test.YteangdgmokkjbabQFnExactPutInx0
import Derived.Test.YteangdgmokkjbabQFnExactPutInx3
namespace Go.Proofs.Yteangdgmokkjbab.QFnExactPutIn
open Go.RowKit Go.Proofs.Yteangdgmokkjbab.Gl Go.Proofs.YteangdgmokkjbabW.PrintWords Go.Proofs.YteangdgmokkjbabW.PrintLast Go.Proofs.YteangdgmokkjbabW.PrintMore
attribute [local go_sem] max2_int min2_int max_two min_two max_three min_three max_four min_four   -- for this text's walks alone
set_option linter.unusedVariables false
set_option linter.unusedSimpArgs false

/-! ### slices_Insert: function 81 -/
def slices_Insert.f (l0 : List Int) (a1 : Int) (l2 : List Int) : Option (List Int) := if 1 ≤ l0.length ∧ l0.length ≤ 100000000 ∧ 0 ≤ a1 ∧ a1 ≤ (l0.length : Int) ∧ l2.length = 1 then some (l0.take a1.toNat ++ l2 ++ l0.drop a1.toNat) else none
theorem overlaps0_ (args : Array Value) (w : World) : (callFunc 109 args).run Try.prog w = (((Extern.SlicesOverlaps.overlaps #[22, 22] #[4]) args).run Try.prog w).andThen fun v w' => .ok (.value v) w' := by
 refine run_callFunc_extern Try.func109 (by kernel_rfl) (by kernel_rfl) (by kernel_rfl) (e := Extern.SlicesOverlaps.overlaps #[22, 22] #[4]) (by kernel_rfl) _ _
theorem overlaps1_ (w : World) (a b : Addr) (la ca lb cb : Nat) (hne : a.block ≠ b.block) (tA tB : TypeId) (kA kB : Nat)
  (hsa : w.shape? a.block = some (tA, kA)) (hsb : w.shape? b.block = some (tB, kB)) (hkA : kA ≠ 0)
  (hfb : ∀ j, w.frozen? { block := b.block, off := j, spot := none } = false) (hsp : b.spot = none) : (callFunc 109 #[.slice (some a) la ca, .slice (some b) lb cb]).run Try.prog w = .ok (.value (.bool false)) w := by
 rw [overlaps0_, run_overlaps_plain w 22 4 2 Try.underlying22 1 Try.sizeOf2 a b la ca lb cb hne tA tB kA kB hsa hsb hkA hfb hsp]
 simp only [Result.andThen]
set_option maxHeartbeats 8000000 in
set_option maxRecDepth 100000 in
theorem slices_Insert.grow (w W1 W2 W3 : World) (g vb vo c2 i n cap G : Nat) (T : Nat) (hlt : i < n) (hn : n ≤ 100000000) (hcap : cap < n + 1) (hGn : n + 1 ≤ G) (hnc : n ≤ cap)
  (hrz : ∀ ty, (Builtin.append_ #[22, 3] ty #[.slice (some ⟨g, 0, none⟩) i cap, .int .i64 ((n : Int) + 1 - (i : Int))]).run Try.prog w = .ok (.slice (some ⟨w.heap.size, 0, none⟩) (n + 1) G) W1)
  (hcpA : ∀ ty dc, (Builtin.copy_ #[22, 22] ty #[.slice (some ⟨w.heap.size, i, none⟩) (n + 1 - i) dc, .slice (some ⟨vb, vo, none⟩) 1 c2]).run Try.prog W1 = .ok (goInt 1) W2)
  (hcpB : ∀ ty dc sc, (Builtin.copy_ #[22, 22] ty #[.slice (some ⟨w.heap.size, i + 1, none⟩) (n + 1 - (i + 1)) dc, .slice (some ⟨g, i, none⟩) (n - i) sc]).run Try.prog W2.drew = .ok (goInt T) W3) :
  Calls Try.prog 81 #[.slice (some ⟨g, 0, none⟩) n cap, .int .i64 (i : Int), .slice (some ⟨vb, vo, none⟩) 1 c2] w fun e w' => e = .returned (.slice (some ⟨w.heap.size, 0, none⟩) (n + 1) G) ∧ w' = W3 := by
 have hroom1 : (cap : Int) < (n : Int) + 1 := by omega
 have hi1 : (0 : Int) ≤ (i : Int) + 1 := by omega
 have htn : ((i : Int) + 1).toNat = i + 1 := by omega
 have hz2 : ¬ ((i : Int) = (n : Int)) := by omega
 have hGi : ¬ (G = i) := by omega
 have hGim : ¬ (G = i + 1) := by omega
 have hci : ¬ (cap = i) := by omega
 have hb3 : (i : Int) ≤ (n : Int) := by omega
 have hb3' : (i : Int) ≤ (n : Int) + 1 := by omega
 have hin : i ≤ n := by omega
 have hn1 : i ≤ n + 1 := by omega
 have hcc : i ≤ cap := by omega
 have hw4 : wrap64 ((n : Int) + 1 - (i : Int)) = (n : Int) + 1 - (i : Int) := by clear hrz hcpA hcpB; unfold wrap64; omega
 have hw3 : wrap64 ((n : Int) + 1) = (n : Int) + 1 := by clear hrz hcpA hcpB hw4; unfold wrap64; omega
 have hw1 : IntKind.i64.wrap ((i : Int) + 1) = (i : Int) + 1 := by clear hrz hcpA hcpB hw3 hw4; rw [IntKind.wrap_i64]; omega
 have hw2 : wrap64 ((i : Int) + 1) = (i : Int) + 1 := by clear hrz hcpA hcpB hw3 hw1 hw4; unfold wrap64; omega
 have mixed : Try.prog.follows Departure.mixedOrders = true := by kernel_rfl
 have HRZ := Aside0.mk hrz
 have HCPA := Aside0.mk hcpA
 have HCPB := Aside0.mk hcpB
 clear hrz hcpA hcpB hn
 go_enter Try.func81, Try.ntmps81
 go_wp2_with (first | ((with_reducible refine gate_builtin (b := .append) (xs := #[.tmp 34, .tmp 39]) rfl ?_); at_builtin; refine Lib.wpList_append_run _ rfl _ _ 22 3 rfl (.slice (some ⟨g, 0, none⟩) i cap) (.int .i64 ((n : Int) + 1 - (i : Int))) rfl (by first | rfl | (simp [Act.eval, hw4]; done)) (.slice (some ⟨w.heap.size, 0, none⟩) (n + 1) G) W1 (HRZ.out _) ?_) | simp only [HCPA.out])
 go_region_law_o (refine step_copy_runI rfl _ _ 22 22 rfl (.slice (some ⟨w.heap.size, i + 1, none⟩) (n + 1 - (i + 1)) (G - (i + 1))) (.slice (some ⟨g, i, none⟩) (n - i) (cap - i)) (by simp [Act.eval, Act.put]) (by simp [Act.eval, Act.put]) (HCPB.out _ _ _) ?_)
 go_wp2
 go_ret
 exact ⟨rfl, rfl⟩
set_option maxHeartbeats 8000000 in
set_option maxRecDepth 100000 in
theorem slices_Insert.calls (P0_ : Nat → Prop) (u9000_ : Value) (l0 : List Int) (a1 : Int) (A2 : Option Addr) (c2 : Nat) (l2 : List Int) (r : List Int) (w0 w : World) (hB : Below w0.heap.size w0 w) (ho0 : Kd.R (Kd.int .i64) 2 w w0.heap.size P0_ u9000_ l0) (hr2 : ∀ W', Kept w W' (fun k_ => P0_ k_) → Kd.C (Kd.int .i64) W' A2 l2.length l2) (hc2 : l2.length ≤ c2) (h : slices_Insert.f l0 a1 l2 = some r) :
  Calls Try.prog 81 #[u9000_, .int .i64 a1, .slice A2 l2.length c2] w fun e w' => ∃ v0_ : Value, e = .returned (v0_) ∧ Kd.R (Kd.int .i64) 2 w' w0.heap.size (fun k_ => (P0_ k_ ∨ w.heap.size ≤ k_)) v0_ r ∧ Below w0.heap.size w0 w' ∧ Kept w w' (fun k_ => P0_ k_) := by
 unfold slices_Insert.f at h
 by_cases hc : 1 ≤ l0.length ∧ l0.length ≤ 100000000 ∧ 0 ≤ a1 ∧ a1 ≤ (l0.length : Int) ∧ l2.length = 1
 ·rw [if_pos hc] at h
  obtain rfl := Option.some.inj h
  obtain ⟨c0, c1, c3, c4, c5⟩ := hc
  obtain ⟨i, rfl⟩ := Int.eq_ofNat_of_zero_le c3
  obtain ⟨x, rfl⟩ := List.length_eq_one_iff.1 c5
  obtain ⟨n, hn⟩ : ∃ n, n = l0.length := ⟨_, rfl⟩
  rw [← hn] at c0 c1 c4
  clear h c5
  have hin : i ≤ n := by omega
  have hown := Kd.own_of_R ho0
  obtain ⟨_, h2⟩ := hown
  rcases h2 with ⟨rfl, h2⟩ | ⟨g, cap, cur, rfl, hb, hg, hm2, hcap, hs, ht⟩
  ·omega
  rw [Nat.mul_one] at hs ht
  rw [← hn] at hm2 ht
  have hp : P0_ g := ho0.1 g (by simp [Value.ownBlock])
  have hcapm : cap ≤ 9223372036854775807 := by unfold maxLen at hcap; omega
  have hgl : g < w.heap.size := by
   rcases Nat.lt_or_ge g w.heap.size with h | h
   ·exact h
   ·rw [Array.getElem?_eq_none h] at hg; cases hg
  -- the row that is put in
  have hC := hr2 w ⟨Nat.le_refl _, fun _ _ _ => rfl⟩
  obtain ⟨ad, eA, hx⟩ : ∃ ad, A2 = some ad ∧ w.cell? ad = some (.int .i64 x) := by
   obtain ⟨ad, e, h4⟩ := Kd.at_int hC 0 (by omega) (by simp)
   exact ⟨ad, e, by simpa [Addr.add, rd] using h4⟩
  subst eA
  have hne : ad.block ≠ g := by
   intro e
   have h1 := hr2 { w with heap := w.heap.modify g fun _ => .cells #[] 2 (0, 0) } ⟨by simp, fun k hk hn' => by
    show (w.heap.modify g _)[k]? = _
    rw [Array.getElem?_modify, if_neg (fun e => hn' (by rw [← e]; exact hp))]⟩
   obtain ⟨ad', e', h5⟩ := Kd.at_int h1 0 (by omega) (by simp)
   cases e'
   simp [World.cell?, Addr.add, e, Array.getElem?_modify, hg] at h5
  obtain ⟨vb, vo, vsp⟩ := ad
  obtain rfl : vsp = none := by
   cases vsp with
   | none => rfl
   | some s => simp [World.cell?] at hx; split at hx <;> simp at hx
  have hvl : vb < w.heap.size := block_lt_of_cell hx
  obtain ⟨tA, kA, hsa, hkA⟩ : ∃ tA kA, w.shape? vb = some (tA, kA) ∧ kA ≠ 0 := by
   unfold World.cell? at hx
   unfold World.shape?
   split at hx
   ·rename_i c e _ he
    simp only [he]
    refine ⟨_, _, rfl, ?_⟩
    simp at hx
    intro h0
    rw [Array.getElem?_eq_none (by omega)] at hx
    cases hx
   ·cases hx
  simp only [List.length_cons, List.length_nil, Nat.zero_add] at hc2 ⊢
  have HB := Aside0.mk hB
  have hsz : (Try.prog.info? 2).map (·.size) = some 1 := by
   obtain ⟨i0, hi0, h0⟩ := Option.map_eq_some_iff.1 info2
   simp only [Prod.mk.injEq] at h0
   rw [hi0]; simp [h0.2.1]
  have hx1 : (Value.int .i64 x).oneCell' = true := rfl
  by_cases hend : i = n
  ·have he0 : ((i : Nat) : Int) = (n : Int) := by omega
   subst hend
   have HO := Aside0.mk (Kd.R_mono (ok' := fun k_ => P0_ k_ ∨ w.heap.size ≤ k_) ho0 (fun _ hk => .inl hk))
   have HC := Aside0.mk hC
   have HN := Aside0.mk hn
   have HP := Aside0.mk hp
   rw [← hn] at HO ⊢
   clear hr2 ho0 hC hB hp ht hs hg hcap hx hne hsa hkA hsz hn
   go_enter Try.func81, Try.ntmps81
   go_wp2_with ((with_reducible refine gate_builtin (b := .append) (xs := #[.tmp 23, .tmp 24]) rfl ?_); at_builtin; refine Kd.R_append_rows (Kd.int .i64) (w0 := w0) w0.heap.size rfl (.tmp 23) (.tmp 24) 22 2 (.int .i64 0) 8 rfl Try.underlying22 info2 rfl (by decide) (by omega) (.slice (some ⟨g, 0, none⟩) i cap) l0 [x] (some ⟨vb, vo, none⟩) 1 c2 (fun k_ => P0_ k_ ∨ w.heap.size ≤ k_) (fun _ => False) rfl rfl HO.out HC.out (fun _ _ h => h) (fun _ h => h.elim) (fun _ h => .inr h) HB.out HB.out.size (by have := HN.out; omega) ?_; intro v1 w1 ho hb hg _; obtain ⟨A1, c1_, e1_⟩ := Kd.R_slice ho; subst e1_; have HR := Aside0.mk ho; have HB1 := Aside0.mk hb; have HG := Aside0.mk hg; clear ho hb hg)
   all_goals
    go_ret
    refine ⟨_, rfl, ?_, HB1.out, ⟨HG.out.size, fun k hk hn' => HG.out.block k hk (fun e => hn' (by simp only [Value.ownBlock, Option.some.injEq] at e; rw [e]; exact HP.out))⟩⟩
    have := HR.out
    have e1 : l0.take i = l0 := by rw [List.take_of_length_le (by rw [← HN.out]; exact Nat.le_refl _)]
    have e2 : l0.drop i = [] := by rw [List.drop_of_length_le (by rw [← HN.out]; exact Nat.le_refl _)]
    simpa [← HN.out, e1, e2] using this
  ·have hlt : i < n := by omega
   obtain ⟨L, hL⟩ : ∃ L, L = cur.toList := ⟨_, rfl⟩
   have hLl : L.length = cap := by rw [hL, Array.length_toList]; exact hs
   have hg' : w.heap[g]? = some (.cells L.toArray 2 (0, 0)) := by rw [hL]; simpa using hg
   rw [← hL] at ht
   obtain ⟨T, hT⟩ : ∃ T, T = encs EI (l0.drop i) := ⟨_, rfl⟩
   have hTl : T.length = n - i := by rw [hT]; simp [encs, ← hn]
   have hT1 : ∀ v ∈ T, v.oneCell' = true := fun v hv => by
    rw [hT] at hv
    obtain ⟨y, _, rfl⟩ := List.mem_map.1 hv
    rfl
   have hTc : ∀ j v, T[j]? = some v → w.cell? ⟨g, i + j, none⟩ = some v := fun j v hj => by
    have hjl : j < n - i := by rw [← hTl]; exact (List.getElem?_eq_some_iff.1 hj).1
    have e1 : (L.take n)[i + j]? = some v := by
     rw [ht]
     rw [hT] at hj
     simp only [encs, List.getElem?_map, List.getElem?_drop] at hj ⊢
     exact hj
    rw [List.getElem?_take, if_pos (by omega)] at e1
    simp [World.cell?, hg', e1]
   have hsp : ∀ j, j < cap → (w.cell? ⟨g, j, none⟩).isSome = true := fun j hj => by
    simp [World.cell?, hg', hLl, hj]
   have hfz : ∀ j, w.frozen? ⟨g, j, none⟩ = false := fun j => by simp [World.frozen?, hg']
   have hsb : w.shape? g = some (2, L.length) := by simp [World.shape?, hg']
   have hi1 : (0 : Int) ≤ (i : Int) + 1 := by omega
   have htn : ((i : Int) + 1).toNat = i + 1 := by omega
   have hz2 : ¬ ((i : Int) = (n : Int)) := by omega
   by_cases hroom : n + 1 ≤ cap
   ·have hroom1 : ¬ ((cap : Int) < (n : Int) + 1) := by omega
    have hb2 : ¬ (cap = i + 1) := by omega
    have hb3 : (i : Int) ≤ (n : Int) + 1 := by omega
    have hb4 : ¬ (cap = i) := by omega
    have hov : ∀ lb cb, (callFunc 109 #[.slice (some ⟨vb, vo, none⟩) 1 c2, .slice (some ⟨g, i + 1, none⟩) lb cb]).run Try.prog w = .ok (.value (.bool false)) w := fun lb cb =>
     overlaps1_ w ⟨vb, vo, none⟩ ⟨g, i + 1, none⟩ 1 c2 lb cb hne tA 2 kA L.length hsa hsb hkA (fun j => hfz j) rfl
    have hcp1 : ∀ ty dc sc, (Builtin.copy_ #[22, 22] ty #[.slice (some ⟨g, i + 1, none⟩) (n + 1 - (i + 1)) dc, .slice (some ⟨g, i, none⟩) (n + 1 - i) sc]).run Try.prog w.drew = .ok (goInt T.length) (w.drew.setCells g (i + 1) T) := fun ty dc sc =>
     run_copy_cells w.drew _ _ ty 2 g (i + 1) (n + 1 - (i + 1)) dc ⟨g, i, none⟩ (n + 1 - i) sc T Try.underlying22 hsz (by rw [hTl]; simp only [Nat.min_def]; split <;> omega)
      (fun j v hj => by rw [Addr.add_lit]; exact hTc j v hj) (fun j hj => hsp _ (by omega)) (fun j hj => hfz _) hT1
    obtain ⟨W1, hW1⟩ : ∃ W1, W1 = w.drew.setCells g (i + 1) T := ⟨_, rfl⟩
    have hB1 : W1.heap[g]? = some (.cells (L.take (i + 1) ++ T ++ L.drop (i + 1 + T.length)).toArray 2 (0, 0)) := by
     rw [hW1]; exact blk_setCells g _ T (i + 1) w.drew L hg' (by omega)
    rw [← hW1] at hcp1
    have hcp2 : ∀ (W : World), (∀ y, W.cell? y = W1.cell? y) → (∀ y, W.frozen? y = W1.frozen? y) → ∀ ty dc, (Builtin.copy_ #[22, 22] ty #[.slice (some ⟨g, i, none⟩) (n + 1 - i) dc, .slice (some ⟨vb, vo, none⟩) 1 c2]).run Try.prog W = .ok (goInt 1) (W.setCells g i [.int .i64 x]) := fun W hWc hWf ty dc =>
     run_copy_cells W _ _ ty 2 g i (n + 1 - i) dc ⟨vb, vo, none⟩ 1 c2 [.int .i64 x] Try.underlying22 hsz (by simp only [Nat.min_def, List.length_cons, List.length_nil]; split <;> omega)
      (fun j v hj => by
       obtain ⟨rfl, rfl⟩ : j = 0 ∧ v = .int .i64 x := by
        rcases j with _ | j
        ·exact ⟨rfl, by simpa using hj.symm⟩
        ·simp at hj
       rw [Addr.add_lit, Nat.add_zero, hWc, hW1, World.cell?_setCells_out g _ _ _ _ (fun h _ => absurd h hne)]
       exact hx)
      (fun j hj => by
       have hj0 : j = 0 := by simpa using hj
       subst hj0
       rw [hWc]
       simp [World.cell?, hB1]
       omega)
      (fun j hj => by rw [hWf]; simp [World.frozen?, hB1]) (fun v hv => by simp at hv; subst hv; rfl)
    have hw3 : wrap64 ((n : Int) + 1) = (n : Int) + 1 := by clear hov hcp1 hcp2; unfold wrap64; omega
    have hw1 : IntKind.i64.wrap ((i : Int) + 1) = (i : Int) + 1 := by clear hov hcp1 hcp2 hw3; rw [IntKind.wrap_i64]; omega
    have hw2 : wrap64 ((i : Int) + 1) = (i : Int) + 1 := by clear hov hcp1 hcp2 hw3 hw1; unfold wrap64; omega
    have HCP1 := Aside0.mk hcp1
    have HCP2 := Aside0.mk hcp2
    have HOV := Aside0.mk hov
    have HB1 := Aside0.mk hB1
    have HW1 := Aside0.mk hW1
    have HT := Aside0.mk hT
    have HTl := Aside0.mk hTl
    have HLl := Aside0.mk hLl
    have HLt := Aside0.mk ht
    have HP := Aside0.mk hp
    have HBB := Aside0.mk hb
    have HCAP := Aside0.mk hcap
    have HN := Aside0.mk hn
    have mixed : Try.prog.follows Departure.mixedOrders = true := by kernel_rfl
    rw [← hn]
    clear hcp1 hcp2 hov hB1 hW1 hT hTl hLl ht hp hb hcap hn hg' hg hs hL hTc hT1 hsp hfz hsb hsz hr2 hC ho0 hB hne hx hsa hkA hvl hgl hx1
    go_enter Try.func81, Try.ntmps81
    go_wp2_with (simp only [HOV.out])
    go_region_law_o (refine step_copy_runI rfl _ _ 22 22 rfl (.slice (some ⟨g, i + 1, none⟩) (n + 1 - (i + 1)) (cap - (i + 1))) (.slice (some ⟨g, i, none⟩) (n + 1 - i) (cap - i)) (by simp [Act.eval, Act.put]) (by simp [Act.eval, Act.put]) (HCP1.out _ _ _) ?_)
    have HCP3 := Aside0.mk (fun ty dc => HCP2.out W1 (fun _ => rfl) (fun _ => rfl) ty dc)
    go_wp2_with (simp only [HCP3.out])
    go_ret
    obtain ⟨s1, s2, s3, s4, s5⟩ := setCells_kept g [Value.int .i64 x] i W1
    obtain ⟨q1, q2, q3, q4, q5⟩ := setCells_kept g T (i + 1) w.drew
    rw [← HW1.out] at q1 q2 q3 q4 q5
    have hT' := HT.out
    have hH : L.take i = encs EI (l0.take i) := by
     have h := HLt.out
     have h2 : (L.take n).take i = (encs EI l0).take i := by rw [h]
     rw [List.take_take, Nat.min_eq_left hin] at h2
     rw [h2]; simp [encs]
    have hLl := HLl.out
    have hcells := ins_cells (L := L) x HN.out hin hT' hH (by omega)
    have hblk := blk_setCells g 2 [Value.int .i64 x] i W1 _ HB1.out (by simp; omega)
    rw [show i + [Value.int IntKind.i64 x].length = i + 1 from rfl, hcells] at hblk
    have hlen : (l0.take i ++ [x] ++ l0.drop i).length = n + 1 := by
     have := HN.out
     simp; omega
    obtain ⟨r1, r2, r3⟩ := ins_done (w0 := w0) (w := w) (P0 := P0_) (cap := cap) (s1.trans q1) (s2.trans q2) (s3.trans q3) (by rw [s4, q4]; exact Nat.le_refl _) (fun k _ hk => (s5 k hk).trans (q5 k hk)) hblk (by rw [hlen, List.length_drop]; omega) HCAP.out HBB.out (.inl HP.out) HB.out
    refine ⟨_, rfl, ?_, r2, r3⟩
    rw [hlen] at r1
    exact r1
   ·have hroom1 : (cap : Int) < (n : Int) + 1 := by omega
    have hkk : (n : Int) + 1 - (i : Int) = ((n + 1 - i : Nat) : Int) := by omega
    have hik : i + (n + 1 - i) = n + 1 := by omega
    obtain ⟨i0, hi0, hz0, hzs, hzb⟩ : ∃ i0, Try.prog.info? 2 = some i0 ∧ i0.zero = some (Value.int .i64 0) ∧ i0.size = 1 ∧ i0.bytes = 8 := by
     obtain ⟨i0, hi0, h0⟩ := Option.map_eq_some_iff.1 info2
     simp only [Prod.mk.injEq] at h0
     exact ⟨i0, hi0, h0.1, h0.2.1, h0.2.2⟩
    have hHd : (encs EI (l0.take i)).length = i := by simp [encs, ← hn]; omega
    have hLi : L.take i = encs EI (l0.take i) := by
     have h2 : (L.take n).take i = (encs EI l0).take i := by rw [ht]
     rw [List.take_take, Nat.min_eq_left hin] at h2
     rw [h2]; simp [encs]
    have hold : (Builtin.firstCells i0.size i (.slice (some ⟨g, 0, none⟩) i cap)).run Try.prog w.drew = .ok (encs EI (l0.take i)).toArray w.drew := by
     rw [hzs]
     exact run_firstCells_some w.drew 1 i ⟨g, 0, none⟩ i cap (encs EI (l0.take i)) (by rw [hHd]; omega) (fun j v hj => by
      rw [Addr.add_lit, Nat.zero_add]
      rw [← hLi, List.getElem?_take] at hj
      split at hj
      ·show w.cell? _ = _
       simp [World.cell?, hg', hj]
      ·cases hj)
    obtain ⟨G, hG⟩ : ∃ G, G = grownCap w (n + 1) cap 2 := ⟨_, rfl⟩
    obtain ⟨ROW, hROW⟩ : ∃ ROW : Array Value, ROW = (encs EI (l0.take i)).toArray ++ Builtin.zeroCells (Value.int .i64 0).cells (n + 1 - i) ++ Builtin.zeroCells (Value.int .i64 0).cells (G - (n + 1)) := ⟨_, rfl⟩
    have hrz : ∀ ty, (Builtin.append_ #[22, 3] ty #[.slice (some ⟨g, 0, none⟩) i cap, .int .i64 ((n : Int) + 1 - (i : Int))]).run Try.prog w =
      .ok (.slice (some ⟨w.heap.size, 0, none⟩) (n + 1) G) (w.drew.alloc (.cells ROW 2)) := fun ty => by
     have h := Lib.run_append_grow_zeros w 22 3 ty 2 i0 _ .i64 .i64 Try.underlying22 Try.underlying3 hi0 hz0 (some ⟨g, 0, none⟩) i cap (encs EI (l0.take i)) hold (n + 1 - i) (by omega) (by omega) (by omega) (by omega) (by rw [hzb]; omega) (by rw [hzb, hik]; exact growslice_fits (by omega) (by omega))
     rw [hik, ← hG, ← hROW] at h
     rw [hkk]
     exact h
    have hGn : n + 1 ≤ G := by rw [hG]; exact grownCap_ge w _ _ _
    have hGm : G ≤ maxLen := by
     rw [hG]
     exact grownCap_le_maxLen w (n + 1) cap 2 (by unfold maxLen; omega)
    have hG63 : G ≤ 9223372036854775807 := by unfold maxLen at hGm; omega
    obtain ⟨RL, hRL⟩ : ∃ RL : List Value, RL = ROW.toList := ⟨_, rfl⟩
    have hROW' : ROW = RL.toArray := by rw [hRL]
    have hRl : RL.length = G := by
     rw [hRL, hROW]
     simp [Builtin.zeroCells, Value.cells, encs, ← hn]
     omega
    have hRi : RL.take i = encs EI (l0.take i) := by
     rw [hRL, hROW]
     simp only [Array.toList_append, List.append_assoc]
     rw [List.take_append_of_le_length (by rw [hHd]; exact Nat.le_refl _), List.take_of_length_le (by rw [hHd]; exact Nat.le_refl _)]
    rw [hROW'] at hrz
    obtain ⟨W1, hW1⟩ : ∃ W1, W1 = w.drew.alloc (.cells RL.toArray 2) := ⟨_, rfl⟩
    have hW1b : W1.heap[w.heap.size]? = some (.cells RL.toArray 2 (0, 0)) := by rw [hW1]; show (w.heap.push _)[w.heap.size]? = _; simp
    have hW1k : ∀ k, k < w.heap.size → W1.heap[k]? = w.heap[k]? := fun k hk => by
     rw [hW1]; show (w.heap.push _)[k]? = _; rw [Array.getElem?_push_lt hk, Array.getElem?_eq_getElem hk]
    have hW1s : W1.heap.size = w.heap.size + 1 := by rw [hW1]; show (w.heap.push _).size = _; simp
    have hW1c : ∀ b j, b < w.heap.size → W1.cell? ⟨b, j, none⟩ = w.cell? ⟨b, j, none⟩ := fun b j hb => World.cell?_of_block (hW1k b hb)
    have hcpA : ∀ (W : World), (∀ y, W.cell? y = W1.cell? y) → (∀ y, W.frozen? y = W1.frozen? y) → ∀ ty dc, (Builtin.copy_ #[22, 22] ty #[.slice (some ⟨w.heap.size, i, none⟩) (n + 1 - i) dc, .slice (some ⟨vb, vo, none⟩) 1 c2]).run Try.prog W = .ok (goInt 1) (W.setCells w.heap.size i [.int .i64 x]) := fun W hWc hWf ty dc =>
     run_copy_cells W _ _ ty 2 w.heap.size i (n + 1 - i) dc ⟨vb, vo, none⟩ 1 c2 [.int .i64 x] Try.underlying22 hsz (by simp only [Nat.min_def, List.length_cons, List.length_nil]; split <;> omega)
      (fun j v hj => by
       obtain ⟨rfl, rfl⟩ : j = 0 ∧ v = .int .i64 x := by
        rcases j with _ | j
        ·exact ⟨rfl, by simpa using hj.symm⟩
        ·simp at hj
       rw [Addr.add_lit, Nat.add_zero, hWc, hW1c _ _ hvl]
       exact hx)
      (fun j hj => by
       have hj0 : j = 0 := by simpa using hj
       subst hj0
       rw [hWc]
       simp [World.cell?, hW1b]
       omega)
      (fun j hj => by rw [hWf]; simp [World.frozen?, hW1b]) (fun v hv => by simp at hv; subst hv; rfl)
    obtain ⟨W2, hW2⟩ : ∃ W2, W2 = W1.setCells w.heap.size i [.int .i64 x] := ⟨_, rfl⟩
    have hW2b : W2.heap[w.heap.size]? = some (.cells (RL.take i ++ [Value.int .i64 x] ++ RL.drop (i + 1)).toArray 2 (0, 0)) := by
     rw [hW2]; exact blk_setCells w.heap.size _ [.int .i64 x] i W1 RL hW1b (by simp; omega)
    have hW2l : (RL.take i ++ [Value.int .i64 x] ++ RL.drop (i + 1)).length = G := by
     simp; omega
    have hW2k := (setCells_kept w.heap.size [Value.int .i64 x] i W1).2.2.2.2
    rw [← hW2] at hW2k
    have hcpB : ∀ (W : World), (∀ y, W.cell? y = W2.cell? y) → (∀ y, W.frozen? y = W2.frozen? y) → ∀ ty dc sc, (Builtin.copy_ #[22, 22] ty #[.slice (some ⟨w.heap.size, i + 1, none⟩) (n + 1 - (i + 1)) dc, .slice (some ⟨g, i, none⟩) (n - i) sc]).run Try.prog W = .ok (goInt T.length) (W.setCells w.heap.size (i + 1) T) := fun W hWc hWf ty dc sc =>
     run_copy_cells W _ _ ty 2 w.heap.size (i + 1) (n + 1 - (i + 1)) dc ⟨g, i, none⟩ (n - i) sc T Try.underlying22 hsz (by rw [hTl]; simp only [Nat.min_def]; split <;> omega)
      (fun j v hj => by
       rw [Addr.add_lit, hWc]
       have e : W2.cell? ⟨g, i + j, none⟩ = W1.cell? ⟨g, i + j, none⟩ := World.cell?_of_block (hW2k g (by omega))
       rw [e, hW1c _ _ hgl]
       exact hTc j v hj)
      (fun j hj => by
       rw [hWc]
       have hjl : i + 1 + j < (RL.take i ++ [Value.int .i64 x] ++ RL.drop (i + 1)).length := by rw [hW2l]; omega
       unfold World.cell?
       simp only [hW2b, Option.isSome_none, Bool.false_eq_true, if_false, List.getElem?_toArray]
       rw [List.getElem?_eq_getElem hjl]; rfl)
      (fun j hj => by rw [hWf]; simp [World.frozen?, hW2b]) hT1
    have hlen : (l0.take i ++ [x] ++ l0.drop i).length = n + 1 := by
     simp; omega
    have HFIN : Aside0 ((Kd.int .i64).R 2 (W2.drew.setCells w.heap.size (i + 1) T) w0.heap.size (fun k_ => (P0_ k_ ∨ w.heap.size ≤ k_)) (.slice (some ⟨w.heap.size, 0, none⟩) (n + 1) G) (l0.take i ++ [x] ++ l0.drop i) ∧ Below w0.heap.size w0 (W2.drew.setCells w.heap.size (i + 1) T) ∧ Kept w (W2.drew.setCells w.heap.size (i + 1) T) (fun k_ => P0_ k_)) := by
     refine ⟨?_⟩
     obtain ⟨s1, s2, s3, s4, s5⟩ := setCells_kept w.heap.size T (i + 1) W2.drew
     obtain ⟨q1, q2, q3, q4, q5⟩ := setCells_kept w.heap.size [Value.int .i64 x] i W1
     rw [← hW2] at q1 q2 q3 q4 q5
     have hblk := blk_setCells w.heap.size 2 T (i + 1) W2.drew _ hW2b (by rw [hW2l, hTl]; omega)
     rw [ins_cells2 (L := RL) x hn hin hT hRi (by omega)] at hblk
     have r := ins_done (w0 := w0) (w := w) (P0 := P0_) (cap := G) (g := w.heap.size) (W := W2.drew.setCells w.heap.size (i + 1) T) (s := l0.take i ++ [x] ++ l0.drop i) (rest := RL.drop (n + 1))
      (s1.trans (q1.trans (by rw [hW1]; rfl))) (s2.trans (q2.trans (by rw [hW1]; rfl))) (s3.trans (q3.trans (by rw [hW1]; rfl))) (by rw [s4]; show w.heap.size ≤ W2.heap.size; rw [q4, hW1s]; omega)
      (fun k hk hne' => (s5 k hne').trans ((q5 k hne').trans (hW1k k hk))) hblk (by rw [hlen, List.length_drop, hRl]; omega) hGm HB.out.size (.inr (Nat.le_refl _)) HB.out
     rw [hlen] at r
     exact r
    rw [← hn]
    refine (slices_Insert.grow w W1 W2 (W2.drew.setCells w.heap.size (i + 1) T) g vb vo c2 i n cap G T.length hlt c1 (by omega) hGn hm2 (by rw [← hW1] at hrz; exact hrz) (by rw [hW2]; exact hcpA W1 (fun _ => rfl) (fun _ => rfl)) (hcpB W2.drew (fun _ => rfl) (fun _ => rfl))).mono ?_
    rintro e w' ⟨he, rfl⟩
    exact ⟨_, he, HFIN.out⟩
 ·rw [if_neg hc] at h; cases h

/-! ### impl_putIn: function 45 -/
def impl_putIn.f (k : Nat) (l0_0 : List Int) (a1 : Int) (a2 : Int) (a3 : Int) : Option (List Int) := (slices_Clone.f l0_0).bind fun t210 => ((impl_kidsOf.f k l0_0 a1).bind fun t213 => ((impl_endOf.f k t210 a1).bind fun t216 => (if a2 < (t213.length : Int) then (if 0 ≤ a2 then (if 0 ≤ a1 then (if a1 < (t210.length : Int) then ((slices_Insert.f (t210.set (a1 : Int).toNat (wrap64 ((rd t210 a1) + (wrap64 (1 - a3))))) (rd t213 a2) (([a3] : List Int))).bind fun t223 => (some t223)) else (none)) else (none)) else (none)) else (if 0 ≤ a1 then (if a1 < (t210.length : Int) then ((slices_Insert.f (t210.set (a1 : Int).toNat (wrap64 ((rd t210 a1) + (wrap64 (1 - a3))))) t216 (([a3] : List Int))).bind fun t231 => (some t231)) else (none)) else (none)))))
theorem impl_putIn.mono : ∀ a0 a1 a2 a3 k, LeO (impl_putIn.f k a0 a1 a2 a3) (impl_putIn.f (k + 1) a0 a1 a2 a3) := by
 intro a0 a1 a2 a3 k
 unfold impl_putIn.f
 repeat' first
   | (with_reducible exact impl_endOf.mono _ _ _)
   | (with_reducible exact impl_kidsOf.mono _ _ _)
   | (with_reducible exact LeO.refl _)
   | (with_reducible exact LeO.none _)
   | (with_reducible refine LeO.ite ?_ ?_)
   | (with_reducible refine LeO.bind ?_ (fun _ => ?_))
   | exact impl_endOf.mono _ _ _
   | exact impl_kidsOf.mono _ _ _
   | exact LeO.none _
   | refine LeO.ite ?_ ?_
   | refine LeO.bind ?_ (fun _ => ?_)
def impl_putIn.T1 : Bool × List (List Nat × List Nat) := (true, [([], []), ([0], [0]), ([1], [1]), ([], []), ([3], [3]), ([], []), ([4, 5, 2], [4, 5]), ([2, 6, 0, 1, 2], [2]), ([6, 7, 0, 1, 2, 3, 4, 5, 6, 7], [6])])
def impl_putIn.B1 : List Nat := [0, 1, 3, 0, 8, 0, 63, 127, 255]
theorem impl_putIn.tab1 : rtab .any (opsOf Try.f45 1) = impl_putIn.T1 := by kernel_rfl
theorem impl_putIn.bits1 : waitsOk impl_putIn.T1.2 impl_putIn.B1 = true := by kernel_rfl
set_option maxHeartbeats 8000000 in
set_option maxRecDepth 100000 in
theorem impl_putIn.calls (k : Nat) (A0_0 : Option Addr) (c0_0 : Nat) (l0_0 : List Int) (a1 : Int) (a2 : Int) (a3 : Int) (r : List Int) (w : World) (hr0_0 : Kd.C (Kd.int .i64) w A0_0 l0_0.length l0_0) (hc0_0 : l0_0.length ≤ c0_0) (h : impl_putIn.f k l0_0 a1 a2 a3 = some r) :
  Calls Try.prog 45 #[.agg #[.slice A0_0 l0_0.length c0_0], .int .i64 a1, .int .i64 a2, .int .i64 a3] w fun e w' => ∃ v0_ : Value, e = .returned (.agg #[v0_]) ∧ Kd.R (Kd.int .i64) 2 w' w.heap.size (fun _ => True) v0_ r ∧ Below w.heap.size w w' := by
 have hu26 := Try.underlying26
 have HR0_0 := Aside0.mk hr0_0
 have HC0_0 := Aside0.mk hc0_0
 clear hr0_0 hc0_0
 have HB := Aside0.mk (Below.refl w.heap.size w)
 have H : ((slices_Clone.f l0_0).bind fun t210 => ((impl_kidsOf.f k l0_0 a1).bind fun t213 => ((impl_endOf.f k t210 a1).bind fun t216 => (if a2 < (t213.length : Int) then (if 0 ≤ a2 then (if 0 ≤ a1 then (if a1 < (t210.length : Int) then ((slices_Insert.f (t210.set (a1 : Int).toNat (wrap64 ((rd t210 a1) + (wrap64 (1 - a3))))) (rd t213 a2) (([a3] : List Int))).bind fun t223 => (some t223)) else (none)) else (none)) else (none)) else (if 0 ≤ a1 then (if a1 < (t210.length : Int) then ((slices_Insert.f (t210.set (a1 : Int).toNat (wrap64 ((rd t210 a1) + (wrap64 (1 - a3))))) t216 (([a3] : List Int))).bind fun t231 => (some t231)) else (none)) else (none)))))) = some r := h
 clear h
 replace H := Option.bind_eq_some_iff.mp H
 obtain ⟨t210, A50, H⟩ := H
 replace H : ((impl_kidsOf.f k l0_0 a1).bind fun t213 => ((impl_endOf.f k t210 a1).bind fun t216 => (if a2 < (t213.length : Int) then (if 0 ≤ a2 then (if 0 ≤ a1 then (if a1 < (t210.length : Int) then ((slices_Insert.f (t210.set (a1 : Int).toNat (wrap64 ((rd t210 a1) + (wrap64 (1 - a3))))) (rd t213 a2) (([a3] : List Int))).bind fun t223 => (some t223)) else (none)) else (none)) else (none)) else (if 0 ≤ a1 then (if a1 < (t210.length : Int) then ((slices_Insert.f (t210.set (a1 : Int).toNat (wrap64 ((rd t210 a1) + (wrap64 (1 - a3))))) t216 (([a3] : List Int))).bind fun t231 => (some t231)) else (none)) else (none))))) = some r := H
 have A5 := Aside0.mk A50
 clear A50
 replace H := Option.bind_eq_some_iff.mp H
 obtain ⟨t213, A60, H⟩ := H
 replace H : ((impl_endOf.f k t210 a1).bind fun t216 => (if a2 < (t213.length : Int) then (if 0 ≤ a2 then (if 0 ≤ a1 then (if a1 < (t210.length : Int) then ((slices_Insert.f (t210.set (a1 : Int).toNat (wrap64 ((rd t210 a1) + (wrap64 (1 - a3))))) (rd t213 a2) (([a3] : List Int))).bind fun t223 => (some t223)) else (none)) else (none)) else (none)) else (if 0 ≤ a1 then (if a1 < (t210.length : Int) then ((slices_Insert.f (t210.set (a1 : Int).toNat (wrap64 ((rd t210 a1) + (wrap64 (1 - a3))))) t216 (([a3] : List Int))).bind fun t231 => (some t231)) else (none)) else (none)))) = some r := H
 have A6 := Aside0.mk A60
 clear A60
 replace H := Option.bind_eq_some_iff.mp H
 obtain ⟨t216, A70, H⟩ := H
 replace H : (if a2 < (t213.length : Int) then (if 0 ≤ a2 then (if 0 ≤ a1 then (if a1 < (t210.length : Int) then ((slices_Insert.f (t210.set (a1 : Int).toNat (wrap64 ((rd t210 a1) + (wrap64 (1 - a3))))) (rd t213 a2) (([a3] : List Int))).bind fun t223 => (some t223)) else (none)) else (none)) else (none)) else (if 0 ≤ a1 then (if a1 < (t210.length : Int) then ((slices_Insert.f (t210.set (a1 : Int).toNat (wrap64 ((rd t210 a1) + (wrap64 (1 - a3))))) t216 (([a3] : List Int))).bind fun t231 => (some t231)) else (none)) else (none))) = some r := H
 have A7 := Aside0.mk A70
 clear A70
 by_cases c8 : a2 < (t213.length : Int)
 ·rw [if_pos c8] at H
  have c8b0 : decide (a2 < (t213.length : Int)) = true := decide_eq_true c8
  clear c8
  by_cases c9 : 0 ≤ a2
  ·rw [if_pos c9] at H
   have c9b0 : decide (0 ≤ a2) = true := decide_eq_true c9
   clear c9
   by_cases c10 : 0 ≤ a1
   ·rw [if_pos c10] at H
    have c10b0 : decide (0 ≤ a1) = true := decide_eq_true c10
    clear c10
    by_cases c11 : a1 < (t210.length : Int)
    ·rw [if_pos c11] at H
     have c11b0 : decide (a1 < (t210.length : Int)) = true := decide_eq_true c11
     clear c11
     obtain ⟨y219, hy219⟩ : ∃ y_ : List Int, y_ = (t210.set (a1 : Int).toNat (wrap64 ((rd t210 a1) + (wrap64 (1 - a3))))) := ⟨_, rfl⟩
     replace H : ((slices_Insert.f y219 (rd t213 a2) (([a3] : List Int))).bind fun t223 => (some t223)) = some r := by first | (rw [hy219]; with_reducible exact H) | (have H2_ := (Option.bind_some _ _).symm.trans H; rw [hy219]; with_reducible exact H2_) | (have H2_ := (Option.bind_some _ _).symm.trans H; with_reducible exact H2_) | with_reducible exact H | (rw [hy219]; exact H) | exact H
     have Ny219 := Aside0.mk hy219
     clear hy219
     obtain ⟨y220, hy220⟩ : ∃ y_ : List Int, y_ = (([a3] : List Int)) := ⟨_, rfl⟩
     replace H : ((slices_Insert.f y219 (rd t213 a2) y220).bind fun t223 => (some t223)) = some r := by first | (rw [hy220]; with_reducible exact H) | (have H2_ := (Option.bind_some _ _).symm.trans H; rw [hy220]; with_reducible exact H2_) | (have H2_ := (Option.bind_some _ _).symm.trans H; with_reducible exact H2_) | with_reducible exact H | (rw [hy220]; exact H) | exact H
     have Ny220 := Aside0.mk hy220
     clear hy220
     replace H := Option.bind_eq_some_iff.mp H
     obtain ⟨t223, A130, H⟩ := H
     replace H : (some t223) = some r := H
     have A13 := Aside0.mk A130
     clear A130
     obtain rfl := Option.some.inj H
     go_enter Try.func45, Try.ntmps45
     try go_wp2_with (first | ((with_reducible refine gate_dst (N := 4) rfl ?_); refine box_event ?hg (N := 4) ?hd (cs := #[.slice A0_0 l0_0.length c0_0]) (t := 26) ?hr ?_; (case hd => rfl); (case hg => rfl); (case hr => first | (go_simp; done) | (go_simp; rfl)); intro gb208 hg w14 hbox hb; have n0_ := Aside0.mk (below_step (by repeat (first | (with_reducible first | exact HB.out | apply below_alloc | apply pw_below_drewN | apply below_drew1) | exact HB.out)) hb); have n1_ := Aside0.mk (hbox); have n2_ := Aside0.mk ((by rw [hg]; exact (below_size (by repeat (first | (with_reducible first | exact HB.out | apply below_alloc | apply pw_below_drewN | apply below_drew1) | exact HB.out))) : w.heap.size ≤ gb208)); have n3_ := Aside0.mk ((by rw [hg]; exact (below_size (by repeat (first | (with_reducible first | exact HB.out | apply below_alloc | apply pw_below_drewN | apply below_drew1) | exact HB.out))) : w.heap.size ≤ gb208)); clear HB; have HB := n0_; have BK208 := n1_; have GW208 := n2_; have GE208 := n3_; clear n0_ n1_ n2_ n3_; clear hb hbox hg) | ((with_reducible refine gate_dst (N := 8) rfl ?_); refine box_event ?hg (N := 8) ?hd (cs := #[.slice none 0 0]) (t := 26) ?hr ?_; (case hd => rfl); (case hg => rfl); (case hr => first | (go_simp; done) | (go_simp; rfl)); intro gb209 hg w15 hbox hb; have n0_ := Aside0.mk (blk_below (g := gb208) (o := .cells #[.slice A0_0 l0_0.length c0_0] 26 (0, 0)) (by (with_reducible repeat (first | refine blk_drewN ?_ _ | refine blk_drew ?_ | refine blk_alloc ?_ _)); exact BK208.out) hb); have n1_ := Aside0.mk (below_step (by repeat (first | (with_reducible first | exact HB.out | apply below_alloc | apply pw_below_drewN | apply below_drew1 | refine below_set ?_ GE208.out) | exact HB.out)) hb); have n2_ := Aside0.mk (hbox); have n3_ := Aside0.mk ((by rw [hg]; exact (below_size (by repeat (first | (with_reducible first | exact HB.out | apply below_alloc | apply pw_below_drewN | apply below_drew1 | refine below_set ?_ GE208.out) | exact HB.out))) : w.heap.size ≤ gb209)); have n4_ := Aside0.mk ((by rw [hg]; exact (below_size (by repeat (first | (with_reducible first | exact HB.out | apply below_alloc | apply pw_below_drewN | apply below_drew1 | refine below_set ?_ GE208.out) | exact HB.out))) : w.heap.size ≤ gb209)); have n5_ := Aside0.mk ((by rw [hg]; exact Nat.ne_of_lt (blk_lt (g := gb208) (o := .cells #[.slice A0_0 l0_0.length c0_0] 26 (0, 0)) (by (with_reducible repeat (first | refine blk_drewN ?_ _ | refine blk_drew ?_ | refine blk_alloc ?_ _)); exact BK208.out)) : gb208 ≠ gb209)); have n6_ := Aside0.mk ((by rw [hg]; exact Nat.ne_of_gt (blk_lt (g := gb208) (o := .cells #[.slice A0_0 l0_0.length c0_0] 26 (0, 0)) (by (with_reducible repeat (first | refine blk_drewN ?_ _ | refine blk_drew ?_ | refine blk_alloc ?_ _)); exact BK208.out)) : gb209 ≠ gb208)); clear BK208; clear HB; have BK208 := n0_; have HB := n1_; have BK209 := n2_; have GW209 := n3_; have GE209 := n4_; have NB208_209 := n5_; have NB209_208 := n6_; clear n0_ n1_ n2_ n3_ n4_ n5_ n6_; clear hb hbox hg))
     have n0_ := Aside0.mk (blk_drew BK208.out)
     have n1_ := Aside0.mk (blk_drew BK209.out)
     have n2_ := Aside0.mk (below_drew1 HB.out)
     clear BK208
     clear BK209
     clear HB
     have BK208 := n0_
     have BK209 := n1_
     have HB := n2_
     clear n0_ n1_ n2_
     refine start_ (n := 9) (S := fun w' => w'.cell? ⟨gb208, 0, none⟩ = some (.slice A0_0 l0_0.length c0_0)) (ds := []) #[false, false, false, false, false, false, false, false, false] (by kernel_rfl) rfl rfl ((blk_cell BK208.out 0).trans rfl) (fun hHeld => ?_); refine with_tabW impl_putIn.tab1 impl_putIn.bits1 (fun HT_ HW_ => ?_)
     generalize w15.drew = w16 at BK208 BK209 HB hHeld ⊢
     refine pure_ (i := 0) (N := some 12) (v := ?_) (a' := ?_) #[true, false, false, false, false, false, false, false, false] rfl rfl (any_of HT_.out (by kernel_rfl)) (fun _ _ _ h => h) (Or.inl ⟨by rfl, ?_⟩) ?_ ?_
     rotate_left
     ·intro w'
      go_simp
      with_reducible rfl
     rotate_left
     ·simp only [Act.put, sIB, sc0, scs, i64_w, i32_w]
      rfl
     refine pure_ (i := 3) (N := some 15) (v := ?_) (a' := ?_) #[true, false, false, true, false, false, false, false, false] rfl rfl (any_of HT_.out (by kernel_rfl)) (fun _ _ _ h => h) (Or.inl ⟨by rfl, ?_⟩) ?_ ?_
     rotate_left
     ·intro w'
      go_simp
      with_reducible rfl
     rotate_left
     ·simp only [Act.put, sIB, sc0, scs, i64_w, i32_w]
      rfl
     refine pure_ (i := 5) (N := some 17) (v := ?_) (a' := ?_) #[true, false, false, true, false, true, false, false, false] rfl rfl (any_of HT_.out (by kernel_rfl)) (fun _ _ _ h => h) (Or.inl ⟨by rfl, ?_⟩) ?_ ?_
     rotate_left
     ·intro w'
      go_simp
      with_reducible rfl
     rotate_left
     ·simp only [Act.put, sIB, sc0, scs, i64_w, i32_w]
      rfl
     refine take_ (i := 1) (N := some 13) (v := ?_) (a' := ?_) #[true, true, false, true, false, true, false, false, false] rfl rfl (take_ofW HT_.out HW_.out (by kernel_rfl)) (fun _ _ _ h => h) (Or.inl ⟨by rfl, ?_⟩) hHeld ?_ ?_
     rotate_left
     ·intro w' s0
      go_simp
      with_reducible rfl
     rotate_left
     ·simp only [Act.put, sIB, sc0, scs, i64_w, i32_w]
      rfl
     refine take_ (i := 4) (N := some 16) (v := ?_) (a' := ?_) #[true, true, false, true, true, true, false, false, false] rfl rfl (take_ofW HT_.out HW_.out (by kernel_rfl)) (fun _ _ _ h => h) (Or.inl ⟨by rfl, ?_⟩) hHeld ?_ ?_
     rotate_left
     ·intro w' s0
      go_simp
      with_reducible rfl
     rotate_left
     ·simp only [Act.put, sIB, sc0, scs, i64_w, i32_w]
      rfl
     refine one_ (i := 2) (N := some 14) #[true, true, true, true, true, true, false, false, false] rfl rfl (one_of HT_.out (by kernel_rfl)) (by decide) (fun K hK => ?_)
     refine goes_ Try.func78 (by kernel_rfl) rfl #[.slice A0_0 l0_0.length c0_0] (by rfl) rfl rfl (by (try simp only [List.map_toArray, List.map_cons, List.map_nil]); first | done | rfl | (simp only [List.length_drop, List.length_take]; rfl)) ?_
     with_reducible refine (slices_Clone.calls _ _ l0_0 t210 _ ?side1 ?side2 A5.out).mono ?_
     (case side1 => repeat (first | exact (Kd.C_below HR0_0.out HB.out) | (with_reducible refine Kd.C_alloc ?_ _) | (with_reducible refine Kd.C_drewN ?_ _) | (with_reducible refine Kd.C_drew ?_)))
     (case side2 => exact HC0_0.out)
     rintro e w17 ⟨v211, rfl, ho0, hb⟩
     refine ⟨_, rfl, ?_⟩
     have n0_ := Aside0.mk (Kd.R_lower ho0 (below_size (by repeat (first | (with_reducible first | exact HB.out | apply below_alloc | apply pw_below_drewN | apply below_drew1 | refine below_set ?_ GE208.out | refine below_set ?_ GE209.out) | exact HB.out))))
     have n1_ := Aside0.mk (blk_below (g := gb208) (o := .cells #[.slice A0_0 l0_0.length c0_0] 26 (0, 0)) (by (with_reducible repeat (first | refine blk_drewN ?_ _ | refine blk_drew ?_ | refine blk_alloc ?_ _)); exact BK208.out) hb)
     have n2_ := Aside0.mk (blk_below (g := gb209) (o := .cells #[.slice none 0 0] 26 (0, 0)) (by (with_reducible repeat (first | refine blk_drewN ?_ _ | refine blk_drew ?_ | refine blk_alloc ?_ _)); exact BK209.out) hb)
     have n3_ := Aside0.mk (below_step (by repeat (first | (with_reducible first | exact HB.out | apply below_alloc | apply pw_below_drewN | apply below_drew1 | refine below_set ?_ GE208.out | refine below_set ?_ GE209.out) | exact HB.out)) hb)
     clear BK208
     clear BK209
     clear HB
     have HO212 := n0_
     have BK208 := n1_
     have BK209 := n2_
     have HB := n3_
     clear n0_ n1_ n2_ n3_
     (try clear hb)
     (try clear hb2)
     (try clear hk)
     (try clear hi)
     (try clear ho0)
     refine hK.out _ _ ((blk_cell BK208.out 0).trans rfl) (fun hHeld => ?_)
     clear hK K
     refine norm_ (a' := ?_) ?_ ?_
     rotate_left
     ·show Act.put _ (some 14) _ = _
      simp only [Act.put, sIB, sc0, scs, i64_w, i32_w]
      rfl
     refine one_ (i := 6) (N := some 18) #[true, true, true, true, true, true, true, false, false] rfl rfl (one_of HT_.out (by kernel_rfl)) (by decide) (fun K hK => ?_)
     refine goes_ Try.func79 (by kernel_rfl) rfl #[.slice A0_0 l0_0.length c0_0, .int .i64 a1] (by rfl) rfl rfl (by (try simp only [List.map_toArray, List.map_cons, List.map_nil]); first | done | rfl | (simp only [List.length_drop, List.length_take]; rfl)) ?_
     with_reducible refine (impl_kidsOf.calls k _ _ l0_0 a1 t213 _ ?side1 ?side2 A6.out).mono ?_
     (case side1 => repeat (first | exact (Kd.C_below HR0_0.out HB.out) | (with_reducible refine Kd.C_alloc ?_ _) | (with_reducible refine Kd.C_drewN ?_ _) | (with_reducible refine Kd.C_drew ?_)))
     (case side2 => exact HC0_0.out)
     rintro e w18 ⟨v214, rfl, ho0, hb⟩
     refine ⟨_, rfl, ?_⟩
     have n0_ := Aside0.mk (Kd.R_elder' (by (with_reducible repeat (first | apply Kd.R_alloc | apply Kd.R_drewN | apply Kd.R_drew)); exact HO212.out) (Kd.R_base ho0) hb)
     have n1_ := Aside0.mk (Kd.R_lower (Kd.R_new' ho0 (Kd.R_lt (by (with_reducible repeat (first | apply Kd.R_alloc | apply Kd.R_drewN | apply Kd.R_drew)); exact HO212.out))) (below_size (by repeat (first | (with_reducible first | exact HB.out | apply below_alloc | apply pw_below_drewN | apply below_drew1 | refine below_set ?_ GE208.out | refine below_set ?_ GE209.out) | exact HB.out))))
     have n2_ := Aside0.mk (blk_below (g := gb208) (o := .cells #[.slice A0_0 l0_0.length c0_0] 26 (0, 0)) (by (with_reducible repeat (first | refine blk_drewN ?_ _ | refine blk_drew ?_ | refine blk_alloc ?_ _)); exact BK208.out) hb)
     have n3_ := Aside0.mk (blk_below (g := gb209) (o := .cells #[.slice none 0 0] 26 (0, 0)) (by (with_reducible repeat (first | refine blk_drewN ?_ _ | refine blk_drew ?_ | refine blk_alloc ?_ _)); exact BK209.out) hb)
     have n4_ := Aside0.mk (below_step (by repeat (first | (with_reducible first | exact HB.out | apply below_alloc | apply pw_below_drewN | apply below_drew1 | refine below_set ?_ GE208.out | refine below_set ?_ GE209.out) | exact HB.out)) hb)
     clear HO212
     clear BK208
     clear BK209
     clear HB
     have HO212 := n0_
     have HO215 := n1_
     have BK208 := n2_
     have BK209 := n3_
     have HB := n4_
     clear n0_ n1_ n2_ n3_ n4_
     (try clear hb)
     (try clear hb2)
     (try clear hk)
     (try clear hi)
     (try clear ho0)
     refine hK.out _ _ ((blk_cell BK208.out 0).trans rfl) (fun hHeld => ?_)
     clear hK K
     refine norm_ (a' := ?_) ?_ ?_
     rotate_left
     ·show Act.put _ (some 18) _ = _
      simp only [Act.put, sIB, sc0, scs, i64_w, i32_w]
      rfl
     refine pure_ (i := 7) (N := some 9) (v := ?_) (a' := ?_) #[true, true, true, true, true, true, true, true, false] rfl rfl (any_of HT_.out (by kernel_rfl)) (fun _ _ _ h => h) (Or.inl ⟨by rfl, ?_⟩) ?_ ?_
     rotate_left
     ·intro w'
      go_simp
      with_reducible rfl
     rotate_left
     ·simp only [Act.put, sIB, sc0, scs, i64_w, i32_w]
      rfl
     refine pure_ (i := 8) (N := some 10) (v := ?_) (a' := ?_) #[true, true, true, true, true, true, true, true, true] rfl rfl (any_of HT_.out (by kernel_rfl)) (fun _ _ _ h => h) (Or.inl ⟨by rfl, ?_⟩) ?_ ?_
     rotate_left
     ·intro w'
      go_simp
      with_reducible rfl
     rotate_left
     ·simp only [Act.put, sIB, sc0, scs, i64_w, i32_w]
      rfl
     refine done_ (done_of HT_.out (by kernel_rfl)) ?_
     obtain ⟨Ao19, co19, eo19⟩ := Kd.R_slice HO212.out
     subst eo19
     try go_wp2_with (first | ((with_reducible refine gate_callee (f := 80) rfl ?_); refine goesL_ (some 21) rfl rfl Try.func80 (by kernel_rfl) rfl #[.slice Ao19 t210.length co19, .int .i64 a1] rfl (by (try simp only [List.map_toArray, List.map_cons, List.map_nil]); first | done | rfl | (simp only [List.length_drop, List.length_take]; rfl)) ?_; (with_reducible refine (impl_endOf.calls k _ _ t210 a1 t216 _ ?side1 ?side2 A7.out).mono ?_); (case side1 => repeat (first | exact (Kd.R_reads' HO212.out).2.2 | (with_reducible refine Kd.C_alloc ?_ _) | (with_reducible refine Kd.C_drewN ?_ _) | (with_reducible refine Kd.C_drew ?_))); (case side2 => exact (Kd.R_reads' HO212.out).2.1); rintro e w' ⟨rfl, ⟨nd, rfl⟩⟩; refine ⟨_, rfl, ?_⟩; (try (rw [drewN_self w18]; generalize hq_ : World.drewN w18 _ = w18; have n0_ := Aside0.mk (Kd.R_at hq_ HO212.out); have n1_ := Aside0.mk (Kd.R_at hq_ HO215.out); have n2_ : Aside0 (w18.heap[gb208]? = some (.cells #[.slice A0_0 l0_0.length c0_0] 26 (0, 0))) := ⟨by rw [← hq_]; exact (by (with_reducible repeat (first | refine blk_drewN ?_ _ | refine blk_drew ?_ | refine blk_alloc ?_ _)); exact BK208.out)⟩; have n3_ : Aside0 (w18.heap[gb209]? = some (.cells #[.slice none 0 0] 26 (0, 0))) := ⟨by rw [← hq_]; exact (by (with_reducible repeat (first | refine blk_drewN ?_ _ | refine blk_drew ?_ | refine blk_alloc ?_ _)); exact BK209.out)⟩; have n4_ : Aside0 (Below w.heap.size w w18) := ⟨by rw [← hq_]; exact (by repeat (first | (with_reducible first | exact HB.out | apply below_alloc | apply pw_below_drewN | apply below_drew1 | refine below_set ?_ GE208.out | refine below_set ?_ GE209.out) | exact HB.out))⟩; clear HO212 HO215 BK208 BK209 HB hq_; have HO212 := n0_; have HO215 := n1_; have BK208 := n2_; have BK209 := n3_; have HB := n4_; clear n0_ n1_ n2_ n3_ n4_)); obtain ⟨Ao20, co20, eo20⟩ := Kd.R_slice HO215.out; subst eo20; have p217 : 0 ≤ (a2 : Int) := of_decide_eq_true (by first | (with_reducible assumption) | assumption); have q217 : a2 < (t213.length : Int) := of_decide_eq_true (by first | (with_reducible assumption) | assumption); obtain ⟨ad217, e217, hx217_0⟩ := Kd.at_int (Kd.R_reads' HO215.out).2.2 a2 p217 q217; cases e217; replace p217 := eq_true p217; replace q217 := eq_true q217; have p218 : 0 ≤ (a1 : Int) := of_decide_eq_true (by first | (with_reducible assumption) | assumption); have q218 : a1 < (t210.length : Int) := of_decide_eq_true (by first | (with_reducible assumption) | assumption); obtain ⟨ad218, e218, hx218_0⟩ := Kd.at_int (Kd.R_reads' HO212.out).2.2 a1 p218 q218; cases e218; replace p218 := eq_true p218; replace q218 := eq_true q218; have p12 : 0 ≤ (a1 : Int) := of_decide_eq_true (by first | (with_reducible assumption) | assumption); have q12 : (a1 : Int) < ((t210.length : Int) : Int) := of_decide_eq_true (by first | (with_reducible assumption) | assumption); obtain ⟨go12, co12, eo12, gb12, gl12, cl12, HG12⟩ := Kd.R_form HO212.out (by omega); (first | cases eo12 | (injection eo12 with ea_ en_ ec_; (first | subst ea_ | (injection ea_ with ea_; subst ea_)); subst ec_; clear en_)); have GB12 := Aside0.mk gb12; have GG12 := Aside0.mk HG12; clear gb12 gl12 HG12; (first | simp only [add_plain] at hx218_0 | skip); obtain ⟨hx12_0, hf12_0⟩ := Kd.R_celln 0 HO212.out (a1 : Int) p12 q12; replace p12 := eq_true p12; replace q12 := eq_true q12; have n_ := Aside0.mk (Kd.R_mono (ok' := (fun k_ => some k_ ≠ (.slice (some ad217) t213.length co20 : Value).ownBlock)) HO212.out (fun k_ hk => hk.2)); clear HO212; have HO212 := n_; clear n_; obtain ⟨hy21_, hz21_⟩ := Kd.R_celln 0 HO212.out (a1 : Int) (of_decide_eq_true (by first | (with_reducible assumption) | assumption)) (of_decide_eq_true (by first | (with_reducible assumption) | assumption)); have HP21 := Kd.R_putg HO212.out (a1 : Int) (wrap64 ((rd t210 a1) + (wrap64 (1 - a3))))) | ((with_reducible refine gate_store (t := 2) (p := 37) rfl ?_); refine store_event (t := 2) (p := 37) (v := ?vo_w22) (w1 := (w18.setCell ⟨go12, (a1 : Int).toNat, none⟩ (.int .i64 (wrap64 ((rd t210 a1) + (wrap64 (1 - a3))))))) ?hg ?ho ?hn ?hr ?_; (case ho => rfl); (case hg => rfl); (case hn => rfl); (case hr => first | (go_simp; done) | (go_simp; rfl)); intro w22 hw; have hg : w18.grownBy w22 (some go12) := (by rw [hw]; exact HP21.2); have hp_ : Kd.R (Kd.int .i64) 2 w22 w.heap.size (fun k_ => some k_ ≠ (.slice (some ad217) t213.length co20 : Value).ownBlock) (.slice (some ⟨go12, 0, none⟩) t210.length co19) y219 := (by rw [hw, Ny219.out]; exact HP21.1); clear HP21; have n0_ := Aside0.mk (blk_grown (g := gb208) (o := .cells #[.slice A0_0 l0_0.length c0_0] 26 (0, 0)) (by (with_reducible repeat (first | refine blk_drewN ?_ _ | refine blk_drew ?_ | refine blk_alloc ?_ _)); exact BK208.out) hg (Kd.R_ne HO212.out BK208.out (by decide))); have n1_ := Aside0.mk (blk_grown (g := gb209) (o := .cells #[.slice none 0 0] 26 (0, 0)) (by (with_reducible repeat (first | refine blk_drewN ?_ _ | refine blk_drew ?_ | refine blk_alloc ?_ _)); exact BK209.out) hg (Kd.R_ne HO212.out BK209.out (by decide))); have n2_ := Aside0.mk (hp_); have n3_ := Aside0.mk (Kd.R_after (v := (.slice (some ⟨go12, 0, none⟩) t210.length co19)) (v1 := (.slice (some ⟨go12, 0, none⟩) t210.length co19)) (ok := (fun _ => True)) (by (with_reducible repeat (first | apply Kd.R_alloc | apply Kd.R_drewN | apply Kd.R_drew)); exact HO215.out) hg (.inl rfl)); have n4_ := Aside0.mk ((by rw [hw]; exact below_set (HB.out) GB12.out : Below w.heap.size w w22)); clear BK208; clear BK209; clear HO212; clear HO215; clear HB; have BK208 := n0_; have BK209 := n1_; have HO212 := n2_; have HO215 := n3_; have HB := n4_; clear n0_ n1_ n2_ n3_ n4_; clear hg hw hp_) | ((with_reducible refine gate_dst (N := 41) rfl ?_); refine Kd.R_lit (Kd.int .i64) _ 2 ?hg (N := 41) ?hd (xs := ([a3] : List Int)) (inner := [.int .i64 a3]) (ok := fun _ => True) (okp := fun _ => True) ?hr ?hp (fun _ hk => hk) trivial (Below.refl _ _) (Nat.le_refl _) (by simp) ?_; (case hd => rfl); (case hg => rfl); (case hr => first | (go_simp; done) | (go_simp; rfl)); (case hp => exact (Reps.one (show Kd.M (Kd.int .i64) _ _ _ a3 [.int .i64 a3] from rfl) (Reps.none _ _))); intro v221 w23 ho24 hb hg_ hnew_; clear hg_ hnew_; (first | rw [← Ny220.out] at ho24 | (simp only [Int.reduceToNat] at ho24; rw [← Ny220.out] at ho24)); have n0_ := Aside0.mk (Kd.R_elder' (by (with_reducible repeat (first | apply Kd.R_alloc | apply Kd.R_drewN | apply Kd.R_drew)); exact HO212.out) (Kd.R_base ho24) hb); have n1_ := Aside0.mk (Kd.R_elder' (by (with_reducible repeat (first | apply Kd.R_alloc | apply Kd.R_drewN | apply Kd.R_drew)); exact HO215.out) (Kd.R_base ho24) hb); have n2_ := Aside0.mk (Kd.R_lower (Kd.R_new' (Kd.R_new' ho24 (Kd.R_lt (by (with_reducible repeat (first | apply Kd.R_alloc | apply Kd.R_drewN | apply Kd.R_drew)); exact HO212.out))) (Kd.R_lt (by (with_reducible repeat (first | apply Kd.R_alloc | apply Kd.R_drewN | apply Kd.R_drew)); exact HO215.out))) (below_size (by repeat (first | (with_reducible first | exact HB.out | apply below_alloc | apply pw_below_drewN | apply below_drew1 | refine below_set ?_ GE208.out | refine below_set ?_ GE209.out) | exact HB.out)))); have n3_ := Aside0.mk (blk_below (g := gb208) (o := .cells #[.slice A0_0 l0_0.length c0_0] 26 (0, 0)) (by (with_reducible repeat (first | refine blk_drewN ?_ _ | refine blk_drew ?_ | refine blk_alloc ?_ _)); exact BK208.out) hb); have n4_ := Aside0.mk (blk_below (g := gb209) (o := .cells #[.slice none 0 0] 26 (0, 0)) (by (with_reducible repeat (first | refine blk_drewN ?_ _ | refine blk_drew ?_ | refine blk_alloc ?_ _)); exact BK209.out) hb); have n5_ := Aside0.mk (below_step (by repeat (first | (with_reducible first | exact HB.out | apply below_alloc | apply pw_below_drewN | apply below_drew1 | refine below_set ?_ GE208.out | refine below_set ?_ GE209.out) | exact HB.out)) hb); clear HO212; clear HO215; clear BK208; clear BK209; clear HB; have HO212 := n0_; have HO215 := n1_; have HO222 := n2_; have BK208 := n3_; have BK209 := n4_; have HB := n5_; clear n0_ n1_ n2_ n3_ n4_ n5_; clear hb ho24; obtain ⟨Ao25, co25, eo25⟩ := Kd.R_slice HO222.out; subst eo25) | ((with_reducible refine gate_callee (f := 81) rfl ?_); refine goesL_ (some 42) rfl rfl Try.func81 (by kernel_rfl) rfl #[.slice (some ⟨go12, 0, none⟩) t210.length co19, .int .i64 (rd t213 a2), .slice Ao25 y220.length co25] rfl (by (try simp only [List.map_toArray, List.map_cons, List.map_nil]); first | done | rfl | (simp only [List.length_drop, List.length_take]; rfl)) ?_; (with_reducible refine (slices_Insert.calls (fun k_ => some k_ = (.slice (some ⟨go12, 0, none⟩) t210.length co19 : Value).ownBlock) (.slice (some ⟨go12, 0, none⟩) t210.length co19) y219 (rd t213 a2) _ _ y220 t223 w _ ?side1 ?side2 ?side3 ?side4 A13.out).mono ?_); (case side1 => repeat (first | (with_reducible first | exact HB.out | apply below_alloc | apply pw_below_drewN | apply below_drew1 | refine below_set ?_ GE208.out | refine below_set ?_ GE209.out) | exact HB.out)); (case side2 => exact Kd.R_tight rfl HO212.out); (case side3 => exact Kd.C_kept_own (HO222.out) (fun k_ hk_ hs_ => (hk_.1.2) hs_)); (case side4 => exact (Kd.R_reads' HO222.out).2.1); rintro e w26 ⟨v224, rfl, ho0, hb, hkp⟩; refine ⟨_, rfl, ?_⟩; have n0_ := Aside0.mk (blk_kept (by (with_reducible repeat (first | refine blk_drewN ?_ _ | refine blk_drew ?_ | refine blk_alloc ?_ _)); exact BK208.out) hkp (fun hs_ => (fun e_ => (Kd.R_ne HO212.out BK208.out (by decide)) e_) hs_)); have n1_ := Aside0.mk (blk_kept (by (with_reducible repeat (first | refine blk_drewN ?_ _ | refine blk_drew ?_ | refine blk_alloc ?_ _)); exact BK209.out) hkp (fun hs_ => (fun e_ => (Kd.R_ne HO212.out BK209.out (by decide)) e_) hs_)); have n2_ := Aside0.mk (Kd.R_mono (ok' := fun k_ => some k_ ≠ (.slice Ao25 y220.length co25 : Value).ownBlock ∧ some k_ ≠ (v224 : Value).ownBlock) (Kd.R_keptB (HO215.out) hkp (fun k_ hk_ hs_ => (hk_.1.2) hs_)) (fun k_ hk_ => ⟨hk_.1.2, fun e_ => Or.elim (ho0.1 k_ e_.symm) (fun hs_ => hk_.2.1 hs_) (fun hn_ => Nat.not_le.2 hk_.2.2 hn_)⟩)); have n3_ := Aside0.mk (Kd.R_mono (ok' := fun k_ => some k_ ≠ (.slice (some ad217) t213.length co20 : Value).ownBlock ∧ some k_ ≠ (v224 : Value).ownBlock) (Kd.R_keptB (HO222.out) hkp (fun k_ hk_ hs_ => (hk_.1.2) hs_)) (fun k_ hk_ => ⟨hk_.1.2, fun e_ => Or.elim (ho0.1 k_ e_.symm) (fun hs_ => hk_.2.1 hs_) (fun hn_ => Nat.not_le.2 hk_.2.2 hn_)⟩)); have n4_ := Aside0.mk (Kd.R_mono (ok' := fun k_ => some k_ ≠ (.slice (some ad217) t213.length co20 : Value).ownBlock ∧ some k_ ≠ (.slice Ao25 y220.length co25 : Value).ownBlock) ho0 (fun k_ hk_ => ⟨Or.elim hk_ (fun hs_ => fun e_ => (((HO215.out).1 k_ e_.symm).1.2) hs_) (fun hn_ => (Kd.fresh' (Kd.R_lt (by (with_reducible repeat (first | apply Kd.R_alloc | apply Kd.R_drewN | apply Kd.R_drew)); exact HO215.out)) k_ hn_)), Or.elim hk_ (fun hs_ => fun e_ => (((HO222.out).1 k_ e_.symm).1.2) hs_) (fun hn_ => (Kd.fresh' (Kd.R_lt (by (with_reducible repeat (first | apply Kd.R_alloc | apply Kd.R_drewN | apply Kd.R_drew)); exact HO222.out)) k_ hn_))⟩)); have n5_ := Aside0.mk (hb); clear BK208; clear BK209; clear HO215; clear HO222; clear HB; clear HO212; have BK208 := n0_; have BK209 := n1_; have HO215 := n2_; have HO222 := n3_; have HO225 := n4_; have HB := n5_; clear n0_ n1_ n2_ n3_ n4_ n5_; (try clear hb); (try clear hkp); (try clear ho0); obtain ⟨Ao27, co27, eo27⟩ := Kd.R_slice HO225.out; subst eo27; have hnb28 := NB209_208.out; have hnc28 := NB208_209.out; have hcz29_0 : w26.cell? ⟨gb209, 0, none⟩ = some (.slice none 0 0) := (blk_cell BK209.out 0).trans rfl; have hfz29_0 := blk_frozen BK209.out 0))
     refine bodyPost_ret (results_cell_row rfl _ _ gb209 26 #[.slice Ao27 t223.length co27] (0, 0) _ rfl (by (with_reducible repeat (first | refine blk_drewN ?_ _ | refine blk_drew ?_ | refine blk_alloc ?_ _)); refine blk_put (cs := #[.slice none 0 0]) ?_ 0 _ rfl; (with_reducible repeat (first | refine blk_drewN ?_ _ | refine blk_drew ?_ | refine blk_alloc ?_ _)); exact BK209.out) Try.underlying26 rfl (by kernel_rfl)) rfl ?_
     exact ⟨_, by first | rfl | (simp [errW_none, errW_some] <;> rfl) | (simp [*, errW_none, errW_some] <;> rfl), by (with_reducible repeat (first | apply Kd.R_alloc | apply Kd.R_drewN | apply Kd.R_drew)); exact Kd.R_mono (Kd.R_far (p := ⟨gb209, 0, none⟩) (Kd.R_types HO225.out BK209.out (by decide)) (fun _ hk => hk.2) (.slice Ao27 t223.length co27)) (fun _ hk => trivial), by repeat (first | (with_reducible first | exact HB.out | apply below_alloc | apply pw_below_drewN | apply below_drew1 | refine below_set ?_ GE208.out | refine below_set ?_ GE209.out) | exact HB.out)⟩
    ·rw [if_neg c11] at H
     exact absurd H (by simp)
   ·rw [if_neg c10] at H
    exact absurd H (by simp)
  ·rw [if_neg c9] at H
   exact absurd H (by simp)
 ·rw [if_neg c8] at H
  have c8b0 : decide (a2 < (t213.length : Int)) = false := decide_eq_false c8
  clear c8
  by_cases c30 : 0 ≤ a1
  ·rw [if_pos c30] at H
   have c30b0 : decide (0 ≤ a1) = true := decide_eq_true c30
   clear c30
   by_cases c31 : a1 < (t210.length : Int)
   ·rw [if_pos c31] at H
    have c31b0 : decide (a1 < (t210.length : Int)) = true := decide_eq_true c31
    clear c31
    obtain ⟨y227, hy227⟩ : ∃ y_ : List Int, y_ = (t210.set (a1 : Int).toNat (wrap64 ((rd t210 a1) + (wrap64 (1 - a3))))) := ⟨_, rfl⟩
    replace H : ((slices_Insert.f y227 t216 (([a3] : List Int))).bind fun t231 => (some t231)) = some r := by first | (rw [hy227]; with_reducible exact H) | (have H2_ := (Option.bind_some _ _).symm.trans H; rw [hy227]; with_reducible exact H2_) | (have H2_ := (Option.bind_some _ _).symm.trans H; with_reducible exact H2_) | with_reducible exact H | (rw [hy227]; exact H) | exact H
    have Ny227 := Aside0.mk hy227
    clear hy227
    obtain ⟨y228, hy228⟩ : ∃ y_ : List Int, y_ = (([a3] : List Int)) := ⟨_, rfl⟩
    replace H : ((slices_Insert.f y227 t216 y228).bind fun t231 => (some t231)) = some r := by first | (rw [hy228]; with_reducible exact H) | (have H2_ := (Option.bind_some _ _).symm.trans H; rw [hy228]; with_reducible exact H2_) | (have H2_ := (Option.bind_some _ _).symm.trans H; with_reducible exact H2_) | with_reducible exact H | (rw [hy228]; exact H) | exact H
    have Ny228 := Aside0.mk hy228
    clear hy228
    replace H := Option.bind_eq_some_iff.mp H
    obtain ⟨t231, A330, H⟩ := H
    replace H : (some t231) = some r := H
    have A33 := Aside0.mk A330
    clear A330
    obtain rfl := Option.some.inj H
    go_enter Try.func45, Try.ntmps45
    try go_wp2_with (first | ((with_reducible refine gate_dst (N := 4) rfl ?_); refine box_event ?hg (N := 4) ?hd (cs := #[.slice A0_0 l0_0.length c0_0]) (t := 26) ?hr ?_; (case hd => rfl); (case hg => rfl); (case hr => first | (go_simp; done) | (go_simp; rfl)); intro gb208 hg w34 hbox hb; have n0_ := Aside0.mk (below_step (by repeat (first | (with_reducible first | exact HB.out | apply below_alloc | apply pw_below_drewN | apply below_drew1) | exact HB.out)) hb); have n1_ := Aside0.mk (hbox); have n2_ := Aside0.mk ((by rw [hg]; exact (below_size (by repeat (first | (with_reducible first | exact HB.out | apply below_alloc | apply pw_below_drewN | apply below_drew1) | exact HB.out))) : w.heap.size ≤ gb208)); have n3_ := Aside0.mk ((by rw [hg]; exact (below_size (by repeat (first | (with_reducible first | exact HB.out | apply below_alloc | apply pw_below_drewN | apply below_drew1) | exact HB.out))) : w.heap.size ≤ gb208)); clear HB; have HB := n0_; have BK208 := n1_; have GW208 := n2_; have GE208 := n3_; clear n0_ n1_ n2_ n3_; clear hb hbox hg) | ((with_reducible refine gate_dst (N := 8) rfl ?_); refine box_event ?hg (N := 8) ?hd (cs := #[.slice none 0 0]) (t := 26) ?hr ?_; (case hd => rfl); (case hg => rfl); (case hr => first | (go_simp; done) | (go_simp; rfl)); intro gb209 hg w35 hbox hb; have n0_ := Aside0.mk (blk_below (g := gb208) (o := .cells #[.slice A0_0 l0_0.length c0_0] 26 (0, 0)) (by (with_reducible repeat (first | refine blk_drewN ?_ _ | refine blk_drew ?_ | refine blk_alloc ?_ _)); exact BK208.out) hb); have n1_ := Aside0.mk (below_step (by repeat (first | (with_reducible first | exact HB.out | apply below_alloc | apply pw_below_drewN | apply below_drew1 | refine below_set ?_ GE208.out) | exact HB.out)) hb); have n2_ := Aside0.mk (hbox); have n3_ := Aside0.mk ((by rw [hg]; exact (below_size (by repeat (first | (with_reducible first | exact HB.out | apply below_alloc | apply pw_below_drewN | apply below_drew1 | refine below_set ?_ GE208.out) | exact HB.out))) : w.heap.size ≤ gb209)); have n4_ := Aside0.mk ((by rw [hg]; exact (below_size (by repeat (first | (with_reducible first | exact HB.out | apply below_alloc | apply pw_below_drewN | apply below_drew1 | refine below_set ?_ GE208.out) | exact HB.out))) : w.heap.size ≤ gb209)); have n5_ := Aside0.mk ((by rw [hg]; exact Nat.ne_of_lt (blk_lt (g := gb208) (o := .cells #[.slice A0_0 l0_0.length c0_0] 26 (0, 0)) (by (with_reducible repeat (first | refine blk_drewN ?_ _ | refine blk_drew ?_ | refine blk_alloc ?_ _)); exact BK208.out)) : gb208 ≠ gb209)); have n6_ := Aside0.mk ((by rw [hg]; exact Nat.ne_of_gt (blk_lt (g := gb208) (o := .cells #[.slice A0_0 l0_0.length c0_0] 26 (0, 0)) (by (with_reducible repeat (first | refine blk_drewN ?_ _ | refine blk_drew ?_ | refine blk_alloc ?_ _)); exact BK208.out)) : gb209 ≠ gb208)); clear BK208; clear HB; have BK208 := n0_; have HB := n1_; have BK209 := n2_; have GW209 := n3_; have GE209 := n4_; have NB208_209 := n5_; have NB209_208 := n6_; clear n0_ n1_ n2_ n3_ n4_ n5_ n6_; clear hb hbox hg))
    have n0_ := Aside0.mk (blk_drew BK208.out)
    have n1_ := Aside0.mk (blk_drew BK209.out)
    have n2_ := Aside0.mk (below_drew1 HB.out)
    clear BK208
    clear BK209
    clear HB
    have BK208 := n0_
    have BK209 := n1_
    have HB := n2_
    clear n0_ n1_ n2_
    refine start_ (n := 9) (S := fun w' => w'.cell? ⟨gb208, 0, none⟩ = some (.slice A0_0 l0_0.length c0_0)) (ds := []) #[false, false, false, false, false, false, false, false, false] (by kernel_rfl) rfl rfl ((blk_cell BK208.out 0).trans rfl) (fun hHeld => ?_); refine with_tabW impl_putIn.tab1 impl_putIn.bits1 (fun HT_ HW_ => ?_)
    generalize w35.drew = w36 at BK208 BK209 HB hHeld ⊢
    refine pure_ (i := 0) (N := some 12) (v := ?_) (a' := ?_) #[true, false, false, false, false, false, false, false, false] rfl rfl (any_of HT_.out (by kernel_rfl)) (fun _ _ _ h => h) (Or.inl ⟨by rfl, ?_⟩) ?_ ?_
    rotate_left
    ·intro w'
     go_simp
     with_reducible rfl
    rotate_left
    ·simp only [Act.put, sIB, sc0, scs, i64_w, i32_w]
     rfl
    refine pure_ (i := 3) (N := some 15) (v := ?_) (a' := ?_) #[true, false, false, true, false, false, false, false, false] rfl rfl (any_of HT_.out (by kernel_rfl)) (fun _ _ _ h => h) (Or.inl ⟨by rfl, ?_⟩) ?_ ?_
    rotate_left
    ·intro w'
     go_simp
     with_reducible rfl
    rotate_left
    ·simp only [Act.put, sIB, sc0, scs, i64_w, i32_w]
     rfl
    refine pure_ (i := 5) (N := some 17) (v := ?_) (a' := ?_) #[true, false, false, true, false, true, false, false, false] rfl rfl (any_of HT_.out (by kernel_rfl)) (fun _ _ _ h => h) (Or.inl ⟨by rfl, ?_⟩) ?_ ?_
    rotate_left
    ·intro w'
     go_simp
     with_reducible rfl
    rotate_left
    ·simp only [Act.put, sIB, sc0, scs, i64_w, i32_w]
     rfl
    refine take_ (i := 1) (N := some 13) (v := ?_) (a' := ?_) #[true, true, false, true, false, true, false, false, false] rfl rfl (take_ofW HT_.out HW_.out (by kernel_rfl)) (fun _ _ _ h => h) (Or.inl ⟨by rfl, ?_⟩) hHeld ?_ ?_
    rotate_left
    ·intro w' s0
     go_simp
     with_reducible rfl
    rotate_left
    ·simp only [Act.put, sIB, sc0, scs, i64_w, i32_w]
     rfl
    refine take_ (i := 4) (N := some 16) (v := ?_) (a' := ?_) #[true, true, false, true, true, true, false, false, false] rfl rfl (take_ofW HT_.out HW_.out (by kernel_rfl)) (fun _ _ _ h => h) (Or.inl ⟨by rfl, ?_⟩) hHeld ?_ ?_
    rotate_left
    ·intro w' s0
     go_simp
     with_reducible rfl
    rotate_left
    ·simp only [Act.put, sIB, sc0, scs, i64_w, i32_w]
     rfl
    refine one_ (i := 2) (N := some 14) #[true, true, true, true, true, true, false, false, false] rfl rfl (one_of HT_.out (by kernel_rfl)) (by decide) (fun K hK => ?_)
    refine goes_ Try.func78 (by kernel_rfl) rfl #[.slice A0_0 l0_0.length c0_0] (by rfl) rfl rfl (by (try simp only [List.map_toArray, List.map_cons, List.map_nil]); first | done | rfl | (simp only [List.length_drop, List.length_take]; rfl)) ?_
    with_reducible refine (slices_Clone.calls _ _ l0_0 t210 _ ?side1 ?side2 A5.out).mono ?_
    (case side1 => repeat (first | exact (Kd.C_below HR0_0.out HB.out) | (with_reducible refine Kd.C_alloc ?_ _) | (with_reducible refine Kd.C_drewN ?_ _) | (with_reducible refine Kd.C_drew ?_)))
    (case side2 => exact HC0_0.out)
    rintro e w37 ⟨v211, rfl, ho0, hb⟩
    refine ⟨_, rfl, ?_⟩
    have n0_ := Aside0.mk (Kd.R_lower ho0 (below_size (by repeat (first | (with_reducible first | exact HB.out | apply below_alloc | apply pw_below_drewN | apply below_drew1 | refine below_set ?_ GE208.out | refine below_set ?_ GE209.out) | exact HB.out))))
    have n1_ := Aside0.mk (blk_below (g := gb208) (o := .cells #[.slice A0_0 l0_0.length c0_0] 26 (0, 0)) (by (with_reducible repeat (first | refine blk_drewN ?_ _ | refine blk_drew ?_ | refine blk_alloc ?_ _)); exact BK208.out) hb)
    have n2_ := Aside0.mk (blk_below (g := gb209) (o := .cells #[.slice none 0 0] 26 (0, 0)) (by (with_reducible repeat (first | refine blk_drewN ?_ _ | refine blk_drew ?_ | refine blk_alloc ?_ _)); exact BK209.out) hb)
    have n3_ := Aside0.mk (below_step (by repeat (first | (with_reducible first | exact HB.out | apply below_alloc | apply pw_below_drewN | apply below_drew1 | refine below_set ?_ GE208.out | refine below_set ?_ GE209.out) | exact HB.out)) hb)
    clear BK208
    clear BK209
    clear HB
    have HO212 := n0_
    have BK208 := n1_
    have BK209 := n2_
    have HB := n3_
    clear n0_ n1_ n2_ n3_
    (try clear hb)
    (try clear hb2)
    (try clear hk)
    (try clear hi)
    (try clear ho0)
    refine hK.out _ _ ((blk_cell BK208.out 0).trans rfl) (fun hHeld => ?_)
    clear hK K
    refine norm_ (a' := ?_) ?_ ?_
    rotate_left
    ·show Act.put _ (some 14) _ = _
     simp only [Act.put, sIB, sc0, scs, i64_w, i32_w]
     rfl
    refine one_ (i := 6) (N := some 18) #[true, true, true, true, true, true, true, false, false] rfl rfl (one_of HT_.out (by kernel_rfl)) (by decide) (fun K hK => ?_)
    refine goes_ Try.func79 (by kernel_rfl) rfl #[.slice A0_0 l0_0.length c0_0, .int .i64 a1] (by rfl) rfl rfl (by (try simp only [List.map_toArray, List.map_cons, List.map_nil]); first | done | rfl | (simp only [List.length_drop, List.length_take]; rfl)) ?_
    with_reducible refine (impl_kidsOf.calls k _ _ l0_0 a1 t213 _ ?side1 ?side2 A6.out).mono ?_
    (case side1 => repeat (first | exact (Kd.C_below HR0_0.out HB.out) | (with_reducible refine Kd.C_alloc ?_ _) | (with_reducible refine Kd.C_drewN ?_ _) | (with_reducible refine Kd.C_drew ?_)))
    (case side2 => exact HC0_0.out)
    rintro e w38 ⟨v214, rfl, ho0, hb⟩
    refine ⟨_, rfl, ?_⟩
    have n0_ := Aside0.mk (Kd.R_elder' (by (with_reducible repeat (first | apply Kd.R_alloc | apply Kd.R_drewN | apply Kd.R_drew)); exact HO212.out) (Kd.R_base ho0) hb)
    have n1_ := Aside0.mk (Kd.R_lower (Kd.R_new' ho0 (Kd.R_lt (by (with_reducible repeat (first | apply Kd.R_alloc | apply Kd.R_drewN | apply Kd.R_drew)); exact HO212.out))) (below_size (by repeat (first | (with_reducible first | exact HB.out | apply below_alloc | apply pw_below_drewN | apply below_drew1 | refine below_set ?_ GE208.out | refine below_set ?_ GE209.out) | exact HB.out))))
    have n2_ := Aside0.mk (blk_below (g := gb208) (o := .cells #[.slice A0_0 l0_0.length c0_0] 26 (0, 0)) (by (with_reducible repeat (first | refine blk_drewN ?_ _ | refine blk_drew ?_ | refine blk_alloc ?_ _)); exact BK208.out) hb)
    have n3_ := Aside0.mk (blk_below (g := gb209) (o := .cells #[.slice none 0 0] 26 (0, 0)) (by (with_reducible repeat (first | refine blk_drewN ?_ _ | refine blk_drew ?_ | refine blk_alloc ?_ _)); exact BK209.out) hb)
    have n4_ := Aside0.mk (below_step (by repeat (first | (with_reducible first | exact HB.out | apply below_alloc | apply pw_below_drewN | apply below_drew1 | refine below_set ?_ GE208.out | refine below_set ?_ GE209.out) | exact HB.out)) hb)
    clear HO212
    clear BK208
    clear BK209
    clear HB
    have HO212 := n0_
    have HO215 := n1_
    have BK208 := n2_
    have BK209 := n3_
    have HB := n4_
    clear n0_ n1_ n2_ n3_ n4_
    (try clear hb)
    (try clear hb2)
    (try clear hk)
    (try clear hi)
    (try clear ho0)
    refine hK.out _ _ ((blk_cell BK208.out 0).trans rfl) (fun hHeld => ?_)
    clear hK K
    refine norm_ (a' := ?_) ?_ ?_
    rotate_left
    ·show Act.put _ (some 18) _ = _
     simp only [Act.put, sIB, sc0, scs, i64_w, i32_w]
     rfl
    refine pure_ (i := 7) (N := some 9) (v := ?_) (a' := ?_) #[true, true, true, true, true, true, true, true, false] rfl rfl (any_of HT_.out (by kernel_rfl)) (fun _ _ _ h => h) (Or.inl ⟨by rfl, ?_⟩) ?_ ?_
    rotate_left
    ·intro w'
     go_simp
     with_reducible rfl
    rotate_left
    ·simp only [Act.put, sIB, sc0, scs, i64_w, i32_w]
     rfl
    refine pure_ (i := 8) (N := some 10) (v := ?_) (a' := ?_) #[true, true, true, true, true, true, true, true, true] rfl rfl (any_of HT_.out (by kernel_rfl)) (fun _ _ _ h => h) (Or.inl ⟨by rfl, ?_⟩) ?_ ?_
    rotate_left
    ·intro w'
     go_simp
     with_reducible rfl
    rotate_left
    ·simp only [Act.put, sIB, sc0, scs, i64_w, i32_w]
     rfl
    refine done_ (done_of HT_.out (by kernel_rfl)) ?_
    obtain ⟨Ao39, co39, eo39⟩ := Kd.R_slice HO212.out
    subst eo39
    try go_wp2_with (first | ((with_reducible refine gate_callee (f := 80) rfl ?_); refine goesL_ (some 21) rfl rfl Try.func80 (by kernel_rfl) rfl #[.slice Ao39 t210.length co39, .int .i64 a1] rfl (by (try simp only [List.map_toArray, List.map_cons, List.map_nil]); first | done | rfl | (simp only [List.length_drop, List.length_take]; rfl)) ?_; (with_reducible refine (impl_endOf.calls k _ _ t210 a1 t216 _ ?side1 ?side2 A7.out).mono ?_); (case side1 => repeat (first | exact (Kd.R_reads' HO212.out).2.2 | (with_reducible refine Kd.C_alloc ?_ _) | (with_reducible refine Kd.C_drewN ?_ _) | (with_reducible refine Kd.C_drew ?_))); (case side2 => exact (Kd.R_reads' HO212.out).2.1); rintro e w' ⟨rfl, ⟨nd, rfl⟩⟩; refine ⟨_, rfl, ?_⟩; (try (rw [drewN_self w38]; generalize hq_ : World.drewN w38 _ = w38; have n0_ := Aside0.mk (Kd.R_at hq_ HO212.out); have n1_ := Aside0.mk (Kd.R_at hq_ HO215.out); have n2_ : Aside0 (w38.heap[gb208]? = some (.cells #[.slice A0_0 l0_0.length c0_0] 26 (0, 0))) := ⟨by rw [← hq_]; exact (by (with_reducible repeat (first | refine blk_drewN ?_ _ | refine blk_drew ?_ | refine blk_alloc ?_ _)); exact BK208.out)⟩; have n3_ : Aside0 (w38.heap[gb209]? = some (.cells #[.slice none 0 0] 26 (0, 0))) := ⟨by rw [← hq_]; exact (by (with_reducible repeat (first | refine blk_drewN ?_ _ | refine blk_drew ?_ | refine blk_alloc ?_ _)); exact BK209.out)⟩; have n4_ : Aside0 (Below w.heap.size w w38) := ⟨by rw [← hq_]; exact (by repeat (first | (with_reducible first | exact HB.out | apply below_alloc | apply pw_below_drewN | apply below_drew1 | refine below_set ?_ GE208.out | refine below_set ?_ GE209.out) | exact HB.out))⟩; clear HO212 HO215 BK208 BK209 HB hq_; have HO212 := n0_; have HO215 := n1_; have BK208 := n2_; have BK209 := n3_; have HB := n4_; clear n0_ n1_ n2_ n3_ n4_)); obtain ⟨Ao40, co40, eo40⟩ := Kd.R_slice HO215.out; subst eo40; have p226 : 0 ≤ (a1 : Int) := of_decide_eq_true (by first | (with_reducible assumption) | assumption); have q226 : a1 < (t210.length : Int) := of_decide_eq_true (by first | (with_reducible assumption) | assumption); obtain ⟨ad226, e226, hx226_0⟩ := Kd.at_int (Kd.R_reads' HO212.out).2.2 a1 p226 q226; cases e226; replace p226 := eq_true p226; replace q226 := eq_true q226; have p32 : 0 ≤ (a1 : Int) := of_decide_eq_true (by first | (with_reducible assumption) | assumption); have q32 : (a1 : Int) < ((t210.length : Int) : Int) := of_decide_eq_true (by first | (with_reducible assumption) | assumption); obtain ⟨go32, co32, eo32, gb32, gl32, cl32, HG32⟩ := Kd.R_form HO212.out (by omega); (first | cases eo32 | (injection eo32 with ea_ en_ ec_; (first | subst ea_ | (injection ea_ with ea_; subst ea_)); subst ec_; clear en_)); have GB32 := Aside0.mk gb32; have GG32 := Aside0.mk HG32; clear gb32 gl32 HG32; (first | simp only [add_plain] at hx226_0 | skip); obtain ⟨hx32_0, hf32_0⟩ := Kd.R_celln 0 HO212.out (a1 : Int) p32 q32; replace p32 := eq_true p32; replace q32 := eq_true q32; have n_ := Aside0.mk (Kd.R_mono (ok' := (fun k_ => some k_ ≠ (.slice Ao40 t213.length co40 : Value).ownBlock)) HO212.out (fun k_ hk => hk.2)); clear HO212; have HO212 := n_; clear n_; obtain ⟨hy41_, hz41_⟩ := Kd.R_celln 0 HO212.out (a1 : Int) (of_decide_eq_true (by first | (with_reducible assumption) | assumption)) (of_decide_eq_true (by first | (with_reducible assumption) | assumption)); have HP41 := Kd.R_putg HO212.out (a1 : Int) (wrap64 ((rd t210 a1) + (wrap64 (1 - a3))))) | ((with_reducible refine gate_store (t := 2) (p := 37) rfl ?_); refine store_event (t := 2) (p := 37) (v := ?vo_w42) (w1 := (w38.setCell ⟨go32, (a1 : Int).toNat, none⟩ (.int .i64 (wrap64 ((rd t210 a1) + (wrap64 (1 - a3))))))) ?hg ?ho ?hn ?hr ?_; (case ho => rfl); (case hg => rfl); (case hn => rfl); (case hr => first | (go_simp; done) | (go_simp; rfl)); intro w42 hw; have hg : w38.grownBy w42 (some go32) := (by rw [hw]; exact HP41.2); have hp_ : Kd.R (Kd.int .i64) 2 w42 w.heap.size (fun k_ => some k_ ≠ (.slice Ao40 t213.length co40 : Value).ownBlock) (.slice (some ⟨go32, 0, none⟩) t210.length co39) y227 := (by rw [hw, Ny227.out]; exact HP41.1); clear HP41; have n0_ := Aside0.mk (blk_grown (g := gb208) (o := .cells #[.slice A0_0 l0_0.length c0_0] 26 (0, 0)) (by (with_reducible repeat (first | refine blk_drewN ?_ _ | refine blk_drew ?_ | refine blk_alloc ?_ _)); exact BK208.out) hg (Kd.R_ne HO212.out BK208.out (by decide))); have n1_ := Aside0.mk (blk_grown (g := gb209) (o := .cells #[.slice none 0 0] 26 (0, 0)) (by (with_reducible repeat (first | refine blk_drewN ?_ _ | refine blk_drew ?_ | refine blk_alloc ?_ _)); exact BK209.out) hg (Kd.R_ne HO212.out BK209.out (by decide))); have n2_ := Aside0.mk (hp_); have n3_ := Aside0.mk (Kd.R_after (v := (.slice (some ⟨go32, 0, none⟩) t210.length co39)) (v1 := (.slice (some ⟨go32, 0, none⟩) t210.length co39)) (ok := (fun _ => True)) (by (with_reducible repeat (first | apply Kd.R_alloc | apply Kd.R_drewN | apply Kd.R_drew)); exact HO215.out) hg (.inl rfl)); have n4_ := Aside0.mk ((by rw [hw]; exact below_set (HB.out) GB32.out : Below w.heap.size w w42)); clear BK208; clear BK209; clear HO212; clear HO215; clear HB; have BK208 := n0_; have BK209 := n1_; have HO212 := n2_; have HO215 := n3_; have HB := n4_; clear n0_ n1_ n2_ n3_ n4_; clear hg hw hp_) | ((with_reducible refine gate_dst (N := 41) rfl ?_); refine Kd.R_lit (Kd.int .i64) _ 2 ?hg (N := 41) ?hd (xs := ([a3] : List Int)) (inner := [.int .i64 a3]) (ok := fun _ => True) (okp := fun _ => True) ?hr ?hp (fun _ hk => hk) trivial (Below.refl _ _) (Nat.le_refl _) (by simp) ?_; (case hd => rfl); (case hg => rfl); (case hr => first | (go_simp; done) | (go_simp; rfl)); (case hp => exact (Reps.one (show Kd.M (Kd.int .i64) _ _ _ a3 [.int .i64 a3] from rfl) (Reps.none _ _))); intro v229 w43 ho44 hb hg_ hnew_; clear hg_ hnew_; (first | rw [← Ny228.out] at ho44 | (simp only [Int.reduceToNat] at ho44; rw [← Ny228.out] at ho44)); have n0_ := Aside0.mk (Kd.R_elder' (by (with_reducible repeat (first | apply Kd.R_alloc | apply Kd.R_drewN | apply Kd.R_drew)); exact HO212.out) (Kd.R_base ho44) hb); have n1_ := Aside0.mk (Kd.R_elder' (by (with_reducible repeat (first | apply Kd.R_alloc | apply Kd.R_drewN | apply Kd.R_drew)); exact HO215.out) (Kd.R_base ho44) hb); have n2_ := Aside0.mk (Kd.R_lower (Kd.R_new' (Kd.R_new' ho44 (Kd.R_lt (by (with_reducible repeat (first | apply Kd.R_alloc | apply Kd.R_drewN | apply Kd.R_drew)); exact HO212.out))) (Kd.R_lt (by (with_reducible repeat (first | apply Kd.R_alloc | apply Kd.R_drewN | apply Kd.R_drew)); exact HO215.out))) (below_size (by repeat (first | (with_reducible first | exact HB.out | apply below_alloc | apply pw_below_drewN | apply below_drew1 | refine below_set ?_ GE208.out | refine below_set ?_ GE209.out) | exact HB.out)))); have n3_ := Aside0.mk (blk_below (g := gb208) (o := .cells #[.slice A0_0 l0_0.length c0_0] 26 (0, 0)) (by (with_reducible repeat (first | refine blk_drewN ?_ _ | refine blk_drew ?_ | refine blk_alloc ?_ _)); exact BK208.out) hb); have n4_ := Aside0.mk (blk_below (g := gb209) (o := .cells #[.slice none 0 0] 26 (0, 0)) (by (with_reducible repeat (first | refine blk_drewN ?_ _ | refine blk_drew ?_ | refine blk_alloc ?_ _)); exact BK209.out) hb); have n5_ := Aside0.mk (below_step (by repeat (first | (with_reducible first | exact HB.out | apply below_alloc | apply pw_below_drewN | apply below_drew1 | refine below_set ?_ GE208.out | refine below_set ?_ GE209.out) | exact HB.out)) hb); clear HO212; clear HO215; clear BK208; clear BK209; clear HB; have HO212 := n0_; have HO215 := n1_; have HO230 := n2_; have BK208 := n3_; have BK209 := n4_; have HB := n5_; clear n0_ n1_ n2_ n3_ n4_ n5_; clear hb ho44; obtain ⟨Ao45, co45, eo45⟩ := Kd.R_slice HO230.out; subst eo45) | ((with_reducible refine gate_callee (f := 81) rfl ?_); refine goesL_ (some 42) rfl rfl Try.func81 (by kernel_rfl) rfl #[.slice (some ⟨go32, 0, none⟩) t210.length co39, .int .i64 t216, .slice Ao45 y228.length co45] rfl (by (try simp only [List.map_toArray, List.map_cons, List.map_nil]); first | done | rfl | (simp only [List.length_drop, List.length_take]; rfl)) ?_; (with_reducible refine (slices_Insert.calls (fun k_ => some k_ = (.slice (some ⟨go32, 0, none⟩) t210.length co39 : Value).ownBlock) (.slice (some ⟨go32, 0, none⟩) t210.length co39) y227 t216 _ _ y228 t231 w _ ?side1 ?side2 ?side3 ?side4 A33.out).mono ?_); (case side1 => repeat (first | (with_reducible first | exact HB.out | apply below_alloc | apply pw_below_drewN | apply below_drew1 | refine below_set ?_ GE208.out | refine below_set ?_ GE209.out) | exact HB.out)); (case side2 => exact Kd.R_tight rfl HO212.out); (case side3 => exact Kd.C_kept_own (HO230.out) (fun k_ hk_ hs_ => (hk_.1.2) hs_)); (case side4 => exact (Kd.R_reads' HO230.out).2.1); rintro e w46 ⟨v232, rfl, ho0, hb, hkp⟩; refine ⟨_, rfl, ?_⟩; have n0_ := Aside0.mk (blk_kept (by (with_reducible repeat (first | refine blk_drewN ?_ _ | refine blk_drew ?_ | refine blk_alloc ?_ _)); exact BK208.out) hkp (fun hs_ => (fun e_ => (Kd.R_ne HO212.out BK208.out (by decide)) e_) hs_)); have n1_ := Aside0.mk (blk_kept (by (with_reducible repeat (first | refine blk_drewN ?_ _ | refine blk_drew ?_ | refine blk_alloc ?_ _)); exact BK209.out) hkp (fun hs_ => (fun e_ => (Kd.R_ne HO212.out BK209.out (by decide)) e_) hs_)); have n2_ := Aside0.mk (Kd.R_mono (ok' := fun k_ => some k_ ≠ (.slice Ao45 y228.length co45 : Value).ownBlock ∧ some k_ ≠ (v232 : Value).ownBlock) (Kd.R_keptB (HO215.out) hkp (fun k_ hk_ hs_ => (hk_.1.2) hs_)) (fun k_ hk_ => ⟨hk_.1.2, fun e_ => Or.elim (ho0.1 k_ e_.symm) (fun hs_ => hk_.2.1 hs_) (fun hn_ => Nat.not_le.2 hk_.2.2 hn_)⟩)); have n3_ := Aside0.mk (Kd.R_mono (ok' := fun k_ => some k_ ≠ (.slice Ao40 t213.length co40 : Value).ownBlock ∧ some k_ ≠ (v232 : Value).ownBlock) (Kd.R_keptB (HO230.out) hkp (fun k_ hk_ hs_ => (hk_.1.2) hs_)) (fun k_ hk_ => ⟨hk_.1.2, fun e_ => Or.elim (ho0.1 k_ e_.symm) (fun hs_ => hk_.2.1 hs_) (fun hn_ => Nat.not_le.2 hk_.2.2 hn_)⟩)); have n4_ := Aside0.mk (Kd.R_mono (ok' := fun k_ => some k_ ≠ (.slice Ao40 t213.length co40 : Value).ownBlock ∧ some k_ ≠ (.slice Ao45 y228.length co45 : Value).ownBlock) ho0 (fun k_ hk_ => ⟨Or.elim hk_ (fun hs_ => fun e_ => (((HO215.out).1 k_ e_.symm).1.2) hs_) (fun hn_ => (Kd.fresh' (Kd.R_lt (by (with_reducible repeat (first | apply Kd.R_alloc | apply Kd.R_drewN | apply Kd.R_drew)); exact HO215.out)) k_ hn_)), Or.elim hk_ (fun hs_ => fun e_ => (((HO230.out).1 k_ e_.symm).1.2) hs_) (fun hn_ => (Kd.fresh' (Kd.R_lt (by (with_reducible repeat (first | apply Kd.R_alloc | apply Kd.R_drewN | apply Kd.R_drew)); exact HO230.out)) k_ hn_))⟩)); have n5_ := Aside0.mk (hb); clear BK208; clear BK209; clear HO215; clear HO230; clear HB; clear HO212; have BK208 := n0_; have BK209 := n1_; have HO215 := n2_; have HO230 := n3_; have HO233 := n4_; have HB := n5_; clear n0_ n1_ n2_ n3_ n4_ n5_; (try clear hb); (try clear hkp); (try clear ho0); obtain ⟨Ao47, co47, eo47⟩ := Kd.R_slice HO233.out; subst eo47; have hnb48 := NB209_208.out; have hnc48 := NB208_209.out; have hcz49_0 : w46.cell? ⟨gb209, 0, none⟩ = some (.slice none 0 0) := (blk_cell BK209.out 0).trans rfl; have hfz49_0 := blk_frozen BK209.out 0))
    refine bodyPost_ret (results_cell_row rfl _ _ gb209 26 #[.slice Ao47 t231.length co47] (0, 0) _ rfl (by (with_reducible repeat (first | refine blk_drewN ?_ _ | refine blk_drew ?_ | refine blk_alloc ?_ _)); refine blk_put (cs := #[.slice none 0 0]) ?_ 0 _ rfl; (with_reducible repeat (first | refine blk_drewN ?_ _ | refine blk_drew ?_ | refine blk_alloc ?_ _)); exact BK209.out) Try.underlying26 rfl (by kernel_rfl)) rfl ?_
    exact ⟨_, by first | rfl | (simp [errW_none, errW_some] <;> rfl) | (simp [*, errW_none, errW_some] <;> rfl), by (with_reducible repeat (first | apply Kd.R_alloc | apply Kd.R_drewN | apply Kd.R_drew)); exact Kd.R_mono (Kd.R_far (p := ⟨gb209, 0, none⟩) (Kd.R_types HO233.out BK209.out (by decide)) (fun _ hk => hk.2) (.slice Ao47 t231.length co47)) (fun _ hk => trivial), by repeat (first | (with_reducible first | exact HB.out | apply below_alloc | apply pw_below_drewN | apply below_drew1 | refine below_set ?_ GE208.out | refine below_set ?_ GE209.out) | exact HB.out)⟩
   ·rw [if_neg c31] at H
    exact absurd H (by simp)
  ·rw [if_neg c30] at H
   exact absurd H (by simp)

end Go.Proofs.Yteangdgmokkjbab.QFnExactPutIn
