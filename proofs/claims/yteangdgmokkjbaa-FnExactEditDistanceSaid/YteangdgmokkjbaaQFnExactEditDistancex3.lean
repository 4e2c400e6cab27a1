/- Functions as Lean functions, with their contracts: written by a program of this claim over the translation; some contracts are proved by hand. -/
import Derived.Test.YteangdgmokkjbaaQFnExactEditDistancex0
import Derived.Test.YteangdgmokkjbaaQFnExactEditDistancex1
import Derived.Test.YteangdgmokkjbaaQFnExactEditDistancex2
namespace Go.Proofs.Yteangdgmokkjbaa.QFnExactEditDistance
open Go.RowKit Go.Proofs.Yteangdgmokkjbaa.Gl Go.Proofs.YteangdgmokkjbaaW.PrintWords Go.Proofs.YteangdgmokkjbaaW.PrintLast Go.Proofs.YteangdgmokkjbaaW.PrintMore
attribute [local go_sem] max2_int min2_int max_two min_two max_three min_three max_four min_four   -- for this text's walks alone
set_option linter.unusedVariables false
set_option linter.unusedSimpArgs false

/-! ### spec_l07Common: function 44 -/
/-- The reference's most pairs in common: told for two trees whose first places are told. -/
def spec_l07Common.f (k : Nat) (l0 : List Int) (l1 : List Int) : Option Int := if Tr.isT l0 = true ∧ Tr.isT l1 = true ∧ spec_l07Firsts.f k l0 = some ((Tr.F.dec l0).firsts 0) ∧ spec_l07Firsts.f k l1 = some ((Tr.F.dec l1).firsts 0) then some ((Tr.F.pc (Tr.F.dec l0).mir (Tr.F.dec l1).mir : Nat) : Int) else none
theorem spec_l07Common.mono : ∀ a0 a1 k, LeO (spec_l07Common.f k a0 a1) (spec_l07Common.f (k + 1) a0 a1) := by
 intro a0 a1 k r h
 unfold spec_l07Common.f at h ⊢
 by_cases hc : Tr.isT a0 = true ∧ Tr.isT a1 = true ∧ spec_l07Firsts.f k a0 = some ((Tr.F.dec a0).firsts 0) ∧ spec_l07Firsts.f k a1 = some ((Tr.F.dec a1).firsts 0)
 ·rw [if_pos hc] at h
  rw [if_pos ⟨hc.1, hc.2.1, spec_l07Firsts.mono _ _ _ hc.2.2.1, spec_l07Firsts.mono _ _ _ hc.2.2.2⟩]
  exact h
 ·rw [if_neg hc] at h; cases h
open Go.Proofs.Yteangdgmokkjbaa.Mo Go.Proofs.Yteangdgmokkjbaa.Mp Go.Proofs.Yteangdgmokkjbaa.Mn
theorem MP_start (fs ss : List Int) (N : Nat) (hN : N = (fs.length + 1) * (fs.length + 1) * (ss.length + 1) * (ss.length + 1)) : MP fs ss (List.replicate N (-1)) := by
 refine ⟨by rw [List.length_replicate]; exact hN, ?_⟩
 intro a b c d X Y hb hd h1 h2 hab hcd
 left
 have hlt := mix_lt (n := fs.length + 1) (m := ss.length + 1) (a := a) (b := b) (c := c) (d := d) (by omega) (by omega) (by omega) (by omega)
 rw [← hN] at hlt
 unfold rd
 rw [Int.toNat_natCast, List.getD_eq_getElem?_getD, List.getElem?_replicate, if_pos hlt]
 rfl
theorem size_wraps {q0 q1 : Nat} (h0 : q0 ≤ 24) (h1 : q1 ≤ 24) : ∃ n0 m0 p1 p2 N : Nat, N = (q0 + 1) * (q0 + 1) * (q1 + 1) * (q1 + 1) ∧ (1 ≤ N ∧ N ≤ 1000000) ∧ wrap64 ((q0 : Int) + 1) = (n0 : Int) ∧ wrap64 ((q1 : Int) + 1) = (m0 : Int) ∧ wrap64 ((n0 : Int) * (n0 : Int)) = (p1 : Int) ∧ wrap64 ((p1 : Int) * (m0 : Int)) = (p2 : Int) ∧ wrap64 ((p2 : Int) * (m0 : Int)) = (N : Int) := by
 have b1 : (q0 + 1) * (q0 + 1) ≤ 25 * 25 := Nat.mul_le_mul (by omega) (by omega)
 have b2 : (q0 + 1) * (q0 + 1) * (q1 + 1) ≤ 625 * 25 := Nat.mul_le_mul b1 (by omega)
 have b3 : (q0 + 1) * (q0 + 1) * (q1 + 1) * (q1 + 1) ≤ 15625 * 25 := Nat.mul_le_mul b2 (by omega)
 have c1 : 1 ≤ (q0 + 1) * (q0 + 1) * (q1 + 1) * (q1 + 1) := Nat.mul_pos (Nat.mul_pos (Nat.mul_pos (Nat.succ_pos _) (Nat.succ_pos _)) (Nat.succ_pos _)) (Nat.succ_pos _)
 have e1 : ((q0 + 1 : Nat) : Int) * ((q0 + 1 : Nat) : Int) = (((q0 + 1) * (q0 + 1) : Nat) : Int) := (Int.natCast_mul _ _).symm
 have e2 : (((q0 + 1) * (q0 + 1) : Nat) : Int) * ((q1 + 1 : Nat) : Int) = (((q0 + 1) * (q0 + 1) * (q1 + 1) : Nat) : Int) := (Int.natCast_mul _ _).symm
 have e3 : (((q0 + 1) * (q0 + 1) * (q1 + 1) : Nat) : Int) * ((q1 + 1 : Nat) : Int) = (((q0 + 1) * (q0 + 1) * (q1 + 1) * (q1 + 1) : Nat) : Int) := (Int.natCast_mul _ _).symm
 refine ⟨q0 + 1, q1 + 1, (q0 + 1) * (q0 + 1), (q0 + 1) * (q0 + 1) * (q1 + 1), _, rfl, ⟨c1, by omega⟩, len_wrap h0, len_wrap h1, ?_, ?_, ?_⟩
 ·rw [e1]; exact Tr.wrap_id (by omega) (by omega)
 ·rw [e2]; exact Tr.wrap_id (by omega) (by omega)
 ·rw [e3]; exact Tr.wrap_id (by omega) (by omega)
set_option maxHeartbeats 8000000 in
set_option maxRecDepth 100000 in
theorem spec_l07Common.calls (k : Nat) (A0_0 : Option Addr) (c0_0 : Nat) (l0_0 : List Int) (A1_0 : Option Addr) (c1_0 : Nat) (l1_0 : List Int) (r : Int) (w : World) (hr0_0 : Kd.C (Kd.int .i64) w A0_0 l0_0.length l0_0) (hc0_0 : l0_0.length ≤ c0_0) (hr1_0 : Kd.C (Kd.int .i64) w A1_0 l1_0.length l1_0) (hc1_0 : l1_0.length ≤ c1_0) (h : spec_l07Common.f k l0_0 l1_0 = some r) :
  Calls Try.prog 44 #[.agg #[.slice A0_0 l0_0.length c0_0], .agg #[.slice A1_0 l1_0.length c1_0]] w fun e w' => e = .returned (.int .i64 r) ∧ Below w.heap.size w w' := by
 unfold spec_l07Common.f at h
 by_cases hc : Tr.isT l0_0 = true ∧ Tr.isT l1_0 = true ∧ spec_l07Firsts.f k l0_0 = some ((Tr.F.dec l0_0).firsts 0) ∧ spec_l07Firsts.f k l1_0 = some ((Tr.F.dec l1_0).firsts 0)
 ·rw [if_pos hc] at h
  obtain rfl := Option.some.inj h
  obtain ⟨ht0, ht1, hf0, hf1⟩ := hc
  obtain ⟨t, hT⟩ := Tr.Tree.of ht0
  obtain ⟨u, hU⟩ := Tr.Tree.of ht1
  have hlf : ((Tr.F.dec l0_0).firsts 0).length = l0_0.length := by rw [hT.dec, Tr.F.firsts_len, hT.len]
  have hls : ((Tr.F.dec l1_0).firsts 0).length = l1_0.length := by rw [hU.dec, Tr.F.firsts_len, hU.len]
  obtain ⟨n0, m0, p1, p2, N, hN, hNN, w1_, w2_, w3_, w4_, w5_⟩ := size_wraps hT.le hU.le
  have HNEW := Aside0.mk (fun w => new07 A0_0 l0_0.length c0_0 A1_0 l1_0.length c1_0 n0 m0 p1 p2 N w hNN.1 hNN.2 w1_ w2_ w3_ w4_ w5_)
  have HMOST := Aside0.mk (fun (A0 A1 Af As : Option Addr) (c0 c1 cf cs g cN : Nat) (W : World) (base : Nat) (hcf : ((Tr.F.dec l0_0).firsts 0).length ≤ cf) (hcs : ((Tr.F.dec l1_0).firsts 0).length ≤ cs) (h1 : Kd.R (Kd.int .i8) 78 W base (fun k_ => k_ = g) (.slice (some ⟨g, 0, none⟩) N cN) (List.replicate N (-1))) (h2 : ∀ W', Kept W W' (fun k_ => k_ = g) → Kd.C (Kd.int .i64) W' Af ((Tr.F.dec l0_0).firsts 0).length ((Tr.F.dec l0_0).firsts 0)) (h3 : ∀ W', Kept W W' (fun k_ => k_ = g) → Kd.C (Kd.int .i64) W' As ((Tr.F.dec l1_0).firsts 0).length ((Tr.F.dec l1_0).firsts 0)) =>
   mostAt A0 A1 Af As l0_0.length c0 l1_0.length c1 cf cs base g N cN ((Tr.F.dec l0_0).firsts 0) ((Tr.F.dec l1_0).firsts 0) (by rw [hlf]; exact hT.le) (by rw [hls]; exact hU.le) hcf hcs _ (Tr.F.dec l0_0).mir (Tr.F.dec l1_0).mir 0 l0_0.length 0 l1_0.length (List.replicate N (-1)) W (Nat.le_refl _) (by rw [Nat.zero_add, Tr.F.mir_size, hT.dec, hT.len]) (by rw [Nat.zero_add, Tr.F.mir_size, hU.dec, hU.len]) (by rw [hlf]; exact Nat.le_refl _) (by rw [hls]; exact Nat.le_refl _)
    (by have := Tr.F.IV_whole t; rw [hT.dec, hT.len]; exact this) (by have := Tr.F.IV_whole u; rw [hU.dec, hU.len]; exact this) ⟨h1, MP_start _ _ _ (by rw [hlf, hls]; exact hN), List.length_replicate, h2, h3⟩)
  have HF0 := Aside0.mk hf0
  have HF1 := Aside0.mk hf1
  have HR0 := Aside0.mk hr0_0
  have HR1 := Aside0.mk hr1_0
  have HC0 := Aside0.mk hc0_0
  have HC1 := Aside0.mk hc1_0
  clear h hf0 hf1 hr0_0 hr1_0 hc0_0 hc1_0 hT hU ht0 ht1 hlf hls hN hNN w1_ w2_ w3_ w4_ w5_
  unfold MArgs at HMOST
  go_enter Try.func44, Try.ntmps44
  go_wp2_with (first | ((with_reducible refine gate_dst (N := 2) rfl ?_); refine box_event ?hg (N := 2) ?hd (cs := #[.slice A0_0 l0_0.length c0_0]) (t := 24) ?hr ?_; (case hd => rfl); (case hg => rfl); (case hr => first | (go_simp; done) | (go_simp; rfl)); intro gt hgt w1 hbox hb; have HB := Aside0.mk hb; have BT := Aside0.mk hbox; have m0_ := Aside0.mk (Kd.C_below HR0.out hb); have m1_ := Aside0.mk (Kd.C_below HR1.out hb); clear HR0 HR1; have HR0 := m0_; have HR1 := m1_; clear m0_ m1_ hgt; clear hbox hb) | ((with_reducible refine gate_dst (N := 3) rfl ?_); refine box_event ?hg (N := 3) ?hd (cs := #[.slice A1_0 l1_0.length c1_0]) (t := 24) ?hr ?_; (case hd => rfl); (case hg => rfl); (case hr => first | (go_simp; done) | (go_simp; rfl)); intro gu hgu w2 hbox hb; have n_ := Aside0.mk (below_step HB.out hb); have m_ := Aside0.mk (blk_below BT.out hb); have m0_ := Aside0.mk (Kd.C_below HR0.out hb); have m1_ := Aside0.mk (Kd.C_below HR1.out hb); clear HB BT HR0 HR1; have HB := n_; have BT := m_; have HR0 := m0_; have HR1 := m1_; clear n_ m_ m0_ m1_; have BU := Aside0.mk hbox; clear hgu; clear hbox hb))
  have n0_ := Aside0.mk (blk_drew BT.out)
  have n1_ := Aside0.mk (blk_drew BU.out)
  have n3_ := Aside0.mk (below_drew1 HB.out)
  have n4_ := Aside0.mk (Kd.C_drew HR0.out)
  have n5_ := Aside0.mk (Kd.C_drew HR1.out)
  clear BT BU HB HR0 HR1
  have BT := n0_
  have BU := n1_
  have HB := n3_
  have HR0 := n4_
  have HR1 := n5_
  clear n0_ n1_ n3_ n4_ n5_
  refine start_ (n := 13) (S := fun w' => w'.cell? ⟨gt, 0, none⟩ = some (.slice A0_0 l0_0.length c0_0) ∧ w'.cell? ⟨gu, 0, none⟩ = some (.slice A1_0 l1_0.length c1_0)) (ds := []) #[false, false, false, false, false, false, false, false, false, false, false, false, false] (by kernel_rfl) rfl rfl (⟨(blk_cell BT.out 0).trans rfl, (blk_cell BU.out 0).trans rfl⟩) (fun hHeld => ?_)
  generalize w2.drew = w3 at BT BU HB HR0 HR1 hHeld ⊢
  refine take_ (i := 0) (N := some 5) (v := ?_) (a' := ?_) (tf 1 12) rfl rfl (by kernel_rfl) (fun _ _ _ h => h) (Or.inl ⟨by rfl, ?_⟩) hHeld ?_ ?_
  rotate_left
  ·rintro w' ⟨s0, s1⟩
   go_simp
   with_reducible rfl
  rotate_left
  ·simp only [Act.put, sIB, sc0, scs, i64_w, i32_w]
   rfl
  refine take_ (i := 1) (N := some 6) (v := ?_) (a' := ?_) (tf 2 11) rfl rfl (by kernel_rfl) (fun _ _ _ h => h) (Or.inl ⟨by rfl, ?_⟩) hHeld ?_ ?_
  rotate_left
  ·rintro w' ⟨s0, s1⟩
   go_simp
   with_reducible rfl
  rotate_left
  ·simp only [Act.put, sIB, sc0, scs, i64_w, i32_w]
   rfl
  refine take_ (i := 3) (N := some 8) (v := ?_) (a' := ?_) #[true, true, false, true, false, false, false, false, false, false, false, false, false] rfl rfl (by kernel_rfl) (fun _ _ _ h => h) (Or.inl ⟨by rfl, ?_⟩) hHeld ?_ ?_
  rotate_left
  ·rintro w' ⟨s0, s1⟩
   go_simp
   with_reducible rfl
  rotate_left
  ·simp only [Act.put, sIB, sc0, scs, i64_w, i32_w]
   rfl
  refine take_ (i := 5) (N := some 10) (v := ?_) (a' := ?_) #[true, true, false, true, false, true, false, false, false, false, false, false, false] rfl rfl (by kernel_rfl) (fun _ _ _ h => h) (Or.inl ⟨by rfl, ?_⟩) hHeld ?_ ?_
  rotate_left
  ·rintro w' ⟨s0, s1⟩
   go_simp
   with_reducible rfl
  rotate_left
  ·simp only [Act.put, sIB, sc0, scs, i64_w, i32_w]
   rfl
  refine take_ (i := 7) (N := some 12) (v := ?_) (a' := ?_) #[true, true, false, true, false, true, false, true, false, false, false, false, false] rfl rfl (by kernel_rfl) (fun _ _ _ h => h) (Or.inl ⟨by rfl, ?_⟩) hHeld ?_ ?_
  rotate_left
  ·rintro w' ⟨s0, s1⟩
   go_simp
   with_reducible rfl
  rotate_left
  ·simp only [Act.put, sIB, sc0, scs, i64_w, i32_w]
   rfl
  refine take_ (i := 9) (N := some 14) (v := ?_) (a' := ?_) #[true, true, false, true, false, true, false, true, false, true, false, false, false] rfl rfl (by kernel_rfl) (fun _ _ _ h => h) (Or.inl ⟨by rfl, ?_⟩) hHeld ?_ ?_
  rotate_left
  ·rintro w' ⟨s0, s1⟩
   go_simp
   with_reducible rfl
  rotate_left
  ·simp only [Act.put, sIB, sc0, scs, i64_w, i32_w]
   rfl
  refine one_ (i := 2) (N := some 7) #[true, true, true, true, false, true, false, true, false, true, false, false, false] rfl rfl (by kernel_rfl) (by decide) (fun K hK => ?_)
  refine goes_ Try.func50 (by kernel_rfl) rfl #[.agg #[.slice A0_0 l0_0.length c0_0], .agg #[.slice A1_0 l1_0.length c1_0]] (by rfl) rfl rfl (by (try simp only [List.map_toArray, List.map_cons, List.map_nil]); first | done | rfl) ?_
  refine (HNEW.out _).mono ?_
  rintro e w4 ⟨g, cN, rfl, ho, hb⟩
  refine ⟨_, rfl, ?_⟩
  have n0_ := Aside0.mk (blk_below BT.out hb)
  have n1_ := Aside0.mk (blk_below BU.out hb)
  have n3_ := Aside0.mk (below_step HB.out hb)
  have n4_ := Aside0.mk (Kd.C_below HR0.out hb)
  have n5_ := Aside0.mk (Kd.C_below HR1.out hb)
  have HO := Aside0.mk (Kd.R_lower ho HB.out.size)
  clear ho
  clear BT BU HB HR0 HR1 hb
  have BT := n0_
  have BU := n1_
  have HB := n3_
  have HR0 := n4_
  have HR1 := n5_
  clear n0_ n1_ n3_ n4_ n5_
  refine hK.out _ _ ⟨(blk_cell BT.out 0).trans rfl, (blk_cell BU.out 0).trans rfl⟩ (fun hHeld => ?_)
  clear hK K
  refine norm_ (a' := ?_) ?_ ?_
  rotate_left
  ·show Act.put _ (some 7) _ = _
   simp only [Act.put, sIB, sc0, scs, i64_w, i32_w]
   rfl
  refine one_ (i := 4) (N := some 9) #[true, true, true, true, true, true, false, true, false, true, false, false, false] rfl rfl (by kernel_rfl) (by decide) (fun K hK => ?_)
  refine goes_ Try.func51 (by kernel_rfl) rfl #[.agg #[.slice A0_0 l0_0.length c0_0]] (by rfl) rfl rfl (by (try simp only [List.map_toArray, List.map_cons, List.map_nil]); first | done | rfl) ?_
  refine (spec_l07Firsts.calls k _ _ l0_0 _ _ HR0.out HC0.out HF0.out).mono ?_
  rintro e w5 ⟨v0_, rfl, ho, hb⟩
  refine ⟨_, rfl, ?_⟩
  obtain ⟨Af, cf, e_⟩ := Kd.R_slice ho
  subst e_
  have HCf := Aside0.mk (Kd.R_reads' ho).2.1
  have hgl_ := Kd.R_lt HO.out g rfl
  have Hf := Aside0.mk (Kd.R_mono (ok' := fun k_ => k_ ≠ g) (Kd.R_bound ho) (fun k_ hk_ => by have h1_ := hk_.2.1; omega))
  clear ho hgl_
  have n0_ := Aside0.mk (blk_below BT.out hb)
  have n1_ := Aside0.mk (blk_below BU.out hb)
  have n3_ := Aside0.mk (below_step HB.out hb)
  have n4_ := Aside0.mk (Kd.C_below HR0.out hb)
  have n5_ := Aside0.mk (Kd.C_below HR1.out hb)
  have q_ := Aside0.mk (Kd.R_below HO.out hb)
  clear HO
  have HO := q_
  clear q_
  
  clear BT BU HB HR0 HR1 hb
  have BT := n0_
  have BU := n1_
  have HB := n3_
  have HR0 := n4_
  have HR1 := n5_
  clear n0_ n1_ n3_ n4_ n5_
  refine hK.out _ _ ⟨(blk_cell BT.out 0).trans rfl, (blk_cell BU.out 0).trans rfl⟩ (fun hHeld => ?_)
  clear hK K
  refine norm_ (a' := ?_) ?_ ?_
  rotate_left
  ·show Act.put _ (some 9) _ = _
   simp only [Act.put, sIB, sc0, scs, i64_w, i32_w]
   rfl
  refine one_ (i := 6) (N := some 11) #[true, true, true, true, true, true, true, true, false, true, false, false, false] rfl rfl (by kernel_rfl) (by decide) (fun K hK => ?_)
  refine goes_ Try.func51 (by kernel_rfl) rfl #[.agg #[.slice A1_0 l1_0.length c1_0]] (by rfl) rfl rfl (by (try simp only [List.map_toArray, List.map_cons, List.map_nil]); first | done | rfl) ?_
  refine (spec_l07Firsts.calls k _ _ l1_0 _ _ HR1.out HC1.out HF1.out).mono ?_
  rintro e w6 ⟨v0_, rfl, ho, hb⟩
  refine ⟨_, rfl, ?_⟩
  obtain ⟨As, cs, e_⟩ := Kd.R_slice ho
  subst e_
  have HCs := Aside0.mk (Kd.R_reads' ho).2.1
  have hgl_ := Kd.R_lt HO.out g rfl
  have Hs := Aside0.mk (Kd.R_mono (ok' := fun k_ => k_ ≠ g) (Kd.R_bound ho) (fun k_ hk_ => by have h1_ := hk_.2.1; omega))
  clear ho hgl_
  have n0_ := Aside0.mk (blk_below BT.out hb)
  have n1_ := Aside0.mk (blk_below BU.out hb)
  have n3_ := Aside0.mk (below_step HB.out hb)
  have n4_ := Aside0.mk (Kd.C_below HR0.out hb)
  have n5_ := Aside0.mk (Kd.C_below HR1.out hb)
  have q_ := Aside0.mk (Kd.R_below HO.out hb)
  clear HO
  have HO := q_
  clear q_
  have q_ := Aside0.mk (Kd.R_below Hf.out hb)
  clear Hf
  have Hf := q_
  clear q_
  
  clear BT BU HB HR0 HR1 hb
  have BT := n0_
  have BU := n1_
  have HB := n3_
  have HR0 := n4_
  have HR1 := n5_
  clear n0_ n1_ n3_ n4_ n5_
  refine hK.out _ _ ⟨(blk_cell BT.out 0).trans rfl, (blk_cell BU.out 0).trans rfl⟩ (fun hHeld => ?_)
  clear hK K
  refine norm_ (a' := ?_) ?_ ?_
  rotate_left
  ·show Act.put _ (some 11) _ = _
   simp only [Act.put, sIB, sc0, scs, i64_w, i32_w]
   rfl
  refine one_ (i := 8) (N := some 13) (tf 10 3) rfl rfl (by kernel_rfl) (by decide) (fun K hK => ?_)
  refine goes_ Try.func45 (by kernel_rfl) rfl #[.agg #[.slice A0_0 l0_0.length c0_0]] (by rfl) rfl rfl (by (try simp only [List.map_toArray, List.map_cons, List.map_nil]); first | done | rfl) ?_
  refine (n01 A0_0 l0_0.length c0_0 _).mono ?_
  rintro e w7 ⟨rfl, hb⟩
  refine ⟨_, rfl, ?_⟩
  have n0_ := Aside0.mk (blk_below BT.out hb)
  have n1_ := Aside0.mk (blk_below BU.out hb)
  have n3_ := Aside0.mk (below_step HB.out hb)
  have n4_ := Aside0.mk (Kd.C_below HR0.out hb)
  have n5_ := Aside0.mk (Kd.C_below HR1.out hb)
  have q_ := Aside0.mk (Kd.R_below HO.out hb)
  clear HO
  have HO := q_
  clear q_
  have q_ := Aside0.mk (Kd.R_below Hf.out hb)
  clear Hf
  have Hf := q_
  clear q_
  have q_ := Aside0.mk (Kd.R_below Hs.out hb)
  clear Hs
  have Hs := q_
  clear q_
  
  clear BT BU HB HR0 HR1 hb
  have BT := n0_
  have BU := n1_
  have HB := n3_
  have HR0 := n4_
  have HR1 := n5_
  clear n0_ n1_ n3_ n4_ n5_
  refine hK.out _ _ ⟨(blk_cell BT.out 0).trans rfl, (blk_cell BU.out 0).trans rfl⟩ (fun hHeld => ?_)
  clear hK K
  refine norm_ (a' := ?_) ?_ ?_
  rotate_left
  ·show Act.put _ (some 13) _ = _
   simp only [Act.put, sIB, sc0, scs, i64_w, i32_w]
   rfl
  refine one_ (i := 10) (N := some 15) (tf 11 2) rfl rfl (by kernel_rfl) (by decide) (fun K hK => ?_)
  refine goes_ Try.func45 (by kernel_rfl) rfl #[.agg #[.slice A1_0 l1_0.length c1_0]] (by rfl) rfl rfl (by (try simp only [List.map_toArray, List.map_cons, List.map_nil]); first | done | rfl) ?_
  refine (n01 A1_0 l1_0.length c1_0 _).mono ?_
  rintro e w8 ⟨rfl, hb⟩
  refine ⟨_, rfl, ?_⟩
  have n0_ := Aside0.mk (blk_below BT.out hb)
  have n1_ := Aside0.mk (blk_below BU.out hb)
  have n3_ := Aside0.mk (below_step HB.out hb)
  have n4_ := Aside0.mk (Kd.C_below HR0.out hb)
  have n5_ := Aside0.mk (Kd.C_below HR1.out hb)
  have q_ := Aside0.mk (Kd.R_below HO.out hb)
  clear HO
  have HO := q_
  clear q_
  have q_ := Aside0.mk (Kd.R_below Hf.out hb)
  clear Hf
  have Hf := q_
  clear q_
  have q_ := Aside0.mk (Kd.R_below Hs.out hb)
  clear Hs
  have Hs := q_
  clear q_
  
  clear BT BU HB HR0 HR1 hb
  have BT := n0_
  have BU := n1_
  have HB := n3_
  have HR0 := n4_
  have HR1 := n5_
  clear n0_ n1_ n3_ n4_ n5_
  refine hK.out _ _ ⟨(blk_cell BT.out 0).trans rfl, (blk_cell BU.out 0).trans rfl⟩ (fun hHeld => ?_)
  clear hK K
  refine norm_ (a' := ?_) ?_ ?_
  rotate_left
  ·show Act.put _ (some 15) _ = _
   simp only [Act.put, sIB, sc0, scs, i64_w, i32_w]
   rfl
  refine one_ (i := 11) (N := some 16) (tf 12 1) rfl rfl (by kernel_rfl) (by decide) (fun K hK => ?_)
  refine goes_ Try.func59 (by kernel_rfl) rfl #[.agg #[.slice A0_0 l0_0.length c0_0, .slice A1_0 l1_0.length c1_0, .slice (some ⟨g, 0, none⟩) N cN], .slice Af ((Tr.F.dec l0_0).firsts 0).length cf, .slice As ((Tr.F.dec l1_0).firsts 0).length cs, .int .i64 0, .int .i64 (l0_0.length : Int), .int .i64 0, .int .i64 (l1_0.length : Int)] (by rfl) rfl rfl (by (try simp only [List.map_toArray, List.map_cons, List.map_nil]); first | done | rfl) ?_
  refine (HMOST.out A0_0 A1_0 Af As c0_0 c1_0 cf cs g cN _ w.heap.size HCf.out HCs.out HO.out (Kd.C_kept_own Hf.out (fun k_ hk_ => hk_)) (Kd.C_kept_own Hs.out (fun k_ hk_ => hk_))).mono ?_
  rintro e w9 ⟨K', rfl, hI, hb, hk⟩
  refine ⟨_, rfl, ?_⟩
  have HB9 := Aside0.mk (HB.out.trans hb)
  have hgt : ¬ (gt = g) := fun e => Kd.R_ne HO.out BT.out (by decide) (by rw [e]; rfl)
  have hgu : ¬ (gu = g) := fun e => Kd.R_ne HO.out BU.out (by decide) (by rw [e]; rfl)
  have n0_ := Aside0.mk (blk_kept BT.out hk hgt)
  have n1_ := Aside0.mk (blk_kept BU.out hk hgu)
  clear hI hb hk hgt hgu BT BU
  refine hK.out _ _ ⟨(blk_cell n0_.out 0).trans rfl, (blk_cell n1_.out 0).trans rfl⟩ (fun hHeld => ?_)
  clear hK K
  refine norm_ (a' := ?_) ?_ ?_
  rotate_left
  ·show Act.put _ (some 16) _ = _
   simp only [Act.put, sIB, sc0, scs, i64_w, i32_w]
   rfl
  refine pure_ (i := 12) (N := some 4) (v := ?_) (a' := ?_) (tf 13 0) rfl rfl (by kernel_rfl) (fun _ _ _ h => h) (Or.inl ⟨by rfl, ?_⟩) ?_ ?_
  rotate_left
  ·intro w'
   go_simp
   with_reducible rfl
  rotate_left
  ·simp only [Act.put, sIB, sc0, scs, i64_w, i32_w]
   rfl
  refine done_ (by kernel_rfl) ?_

  go_wp2
  go_ret
  exact ⟨rfl, HB9.out⟩
 ·rw [if_neg hc] at h; cases h

/-! ### spec_EditDistance: function 26 -/
def spec_EditDistance.j0 : Nat → Bool → List Int → List Int → Option (Int × Int)
 | 0, _, _, _ => none
 | k + 1, x13, x168000, x169000 => if x13 = true then (some (0, 1)) else ((spec_l01N.f x168000).bind fun t171 => ((spec_l01N.f x169000).bind fun t172 => ((spec_l07Common.f k x168000 x169000).bind fun t173 => (some (wrap64 ((wrap64 (t171 + t172)) - (wrap64 (2 * t173))), 0)))))
def spec_EditDistance.f (k : Nat) (l0_0 : List Int) (l1_0 : List Int) : Option (Int × Int) := (spec_l01Is.f k l0_0).bind fun t169 => (if t169 = true then ((spec_l01Is.f k l1_0).bind fun t170 => (spec_EditDistance.j0 k (!t170) l0_0 l1_0)) else (spec_EditDistance.j0 k true l0_0 l1_0))
theorem spec_EditDistance.mono_l : ∀ k, (∀ y0 y1 y2, LeO (spec_EditDistance.j0 k y0 y1 y2) (spec_EditDistance.j0 (k + 1) y0 y1 y2))
 | 0 => fun _ _ _ r h => by simp [spec_EditDistance.j0] at h
 | k + 1 => by
  have ih0 := spec_EditDistance.mono_l k
  ·intro y0 y1 y2
   unfold spec_EditDistance.j0
   repeat' first
   | (with_reducible exact ih0 _ _ _)
   | (with_reducible exact spec_l01Is.mono _ _)
   | (with_reducible exact spec_l07Common.mono _ _ _)
   | (with_reducible exact LeO.refl _)
   | (with_reducible exact LeO.none _)
   | (with_reducible refine LeO.ite ?_ ?_)
   | (with_reducible refine LeO.bind ?_ (fun _ => ?_))
   | exact ih0 _ _ _
   | exact spec_l01Is.mono _ _
   | exact spec_l07Common.mono _ _ _
   | exact LeO.none _
   | refine LeO.ite ?_ ?_
   | refine LeO.bind ?_ (fun _ => ?_)
theorem spec_EditDistance.mono : ∀ a0 a1 k, LeO (spec_EditDistance.f k a0 a1) (spec_EditDistance.f (k + 1) a0 a1) := by
 intro a0 a1 k
 have ih0 := spec_EditDistance.mono_l k
 unfold spec_EditDistance.f
 repeat' first
   | (with_reducible exact ih0 _ _ _)
   | (with_reducible exact spec_l01Is.mono _ _)
   | (with_reducible exact spec_l07Common.mono _ _ _)
   | (with_reducible exact LeO.refl _)
   | (with_reducible exact LeO.none _)
   | (with_reducible refine LeO.ite ?_ ?_)
   | (with_reducible refine LeO.bind ?_ (fun _ => ?_))
   | exact ih0 _ _ _
   | exact spec_l01Is.mono _ _
   | exact spec_l07Common.mono _ _ _
   | exact LeO.none _
   | refine LeO.ite ?_ ?_
   | refine LeO.bind ?_ (fun _ => ?_)
def spec_EditDistance.T3 : Bool × List (List Nat × List Nat) := (true, [([], []), ([0], [0]), ([], []), ([2, 1], [2]), ([1, 3], [1, 3]), ([], []), ([], []), ([5, 6, 3], [5, 6]), ([7], [7]), ([4, 8], [4, 8]), ([9, 7, 0, 1, 2, 3, 4, 5, 6, 7, 8, 9], [9]), ([10, 0, 1, 2, 3, 4, 5, 6, 7, 8, 9, 10], [])])
def spec_EditDistance.B3 : List Nat := [0, 1, 0, 7, 15, 0, 0, 111, 239, 511, 1023, 2047]
theorem spec_EditDistance.tab3 : rtab .any (opsOf Try.f26 3) = spec_EditDistance.T3 := by kernel_rfl
theorem spec_EditDistance.bits3 : waitsOk spec_EditDistance.T3.2 spec_EditDistance.B3 = true := by kernel_rfl
set_option maxHeartbeats 8000000 in
set_option maxRecDepth 100000 in
theorem spec_EditDistance.calls (k : Nat) (A0_0 : Option Addr) (c0_0 : Nat) (l0_0 : List Int) (A1_0 : Option Addr) (c1_0 : Nat) (l1_0 : List Int) (r1 : Int) (r2 : Int) (w : World) (hr0_0 : Kd.C (Kd.int .i64) w A0_0 l0_0.length l0_0) (hc0_0 : l0_0.length ≤ c0_0) (hr1_0 : Kd.C (Kd.int .i64) w A1_0 l1_0.length l1_0) (hc1_0 : l1_0.length ≤ c1_0) (h : spec_EditDistance.f k l0_0 l1_0 = some (r1, r2)) :
  Calls Try.prog 26 #[.agg #[.slice A0_0 l0_0.length c0_0], .agg #[.slice A1_0 l1_0.length c1_0]] w fun e w' => e = .returned (.tuple #[.int .i64 r1, .int .i64 r2]) ∧ Below w.heap.size w w' := by
 have hu24 := Try.underlying24
 have HR0_0 := Aside0.mk hr0_0
 have HC0_0 := Aside0.mk hc0_0
 clear hr0_0 hc0_0
 have HR1_0 := Aside0.mk hr1_0
 have HC1_0 := Aside0.mk hc1_0
 clear hr1_0 hc1_0
 have HB := Aside0.mk (Below.refl w.heap.size w)
 have H : ((spec_l01Is.f k l0_0).bind fun t169 => (if t169 = true then ((spec_l01Is.f k l1_0).bind fun t170 => (spec_EditDistance.j0 k (!t170) l0_0 l1_0)) else (spec_EditDistance.j0 k true l0_0 l1_0))) = some (r1, r2) := h
 clear h
 have HC3 := Aside0.mk H
 clear H
 go_enter Try.func26, Try.ntmps26
 go_upto_region 1 with (first | ((with_reducible refine gate_dst (N := 2) rfl ?_); refine box_event ?hg (N := 2) ?hd (cs := #[.slice A0_0 l0_0.length c0_0]) (t := 24) ?hr ?_; (case hd => rfl); (case hg => rfl); (case hr => first | (go_simp; done) | (go_simp; rfl)); intro gb167 hg w4 hbox hb; have n0_ := Aside0.mk (below_step (by repeat (first | (with_reducible first | exact HB.out | apply below_alloc | apply pw_below_drewN | apply below_drew1) | exact HB.out)) hb); have n1_ := Aside0.mk (hbox); have n2_ := Aside0.mk ((by rw [hg]; exact (below_size (by repeat (first | (with_reducible first | exact HB.out | apply below_alloc | apply pw_below_drewN | apply below_drew1) | exact HB.out))) : w.heap.size ≤ gb167)); have n3_ := Aside0.mk ((by rw [hg]; exact (below_size (by repeat (first | (with_reducible first | exact HB.out | apply below_alloc | apply pw_below_drewN | apply below_drew1) | exact HB.out))) : w.heap.size ≤ gb167)); clear HB; have HB := n0_; have BK167 := n1_; have GW167 := n2_; have GE167 := n3_; clear n0_ n1_ n2_ n3_; clear hb hbox hg) | ((with_reducible refine gate_dst (N := 3) rfl ?_); refine box_event ?hg (N := 3) ?hd (cs := #[.slice A1_0 l1_0.length c1_0]) (t := 24) ?hr ?_; (case hd => rfl); (case hg => rfl); (case hr => first | (go_simp; done) | (go_simp; rfl)); intro gb168 hg w5 hbox hb; have n0_ := Aside0.mk (blk_below (g := gb167) (o := .cells #[.slice A0_0 l0_0.length c0_0] 24 (0, 0)) (by (with_reducible repeat (first | refine blk_drewN ?_ _ | refine blk_drew ?_ | refine blk_alloc ?_ _)); exact BK167.out) hb); have n1_ := Aside0.mk (below_step (by repeat (first | (with_reducible first | exact HB.out | apply below_alloc | apply pw_below_drewN | apply below_drew1 | refine below_set ?_ GE167.out) | exact HB.out)) hb); have n2_ := Aside0.mk (hbox); have n3_ := Aside0.mk ((by rw [hg]; exact (below_size (by repeat (first | (with_reducible first | exact HB.out | apply below_alloc | apply pw_below_drewN | apply below_drew1 | refine below_set ?_ GE167.out) | exact HB.out))) : w.heap.size ≤ gb168)); have n4_ := Aside0.mk ((by rw [hg]; exact (below_size (by repeat (first | (with_reducible first | exact HB.out | apply below_alloc | apply pw_below_drewN | apply below_drew1 | refine below_set ?_ GE167.out) | exact HB.out))) : w.heap.size ≤ gb168)); have n5_ := Aside0.mk ((by rw [hg]; exact Nat.ne_of_lt (blk_lt (g := gb167) (o := .cells #[.slice A0_0 l0_0.length c0_0] 24 (0, 0)) (by (with_reducible repeat (first | refine blk_drewN ?_ _ | refine blk_drew ?_ | refine blk_alloc ?_ _)); exact BK167.out)) : gb167 ≠ gb168)); have n6_ := Aside0.mk ((by rw [hg]; exact Nat.ne_of_gt (blk_lt (g := gb167) (o := .cells #[.slice A0_0 l0_0.length c0_0] 24 (0, 0)) (by (with_reducible repeat (first | refine blk_drewN ?_ _ | refine blk_drew ?_ | refine blk_alloc ?_ _)); exact BK167.out)) : gb168 ≠ gb167)); clear BK167; clear HB; have BK167 := n0_; have HB := n1_; have BK168 := n2_; have GW168 := n3_; have GE168 := n4_; have NB167_168 := n5_; have NB168_167 := n6_; clear n0_ n1_ n2_ n3_ n4_ n5_ n6_; clear hb hbox hg))
 (try simp only [Act.put, List.setIfInBounds_toArray, List.set_cons_zero, List.set_cons_succ])
 go_cut [13] (fun v13 wc => ∃ (kq : Nat) (x13_2 : Bool), v13 = .bool x13_2 ∧ Aside0 (spec_EditDistance.j0 kq x13_2 l0_0 l1_0 = some (r1, r2)) ∧ Aside0 (kq ≤ k) ∧ Aside0 (wc.heap[gb167]? = some (.cells #[(.slice A0_0 l0_0.length c0_0)] 24 (0, 0))) ∧ Aside0 (wc.heap[gb168]? = some (.cells #[(.slice A1_0 l1_0.length c1_0)] 24 (0, 0))) ∧ Aside0 (Below w.heap.size w wc))
 case first =>
  have H := HC3.out
  clear HC3
  replace H := Option.bind_eq_some_iff.mp H
  obtain ⟨t169, A60, H⟩ := H
  replace H : (if t169 = true then ((spec_l01Is.f k l1_0).bind fun t170 => (spec_EditDistance.j0 k (!t170) l0_0 l1_0)) else (spec_EditDistance.j0 k true l0_0 l1_0)) = some (r1, r2) := H
  have A6 := Aside0.mk A60
  clear A60
  by_cases c7 : t169 = true
  ·subst c7
   have H1 : ((spec_l01Is.f k l1_0).bind fun t170 => (spec_EditDistance.j0 k (!t170) l0_0 l1_0)) = some (r1, r2) := by rw [if_pos rfl] at H; exact H
   clear H
   have H := H1
   clear H1
   replace H := Option.bind_eq_some_iff.mp H
   obtain ⟨t170, A80, H⟩ := H
   replace H : (spec_EditDistance.j0 k (!t170) l0_0 l1_0) = some (r1, r2) := H
   have A8 := Aside0.mk A80
   clear A80
   have H' := Aside0.mk H
   clear H
   have hnb9 := NB167_168.out
   have hnc9 := NB168_167.out
   have hcz10_0 : w5.cell? ⟨gb167, 0, none⟩ = some (.slice A0_0 l0_0.length c0_0) := (blk_cell BK167.out 0).trans rfl
   have hfz10_0 := blk_frozen BK167.out 0
   go_wp2_with (first | ((with_reducible refine gate_callee (f := 43) rfl ?_); refine goesL_ (some 7) rfl rfl Try.func43 (by kernel_rfl) rfl #[.agg #[.slice A0_0 l0_0.length c0_0]] rfl (by (try simp only [List.map_toArray, List.map_cons, List.map_nil]); first | done | rfl | (simp only [List.length_drop, List.length_take]; rfl)) ?_; (with_reducible refine (spec_l01Is.calls k _ _ l0_0 true _ ?side1 ?side2 A6.out).mono ?_); (case side1 => repeat (first | exact (Kd.C_below HR0_0.out HB.out) | (with_reducible refine Kd.C_alloc ?_ _) | (with_reducible refine Kd.C_drewN ?_ _) | (with_reducible refine Kd.C_drew ?_))); (case side2 => exact HC0_0.out); rintro e w11 ⟨rfl, hb⟩; refine ⟨_, rfl, ?_⟩; have n0_ := Aside0.mk (blk_below (g := gb167) (o := .cells #[.slice A0_0 l0_0.length c0_0] 24 (0, 0)) (by (with_reducible repeat (first | refine blk_drewN ?_ _ | refine blk_drew ?_ | refine blk_alloc ?_ _)); exact BK167.out) hb); have n1_ := Aside0.mk (blk_below (g := gb168) (o := .cells #[.slice A1_0 l1_0.length c1_0] 24 (0, 0)) (by (with_reducible repeat (first | refine blk_drewN ?_ _ | refine blk_drew ?_ | refine blk_alloc ?_ _)); exact BK168.out) hb); have n2_ := Aside0.mk (below_step (by repeat (first | (with_reducible first | exact HB.out | apply below_alloc | apply pw_below_drewN | apply below_drew1 | refine below_set ?_ GE167.out | refine below_set ?_ GE168.out) | exact HB.out)) hb); clear BK167; clear BK168; clear HB; have BK167 := n0_; have BK168 := n1_; have HB := n2_; clear n0_ n1_ n2_; (try clear hb); (try clear hb2); (try clear hk); (try clear hi); have hcz12_0 : w11.cell? ⟨gb168, 0, none⟩ = some (.slice A1_0 l1_0.length c1_0) := (blk_cell BK168.out 0).trans rfl; have hfz12_0 := blk_frozen BK168.out 0) | (go_at_call 43; (with_reducible refine (spec_l01Is.calls k _ _ l1_0 t170 _ ?side1 ?side2 A8.out).mono ?_); (case side1 => repeat (first | exact (Kd.C_below HR1_0.out HB.out) | (with_reducible refine Kd.C_alloc ?_ _) | (with_reducible refine Kd.C_drewN ?_ _) | (with_reducible refine Kd.C_drew ?_))); (case side2 => exact HC1_0.out); rintro e w13 ⟨rfl, hb⟩; have n0_ := Aside0.mk (blk_below (g := gb167) (o := .cells #[.slice A0_0 l0_0.length c0_0] 24 (0, 0)) (by (with_reducible repeat (first | refine blk_drewN ?_ _ | refine blk_drew ?_ | refine blk_alloc ?_ _)); exact BK167.out) hb); have n1_ := Aside0.mk (blk_below (g := gb168) (o := .cells #[.slice A1_0 l1_0.length c1_0] 24 (0, 0)) (by (with_reducible repeat (first | refine blk_drewN ?_ _ | refine blk_drew ?_ | refine blk_alloc ?_ _)); exact BK168.out) hb); have n2_ := Aside0.mk (below_step (by repeat (first | (with_reducible first | exact HB.out | apply below_alloc | apply pw_below_drewN | apply below_drew1 | refine below_set ?_ GE167.out | refine below_set ?_ GE168.out) | exact HB.out)) hb); clear BK167; clear BK168; clear HB; have BK167 := n0_; have BK168 := n1_; have HB := n2_; clear n0_ n1_ n2_; (try clear hb); (try clear hb2); (try clear hk); (try clear hi)))
   go_meet
   case rel => exact ⟨_, (!t170), (by first | rfl | (simp; done) | (simp [*]; done)), H', ⟨by first | omega | exact Nat.le_refl _⟩, ⟨by (with_reducible repeat (first | refine blk_drewN ?_ _ | refine blk_drew ?_ | refine blk_alloc ?_ _)); exact BK167.out⟩, ⟨by (with_reducible repeat (first | refine blk_drewN ?_ _ | refine blk_drew ?_ | refine blk_alloc ?_ _)); exact BK168.out⟩, ⟨by repeat (first | (with_reducible first | exact HB.out | apply below_alloc | apply pw_below_drewN | apply below_drew1 | refine below_set ?_ GE167.out | refine below_set ?_ GE168.out) | exact HB.out)⟩⟩
  ·replace c7 := Bool.eq_false_iff.mpr c7
   subst c7
   have H1 : (spec_EditDistance.j0 k true l0_0 l1_0) = some (r1, r2) := by rw [if_neg (show ¬ (false = true) by decide)] at H; exact H
   clear H
   have H := H1
   clear H1
   have H' := Aside0.mk H
   clear H
   have hnb14 := NB167_168.out
   have hnc14 := NB168_167.out
   have hcz15_0 : w5.cell? ⟨gb167, 0, none⟩ = some (.slice A0_0 l0_0.length c0_0) := (blk_cell BK167.out 0).trans rfl
   have hfz15_0 := blk_frozen BK167.out 0
   go_wp2_with (first | ((with_reducible refine gate_callee (f := 43) rfl ?_); refine goesL_ (some 7) rfl rfl Try.func43 (by kernel_rfl) rfl #[.agg #[.slice A0_0 l0_0.length c0_0]] rfl (by (try simp only [List.map_toArray, List.map_cons, List.map_nil]); first | done | rfl | (simp only [List.length_drop, List.length_take]; rfl)) ?_; (with_reducible refine (spec_l01Is.calls k _ _ l0_0 false _ ?side1 ?side2 A6.out).mono ?_); (case side1 => repeat (first | exact (Kd.C_below HR0_0.out HB.out) | (with_reducible refine Kd.C_alloc ?_ _) | (with_reducible refine Kd.C_drewN ?_ _) | (with_reducible refine Kd.C_drew ?_))); (case side2 => exact HC0_0.out); rintro e w16 ⟨rfl, hb⟩; refine ⟨_, rfl, ?_⟩; have n0_ := Aside0.mk (blk_below (g := gb167) (o := .cells #[.slice A0_0 l0_0.length c0_0] 24 (0, 0)) (by (with_reducible repeat (first | refine blk_drewN ?_ _ | refine blk_drew ?_ | refine blk_alloc ?_ _)); exact BK167.out) hb); have n1_ := Aside0.mk (blk_below (g := gb168) (o := .cells #[.slice A1_0 l1_0.length c1_0] 24 (0, 0)) (by (with_reducible repeat (first | refine blk_drewN ?_ _ | refine blk_drew ?_ | refine blk_alloc ?_ _)); exact BK168.out) hb); have n2_ := Aside0.mk (below_step (by repeat (first | (with_reducible first | exact HB.out | apply below_alloc | apply pw_below_drewN | apply below_drew1 | refine below_set ?_ GE167.out | refine below_set ?_ GE168.out) | exact HB.out)) hb); clear BK167; clear BK168; clear HB; have BK167 := n0_; have BK168 := n1_; have HB := n2_; clear n0_ n1_ n2_; (try clear hb); (try clear hb2); (try clear hk); (try clear hi)))
   go_meet
   case rel => exact ⟨_, (true), (by first | rfl | (simp; done) | (simp [*]; done)), H', ⟨by first | omega | exact Nat.le_refl _⟩, ⟨by (with_reducible repeat (first | refine blk_drewN ?_ _ | refine blk_drew ?_ | refine blk_alloc ?_ _)); exact BK167.out⟩, ⟨by (with_reducible repeat (first | refine blk_drewN ?_ _ | refine blk_drew ?_ | refine blk_alloc ?_ _)); exact BK168.out⟩, ⟨by repeat (first | (with_reducible first | exact HB.out | apply below_alloc | apply pw_below_drewN | apply below_drew1 | refine below_set ?_ GE167.out | refine below_set ?_ GE168.out) | exact HB.out)⟩⟩
 case rest =>
  clear HC3
  try clear c1
  try clear c2
  try clear p2
  try clear c4
  try clear c7
  try clear c9
  try clear c14
  try clear hcz10_0
  try clear hcz12_0
  try clear hcz15_0
  try clear hfz10_0
  try clear hfz12_0
  try clear hfz15_0
  obtain ⟨kq, x13_2, rfl, HA, HJ2, BK167, BK168, HB⟩ := hcut
  cases kq with
  | zero => exact absurd HA.out (by simp [spec_EditDistance.j0])
  | succ kj2 =>
   have H := HA.out
   clear HA
   simp only [spec_EditDistance.j0] at H
   by_cases c17 : x13_2 = true
   ·subst c17
    have H1 : (some (0, 1)) = some (r1, r2) := by rw [if_pos rfl] at H; exact H
    clear H
    have H := H1
    clear H1
    simp only [Option.some.injEq, Prod.mk.injEq] at H
    obtain ⟨rfl, rfl⟩ := H
    go_wp2
    go_ret2
    exact ⟨by first | rfl | (simp [errW_none, errW_some] <;> rfl) | (simp [*, errW_none, errW_some] <;> rfl), by repeat (first | (with_reducible first | exact HB.out | apply below_alloc | apply pw_below_drewN | apply below_drew1 | refine below_set ?_ GE167.out | refine below_set ?_ GE168.out) | exact HB.out)⟩
   ·replace c17 := Bool.eq_false_iff.mpr c17
    subst c17
    have H1 : ((spec_l01N.f l0_0).bind fun t171 => ((spec_l01N.f l1_0).bind fun t172 => ((spec_l07Common.f kj2 l0_0 l1_0).bind fun t173 => (some (wrap64 ((wrap64 (t171 + t172)) - (wrap64 (2 * t173))), 0))))) = some (r1, r2) := by rw [if_neg (show ¬ (false = true) by decide)] at H; exact H
    clear H
    have H := H1
    clear H1
    replace H := Option.bind_eq_some_iff.mp H
    obtain ⟨t171, A180, H⟩ := H
    replace H : ((spec_l01N.f l1_0).bind fun t172 => ((spec_l07Common.f kj2 l0_0 l1_0).bind fun t173 => (some (wrap64 ((wrap64 (t171 + t172)) - (wrap64 (2 * t173))), 0)))) = some (r1, r2) := H
    have A18 := Aside0.mk A180
    clear A180
    replace H := Option.bind_eq_some_iff.mp H
    obtain ⟨t172, A190, H⟩ := H
    replace H : ((spec_l07Common.f kj2 l0_0 l1_0).bind fun t173 => (some (wrap64 ((wrap64 (t171 + t172)) - (wrap64 (2 * t173))), 0))) = some (r1, r2) := H
    have A19 := Aside0.mk A190
    clear A190
    replace H := Option.bind_eq_some_iff.mp H
    obtain ⟨t173, A200, H⟩ := H
    replace H : (some (wrap64 ((wrap64 (t171 + t172)) - (wrap64 (2 * t173))), 0)) = some (r1, r2) := H
    have A20 := Aside0.mk A200
    clear A200
    simp only [Option.some.injEq, Prod.mk.injEq] at H
    obtain ⟨rfl, rfl⟩ := H
    try go_wp2
    have n0_ := Aside0.mk (blk_drew BK167.out)
    have n1_ := Aside0.mk (blk_drew BK168.out)
    have n2_ := Aside0.mk (below_drew1 HB.out)
    clear BK167
    clear BK168
    clear HB
    have BK167 := n0_
    have BK168 := n1_
    have HB := n2_
    clear n0_ n1_ n2_
    refine start_ (n := 12) (S := fun w' => w'.cell? ⟨gb167, 0, none⟩ = some (.slice A0_0 l0_0.length c0_0) ∧ w'.cell? ⟨gb168, 0, none⟩ = some (.slice A1_0 l1_0.length c1_0)) (ds := []) #[false, false, false, false, false, false, false, false, false, false, false, false] (by kernel_rfl) rfl rfl ⟨(blk_cell BK167.out 0).trans rfl, (blk_cell BK168.out 0).trans rfl⟩ (fun hHeld => ?_); refine with_tabW spec_EditDistance.tab3 spec_EditDistance.bits3 (fun HT_ HW_ => ?_)
    generalize wc.drew = w21 at BK167 BK168 HB hHeld ⊢
    refine take_ (i := 0) (N := some 14) (v := ?_) (a' := ?_) (tf 1 11) rfl rfl (take_ofW HT_.out HW_.out (by kernel_rfl)) (fun _ _ _ h => h) (Or.inl ⟨by rfl, ?_⟩) hHeld ?_ ?_
    rotate_left
    ·rintro w' ⟨s0, s1⟩
     go_simp
     with_reducible rfl
    rotate_left
    ·simp only [Act.put, sIB, sc0, scs, i64_w, i32_w]
     rfl
    refine take_ (i := 2) (N := some 16) (v := ?_) (a' := ?_) #[true, false, true, false, false, false, false, false, false, false, false, false] rfl rfl (take_ofW HT_.out HW_.out (by kernel_rfl)) (fun _ _ _ h => h) (Or.inl ⟨by rfl, ?_⟩) hHeld ?_ ?_
    rotate_left
    ·rintro w' ⟨s0, s1⟩
     go_simp
     with_reducible rfl
    rotate_left
    ·simp only [Act.put, sIB, sc0, scs, i64_w, i32_w]
     rfl
    refine take_ (i := 5) (N := some 19) (v := ?_) (a' := ?_) #[true, false, true, false, false, true, false, false, false, false, false, false] rfl rfl (take_ofW HT_.out HW_.out (by kernel_rfl)) (fun _ _ _ h => h) (Or.inl ⟨by rfl, ?_⟩) hHeld ?_ ?_
    rotate_left
    ·rintro w' ⟨s0, s1⟩
     go_simp
     with_reducible rfl
    rotate_left
    ·simp only [Act.put, sIB, sc0, scs, i64_w, i32_w]
     rfl
    refine take_ (i := 6) (N := some 20) (v := ?_) (a' := ?_) #[true, false, true, false, false, true, true, false, false, false, false, false] rfl rfl (take_ofW HT_.out HW_.out (by kernel_rfl)) (fun _ _ _ h => h) (Or.inl ⟨by rfl, ?_⟩) hHeld ?_ ?_
    rotate_left
    ·rintro w' ⟨s0, s1⟩
     go_simp
     with_reducible rfl
    rotate_left
    ·simp only [Act.put, sIB, sc0, scs, i64_w, i32_w]
     rfl
    refine one_ (i := 1) (N := some 15) #[true, true, true, false, false, true, true, false, false, false, false, false] rfl rfl (one_of HT_.out (by kernel_rfl)) (by decide) (fun K hK => ?_)
    refine goes_ Try.func45 (by kernel_rfl) rfl #[.agg #[.slice A0_0 l0_0.length c0_0]] (by rfl) rfl rfl (by (try simp only [List.map_toArray, List.map_cons, List.map_nil]); first | done | rfl | (simp only [List.length_drop, List.length_take]; rfl)) ?_
    with_reducible refine (spec_l01N.calls _ _ l0_0 t171 _ ?side1 ?side2 A18.out).mono ?_
    (case side1 => repeat (first | exact (Kd.C_below HR0_0.out HB.out) | (with_reducible refine Kd.C_alloc ?_ _) | (with_reducible refine Kd.C_drewN ?_ _) | (with_reducible refine Kd.C_drew ?_)))
    (case side2 => exact HC0_0.out)
    rintro e w22 ⟨rfl, hb⟩
    refine ⟨_, rfl, ?_⟩
    have n0_ := Aside0.mk (blk_below (g := gb167) (o := .cells #[.slice A0_0 l0_0.length c0_0] 24 (0, 0)) (by (with_reducible repeat (first | refine blk_drewN ?_ _ | refine blk_drew ?_ | refine blk_alloc ?_ _)); exact BK167.out) hb)
    have n1_ := Aside0.mk (blk_below (g := gb168) (o := .cells #[.slice A1_0 l1_0.length c1_0] 24 (0, 0)) (by (with_reducible repeat (first | refine blk_drewN ?_ _ | refine blk_drew ?_ | refine blk_alloc ?_ _)); exact BK168.out) hb)
    have n2_ := Aside0.mk (below_step (by repeat (first | (with_reducible first | exact HB.out | apply below_alloc | apply pw_below_drewN | apply below_drew1 | refine below_set ?_ GE167.out | refine below_set ?_ GE168.out) | exact HB.out)) hb)
    clear BK167
    clear BK168
    clear HB
    have BK167 := n0_
    have BK168 := n1_
    have HB := n2_
    clear n0_ n1_ n2_
    (try clear hb)
    (try clear hb2)
    (try clear hk)
    (try clear hi)
    refine hK.out _ _ ⟨(blk_cell BK167.out 0).trans rfl, (blk_cell BK168.out 0).trans rfl⟩ (fun hHeld => ?_)
    clear hK K
    refine norm_ (a' := ?_) ?_ ?_
    rotate_left
    ·show Act.put _ (some 15) _ = _
     simp only [Act.put, sIB, sc0, scs, i64_w, i32_w]
     rfl
    refine one_ (i := 3) (N := some 17) #[true, true, true, true, false, true, true, false, false, false, false, false] rfl rfl (one_of HT_.out (by kernel_rfl)) (by decide) (fun K hK => ?_)
    refine goes_ Try.func45 (by kernel_rfl) rfl #[.agg #[.slice A1_0 l1_0.length c1_0]] (by rfl) rfl rfl (by (try simp only [List.map_toArray, List.map_cons, List.map_nil]); first | done | rfl | (simp only [List.length_drop, List.length_take]; rfl)) ?_
    with_reducible refine (spec_l01N.calls _ _ l1_0 t172 _ ?side1 ?side2 A19.out).mono ?_
    (case side1 => repeat (first | exact (Kd.C_below HR1_0.out HB.out) | (with_reducible refine Kd.C_alloc ?_ _) | (with_reducible refine Kd.C_drewN ?_ _) | (with_reducible refine Kd.C_drew ?_)))
    (case side2 => exact HC1_0.out)
    rintro e w23 ⟨rfl, hb⟩
    refine ⟨_, rfl, ?_⟩
    have n0_ := Aside0.mk (blk_below (g := gb167) (o := .cells #[.slice A0_0 l0_0.length c0_0] 24 (0, 0)) (by (with_reducible repeat (first | refine blk_drewN ?_ _ | refine blk_drew ?_ | refine blk_alloc ?_ _)); exact BK167.out) hb)
    have n1_ := Aside0.mk (blk_below (g := gb168) (o := .cells #[.slice A1_0 l1_0.length c1_0] 24 (0, 0)) (by (with_reducible repeat (first | refine blk_drewN ?_ _ | refine blk_drew ?_ | refine blk_alloc ?_ _)); exact BK168.out) hb)
    have n2_ := Aside0.mk (below_step (by repeat (first | (with_reducible first | exact HB.out | apply below_alloc | apply pw_below_drewN | apply below_drew1 | refine below_set ?_ GE167.out | refine below_set ?_ GE168.out) | exact HB.out)) hb)
    clear BK167
    clear BK168
    clear HB
    have BK167 := n0_
    have BK168 := n1_
    have HB := n2_
    clear n0_ n1_ n2_
    (try clear hb)
    (try clear hb2)
    (try clear hk)
    (try clear hi)
    refine hK.out _ _ ⟨(blk_cell BK167.out 0).trans rfl, (blk_cell BK168.out 0).trans rfl⟩ (fun hHeld => ?_)
    clear hK K
    refine norm_ (a' := ?_) ?_ ?_
    rotate_left
    ·show Act.put _ (some 17) _ = _
     simp only [Act.put, sIB, sc0, scs, i64_w, i32_w]
     rfl
    refine pure_ (i := 4) (N := some 18) (v := ?_) (a' := ?_) (tf 7 5) rfl rfl (any_of HT_.out (by kernel_rfl)) (fun _ _ _ h => h) (Or.inl ⟨by rfl, ?_⟩) ?_ ?_
    rotate_left
    ·intro w'
     go_simp
     with_reducible rfl
    rotate_left
    ·simp only [Act.put, sIB, sc0, scs, i64_w, i32_w]
     rfl
    refine one_ (i := 7) (N := some 21) (tf 8 4) rfl rfl (one_of HT_.out (by kernel_rfl)) (by decide) (fun K hK => ?_)
    refine goes_ Try.func44 (by kernel_rfl) rfl #[.agg #[.slice A0_0 l0_0.length c0_0], .agg #[.slice A1_0 l1_0.length c1_0]] (by rfl) rfl rfl (by (try simp only [List.map_toArray, List.map_cons, List.map_nil]); first | done | rfl | (simp only [List.length_drop, List.length_take]; rfl)) ?_
    with_reducible refine (spec_l07Common.calls kj2 _ _ l0_0 _ _ l1_0 t173 _ ?side1 ?side2 ?side3 ?side4 A20.out).mono ?_
    (case side1 => repeat (first | exact (Kd.C_below HR0_0.out HB.out) | (with_reducible refine Kd.C_alloc ?_ _) | (with_reducible refine Kd.C_drewN ?_ _) | (with_reducible refine Kd.C_drew ?_)))
    (case side2 => exact HC0_0.out)
    (case side3 => repeat (first | exact (Kd.C_below HR1_0.out HB.out) | (with_reducible refine Kd.C_alloc ?_ _) | (with_reducible refine Kd.C_drewN ?_ _) | (with_reducible refine Kd.C_drew ?_)))
    (case side4 => exact HC1_0.out)
    rintro e w24 ⟨rfl, hb⟩
    refine ⟨_, rfl, ?_⟩
    have n0_ := Aside0.mk (blk_below (g := gb167) (o := .cells #[.slice A0_0 l0_0.length c0_0] 24 (0, 0)) (by (with_reducible repeat (first | refine blk_drewN ?_ _ | refine blk_drew ?_ | refine blk_alloc ?_ _)); exact BK167.out) hb)
    have n1_ := Aside0.mk (blk_below (g := gb168) (o := .cells #[.slice A1_0 l1_0.length c1_0] 24 (0, 0)) (by (with_reducible repeat (first | refine blk_drewN ?_ _ | refine blk_drew ?_ | refine blk_alloc ?_ _)); exact BK168.out) hb)
    have n2_ := Aside0.mk (below_step (by repeat (first | (with_reducible first | exact HB.out | apply below_alloc | apply pw_below_drewN | apply below_drew1 | refine below_set ?_ GE167.out | refine below_set ?_ GE168.out) | exact HB.out)) hb)
    clear BK167
    clear BK168
    clear HB
    have BK167 := n0_
    have BK168 := n1_
    have HB := n2_
    clear n0_ n1_ n2_
    (try clear hb)
    (try clear hb2)
    (try clear hk)
    (try clear hi)
    refine hK.out _ _ ⟨(blk_cell BK167.out 0).trans rfl, (blk_cell BK168.out 0).trans rfl⟩ (fun hHeld => ?_)
    clear hK K
    refine norm_ (a' := ?_) ?_ ?_
    rotate_left
    ·show Act.put _ (some 21) _ = _
     simp only [Act.put, sIB, sc0, scs, i64_w, i32_w]
     rfl
    refine pure_ (i := 8) (N := some 22) (v := ?_) (a' := ?_) (tf 9 3) rfl rfl (any_of HT_.out (by kernel_rfl)) (fun _ _ _ h => h) (Or.inl ⟨by rfl, ?_⟩) ?_ ?_
    rotate_left
    ·intro w'
     go_simp
     with_reducible rfl
    rotate_left
    ·simp only [Act.put, sIB, sc0, scs, i64_w, i32_w]
     rfl
    refine pure_ (i := 9) (N := some 23) (v := ?_) (a' := ?_) (tf 10 2) rfl rfl (any_of HT_.out (by kernel_rfl)) (fun _ _ _ h => h) (Or.inl ⟨by rfl, ?_⟩) ?_ ?_
    rotate_left
    ·intro w'
     go_simp
     with_reducible rfl
    rotate_left
    ·simp only [Act.put, sIB, sc0, scs, i64_w, i32_w]
     rfl
    refine pure_ (i := 10) (N := some 4) (v := ?_) (a' := ?_) (tf 11 1) rfl rfl (any_of HT_.out (by kernel_rfl)) (fun _ _ _ h => h) (Or.inl ⟨by rfl, ?_⟩) ?_ ?_
    rotate_left
    ·intro w'
     go_simp
     with_reducible rfl
    rotate_left
    ·simp only [Act.put, sIB, sc0, scs, i64_w, i32_w]
     rfl
    refine pure_ (i := 11) (N := some 5) (v := ?_) (a' := ?_) (tf 12 0) rfl rfl (any_of HT_.out (by kernel_rfl)) (fun _ _ _ h => h) (Or.inl ⟨by rfl, ?_⟩) ?_ ?_
    rotate_left
    ·intro w'
     go_simp
     with_reducible rfl
    rotate_left
    ·simp only [Act.put, sIB, sc0, scs, i64_w, i32_w]
     rfl
    refine done_ (done_of HT_.out (by kernel_rfl)) ?_
    try go_wp2
    go_ret2
    exact ⟨by first | rfl | (simp [errW_none, errW_some] <;> rfl) | (simp [*, errW_none, errW_some] <;> rfl), by repeat (first | (with_reducible first | exact HB.out | apply below_alloc | apply pw_below_drewN | apply below_drew1 | refine below_set ?_ GE167.out | refine below_set ?_ GE168.out) | exact HB.out)⟩

end Go.Proofs.Yteangdgmokkjbaa.QFnExactEditDistance
