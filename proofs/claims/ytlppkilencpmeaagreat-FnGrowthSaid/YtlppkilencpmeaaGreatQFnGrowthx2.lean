/- Functions as Lean functions, with their contracts: written by a program of this claim over the translation; some contracts are proved by hand. -/
import Derived.Test.YtlppkilencpmeaaGreatQFnGrowthx0
namespace Go.Proofs.YtlppkilencpmeaaGreat.QFnGrowth
open Go.RowKit Go.Proofs.YtlppkilencpmeaaGreat.Gl Go.Proofs.YtlppkilencpmeaaGreat.Sz Go.Proofs.YtlppkilencpmeaaGreatW.PrintWords Go.Proofs.YtlppkilencpmeaaGreatW.PrintLast Go.Proofs.YtlppkilencpmeaaGreatW.PrintMore
attribute [local go_sem] max2_int min2_int max_two min_two max_three min_three max_four min_four   -- for this text's walks alone
set_option linter.unusedVariables false
set_option linter.unusedSimpArgs false
theorem q2_0 {P:Prop} (h:P:=by simp only [putAll,Act.put,List.setIfInBounds_toArray,List.set_cons_zero,List.set_cons_succ]):P:=h
theorem q2_1 {P:Prop} (h:P:=by rw [Int.toNat_natCast];have h1_:=HKL.out;have h2_:=HL0.out;have h3_:=hv.out;omega):P:=h
theorem q2_2 {P:Prop} (h:P:=by rw [hgo];exact below_size HBW.out):P:=h
set_option maxHeartbeats 8000000
set_option maxRecDepth 100000
def impl_GrownTree.kf:List Int→Nat→List (List Int)→Option (List (List Int))
 | [],_,K=>some K
 | q :: qs,i,K=>if q<0∨q>(i:Int) then none else impl_GrownTree.kf qs (i+1) (K.set q.toNat (K.getD q.toNat []++[((i+1:Nat):Int)])++[[]])
def impl_GrownTree.r (k:Nat):Option (List (List Int))→Option (List Int × List Int × Int)
 | none=>some ([],[],2)
 | some K=>(Gw.gw K k 0 ([],List.replicate K.length 0)).bind fun s=>some (s.1,s.2,0)
def impl_GrownTree.f (k:Nat) (l0:List Int):Option (List Int × List Int × Int):=if (l0.length:Int)>23 then some ([],[],2) else impl_GrownTree.r k (impl_GrownTree.kf l0 0 [[]])
theorem impl_GrownTree.kpush {W:World} {base g n cap:Nat} {K:List (List Int)} (hS:Kd.S (Kd.slice 2 (Kd.int .i64)) 24 W base (fun _=>True) (.slice (some ⟨g,0,none⟩) n cap) K) {q:Int} (h0:0≤q) (h1:q<n) :
  ∃ (Aq:Option Addr) (cq:Nat) (oki:Nat→Prop),W.cell? ⟨g,q.toNat,none⟩=some (Value.slice Aq (K.getD q.toNat []).length cq)∧Kd.R (Kd.int .i64) 2 W base oki (.slice Aq (K.getD q.toNat []).length cq) (K.getD q.toNat [])∧(∀ k,oki k→k≠g) ∧
   ∀ (W1:World) (A2:Option Addr) (c2:Nat) (x:Int),Kd.R (Kd.int .i64) 2 W1 base (fun k=>oki k∨W.heap.size≤k) (.slice A2 (K.getD q.toNat []++[x]).length c2) (K.getD q.toNat []++[x])→W.grownBy W1 (Value.slice Aq (K.getD q.toNat []).length cq).ownBlock →
    W1.cell? ⟨g,q.toNat,none⟩=some (Value.slice Aq (K.getD q.toNat []).length cq)∧W1.frozen? ⟨g,q.toNat,none⟩=false ∧
    Kd.S (Kd.slice 2 (Kd.int .i64)) 24 (W1.setCell ⟨g,q.toNat,none⟩ (.slice A2 (K.getD q.toNat []++[x]).length c2)) base (fun _=>True) (.slice (some ⟨g,0,none⟩) n cap) (K.set q.toNat (K.getD q.toNat []++[x])):=by
 obtain ⟨oki,c,hcl,hM,hcc,hoki,hH⟩:=Kd.S_lend hS ([]:List Int) q h0 h1
 obtain ⟨v,rfl,hR⟩:=hM
 obtain ⟨Aq,cq,rfl⟩:=Kd.R_slice hR
 have hcell:=hcc 0 _ rfl
 rw [show q.toNat*(Kd.slice 2 (Kd.int .i64)).sz+0=q.toNat from Nat.mul_one _] at hcell
 refine ⟨Aq,cq,oki,hcell,hR,fun k hk=>(hoki k hk).2,fun W1 A2 c2 x ho hg=>?_⟩
 have hgl:g<W.heap.size:=World.block_lt_of_cell? W _ hcell
 have hrow:∀ k,(Value.slice Aq (K.getD q.toNat []).length cq).ownBlock=some k→oki k:=fun k hk=>hR.1 k hk
 have hgn:some g≠(Value.slice Aq (K.getD q.toNat []).length cq).ownBlock:=fun e=>(hoki g (hrow g e.symm)).2 rfl
 have hblk:=hg.block g hgl hgn
 have hH1:=Kd.H_grown (Kd.H_widen hH) hg (fun k hk=>.inl (hrow k hk))
 have hfz:W1.frozen? ⟨g,q.toNat,none⟩=false:=by
  obtain ⟨g',cap',e',_,_,cells,hcells⟩:=Kd.S_form hS (by have:=(Kd.S_reads' hS).1;omega)
  injection e' with e1 _ _
  injection e1 with e1
  injection e1 with e1
  subst e1
  exact blk_frozen (hblk.trans hcells) _
 have hcell1:W1.cell? ⟨g,q.toNat,none⟩=some (Value.slice Aq (K.getD q.toNat []).length cq):=by
  unfold World.cell? at hcell ⊢
  rw [hblk];exact hcell
 refine ⟨hcell1,hfz,?_⟩
 have h2:=(Kd.H_seg hH1 h0 h1 (seg:=[.slice A2 (K.getD q.toNat []++[x]).length c2]) (j:=0) (Nat.le_refl _) (by simp [Value.oneCell'])).1
 have h3:=(Kd.H_seg hH1 h0 h1 (seg:=[.slice A2 (K.getD q.toNat []++[x]).length c2]) (j:=0) (Nat.le_refl _) (by simp [Value.oneCell'])).2
 have hne:∀ k,(oki k∨True∧W.heap.size≤k)→k≠g:=fun k hk=>hk.elim (fun h=>(hoki k h).2) (fun h=>by have:=h.2;omega)
 have hM2:(Kd.slice 2 (Kd.int .i64)).M (W1.setCells g (q.toNat*(Kd.slice 2 (Kd.int .i64)).sz+0) [.slice A2 (K.getD q.toNat []++[x]).length c2]) base (fun k=>oki k∨W.heap.size≤k) (K.getD q.toNat []++[x]) [.slice A2 (K.getD q.toNat []++[x]).length c2] :=
  ⟨_,rfl,Kd.R_step ho (fun k hk hlt=>h3.block k hlt (fun e=>by injection e with e;exact hne k (hk.imp id (fun h=>⟨trivial,h⟩)) e))⟩
 have h4:=Kd.H_back h2 hM2 (fun k hk=>hk.imp id (fun h=>⟨trivial,h⟩))
 rw [show q.toNat*(Kd.slice 2 (Kd.int .i64)).sz+0=q.toNat from Nat.mul_one _] at h4
 exact h4
theorem impl_GrownTree.kbound {K:List (List Int)} {q v:Nat} {xs:List Int} {x:Int} (h:∀ j,(K.getD j []).length≤v) (hx:xs.length≤v):∀ j,((K.set q (xs++[x])++[[]]).getD j []).length≤v+1:=by
 intro j
 have hj:=h j
 rw [List.getD_eq_getElem?_getD] at hj ⊢
 by_cases hl:j<K.length
 ·rw [List.getElem?_append_left (by rw [List.length_set];exact hl),List.getElem?_set]
  by_cases hq:q=j
  ·subst hq
   rw [if_pos rfl,if_pos hl]
   simp;omega
  ·rw [if_neg hq];omega
 ·rw [List.getElem?_append_right (by rw [List.length_set];omega),List.length_set]
  cases hi:j - K.length with
  | zero=>simp
  | succ i=>simp
theorem impl_GrownTree.start {w wa wc:World} {b8 b9 b5 ck2 cg:Nat} {Ak2 Ag:Option Addr} {K:List (List Int)} (hK0:0<K.length) (HB:Below w.heap.size w wa) (HS:Kd.S (Kd.slice 2 (Kd.int .i64)) 24 wa w.heap.size (fun _=>True) (.slice Ak2 K.length ck2) K) (HK5:wa.heap[b5]?=some (.cells #[.slice Ak2 K.length ck2] 57 (0,0))) (HBW:Below wa.heap.size wa wc)
  (H8:wc.heap[b8]?=some (.cells #[.slice none 0 0] 27 (0,0))) (H9:wc.heap[b9]?=some (.cells #[.slice Ag K.length cg] 24 (0,0))) (HM:Kd.R (Kd.int .i64) 2 wc w.heap.size (fun k_=>wa.heap.size≤k_) (.slice Ag K.length cg) (List.replicate K.length 0)) (HNE:b8≠b9∧wa.heap.size≤b8∧wa.heap.size≤b9) :
  ∃ gG bK,Ag=some ⟨gG,0,none⟩∧Ak2=some ⟨bK,0,none⟩∧Gw.GC (wc.alloc (.cells #[Gw.TW b8 b9 b5 wc.heap.size] 58 (0,0))) w.heap.size b8 b9 b5 wc.heap.size gG cg K.length bK ck2 K∧Gw.GS (wc.alloc (.cells #[Gw.TW b8 b9 b5 wc.heap.size] 58 (0,0))) w.heap.size b8 gG cg K.length (wc.alloc (.cells #[Gw.TW b8 b9 b5 wc.heap.size] 58 (0,0))) [] (List.replicate K.length 0):=by
 obtain ⟨gG,cap,e1,hgb,hgl,cells,hcells⟩:=Kd.R_form HM (by simp;exact hK0)
 injection e1 with e1 _ e3
 subst e1
 subst e3
 have hgok:wa.heap.size≤gG:=HM.1 gG (by simp [Value.ownBlock])
 obtain ⟨bK,capK,e2,hkb,hkl,_⟩:=Kd.S_form HS hK0
 injection e2 with e2 _ e4
 subst e2
 subst e4
 have h5:=blk_lt HK5
 have h8:=blk_lt H8
 have h9:=blk_lt H9
 have n9:b9≠gG:=by have h_:=Kd.R_ne HM H9 dc;simpa [Value.ownBlock] using h_
 have n8:b8≠gG:=by have h_:=Kd.R_ne HM H8 dc;simpa [Value.ownBlock] using h_
 have hcs:=HBW.size
 have hwa:=below_size HB
 obtain ⟨ne,ne8,ne9⟩:=HNE
 have hs0:(wc.alloc (.cells #[Gw.TW b8 b9 b5 wc.heap.size] 58 (0,0))).heap.size=wc.heap.size+1:=by simp
 have hSw:=Kd.S_below (Kd.S_mono (Kd.S_bound HS) (ok':=fun k=>k<wa.heap.size) (fun k hk=>hk.2.2.1)) HBW
 refine ⟨gG,bK,rfl,rfl,⟨blk_alloc H9 _,blk_alloc (blk_below HK5 HBW) _,blk_new wc _,?_,?_,?_,?_,n8,by omega,by omega,by omega,hgb,Kd.C_kept_own (Kd.R_alloc (Kd.S_R hSw) _) (fun k hk hS=>?_)⟩,none,0,⟨blk_alloc H8 _,Kd.R_nil _ _ _ _ _,Kept.refl _ _,Below.refl _ _,Kd.R_alloc (Kd.R_mono (Kd.R_tight rfl HM) (fun k hk=>by simpa [Value.ownBlock] using hk)) _,List.length_replicate⟩⟩
 ·rintro (h|h) <;> omega
 ·rintro (h|h) <;> omega
 ·rintro (h|h) <;> omega
 ·rintro (h|h) <;> omega
 ·rcases hS with h|h <;> omega
@[go_sem] theorem impl_GrownTree.store_func {P:Program} {w:World} {a:Addr} {m:Mode} (fn:Fn) (first captured:Array Value):(store a (.func fn first captured) m).run P w=stored P w a (.func fn first captured) m:=run_store P w a _ m rfl
theorem impl_GrownTree.info22:(Tryz.prog.info? 24).map (fun i=>(i.zero,i.size,i.bytes))=some (some (.slice none 0 0),1,24):=by kernel_rfl
theorem impl_GrownTree.litOne {w:World} {base:Nat} {A:Option Addr} {c:Nat} (h:Kd.R (Kd.int .i64) 2 w base (fun _=>True) (.slice A 0 c) ([]:List Int)):∀ (j:Nat) (x:List Int),([[]]:List (List Int))[j]?=some x→(Kd.slice 2 (Kd.int .i64)).M w base (fun _=>j=0) x (([Value.slice A 0 c].drop (j*1)).take 1):=by
 intro j x hx
 match j,hx with
 | 0,hx =>
  injection hx with hx
  subst hx
  exact ⟨_,rfl,Kd.R_mono h (fun _ _=>rfl)⟩
theorem impl_GrownTree.calls (k:Nat) (A0:Option Addr) (c0:Nat) (l0:List Int) (r1:List Int) (r2:List Int) (r3:Int) (w:World) (hr0:Kd.C (Kd.int .i64) w A0 l0.length l0) (hc0:l0.length≤c0) (h:impl_GrownTree.f k l0=some (r1,r2,r3)) :
  Calls Tryz.prog 7 #[.slice A0 l0.length c0] w fun e w'=>∃ v0_ v1_:Value,e=.returned (.tuple #[.agg #[v0_],v1_,.int .i64 r3])∧Kd.R (Kd.int .i64) 2 w' w.heap.size (fun k_=>some k_≠(v1_:Value).ownBlock) v0_ r1∧Kd.R (Kd.int .i64) 2 w' w.heap.size (fun k_=>some k_≠(v0_:Value).ownBlock) v1_ r2∧Below w.heap.size w w':=by
 have hu24:=Tryz.underlying27;have HR0:=ak hr0;have HC0:=ak hc0;clear hr0 hc0;have HB:=ak (Below.refl w.heap.size w)
 unfold impl_GrownTree.f at h
 by_cases c2:(l0.length:Int)>23
 ·rw [if_pos c2] at h;have af:decide (23<(l0.length:Int))=true:=decide_eq_true c2;have ag:decide (23<l0.length)=true:=decide_eq_true (by omega);clear c2;simp only [Option.some.injEq,Prod.mk.injEq] at h;obtain ⟨rfl,rfl,rfl⟩:=h
  go_enter Tryz.func7,Tryz.ntmps7
  go_wp2_with ((with_reducible refine gate_dst (N:=2) rfl ?_);refine bev (N:=2) (cs:=#[.slice none 0 0]) (t:=27) ?_;intro b2 hg w1 hbox hb;have n_:=ak (below_step HB.out hb);have BK2:=ak hbox;have GE2:=ak ((by rw [hg];exact (below_size HB.out)):w.heap.size≤b2);clear HB;have HB:=n_;clear n_;clear hb hbox hg;have hcz:w1.cell? ⟨b2,0,none⟩=some (.slice none 0 0):=(blk_cell BK2.out 0).trans rfl;have hfz:=blk_frozen BK2.out 0)
  refine bodyPost_ret (results_ctt rfl _ _ b2 27 #[.slice none 0 0] (0,0) _ rfl (blk_put (cs:=#[.slice none 0 0]) BK2.out 0 _ rfl) Tryz.underlying27 rfl kr) rfl ?_
  exact ⟨_,_,rfl,Kd.R_nil _ _ _ _ _,Kd.R_nil _ _ _ _ _,below_set HB.out GE2.out⟩
 rw [if_neg c2] at h;have af:decide (23<(l0.length:Int))=false:=decide_eq_false c2;have ag:decide (23<l0.length)=false:=decide_eq_false (by omega);have HL0:=ak (show l0.length≤23 by omega);have HF:=ak h;clear h c2
 go_enter Tryz.func7,Tryz.ntmps7
 go_wp2_with (first|((with_reducible refine gate_dst (N:=2) rfl ?_);refine bev (N:=2) (cs:=#[.slice none 0 0]) (t:=27) ?_;intro b2 hg w1 hbox hb;have n_:=ak (below_step HB.out hb);have BK2:=ak hbox;have GE2:=ak ((by rw [hg];exact (below_size HB.out)):w.heap.size≤b2);clear HB;have HB:=n_;clear n_;clear hb hbox hg;have hcz:w1.cell? ⟨b2,0,none⟩=some (.slice none 0 0):=(blk_cell BK2.out 0).trans rfl;have hfz:=blk_frozen BK2.out 0)|((with_reducible refine gate_dst (N:=15) rfl ?_);refine Kd.R_lit (Kd.int .i64) _ 2 ?hg (N:=15) ?hd (xs:=([]:List Int)) (inner:=[]) (ok:=fun _=>True) (okp:=fun _=>True) ?hr ?hp (fun _ hk=>hk) trivial (Below.refl _ _) (Nat.le_refl _) (by simp) ?_;(case hd=>rfl);(case hg=>rfl);(case hr=>exact gs);(case hp=>exact (Reps.none _ _));intro v15 w2 ho hb hg_ hn_;clear hg_ hn_;obtain ⟨A15,c15,hv_⟩:=Kd.R_slice ho;subst hv_;have ab:=ak (Kd.R_lower ho (below_size HB.out));have n_:=ak (below_step HB.out hb);have m_:=ak (blk_below BK2.out hb);clear HB BK2 hb ho hcz hfz;have HB:=n_;have BK2:=m_;clear n_ m_)|((with_reducible refine gate_dst (N:=16) rfl ?_);refine Kd.S_lits (Kd.slice 2 (Kd.int .i64)) w.heap.size 24 ?hg (N:=16) ?hd (xs:=([[]]:List (List Int))) (inner:=[.slice A15 0 c15]) (ok:=fun _=>True) (fun j k=>j=0) ?hr ?hl ?hp ?ha (fun _ _ _=>trivial) trivial (Below.refl _ _) (below_size HB.out) (by simp) ?_;(case hd=>rfl);(case hg=>rfl);(case hr=>exact gs);(case hl=>rfl);(case ha=>exact fun i j k h1 h2=>h1.trans h2.symm);(case hp=>exact impl_GrownTree.litOne ab.out);intro v16 w3 ho hb hg_ hn_;clear hn_;obtain ⟨Ak,ck,hv_⟩:=Kd.S_slice ho;subst hv_;have HS:=ak ho;have n_:=ak (HB.out.trans hb);have m_:=ak (blk_grown BK2.out hg_ (by simp));clear HB BK2 ab hb ho hg_;have HB:=n_;have BK2:=m_;clear n_ m_))
 have hS4:=Kd.S_alloc HS.out (.cells #[.slice Ak 1 ck] 57 (0,0));have HS4:=ak hS4;have HK5:=ak (blk_new w3 (.cells #[.slice Ak 1 ck] 57 (0,0)));have HK2:=ak (blk_alloc BK2.out (.cells #[.slice Ak 1 ck] 57 (0,0)));have GE5:=ak (below_size HB.out);have HB4:=ak (below_alloc HB.out (.cells #[.slice Ak 1 ck] 57 (0,0)));clear HS hS4 HB BK2;generalize w3.alloc (.cells #[.slice Ak 1 ck] 57 (0,0))=w4 at HS4 HK5 HK2 HB4 ⊢;generalize w3.heap.size=b5 at HK5 GE5 ⊢
 go_loopw [19] (fun vv w'=>∃ (v:Nat) (K:List (List Int)) (Ak:Option Addr) (ck:Nat),vv=.int .i64 (v:Int)∧Aside0 (v≤l0.length)∧Aside0 (impl_GrownTree.r k (impl_GrownTree.kf (l0.drop v) v K)=some (r1,r2,r3))∧Aside0 (K.length=v+1)∧Aside0 (∀ j,(K.getD j []).length≤v)∧Aside0 (Kd.S (Kd.slice 2 (Kd.int .i64)) 24 w' w.heap.size (fun _=>True) (.slice Ak K.length ck) K)∧Aside0 (w'.heap[b5]?=some (.cells #[.slice Ak K.length ck] 57 (0,0)))∧Aside0 (w'.heap[b2]?=some (.cells #[.slice none 0 0] 27 (0,0)))∧Aside0 (Below w.heap.size w w')) (fun vv _=>l0.length - (intOf vv).toNat)
 case atStart=>exact ⟨0,[[]],Ak,ck,rfl,⟨Nat.zero_le _⟩,HF,⟨rfl⟩,⟨fun j=>by match j with|0=>simp|j+1=>simp⟩,HS4,HK5,HK2,HB4⟩
 case round =>
  obtain ⟨v,K,Ak2,ck2,rfl,hv,HR,HKL,HKX,HS,HK5,HK2,HB⟩:=hrel
  by_cases hlt:v<l0.length
  ·have hl:((v:Nat):Int)<((l0.length:Nat):Int):=by omega
   obtain ⟨ad,hA0,hcell⟩:=Kd.at_int (Kd.C_below HR0.out HB.out) (v:Int) (by omega) hl;subst hA0;rw [Int.toNat_natCast] at hcell;have h_:=HR.out;rw [List.drop_eq_getElem_cons hlt,impl_GrownTree.kf,show l0[v]=rd l0 (v:Int) by simp [rd,hlt]] at h_;have HLT:=ak hlt
   by_cases hq:rd l0 (v:Int)<0∨rd l0 (v:Int)>(v:Int)
   ·rw [if_pos hq] at h_;simp only [impl_GrownTree.r,Option.some.injEq,Prod.mk.injEq] at h_;obtain ⟨rfl,rfl,rfl⟩:=h_;have hcz:wr.cell? ⟨b2,0,none⟩=some (.slice none 0 0):=(blk_cell HK2.out 0).trans rfl;have hfz:=blk_frozen HK2.out 0;clear HR HF hlt
    by_cases hq0:rd l0 (v:Int)<0
    ·clear hq;go_wp2
     refine bodyPost_ret (results_ctt rfl _ _ b2 27 #[.slice none 0 0] (0,0) _ rfl (blk_put (cs:=#[.slice none 0 0]) HK2.out 0 _ rfl) Tryz.underlying27 rfl kr) rfl ?_
     exact ⟨_,_,rfl,Kd.R_nil _ _ _ _ _,Kd.R_nil _ _ _ _ _,below_set HB.out GE2.out⟩
    have hq1:rd l0 (v:Int)>(v:Int):=hq.resolve_left hq0;clear hq;go_wp2
    refine bodyPost_ret (results_ctt rfl _ _ b2 27 #[.slice none 0 0] (0,0) _ rfl (blk_put (cs:=#[.slice none 0 0]) HK2.out 0 _ rfl) Tryz.underlying27 rfl kr) rfl ?_
    exact ⟨_,_,rfl,Kd.R_nil _ _ _ _ _,Kd.R_nil _ _ _ _ _,below_set HB.out GE2.out⟩
   rw [if_neg hq] at h_;have hq0:¬ rd l0 (v:Int)<0:=fun h=>hq (.inl h)
   have hq1:¬ rd l0 (v:Int)>(v:Int):=fun h=>hq (.inr h)
   have hn0:0≤rd l0 (v:Int):=by omega
   have hn1:rd l0 (v:Int)<(K.length:Int):=by have:=HKL.out;omega
   obtain ⟨g,cap,e_,hgb,_⟩:=Kd.S_form HS.out (by have:=HKL.out;omega);injection e_ with e1 _ e3
   subst e1;subst e3;have HNX:=ak h_;have HW1:=ak (show wrap64 ((v:Int)+1)=((v+1:Nat):Int) by have:=HL0.out;rw [Gw.wrap_small (by omega) (by omega)];omega);have GEG:=ak hgb;clear h_ hgb HR HF hlt hq;go_wp2;clear hcell;have n0_:=ak (Kd.S_drew HS.out);have n1_:=ak (blk_drew HK5.out);have n2_:=ak (blk_drew HK2.out);have n3_:=ak (below_drew1 HB.out);clear HS HK5 HK2 HB;have HS:=n0_;have HK5:=n1_;have HK2:=n2_;have HB:=n3_;clear n0_ n1_ n2_ n3_;have HNG:=ak (And.intro (Kd.S_ne HS.out HK5.out dc) (Kd.S_ne HS.out HK2.out dc));obtain ⟨Aq,cq,oki,hkc,hRQ,hokn,hpush⟩:=impl_GrownTree.kpush HS.out hn0 hn1;obtain ⟨xs,hxs⟩:∃ xs,K.getD (rd l0 (v:Int)).toNat []=xs:=⟨_,rfl⟩;have h1_:=HKX.out (rd l0 (v:Int)).toNat;have h2_:=HNX.out;rw [hxs] at hkc hRQ h1_ h2_;simp only [hxs] at hpush;clear HNX;have HNX:=ak h2_;have HLX:=ak h1_;clear h1_ h2_ hxs;have HRQ:=ak hRQ;have HPUSH:=ak hpush;have HLEN:=ak (show (xs.length+1)*8≤140737488355328 by have h1_:=HLX.out;have h2_:=HL0.out;have h3_:=HLT.out;omega);clear hRQ hpush hokn HS
   refine start_ (n:=12) (S:=fun w'=>w'.cell? ⟨b5,0,none⟩=some (.slice (some ⟨g,0,none⟩) K.length ck2)∧w'.cell? ⟨g,(rd l0 (v:Int)).toNat,none⟩=some (.slice Aq xs.length cq)) (ds:=[11]) #[false,false,false,false,false,false,false,false,false,false,false,false] kr rfl rfl ⟨((blk_cell HK5.out 0).trans rfl:_=some (Value.slice (some ⟨g,0,none⟩) K.length ck2)),hkc⟩ (fun hHeld=>?_)
   generalize wr.drew=w5 at HK5 HK2 HB HRQ HPUSH hHeld ⊢;clear hkc
   refine pure_ (i:=1) (N:=some 33) (v:=?_) (a':=?_) #[false,true,false,false,false,false,false,false,false,false,false,false] rfl rfl kr (fun _ _ _ h=>h) (Or.inl ⟨by rfl,?_⟩) ?_ ?_
   rotate_left
   ·intro w'
    go_simp
    with_reducible rfl
   rotate_left
   ·simp only [Act.put,sIB,sc0,scs,i64_w,i32_w]
    rfl
   refine pure_ (i:=3) (N:=some 35) (v:=?_) (a':=?_) #[false,true,false,true,false,false,false,false,false,false,false,false] rfl rfl kr (fun _ _ _ h=>h) (Or.inl ⟨by rfl,?_⟩) ?_ ?_
   rotate_left
   ·intro w'
    go_simp
    with_reducible rfl
   rotate_left
   ·simp only [Act.put,sIB,sc0,scs,i64_w,i32_w]
    rfl
   refine pure_ (i:=6) (N:=some 38) (v:=?_) (a':=?_) #[false,true,false,true,false,false,true,false,false,false,false,false] rfl rfl kr (fun _ _ _ h=>h) (Or.inl ⟨by rfl,?_⟩) ?_ ?_
   rotate_left
   ·intro w'
    go_simp
    with_reducible rfl
   rotate_left
   ·simp only [Act.put,sIB,sc0,scs,i64_w,i32_w]
    rfl
   refine pure_ (i:=7) (N:=some 39) (v:=?_) (a':=?_) #[false,true,false,true,false,false,true,true,false,false,false,false] rfl rfl kr (fun _ _ _ h=>h) (Or.inl ⟨by rfl,?_⟩) ?_ ?_
   rotate_left
   ·intro w'
    go_simp
    with_reducible rfl
   rotate_left
   ·simp only [Act.put,sIB,sc0,scs,i64_w,i32_w]
    rfl
   refine take_ (i:=0) (N:=some 32) (v:=?_) (a':=?_) #[true,true,false,true,false,false,true,true,false,false,false,false] rfl rfl kr (fun _ _ _ h=>h) (Or.inl ⟨by rfl,?_⟩) hHeld ?_ ?_
   rotate_left
   ·rintro w' ⟨s0,s1⟩
    go_simp
    with_reducible rfl
   rotate_left
   ·simp only [Act.put,sIB,sc0,scs,i64_w,i32_w]
    rfl
   refine take_ (i:=2) (N:=some 34) (v:=?_) (a':=?_) #[true,true,true,true,false,false,true,true,false,false,false,false] rfl rfl kr (fun _ _ _ h=>h) (Or.inl ⟨by rfl,?_⟩) hHeld ?_ ?_
   rotate_left
   ·rintro w' ⟨s0,s1⟩
    go_simp
    with_reducible rfl
   rotate_left
   ·simp only [Act.put,sIB,sc0,scs,i64_w,i32_w]
    rfl
   refine pure_ (i:=4) (N:=some 36) (v:=?_) (a':=?_) #[true,true,true,true,true,false,true,true,false,false,false,false] rfl rfl kr (fun _ _ _ h=>h) (Or.inl ⟨by rfl,?_⟩) ?_ ?_
   rotate_left
   ·intro w'
    go_simp
    with_reducible rfl
   rotate_left
   ·simp only [Act.put,sIB,sc0,scs,i64_w,i32_w]
    rfl
   refine take_ (i:=5) (N:=some 37) (v:=?_) (a':=?_) (tf 8 4) rfl rfl kr (fun _ _ _ h=>h) (Or.inl ⟨by rfl,?_⟩) hHeld ?_ ?_
   rotate_left
   ·rintro w' ⟨s0,s1⟩
    go_simp
    with_reducible rfl
   rotate_left
   ·simp only [Act.put,sIB,sc0,scs,i64_w,i32_w]
    rfl
   refine one_ (i:=8) (N:=some 40) (tf 9 3) rfl rfl kr dc (fun K_ hK=>?_)
   refine event_step (v:=.slice (some ⟨w5.heap.size,0,none⟩) 1 1) (w1:=w5.alloc (.cells [.int .i64 (wrap64 ((v:Int)+1))].toArray 2)) (by rfl) (by go_simp) ?_
   refine hK.out _ _ ⟨pw_cell_below (below_alloc (Below.refl _ w5) _) hHeld.1,pw_cell_below (below_alloc (Below.refl _ w5) _) hHeld.2⟩ (fun hHeld2=>?_)
   clear hK
   refine norm_ (a':=?_) ?_ ?_
   rotate_left
   ·show Act.put _ (some 40) _=_;simp only [Act.put,sIB,sc0,scs,i64_w,i32_w]
    rfl
   refine one_ (i:=9) (N:=some 41) (tf 10 2) rfl rfl kr dc (fun K_ hK=>?_)
   refine Kd.R_append_step (Kd.int .i64) (w0:=w5) w.heap.size (by rfl) (.tmp 37) (.tmp 40) 24 2 (.int .i64 0) 8 rfl Tryz.underlying24 Gw.gt_info rfl dc (by omega) (.slice Aq xs.length cq) xs (wrap64 ((v:Int)+1)) [.int .i64 (wrap64 ((v:Int)+1))] (fun k_=>oki k_∨w5.heap.size≤k_) (fun _=>False) rfl rfl rfl (fun _ hk=>hk.elim) (fun _ hk=>.inr hk) (Kd.R_mono HRQ.out (fun _ hk=>.inl hk)) (Below.refl _ _) (below_size HB.out) (by have h_:=HLEN.out;omega) ?_
   intro v1 w6 ho hb hg hat
   clear hat hb;obtain ⟨A2,cc2,e_⟩:=Kd.R_slice ho;subst e_;obtain ⟨hp1,hp2,hp3⟩:=HPUSH.out w6 A2 cc2 _ ho hg;have HK6:=ak (blk_grown HK5.out hg (Kd.R_ne HRQ.out HK5.out dc));have ac:=ak (blk_grown HK2.out hg (Kd.R_ne HRQ.out HK2.out dc));have HB6:=ak (HB.out.grown hg (below_size HB.out) (fun k_ hk_=>Kd.R_base HRQ.out k_ hk_));have HS7:=ak hp3;have HP:=ak hp2
   refine hK.out _ _ ⟨(blk_cell HK6.out 0).trans rfl,hp1⟩ (fun hHeld=>?_)
   clear hK ho hg hp1 hp2 hp3 HPUSH HRQ HK5 HK2 HB
   refine norm_ (a':=?_) ?_ ?_
   rotate_left
   ·show Act.put _ (some 41) _=_;simp only [Act.put,sIB,sc0,scs,i64_w,i32_w]
    rfl
   refine pure_ (i:=10) (N:=some 42) (v:=?_) (a':=?_) (tf 11 1) rfl rfl kr (fun _ _ _ h=>h) (Or.inl ⟨by rfl,?_⟩) ?_ ?_
   rotate_left
   ·intro w'
    go_simp
    with_reducible rfl
   rotate_left
   ·simp only [Act.put,sIB,sc0,scs,i64_w,i32_w]
    rfl
   refine last_ (i:=11) (N:=none) #[true,true,true,true,true,true,true,true,true,true,true,true] rfl rfl kr dc (fun K_ hK=>?_)
   have hs0:=hHeld.2;have hf0:=HP.out
   refine skip_ (w1:=w6.setCell ⟨g,(rd l0 (v:Int)).toNat,none⟩ (.slice A2 (xs++[wrap64 ((v:Int)+1)]).length cc2)) (by rfl) rfl (by go_simp) ?_
   clear hs0 hf0 hHeld
   refine hK.out _ _ ?_
   clear hK
   refine done_ kr ?_
   rw [HW1.out] at HS7;have hn5:b5≠g:=by have h_:=HNG.out.1;simpa [Value.ownBlock] using h_
   have hn2:b2≠g:=by have h_:=HNG.out.2;simpa [Value.ownBlock] using h_
   have HK7:=ak ((Below.heap_setCell w6 ⟨g,(rd l0 (v:Int)).toNat,none⟩ (.slice A2 (xs++[((v+1:Nat):Int)]).length cc2) b5 hn5).trans HK6.out);have aa:=ak ((Below.heap_setCell w6 ⟨g,(rd l0 (v:Int)).toNat,none⟩ (.slice A2 (xs++[((v+1:Nat):Int)]).length cc2) b2 hn2).trans ac.out);have HB7:=ak (HB6.out.setCell (p:=⟨g,(rd l0 (v:Int)).toNat,none⟩) GEG.out (.slice A2 (xs++[((v+1:Nat):Int)]).length cc2));clear HK6 ac HB6 hn5 hn2 HP;rw [HW1.out];generalize w6.setCell ⟨g,(rd l0 (v:Int)).toNat,none⟩ (Value.slice A2 (xs++[((v+1:Nat):Int)]).length cc2)=w7 at HS7 HK7 aa HB7 ⊢;generalize (xs++[((v+1:Nat):Int)]).length=nX;have hz7:w7.cell? ⟨b5,0,none⟩=some (.slice (some ⟨g,0,none⟩) K.length ck2):=(blk_cell HK7.out 0).trans rfl;have HLK:=ak (show ((K.set (rd l0 (v:Int)).toNat (xs++[((v+1:Nat):Int)])).length+1)*24≤140737488355328 by rw [List.length_set];have h1_:=HKL.out;have h2_:=HL0.out;have h3_:=HLT.out;omega)
   go_wp2_with ((with_reducible refine gate_builtin (b:=.append) (xs:=#[.tmp 43,.tmp 44]) rfl ?_);at_builtin;refine Kd.S_append (Kd.slice 2 (Kd.int .i64)) (w0:=w7) w.heap.size rfl (.tmp 43) (.tmp 44) 57 24 (.slice none 0 0) 24 rfl Tryz.underlying57 impl_GrownTree.info22 rfl dc (by omega) (.slice (some ⟨g,0,none⟩) K.length ck2) (K.set (rd l0 (v:Int)).toNat (xs++[((v+1:Nat):Int)])) ([]:List Int) [.slice none 0 0] (fun _=>True) (fun _=>False) rfl rfl ⟨_,rfl,Kd.R_nil _ _ _ _ _⟩ (fun _ hk=>hk.elim) (fun _ _=>trivial) (Kd.S_mono HS7.out (fun _ _=>⟨trivial,fun hf=>hf⟩)) (Below.refl _ _) (below_size HB7.out) HLK.out ?_;intro v9 w8 ho hb hg hat;clear hat hb;obtain ⟨A9,c9,e_⟩:=Kd.S_slice ho;obtain ⟨nn,hnn⟩:∃ nn,(K.set (rd l0 (v:Int)).toNat (xs++[((v+1:Nat):Int)])++[[]]).length=nn:=⟨_,rfl⟩;rw [hnn] at e_;subst e_;have HNN:=ak hnn;have HS9:=ak ho;have HK9:=ak (blk_grown HK7.out hg HNG.out.1);have ae:=ak (blk_grown aa.out hg HNG.out.2);have HB9:=ak (HB7.out.grown hg (below_size HB7.out) (fun k_ hk_=>Kd.S_base HS7.out k_ hk_));clear HK7 aa HB7 HS7 ho hg hnn hz7;have hz9:w8.cell? ⟨b5,0,none⟩=some (.slice (some ⟨g,0,none⟩) K.length ck2):=(blk_cell HK9.out 0).trans rfl;have hf9:=blk_frozen HK9.out 0)
   go_roundw
   case measure =>
    have h_:=HLT.out
    first|(rw [HW1.out];simp only [intOf,Int.toNat_natCast];exact Nat.sub_lt_sub_left h_ (Nat.lt_succ_self v))|(simp only [intOf,Int.toNat_natCast];exact Nat.sub_lt_sub_left h_ (Nat.lt_succ_self v))
   case rel =>
    refine ⟨v+1,K.set (rd l0 (v:Int)).toNat (xs++[((v+1:Nat):Int)])++[[]],A9,c9,by rw [HW1.out],⟨HLT.out⟩,HNX,⟨by rw [List.length_append,List.length_set,HKL.out];rfl⟩,⟨impl_GrownTree.kbound HKX.out HLX.out⟩,⟨?_⟩,⟨?_⟩,⟨?_⟩,⟨?_⟩⟩
    ·rw [HNN.out];exact Kd.S_set HS9.out HK9.out dc 0 _
    ·rw [HNN.out];exact (blk_set HK9.out 0 _).trans rfl
    ·exact (Below.heap_setCell w8 ⟨b5,0,none⟩ _ b2 (blk_ne ae.out HK9.out dc)).trans ae.out
    ·exact HB9.out.setCell (p:=⟨b5,0,none⟩) GE5.out _
  have h_:=HR.out;rw [List.drop_eq_nil_of_le (by omega),impl_GrownTree.kf,impl_GrownTree.r] at h_;obtain ⟨⟨T,G⟩,hgw,h_⟩:=Option.bind_eq_some_iff.mp h_;simp only [Option.some.injEq,Prod.mk.injEq] at h_;obtain ⟨rfl,rfl,rfl⟩:=h_;have hl:¬ ((v:Nat):Int)<((l0.length:Nat):Int):=by omega
  have HGW:=ak hgw;clear hgw HR HF hlt;go_wp2;have n0_:=ak (Kd.S_drew HS.out);have n1_:=ak (blk_drew HK5.out);have n2_:=ak (blk_drew HK2.out);have n3_:=ak (below_drew1 HB.out);clear HS HK5 HK2 HB;have HS:=n0_;have HK5:=n1_;have HK2:=n2_;have HB:=n3_;clear n0_ n1_ n2_ n3_
  refine start_ (n:=8) (S:=fun w'=>w'.cell? ⟨b5,0,none⟩=some (.slice Ak2 K.length ck2)) (ds:=[7]) #[false,false,false,false,false,false,false,false] kr rfl rfl ((blk_cell HK5.out 0).trans rfl) (fun hHeld=>?_)
  generalize wr.drew=wa at HS HK5 HK2 HB hHeld ⊢;have HBW:=ak (Below.refl wa.heap.size wa)
  refine pure_ (i:=0) (N:=some 47) (v:=?_) (a':=?_) #[true,false,false,false,false,false,false,false] rfl rfl kr (fun _ _ _ h=>h) (Or.inl ⟨by rfl,?_⟩) ?_ ?_
  rotate_left
  ·intro w'
   go_simp
   with_reducible rfl
  rotate_left
  ·simp only [Act.put,sIB,sc0,scs,i64_w,i32_w]
   rfl
  refine take_ (i:=1) (N:=some 48) (v:=?_) (a':=?_) #[true,true,false,false,false,false,false,false] rfl rfl kr (fun _ _ _ h=>h) (Or.inl ⟨by rfl,?_⟩) hHeld ?_ ?_
  rotate_left
  ·rintro w' s0
   go_simp
   with_reducible rfl
  rotate_left
  ·simp only [Act.put,sIB,sc0,scs,i64_w,i32_w]
   rfl
  refine pure_ (i:=2) (N:=some 49) (v:=?_) (a':=?_) #[true,true,true,false,false,false,false,false] rfl rfl kr (fun _ _ _ h=>h) (Or.inl ⟨by rfl,?_⟩) ?_ ?_
  rotate_left
  ·intro w'
   go_simp
   with_reducible rfl
  rotate_left
  ·simp only [Act.put,sIB,sc0,scs,i64_w,i32_w]
   rfl
  refine join_ (σ:=Option Addr × Nat × Nat × Nat) 1 #[true,true,true,true,true,true,true,false] (fun s_=>[(50,.slice s_.1 K.length s_.2.1),(8,.pointer (some ⟨s_.2.2.1,0,none⟩)),(9,.pointer (some ⟨s_.2.2.2,0,none⟩))]) (fun s_ w'=>w'.cell? ⟨b5,0,none⟩=some (.slice Ak2 K.length ck2)∧Below wa.heap.size wa w'∧Kd.R (Kd.int .i64) 2 w' w.heap.size (fun k_=>wa.heap.size≤k_) (.slice s_.1 K.length s_.2.1) (List.replicate K.length 0)∧w'.heap[s_.2.2.1]?=some (.cells #[.slice none 0 0] 27 (0,0))∧w'.heap[s_.2.2.2]?=some (.cells #[.slice none 0 0] 24 (0,0))∧s_.2.2.1≠s_.2.2.2∧wa.heap.size≤s_.2.2.1∧wa.heap.size≤s_.2.2.2) ?_ ?_
  rotate_left
  ·intro hCont
   refine three_ (i:=3) (j:=4) (k:=5) (Ni:=some 50) (Nj:=some 8) (Nk:=some 9) #[true,true,true,true,false,false,false,false] #[true,true,true,false,true,false,false,false] #[true,true,true,false,false,true,false,false] rfl rfl rfl rfl rfl rfl kr dc dc dc (fun K_ hK=>?_) (fun K_ hK=>?_) (fun K_ hK=>?_)
   ·skip
    refine Kd.R_make_step (Kd.int .i64) _ 2 (by rfl) (N:=50) rfl 24 _ _ rfl (K.length:Int) rfl rfl Tryz.underlying24 (.int .i64 0) 8 Gw.gt_info rfl dc (by omega) 0 (ok:=fun _=>True) (okp:=fun _=>True) rfl (fun _ hk=>hk) trivial (Int.natCast_nonneg _) q2_1 (Below.refl _ _) (Nat.le_refl _) ?_
    intro vr wb ho hb hg_ hnew_
    clear hg_ hnew_;rw [Int.toNat_natCast] at ho;obtain ⟨Ag,cg,e_⟩:=Kd.R_slice ho;rw [List.length_replicate] at e_;subst e_;have HM:=ak (Kd.R_lower (Kd.R_mono (Kd.R_bound ho) (fun k_ hk_=>Nat.le_trans (below_size HBW.out) hk_.2.1)) (Nat.le_trans (below_size HB.out) (below_size HBW.out)));clear ho;have n_:=ak (below_step HBW.out hb);clear HBW hb;have HBW:=n_;clear n_
    refine hK.out _ _ ((blk_cell (blk_below HK5.out HBW.out) 0).trans rfl) (fun hHeld=>?_)
    clear hK
    refine norm_ (a':=?_) ?_ ?_
    rotate_left
    ·show Act.put _ (some 50) _=_;simp only [Act.put,sIB,sc0,scs,i64_w,i32_w]
     rfl
    refine two_ (i:=4) (j:=5) (Ni:=some 8) (Nj:=some 9) #[true,true,true,true,true,false,false,false] #[true,true,true,true,false,true,false,false] rfl rfl rfl rfl kr dc dc (fun K_ hK=>?_) (fun K_ hK=>?_)
    ·skip
     refine box_step ?hg (N:=8) ?hd (cs:=#[.slice none 0 0]) (t:=27) ?hr ?_;(case hd=>rfl);(case hg=>rfl);(case hr=>exact gs)
     intro b8 hgo wc hbox hb
     have Bb8:=ak hbox;have Gb8:=ak (q2_2:wa.heap.size≤b8);clear hbox hgo;have n_:=ak (Kd.R_below HM.out hb);clear HM;have HM:=n_;clear n_;have n_:=ak (below_step HBW.out hb);clear HBW hb;have HBW:=n_;clear n_
     refine hK.out _ _ ((blk_cell (blk_below HK5.out HBW.out) 0).trans rfl) (fun hHeld=>?_)
     clear hK
     refine norm_ (a':=?_) ?_ ?_
     rotate_left
     ·show Act.put _ (some 8) _=_;simp only [Act.put,sIB,sc0,scs,i64_w,i32_w]
      rfl
     refine one_ (i:=5) (N:=some 9) #[true,true,true,true,true,true,false,false] rfl rfl kr dc (fun K_ hK=>?_)
     refine box_step ?hg (N:=9) ?hd (cs:=#[.slice none 0 0]) (t:=24) ?hr ?_;(case hd=>rfl);(case hg=>rfl);(case hr=>exact gs)
     intro b9 hgo wd hbox hb
     have Bb9:=ak hbox;have Gb9:=ak (q2_2:wa.heap.size≤b9);have hne_:b9≠b8:=by have h_:=blk_lt Bb8.out;omega
     have NE:=ak (show b8≠b9 from fun e=>hne_ e.symm);clear hne_ hbox hgo;have n_:=ak (Kd.R_below HM.out hb);clear HM;have HM:=n_;clear n_;have n_:=ak (blk_below Bb8.out hb);clear Bb8;have Bb8:=n_;clear n_;have n_:=ak (below_step HBW.out hb);clear HBW hb;have HBW:=n_;clear n_
     refine hK.out _ _ ((blk_cell (blk_below HK5.out HBW.out) 0).trans rfl) (fun hHeld=>?_)
     clear hK
     refine norm_ (a':=?_) ?_ ?_
     rotate_left
     ·show Act.put _ (some 9) _=_;simp only [Act.put,sIB,sc0,scs,i64_w,i32_w]
      rfl
     refine one_ (i:=6) (N:=none) #[true,true,true,true,true,true,true,false] rfl rfl kr dc (fun K_ hK=>?_)
     have hz_:=(blk_cell Bb8.out 0).trans (rfl:_=some (Value.slice none 0 0));have hf_:=blk_frozen Bb8.out 0
     refine skip_ (w1:=wd.setCell ⟨b8,0,none⟩ (.slice none 0 0)) (by rfl) rfl (by go_simp) ?_
     clear hz_ hf_;have n_:=ak (Kd.R_set HM.out Bb8.out dc 0 (.slice none 0 0));clear HM;have HM:=n_;clear n_;have n0_:=ak ((Below.heap_setCell wd ⟨b8,0,none⟩ (.slice none 0 0) b9 (fun e=>NE.out e.symm)).trans Bb9.out);have n1_:=ak ((blk_set Bb8.out 0 (.slice none 0 0)).trans (rfl:_=some (Obj.cells #[Value.slice none 0 0] 27 (0,0))));have n2_:=ak (HBW.out.setCell (p:=⟨b8,0,none⟩) Gb8.out (.slice none 0 0));clear Bb9 Bb8 HBW;have Bb9:=n0_;have Bb8:=n1_;have HBW:=n2_;clear n0_ n1_ n2_;generalize wd.setCell ⟨b8,0,none⟩ (.slice none 0 0)=we at Bb8 Bb9 HBW HM ⊢
     refine hK.out _ _ ((blk_cell (blk_below HK5.out HBW.out) 0).trans rfl) (fun hHeld=>?_)
     clear hK
     exact norm_ q2_0 (hCont (Ag,cg,b8,b9) _ ⟨hHeld,HBW.out,HM.out,Bb8.out,Bb9.out,NE.out,Gb8.out,Gb9.out⟩)
    ·skip
     refine box_step ?hg (N:=9) ?hd (cs:=#[.slice none 0 0]) (t:=24) ?hr ?_;(case hd=>rfl);(case hg=>rfl);(case hr=>exact gs)
     intro b9 hgo wc hbox hb
     have Bb9:=ak hbox;have Gb9:=ak (q2_2:wa.heap.size≤b9);clear hbox hgo;have n_:=ak (Kd.R_below HM.out hb);clear HM;have HM:=n_;clear n_;have n_:=ak (below_step HBW.out hb);clear HBW hb;have HBW:=n_;clear n_
     refine hK.out _ _ ((blk_cell (blk_below HK5.out HBW.out) 0).trans rfl) (fun hHeld=>?_)
     clear hK
     refine norm_ (a':=?_) ?_ ?_
     rotate_left
     ·show Act.put _ (some 9) _=_;simp only [Act.put,sIB,sc0,scs,i64_w,i32_w]
      rfl
     refine one_ (i:=4) (N:=some 8) #[true,true,true,true,true,true,false,false] rfl rfl kr dc (fun K_ hK=>?_)
     refine box_step ?hg (N:=8) ?hd (cs:=#[.slice none 0 0]) (t:=27) ?hr ?_;(case hd=>rfl);(case hg=>rfl);(case hr=>exact gs)
     intro b8 hgo wd hbox hb
     have Bb8:=ak hbox;have Gb8:=ak (q2_2:wa.heap.size≤b8);have hne_:b8≠b9:=by have h_:=blk_lt Bb9.out;omega
     have NE:=ak (show b8≠b9 from hne_);clear hne_ hbox hgo;have n_:=ak (Kd.R_below HM.out hb);clear HM;have HM:=n_;clear n_;have n_:=ak (blk_below Bb9.out hb);clear Bb9;have Bb9:=n_;clear n_;have n_:=ak (below_step HBW.out hb);clear HBW hb;have HBW:=n_;clear n_
     refine hK.out _ _ ((blk_cell (blk_below HK5.out HBW.out) 0).trans rfl) (fun hHeld=>?_)
     clear hK
     refine norm_ (a':=?_) ?_ ?_
     rotate_left
     ·show Act.put _ (some 8) _=_;simp only [Act.put,sIB,sc0,scs,i64_w,i32_w]
      rfl
     refine one_ (i:=6) (N:=none) #[true,true,true,true,true,true,true,false] rfl rfl kr dc (fun K_ hK=>?_)
     have hz_:=(blk_cell Bb8.out 0).trans (rfl:_=some (Value.slice none 0 0));have hf_:=blk_frozen Bb8.out 0
     refine skip_ (w1:=wd.setCell ⟨b8,0,none⟩ (.slice none 0 0)) (by rfl) rfl (by go_simp) ?_
     clear hz_ hf_;have n_:=ak (Kd.R_set HM.out Bb8.out dc 0 (.slice none 0 0));clear HM;have HM:=n_;clear n_;have n0_:=ak ((Below.heap_setCell wd ⟨b8,0,none⟩ (.slice none 0 0) b9 (fun e=>NE.out e.symm)).trans Bb9.out);have n1_:=ak ((blk_set Bb8.out 0 (.slice none 0 0)).trans (rfl:_=some (Obj.cells #[Value.slice none 0 0] 27 (0,0))));have n2_:=ak (HBW.out.setCell (p:=⟨b8,0,none⟩) Gb8.out (.slice none 0 0));clear Bb9 Bb8 HBW;have Bb9:=n0_;have Bb8:=n1_;have HBW:=n2_;clear n0_ n1_ n2_;generalize wd.setCell ⟨b8,0,none⟩ (.slice none 0 0)=we at Bb8 Bb9 HBW HM ⊢
     refine hK.out _ _ ((blk_cell (blk_below HK5.out HBW.out) 0).trans rfl) (fun hHeld=>?_)
     clear hK
     exact norm_ q2_0 (hCont (Ag,cg,b8,b9) _ ⟨hHeld,HBW.out,HM.out,Bb8.out,Bb9.out,NE.out,Gb8.out,Gb9.out⟩)
   ·skip
    refine box_step ?hg (N:=8) ?hd (cs:=#[.slice none 0 0]) (t:=27) ?hr ?_;(case hd=>rfl);(case hg=>rfl);(case hr=>exact gs)
    intro b8 hgo wb hbox hb
    have Bb8:=ak hbox;have Gb8:=ak (q2_2:wa.heap.size≤b8);clear hbox hgo;have n_:=ak (below_step HBW.out hb);clear HBW hb;have HBW:=n_;clear n_
    refine hK.out _ _ ((blk_cell (blk_below HK5.out HBW.out) 0).trans rfl) (fun hHeld=>?_)
    clear hK
    refine norm_ (a':=?_) ?_ ?_
    rotate_left
    ·show Act.put _ (some 8) _=_;simp only [Act.put,sIB,sc0,scs,i64_w,i32_w]
     rfl
    refine two_ (i:=3) (j:=5) (Ni:=some 50) (Nj:=some 9) #[true,true,true,true,true,false,false,false] #[true,true,true,false,true,true,false,false] rfl rfl rfl rfl kr dc dc (fun K_ hK=>?_) (fun K_ hK=>?_)
    ·skip
     refine Kd.R_make_step (Kd.int .i64) _ 2 (by rfl) (N:=50) rfl 24 _ _ rfl (K.length:Int) rfl rfl Tryz.underlying24 (.int .i64 0) 8 Gw.gt_info rfl dc (by omega) 0 (ok:=fun _=>True) (okp:=fun _=>True) rfl (fun _ hk=>hk) trivial (Int.natCast_nonneg _) q2_1 (Below.refl _ _) (Nat.le_refl _) ?_
     intro vr wc ho hb hg_ hnew_
     clear hg_ hnew_;rw [Int.toNat_natCast] at ho;obtain ⟨Ag,cg,e_⟩:=Kd.R_slice ho;rw [List.length_replicate] at e_;subst e_;have HM:=ak (Kd.R_lower (Kd.R_mono (Kd.R_bound ho) (fun k_ hk_=>Nat.le_trans (below_size HBW.out) hk_.2.1)) (Nat.le_trans (below_size HB.out) (below_size HBW.out)));clear ho;have n_:=ak (blk_below Bb8.out hb);clear Bb8;have Bb8:=n_;clear n_;have n_:=ak (below_step HBW.out hb);clear HBW hb;have HBW:=n_;clear n_
     refine hK.out _ _ ((blk_cell (blk_below HK5.out HBW.out) 0).trans rfl) (fun hHeld=>?_)
     clear hK
     refine norm_ (a':=?_) ?_ ?_
     rotate_left
     ·show Act.put _ (some 50) _=_;simp only [Act.put,sIB,sc0,scs,i64_w,i32_w]
      rfl
     refine one_ (i:=5) (N:=some 9) #[true,true,true,true,true,true,false,false] rfl rfl kr dc (fun K_ hK=>?_)
     refine box_step ?hg (N:=9) ?hd (cs:=#[.slice none 0 0]) (t:=24) ?hr ?_;(case hd=>rfl);(case hg=>rfl);(case hr=>exact gs)
     intro b9 hgo wd hbox hb
     have Bb9:=ak hbox;have Gb9:=ak (q2_2:wa.heap.size≤b9);have hne_:b9≠b8:=by have h_:=blk_lt Bb8.out;omega
     have NE:=ak (show b8≠b9 from fun e=>hne_ e.symm);clear hne_ hbox hgo;have n_:=ak (blk_below Bb8.out hb);clear Bb8;have Bb8:=n_;clear n_;have n_:=ak (Kd.R_below HM.out hb);clear HM;have HM:=n_;clear n_;have n_:=ak (below_step HBW.out hb);clear HBW hb;have HBW:=n_;clear n_
     refine hK.out _ _ ((blk_cell (blk_below HK5.out HBW.out) 0).trans rfl) (fun hHeld=>?_)
     clear hK
     refine norm_ (a':=?_) ?_ ?_
     rotate_left
     ·show Act.put _ (some 9) _=_;simp only [Act.put,sIB,sc0,scs,i64_w,i32_w]
      rfl
     refine one_ (i:=6) (N:=none) #[true,true,true,true,true,true,true,false] rfl rfl kr dc (fun K_ hK=>?_)
     have hz_:=(blk_cell Bb8.out 0).trans (rfl:_=some (Value.slice none 0 0));have hf_:=blk_frozen Bb8.out 0
     refine skip_ (w1:=wd.setCell ⟨b8,0,none⟩ (.slice none 0 0)) (by rfl) rfl (by go_simp) ?_
     clear hz_ hf_;have n_:=ak (Kd.R_set HM.out Bb8.out dc 0 (.slice none 0 0));clear HM;have HM:=n_;clear n_;have n0_:=ak ((Below.heap_setCell wd ⟨b8,0,none⟩ (.slice none 0 0) b9 (fun e=>NE.out e.symm)).trans Bb9.out);have n1_:=ak ((blk_set Bb8.out 0 (.slice none 0 0)).trans (rfl:_=some (Obj.cells #[Value.slice none 0 0] 27 (0,0))));have n2_:=ak (HBW.out.setCell (p:=⟨b8,0,none⟩) Gb8.out (.slice none 0 0));clear Bb9 Bb8 HBW;have Bb9:=n0_;have Bb8:=n1_;have HBW:=n2_;clear n0_ n1_ n2_;generalize wd.setCell ⟨b8,0,none⟩ (.slice none 0 0)=we at Bb8 Bb9 HBW HM ⊢
     refine hK.out _ _ ((blk_cell (blk_below HK5.out HBW.out) 0).trans rfl) (fun hHeld=>?_)
     clear hK
     exact norm_ q2_0 (hCont (Ag,cg,b8,b9) _ ⟨hHeld,HBW.out,HM.out,Bb8.out,Bb9.out,NE.out,Gb8.out,Gb9.out⟩)
    ·skip
     refine box_step ?hg (N:=9) ?hd (cs:=#[.slice none 0 0]) (t:=24) ?hr ?_;(case hd=>rfl);(case hg=>rfl);(case hr=>exact gs)
     intro b9 hgo wc hbox hb
     have Bb9:=ak hbox;have Gb9:=ak (q2_2:wa.heap.size≤b9);have hne_:b9≠b8:=by have h_:=blk_lt Bb8.out;omega
     have NE:=ak (show b8≠b9 from fun e=>hne_ e.symm);clear hne_ hbox hgo;have n_:=ak (blk_below Bb8.out hb);clear Bb8;have Bb8:=n_;clear n_;have n_:=ak (below_step HBW.out hb);clear HBW hb;have HBW:=n_;clear n_
     refine hK.out _ _ ((blk_cell (blk_below HK5.out HBW.out) 0).trans rfl) (fun hHeld=>?_)
     clear hK
     refine norm_ (a':=?_) ?_ ?_
     rotate_left
     ·show Act.put _ (some 9) _=_;simp only [Act.put,sIB,sc0,scs,i64_w,i32_w]
      rfl
     refine two_ (i:=3) (j:=6) (Ni:=some 50) (Nj:=none) #[true,true,true,true,true,true,false,false] #[true,true,true,false,true,true,true,false] rfl rfl rfl rfl kr dc dc (fun K_ hK=>?_) (fun K_ hK=>?_)
     ·skip
      refine Kd.R_make_step (Kd.int .i64) _ 2 (by rfl) (N:=50) rfl 24 _ _ rfl (K.length:Int) rfl rfl Tryz.underlying24 (.int .i64 0) 8 Gw.gt_info rfl dc (by omega) 0 (ok:=fun _=>True) (okp:=fun _=>True) rfl (fun _ hk=>hk) trivial (Int.natCast_nonneg _) q2_1 (Below.refl _ _) (Nat.le_refl _) ?_
      intro vr wd ho hb hg_ hnew_
      clear hg_ hnew_;rw [Int.toNat_natCast] at ho;obtain ⟨Ag,cg,e_⟩:=Kd.R_slice ho;rw [List.length_replicate] at e_;subst e_;have HM:=ak (Kd.R_lower (Kd.R_mono (Kd.R_bound ho) (fun k_ hk_=>Nat.le_trans (below_size HBW.out) hk_.2.1)) (Nat.le_trans (below_size HB.out) (below_size HBW.out)));clear ho;have n_:=ak (blk_below Bb8.out hb);clear Bb8;have Bb8:=n_;clear n_;have n_:=ak (blk_below Bb9.out hb);clear Bb9;have Bb9:=n_;clear n_;have n_:=ak (below_step HBW.out hb);clear HBW hb;have HBW:=n_;clear n_
      refine hK.out _ _ ((blk_cell (blk_below HK5.out HBW.out) 0).trans rfl) (fun hHeld=>?_)
      clear hK
      refine norm_ (a':=?_) ?_ ?_
      rotate_left
      ·show Act.put _ (some 50) _=_;simp only [Act.put,sIB,sc0,scs,i64_w,i32_w]
       rfl
      refine one_ (i:=6) (N:=none) #[true,true,true,true,true,true,true,false] rfl rfl kr dc (fun K_ hK=>?_)
      have hz_:=(blk_cell Bb8.out 0).trans (rfl:_=some (Value.slice none 0 0));have hf_:=blk_frozen Bb8.out 0
      refine skip_ (w1:=wd.setCell ⟨b8,0,none⟩ (.slice none 0 0)) (by rfl) rfl (by go_simp) ?_
      clear hz_ hf_;have n_:=ak (Kd.R_set HM.out Bb8.out dc 0 (.slice none 0 0));clear HM;have HM:=n_;clear n_;have n0_:=ak ((Below.heap_setCell wd ⟨b8,0,none⟩ (.slice none 0 0) b9 (fun e=>NE.out e.symm)).trans Bb9.out);have n1_:=ak ((blk_set Bb8.out 0 (.slice none 0 0)).trans (rfl:_=some (Obj.cells #[Value.slice none 0 0] 27 (0,0))));have n2_:=ak (HBW.out.setCell (p:=⟨b8,0,none⟩) Gb8.out (.slice none 0 0));clear Bb9 Bb8 HBW;have Bb9:=n0_;have Bb8:=n1_;have HBW:=n2_;clear n0_ n1_ n2_;generalize wd.setCell ⟨b8,0,none⟩ (.slice none 0 0)=we at Bb8 Bb9 HBW HM ⊢
      refine hK.out _ _ ((blk_cell (blk_below HK5.out HBW.out) 0).trans rfl) (fun hHeld=>?_)
      clear hK
      exact norm_ q2_0 (hCont (Ag,cg,b8,b9) _ ⟨hHeld,HBW.out,HM.out,Bb8.out,Bb9.out,NE.out,Gb8.out,Gb9.out⟩)
     ·skip
      have hz_:=(blk_cell Bb8.out 0).trans (rfl:_=some (Value.slice none 0 0));have hf_:=blk_frozen Bb8.out 0
      refine skip_ (w1:=wc.setCell ⟨b8,0,none⟩ (.slice none 0 0)) (by rfl) rfl (by go_simp) ?_
      clear hz_ hf_;have n0_:=ak ((Below.heap_setCell wc ⟨b8,0,none⟩ (.slice none 0 0) b9 (fun e=>NE.out e.symm)).trans Bb9.out);have n1_:=ak ((blk_set Bb8.out 0 (.slice none 0 0)).trans (rfl:_=some (Obj.cells #[Value.slice none 0 0] 27 (0,0))));have n2_:=ak (HBW.out.setCell (p:=⟨b8,0,none⟩) Gb8.out (.slice none 0 0));clear Bb9 Bb8 HBW;have Bb9:=n0_;have Bb8:=n1_;have HBW:=n2_;clear n0_ n1_ n2_;generalize wc.setCell ⟨b8,0,none⟩ (.slice none 0 0)=wd at Bb8 Bb9 HBW ⊢
      refine hK.out _ _ ((blk_cell (blk_below HK5.out HBW.out) 0).trans rfl) (fun hHeld=>?_)
      clear hK
      refine one_ (i:=3) (N:=some 50) #[true,true,true,true,true,true,true,false] rfl rfl kr dc (fun K_ hK=>?_)
      refine Kd.R_make_step (Kd.int .i64) _ 2 (by rfl) (N:=50) rfl 24 _ _ rfl (K.length:Int) rfl rfl Tryz.underlying24 (.int .i64 0) 8 Gw.gt_info rfl dc (by omega) 0 (ok:=fun _=>True) (okp:=fun _=>True) rfl (fun _ hk=>hk) trivial (Int.natCast_nonneg _) q2_1 (Below.refl _ _) (Nat.le_refl _) ?_
      intro vr we ho hb hg_ hnew_
      clear hg_ hnew_;rw [Int.toNat_natCast] at ho;obtain ⟨Ag,cg,e_⟩:=Kd.R_slice ho;rw [List.length_replicate] at e_;subst e_;have HM:=ak (Kd.R_lower (Kd.R_mono (Kd.R_bound ho) (fun k_ hk_=>Nat.le_trans (below_size HBW.out) hk_.2.1)) (Nat.le_trans (below_size HB.out) (below_size HBW.out)));clear ho;have n_:=ak (blk_below Bb8.out hb);clear Bb8;have Bb8:=n_;clear n_;have n_:=ak (blk_below Bb9.out hb);clear Bb9;have Bb9:=n_;clear n_;have n_:=ak (below_step HBW.out hb);clear HBW hb;have HBW:=n_;clear n_
      refine hK.out _ _ ((blk_cell (blk_below HK5.out HBW.out) 0).trans rfl) (fun hHeld=>?_)
      clear hK
      refine norm_ (a':=?_) ?_ ?_
      rotate_left
      ·show Act.put _ (some 50) _=_;simp only [Act.put,sIB,sc0,scs,i64_w,i32_w]
       rfl
      exact norm_ q2_0 (hCont (Ag,cg,b8,b9) _ ⟨hHeld,HBW.out,HM.out,Bb8.out,Bb9.out,NE.out,Gb8.out,Gb9.out⟩)
   ·skip
    refine box_step ?hg (N:=9) ?hd (cs:=#[.slice none 0 0]) (t:=24) ?hr ?_;(case hd=>rfl);(case hg=>rfl);(case hr=>exact gs)
    intro b9 hgo wb hbox hb
    have Bb9:=ak hbox;have Gb9:=ak (q2_2:wa.heap.size≤b9);clear hbox hgo;have n_:=ak (below_step HBW.out hb);clear HBW hb;have HBW:=n_;clear n_
    refine hK.out _ _ ((blk_cell (blk_below HK5.out HBW.out) 0).trans rfl) (fun hHeld=>?_)
    clear hK
    refine norm_ (a':=?_) ?_ ?_
    rotate_left
    ·show Act.put _ (some 9) _=_;simp only [Act.put,sIB,sc0,scs,i64_w,i32_w]
     rfl
    refine two_ (i:=3) (j:=4) (Ni:=some 50) (Nj:=some 8) #[true,true,true,true,false,true,false,false] #[true,true,true,false,true,true,false,false] rfl rfl rfl rfl kr dc dc (fun K_ hK=>?_) (fun K_ hK=>?_)
    ·skip
     refine Kd.R_make_step (Kd.int .i64) _ 2 (by rfl) (N:=50) rfl 24 _ _ rfl (K.length:Int) rfl rfl Tryz.underlying24 (.int .i64 0) 8 Gw.gt_info rfl dc (by omega) 0 (ok:=fun _=>True) (okp:=fun _=>True) rfl (fun _ hk=>hk) trivial (Int.natCast_nonneg _) q2_1 (Below.refl _ _) (Nat.le_refl _) ?_
     intro vr wc ho hb hg_ hnew_
     clear hg_ hnew_;rw [Int.toNat_natCast] at ho;obtain ⟨Ag,cg,e_⟩:=Kd.R_slice ho;rw [List.length_replicate] at e_;subst e_;have HM:=ak (Kd.R_lower (Kd.R_mono (Kd.R_bound ho) (fun k_ hk_=>Nat.le_trans (below_size HBW.out) hk_.2.1)) (Nat.le_trans (below_size HB.out) (below_size HBW.out)));clear ho;have n_:=ak (blk_below Bb9.out hb);clear Bb9;have Bb9:=n_;clear n_;have n_:=ak (below_step HBW.out hb);clear HBW hb;have HBW:=n_;clear n_
     refine hK.out _ _ ((blk_cell (blk_below HK5.out HBW.out) 0).trans rfl) (fun hHeld=>?_)
     clear hK
     refine norm_ (a':=?_) ?_ ?_
     rotate_left
     ·show Act.put _ (some 50) _=_;simp only [Act.put,sIB,sc0,scs,i64_w,i32_w]
      rfl
     refine one_ (i:=4) (N:=some 8) #[true,true,true,true,true,true,false,false] rfl rfl kr dc (fun K_ hK=>?_)
     refine box_step ?hg (N:=8) ?hd (cs:=#[.slice none 0 0]) (t:=27) ?hr ?_;(case hd=>rfl);(case hg=>rfl);(case hr=>exact gs)
     intro b8 hgo wd hbox hb
     have Bb8:=ak hbox;have Gb8:=ak (q2_2:wa.heap.size≤b8);have hne_:b8≠b9:=by have h_:=blk_lt Bb9.out;omega
     have NE:=ak (show b8≠b9 from hne_);clear hne_ hbox hgo;have n_:=ak (blk_below Bb9.out hb);clear Bb9;have Bb9:=n_;clear n_;have n_:=ak (Kd.R_below HM.out hb);clear HM;have HM:=n_;clear n_;have n_:=ak (below_step HBW.out hb);clear HBW hb;have HBW:=n_;clear n_
     refine hK.out _ _ ((blk_cell (blk_below HK5.out HBW.out) 0).trans rfl) (fun hHeld=>?_)
     clear hK
     refine norm_ (a':=?_) ?_ ?_
     rotate_left
     ·show Act.put _ (some 8) _=_;simp only [Act.put,sIB,sc0,scs,i64_w,i32_w]
      rfl
     refine one_ (i:=6) (N:=none) #[true,true,true,true,true,true,true,false] rfl rfl kr dc (fun K_ hK=>?_)
     have hz_:=(blk_cell Bb8.out 0).trans (rfl:_=some (Value.slice none 0 0));have hf_:=blk_frozen Bb8.out 0
     refine skip_ (w1:=wd.setCell ⟨b8,0,none⟩ (.slice none 0 0)) (by rfl) rfl (by go_simp) ?_
     clear hz_ hf_;have n_:=ak (Kd.R_set HM.out Bb8.out dc 0 (.slice none 0 0));clear HM;have HM:=n_;clear n_;have n0_:=ak ((Below.heap_setCell wd ⟨b8,0,none⟩ (.slice none 0 0) b9 (fun e=>NE.out e.symm)).trans Bb9.out);have n1_:=ak ((blk_set Bb8.out 0 (.slice none 0 0)).trans (rfl:_=some (Obj.cells #[Value.slice none 0 0] 27 (0,0))));have n2_:=ak (HBW.out.setCell (p:=⟨b8,0,none⟩) Gb8.out (.slice none 0 0));clear Bb9 Bb8 HBW;have Bb9:=n0_;have Bb8:=n1_;have HBW:=n2_;clear n0_ n1_ n2_;generalize wd.setCell ⟨b8,0,none⟩ (.slice none 0 0)=we at Bb8 Bb9 HBW HM ⊢
     refine hK.out _ _ ((blk_cell (blk_below HK5.out HBW.out) 0).trans rfl) (fun hHeld=>?_)
     clear hK
     exact norm_ q2_0 (hCont (Ag,cg,b8,b9) _ ⟨hHeld,HBW.out,HM.out,Bb8.out,Bb9.out,NE.out,Gb8.out,Gb9.out⟩)
    ·skip
     refine box_step ?hg (N:=8) ?hd (cs:=#[.slice none 0 0]) (t:=27) ?hr ?_;(case hd=>rfl);(case hg=>rfl);(case hr=>exact gs)
     intro b8 hgo wc hbox hb
     have Bb8:=ak hbox;have Gb8:=ak (q2_2:wa.heap.size≤b8);have hne_:b8≠b9:=by have h_:=blk_lt Bb9.out;omega
     have NE:=ak (show b8≠b9 from hne_);clear hne_ hbox hgo;have n_:=ak (blk_below Bb9.out hb);clear Bb9;have Bb9:=n_;clear n_;have n_:=ak (below_step HBW.out hb);clear HBW hb;have HBW:=n_;clear n_
     refine hK.out _ _ ((blk_cell (blk_below HK5.out HBW.out) 0).trans rfl) (fun hHeld=>?_)
     clear hK
     refine norm_ (a':=?_) ?_ ?_
     rotate_left
     ·show Act.put _ (some 8) _=_;simp only [Act.put,sIB,sc0,scs,i64_w,i32_w]
      rfl
     refine two_ (i:=3) (j:=6) (Ni:=some 50) (Nj:=none) #[true,true,true,true,true,true,false,false] #[true,true,true,false,true,true,true,false] rfl rfl rfl rfl kr dc dc (fun K_ hK=>?_) (fun K_ hK=>?_)
     ·skip
      refine Kd.R_make_step (Kd.int .i64) _ 2 (by rfl) (N:=50) rfl 24 _ _ rfl (K.length:Int) rfl rfl Tryz.underlying24 (.int .i64 0) 8 Gw.gt_info rfl dc (by omega) 0 (ok:=fun _=>True) (okp:=fun _=>True) rfl (fun _ hk=>hk) trivial (Int.natCast_nonneg _) q2_1 (Below.refl _ _) (Nat.le_refl _) ?_
      intro vr wd ho hb hg_ hnew_
      clear hg_ hnew_;rw [Int.toNat_natCast] at ho;obtain ⟨Ag,cg,e_⟩:=Kd.R_slice ho;rw [List.length_replicate] at e_;subst e_;have HM:=ak (Kd.R_lower (Kd.R_mono (Kd.R_bound ho) (fun k_ hk_=>Nat.le_trans (below_size HBW.out) hk_.2.1)) (Nat.le_trans (below_size HB.out) (below_size HBW.out)));clear ho;have n_:=ak (blk_below Bb9.out hb);clear Bb9;have Bb9:=n_;clear n_;have n_:=ak (blk_below Bb8.out hb);clear Bb8;have Bb8:=n_;clear n_;have n_:=ak (below_step HBW.out hb);clear HBW hb;have HBW:=n_;clear n_
      refine hK.out _ _ ((blk_cell (blk_below HK5.out HBW.out) 0).trans rfl) (fun hHeld=>?_)
      clear hK
      refine norm_ (a':=?_) ?_ ?_
      rotate_left
      ·show Act.put _ (some 50) _=_;simp only [Act.put,sIB,sc0,scs,i64_w,i32_w]
       rfl
      refine one_ (i:=6) (N:=none) #[true,true,true,true,true,true,true,false] rfl rfl kr dc (fun K_ hK=>?_)
      have hz_:=(blk_cell Bb8.out 0).trans (rfl:_=some (Value.slice none 0 0));have hf_:=blk_frozen Bb8.out 0
      refine skip_ (w1:=wd.setCell ⟨b8,0,none⟩ (.slice none 0 0)) (by rfl) rfl (by go_simp) ?_
      clear hz_ hf_;have n_:=ak (Kd.R_set HM.out Bb8.out dc 0 (.slice none 0 0));clear HM;have HM:=n_;clear n_;have n0_:=ak ((Below.heap_setCell wd ⟨b8,0,none⟩ (.slice none 0 0) b9 (fun e=>NE.out e.symm)).trans Bb9.out);have n1_:=ak ((blk_set Bb8.out 0 (.slice none 0 0)).trans (rfl:_=some (Obj.cells #[Value.slice none 0 0] 27 (0,0))));have n2_:=ak (HBW.out.setCell (p:=⟨b8,0,none⟩) Gb8.out (.slice none 0 0));clear Bb9 Bb8 HBW;have Bb9:=n0_;have Bb8:=n1_;have HBW:=n2_;clear n0_ n1_ n2_;generalize wd.setCell ⟨b8,0,none⟩ (.slice none 0 0)=we at Bb8 Bb9 HBW HM ⊢
      refine hK.out _ _ ((blk_cell (blk_below HK5.out HBW.out) 0).trans rfl) (fun hHeld=>?_)
      clear hK
      exact norm_ q2_0 (hCont (Ag,cg,b8,b9) _ ⟨hHeld,HBW.out,HM.out,Bb8.out,Bb9.out,NE.out,Gb8.out,Gb9.out⟩)
     ·skip
      have hz_:=(blk_cell Bb8.out 0).trans (rfl:_=some (Value.slice none 0 0));have hf_:=blk_frozen Bb8.out 0
      refine skip_ (w1:=wc.setCell ⟨b8,0,none⟩ (.slice none 0 0)) (by rfl) rfl (by go_simp) ?_
      clear hz_ hf_;have n0_:=ak ((Below.heap_setCell wc ⟨b8,0,none⟩ (.slice none 0 0) b9 (fun e=>NE.out e.symm)).trans Bb9.out);have n1_:=ak ((blk_set Bb8.out 0 (.slice none 0 0)).trans (rfl:_=some (Obj.cells #[Value.slice none 0 0] 27 (0,0))));have n2_:=ak (HBW.out.setCell (p:=⟨b8,0,none⟩) Gb8.out (.slice none 0 0));clear Bb9 Bb8 HBW;have Bb9:=n0_;have Bb8:=n1_;have HBW:=n2_;clear n0_ n1_ n2_;generalize wc.setCell ⟨b8,0,none⟩ (.slice none 0 0)=wd at Bb8 Bb9 HBW ⊢
      refine hK.out _ _ ((blk_cell (blk_below HK5.out HBW.out) 0).trans rfl) (fun hHeld=>?_)
      clear hK
      refine one_ (i:=3) (N:=some 50) #[true,true,true,true,true,true,true,false] rfl rfl kr dc (fun K_ hK=>?_)
      refine Kd.R_make_step (Kd.int .i64) _ 2 (by rfl) (N:=50) rfl 24 _ _ rfl (K.length:Int) rfl rfl Tryz.underlying24 (.int .i64 0) 8 Gw.gt_info rfl dc (by omega) 0 (ok:=fun _=>True) (okp:=fun _=>True) rfl (fun _ hk=>hk) trivial (Int.natCast_nonneg _) q2_1 (Below.refl _ _) (Nat.le_refl _) ?_
      intro vr we ho hb hg_ hnew_
      clear hg_ hnew_;rw [Int.toNat_natCast] at ho;obtain ⟨Ag,cg,e_⟩:=Kd.R_slice ho;rw [List.length_replicate] at e_;subst e_;have HM:=ak (Kd.R_lower (Kd.R_mono (Kd.R_bound ho) (fun k_ hk_=>Nat.le_trans (below_size HBW.out) hk_.2.1)) (Nat.le_trans (below_size HB.out) (below_size HBW.out)));clear ho;have n_:=ak (blk_below Bb9.out hb);clear Bb9;have Bb9:=n_;clear n_;have n_:=ak (blk_below Bb8.out hb);clear Bb8;have Bb8:=n_;clear n_;have n_:=ak (below_step HBW.out hb);clear HBW hb;have HBW:=n_;clear n_
      refine hK.out _ _ ((blk_cell (blk_below HK5.out HBW.out) 0).trans rfl) (fun hHeld=>?_)
      clear hK
      refine norm_ (a':=?_) ?_ ?_
      rotate_left
      ·show Act.put _ (some 50) _=_;simp only [Act.put,sIB,sc0,scs,i64_w,i32_w]
       rfl
      exact norm_ q2_0 (hCont (Ag,cg,b8,b9) _ ⟨hHeld,HBW.out,HM.out,Bb8.out,Bb9.out,NE.out,Gb8.out,Gb9.out⟩)
  rintro ⟨Ag,cg,b8,b9⟩ wb ⟨hHeld,hBW,hM,h8,h9,hne,hg8,hg9⟩
  dsimp only at hM h8 h9 hne hg8 hg9
  refine norm_ (a':=?_) ?_ ?_
  rotate_left
  ·simp only [putAll,Act.put,List.setIfInBounds_toArray,List.set_cons_zero,List.set_cons_succ]
   rfl
  refine last_ (i:=7) (N:=none) #[true,true,true,true,true,true,true,true] rfl rfl kr dc (fun K_ hK=>?_)
  have hs0:=(blk_cell h9 0).trans (rfl:_=some (Value.slice none 0 0));have hf0:=blk_frozen h9 0
  refine skip_ (w1:=wb.setCell ⟨b9,0,none⟩ (.slice Ag K.length cg)) (by rfl) rfl (by go_simp) ?_
  clear hs0 hf0 hHeld
  refine hK.out _ _ ?_
  clear hK
  refine done_ kr ?_
  have H8:=ak ((Below.heap_setCell wb ⟨b9,0,none⟩ (.slice Ag K.length cg) b8 hne).trans h8);have H9:=ak ((blk_set h9 0 (.slice Ag K.length cg)).trans (rfl:_=some (Obj.cells #[Value.slice Ag K.length cg] 24 (0,0))));have HM:=ak (Kd.R_set hM h9 dc 0 (.slice Ag K.length cg));have HBW:=ak (hBW.setCell (p:=⟨b9,0,none⟩) hg9 (.slice Ag K.length cg));have HNE:=ak (show b8≠b9∧wa.heap.size≤b8∧wa.heap.size≤b9 from ⟨hne,hg8,hg9⟩);clear h8 h9 hM hBW hne hg8 hg9;generalize wb.setCell ⟨b9,0,none⟩ (Value.slice Ag K.length cg)=wc at H8 H9 HM HBW ⊢;have hz6:=(blk_cell (blk_new wc (.cells #[Value.nilFunc] 58 (0,0))) 0).trans (rfl:_=some Value.nilFunc);have hf6:=blk_frozen (blk_new wc (.cells #[Value.nilFunc] 58 (0,0))) 0;have hz7:=(blk_cell (blk_new wc (.cells #[Gw.TW b8 b9 b5 wc.heap.size] 58 (0,0))) 0).trans (rfl:_=some (Gw.TW b8 b9 b5 wc.heap.size))
  unfold Gw.TW at hz7
  have hKp:0<K.length:=by have h_:=HKL.out;omega
  obtain ⟨gG,bK,rfl,rfl,hGC,hGS⟩:=impl_GrownTree.start hKp HB.out HS.out HK5.out HBW.out H8.out H9.out HM.out HNE.out;have HGC:=ak hGC;have HGG:=ak (HM.out.1 gG (by simp [Value.ownBlock]));have HGS:=ak hGS;clear hGC hGS HM HS
  go_wp2_with ((with_reducible refine gate_dst (N:=53) rfl ?_);refine Gw.callG_ (some 53) rfl rfl 52 #[.int .i64 0,.pointer (some ⟨b8,0,none⟩),.pointer (some ⟨b9,0,none⟩),.pointer (some ⟨b5,0,none⟩),.pointer (some ⟨wc.heap.size,0,none⟩)] ?_ ?_;(next=>(have he:=enters_ Tryz.func52 kr rfl (#[.int .i64 0,.pointer (some ⟨b8,0,none⟩),.pointer (some ⟨b9,0,none⟩),.pointer (some ⟨b5,0,none⟩),.pointer (some ⟨wc.heap.size,0,none⟩)]) (wc.alloc (.cells #[Gw.TW b8 b9 b5 wc.heap.size] 58 (0,0)));unfold Gw.TW at he;unfold execOp;simp [Gw.TW,resolve,Deferred.ofValue,invoke,Act.eval,go_sem,he];done));refine (Gw.gt_walk _ _ _ _ _ _ _ _ _ _ _ _ HGC.out k 0 ([],List.replicate K.length 0) (T,G) _ HGW.out HGS.out).mono ?_;rintro e w9 ⟨rfl,hG⟩;refine ⟨_,rfl,?_⟩;have HG:=ak hG;clear hG hz6 hf6 hz7 HGS)
  obtain ⟨At,ct,hX⟩:=HG.out;have hW0:wa.heap.size≤wc.heap.size:=HBW.out.size;have h2lt:=blk_lt HK2.out;have hn28:b2≠b8:=by have h_:=HNE.out;omega
  have hn29:b2≠b9:=by have h_:=HNE.out;omega
  have hgl:=HGC.out.lG;have h9g:=HGC.out.ng;have H2:=ak (blk_drew (blk_kept (blk_alloc (blk_below HK2.out HBW.out) (.cells #[Gw.TW b8 b9 b5 wc.heap.size] 58 (0,0))) hX.kp (fun h=>h.elim hn28 (fun e=>by have h_:=HGG.out;omega))));have HX:=ak (Gw.GX.below hX (below_drew1 (Below.refl _ _)) (Nat.le_trans (below_size HB.out) (Nat.le_trans hW0 (by simp))));clear hX HG
  refine start_ (n:=5) (S:=fun w'=>w'.cell? ⟨b8,0,none⟩=some (.slice At T.length ct)∧w'.cell? ⟨b9,0,none⟩=some (.slice (some ⟨gG,0,none⟩) K.length cg)) (ds:=[]) #[false,false,false,false,false] kr rfl rfl (⟨(blk_cell HX.out.bx 0).trans rfl,(HGC.out.fix HX.out.kp).1⟩) (fun hHeld=>?_)
  generalize w9.drew=wz at HX H2 hHeld ⊢
  refine take_ (i:=0) (N:=some 54) (v:=?_) (a':=?_) #[true,false,false,false,false] rfl rfl kr (fun _ _ _ h=>h) (Or.inl ⟨by rfl,?_⟩) hHeld ?_ ?_
  rotate_left
  ·rintro w' ⟨s0,s1⟩
   go_simp
   with_reducible rfl
  rotate_left
  ·simp only [Act.put,sIB,sc0,scs,i64_w,i32_w]
   rfl
  refine take_ (i:=1) (N:=some 55) (v:=?_) (a':=?_) #[true,true,false,false,false] rfl rfl kr (fun _ _ _ h=>h) (Or.inl ⟨by rfl,?_⟩) hHeld ?_ ?_
  rotate_left
  ·rintro w' ⟨s0,s1⟩
   go_simp
   with_reducible rfl
  rotate_left
  ·simp only [Act.put,sIB,sc0,scs,i64_w,i32_w]
   rfl
  refine one_ (i:=2) (N:=none) #[true,true,true,false,false] rfl rfl kr dc (fun K_ hK=>?_)
  have hz_:=(blk_cell H2.out 0).trans (rfl:_=some (Value.slice none 0 0));have hf_:=blk_frozen H2.out 0
  refine skip_ (w1:=wz.setCell ⟨b2,0,none⟩ (.slice At T.length ct)) (by rfl) rfl (by go_simp) ?_
  clear hz_ hf_
  refine hK.out _ _ ⟨(blk_cell ((Below.heap_setCell wz ⟨b2,0,none⟩ (.slice At T.length ct) b8 (fun e=>hn28 e.symm)).trans HX.out.bx) 0).trans rfl,(blk_cell ((Below.heap_setCell wz ⟨b2,0,none⟩ (.slice At T.length ct) b9 (fun e=>hn29 e.symm)).trans (blk_kept HGC.out.hg HX.out.kp HGC.out.ng)) 0).trans rfl⟩ (fun hHeld=>?_)
  clear hK
  refine pure_ (i:=3) (N:=some 3) (v:=?_) (a':=?_) #[true,true,true,true,false] rfl rfl kr (fun _ _ _ h=>h) (Or.inl ⟨by rfl,?_⟩) ?_ ?_
  rotate_left
  ·intro w'
   go_simp
   with_reducible rfl
  rotate_left
  ·simp only [Act.put,sIB,sc0,scs,i64_w,i32_w]
   rfl
  refine pure_ (i:=4) (N:=some 4) (v:=?_) (a':=?_) #[true,true,true,true,true] rfl rfl kr (fun _ _ _ h=>h) (Or.inl ⟨by rfl,?_⟩) ?_ ?_
  rotate_left
  ·intro w'
   go_simp
   with_reducible rfl
  rotate_left
  ·simp only [Act.put,sIB,sc0,scs,i64_w,i32_w]
   rfl
  refine done_ kr ?_
  go_wp2
  refine bodyPost_ret (results_ctt rfl _ _ b2 27 #[.slice At T.length ct] (0,0) _ rfl (blk_put (cs:=#[.slice none 0 0]) H2.out 0 _ rfl) Tryz.underlying27 rfl kr) rfl ?_
  have hb0:w.heap.size≤(wc.alloc (.cells #[Gw.TW b8 b9 b5 wc.heap.size] 58 (0,0))).heap.size:=Nat.le_trans (below_size HB.out) (Nat.le_trans hW0 (by simp));have hlt2:b2<(wc.alloc (.cells #[Gw.TW b8 b9 b5 wc.heap.size] 58 (0,0))).heap.size:=Nat.lt_of_lt_of_le h2lt (Nat.le_trans hW0 (by simp))
  refine ⟨_,_,rfl,?_,?_,below_set (below_alloc (HB.out.trans (HBW.out.mono (below_size HB.out))) _ |>.trans HX.out.be) GE2.out⟩
  ·refine Kd.R_mono (Kd.R_lower (Kd.R_far (p:=⟨b2,0,none⟩) (Kd.R_bound HX.out.tr) (fun k_ hk_ e_=>by have h1_:=hk_.2.1;have h2_:k_=b2:=e_;omega) _) hb0) (fun k_ hk_ e_=>?_)
   have h1_:=hk_.2.1;have h2_:k_=gG:=by simpa [Value.ownBlock] using e_
   omega
  ·refine Kd.R_mono (Kd.R_far (p:=⟨b2,0,none⟩) HX.out.gr (fun k_ hk_ e_=>by have h2_:k_=b2:=e_;have h3_:=HGG.out;omega) _) (fun k_ hk_ e_=>?_)
   have h1_:=Kd.R_base HX.out.tr k_ e_.symm
   omega
end Go.Proofs.YtlppkilencpmeaaGreat.QFnGrowth
