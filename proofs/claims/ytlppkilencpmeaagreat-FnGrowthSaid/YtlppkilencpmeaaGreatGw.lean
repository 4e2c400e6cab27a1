import Derived.Test.YtlppkilencpmeaaGreatProg
import Derived.Below
import Derived.Deep.Draws
import Derived.Deep.AppendLies
import Derived.Maps.AppendAt
import Derived.OwnWalk
import Derived.Laws.BytesArg
import Derived.Laws.MakeOwn
import Derived.Laws.OwnMore
import Derived.Deep.OwnRows
import Derived.Tactics
import Derived.Lib.ConvBytes
import Derived.Laws.Slices
import Derived.WalkKit
import Derived.KernelRfl
import Derived.RowKit3
import Derived.Deep.LoopGhost
import Derived.Deep.QuietTactic
import Derived.BigQuiet
import Derived.WideLaws
import Derived.Deep.DeepCutAuto
import Derived.Deep.CutBlock
import Derived.Deep.RegionHeld3
import Derived.Laws.Rows
import Derived.Lib.AppendStr
import Derived.ArgAppend
import Derived.Laws.IdiomCopy
import Derived.OrdersHeld
import Derived.Laws.BitsLemmas
import Derived.RowKit
import Derived.Test.YtlppkilencpmeaaGreatWWords
import Derived.Test.YtlppkilencpmeaaGreatWLast
import Derived.Test.YtlppkilencpmeaaGreatWTab
import Derived.Test.YtlppkilencpmeaaGreatWFour
import Derived.Test.YtlppkilencpmeaaGreatWQPut
import Derived.Test.YtlppkilencpmeaaGreatWApart
import Derived.Test.YtlppkilencpmeaaGreatWArr
import Derived.Test.YtlppkilencpmeaaGreatWZeros
import Derived.Test.YtlppkilencpmeaaGreatWFoot
import Derived.Test.YtlppkilencpmeaaGreatWKept
import Derived.Test.YtlppkilencpmeaaGreatWShare
import Derived.Test.YtlppkilencpmeaaGreatWN
import Derived.Test.YtlppkilencpmeaaGreatWFootNe
import Derived.Test.YtlppkilencpmeaaGreatWAt
import Derived.Test.YtlppkilencpmeaaGreatWEqStruct
import Derived.Test.YtlppkilencpmeaaGreatWRepsOne
import Derived.Test.YtlppkilencpmeaaGreatWInv
import Derived.Test.YtlppkilencpmeaaGreatWInvWords
import Derived.Test.YtlppkilencpmeaaGreatWGuard
import Derived.Test.YtlppkilencpmeaaGreatWNEv
import Derived.Test.YtlppkilencpmeaaGreatWMore
import Derived.Test.YtlppkilencpmeaaGreatGl
namespace Go.Proofs.YtlppkilencpmeaaGreat.Gw
open Go.RowKit Go.Proofs.YtlppkilencpmeaaGreat Go.Proofs.YtlppkilencpmeaaGreat.Gl Go.Proofs.YtlppkilencpmeaaGreatW.PrintWords Go.Proofs.YtlppkilencpmeaaGreatW.PrintLast Go.Proofs.YtlppkilencpmeaaGreatW.PrintMore
attribute [local go_sem] max2_int min2_int max_two min_two max_three min_three max_four min_four
set_option linter.unusedVariables false
set_option linter.unusedSimpArgs false
section
variable {P:Program} {ops:Array Oper} {a:Act} {Q:Exit→Act→World→Prop} {w:World}
theorem callG_ {rest:List Oper} {oi:Oper} (N:Option Tmp) (hd:oi.dst=N) (hg:oi.guard=none) (f:FuncId) (args:Array Value) (hrun:(execOp a.eval oi).run P w=.ok (.enter f args) w)
    (h:Calls P f args w fun e w'=>∃ v,e=.returned v∧wpList P ops Q rest (a.put N v) w'):wpList P ops Q (oi :: rest) a w:=by
  refine wpList_plain hg fun K hK=>?_
  unfold Oper.wp
  rw [hrun,Oper.upon_enter]
  refine h.mono fun e w'' hh=>?_
  obtain ⟨v,rfl,hk⟩:=hh
  subst hd
  exact hK _ _ hk
end
theorem gt_info:(Tryz.prog.info? 2).map (fun i=>(i.zero,i.size,i.bytes))=some (some (.int .i64 0),1,8):=by kernel_rfl
theorem wrap_small {x:Int} (h0:-9223372036854775808≤x) (h1:x<9223372036854775808):wrap64 x=x:=by unfold wrap64;omega
def gl {σ:Type} (f:Int→σ→Option σ):List Int→σ→Option σ
  | [],s=>some s
  | c :: cs,s=>(f c s).bind fun s'=>gl f cs s'
def gw (K:List (List Int)):Nat→Int→List Int × List Int→Option (List Int × List Int)
  | 0,_,_=>none
  | m+1,l,st=>if 0≤l∧l<(K.length:Int)∧l<(st.2.length:Int)∧st.1.length≤1000∧(K.getD l.toNat []).length≤1000 then gl (gw K m) (K.getD l.toNat []) (st.1++[((K.getD l.toNat []).length:Int)],st.2.set l.toNat (st.1.length:Int)) else none
def TW (bt bg bk bw:Nat):Value:=.func (.func 52) #[] #[.pointer (some ⟨bt,0,none⟩),.pointer (some ⟨bg,0,none⟩),.pointer (some ⟨bk,0,none⟩),.pointer (some ⟨bw,0,none⟩)]
def GSet (bt gG:Nat) (k:Nat):Prop:=k=bt∨k=gG
structure GC (w0:World) (base bt bg bk bw gG cG N bK ck:Nat) (K:List (List Int)):Prop where
  hg:w0.heap[bg]?=some (.cells #[.slice (some ⟨gG,0,none⟩) N cG] 24 (0,0))
  hk:w0.heap[bk]?=some (.cells #[.slice (some ⟨bK,0,none⟩) K.length ck] 57 (0,0))
  hw:w0.heap[bw]?=some (.cells #[TW bt bg bk bw] 58 (0,0))
  ng:¬ GSet bt gG bg
  nk:¬ GSet bt gG bk
  nw:¬ GSet bt gG bw
  nK:¬ GSet bt gG bK
  nt:bt≠gG
  lt:bt<w0.heap.size
  lG:gG<w0.heap.size
  et:base≤bt
  eG:base≤gG
  kids:∀ W',Kept w0 W' (GSet bt gG)→Kd.C (Kd.slice 2 (Kd.int .i64)) W' (some ⟨bK,0,none⟩) K.length K
structure GX (w0:World) (base bt gG cG N:Nat) (w:World) (At:Option Addr) (ct:Nat) (T G:List Int):Prop where
  bx:w.heap[bt]?=some (.cells #[.slice At T.length ct] 27 (0,0))
  tr:Kd.R (Kd.int .i64) 2 w w0.heap.size (fun _=>True) (.slice At T.length ct) T
  kp:Kept w0 w (GSet bt gG)
  be:Below base w0 w
  gr:Kd.R (Kd.int .i64) 2 w base (fun k_=>k_=gG) (.slice (some ⟨gG,0,none⟩) N cG) G
  ln:G.length=N
def GS (w0:World) (base bt gG cG N:Nat) (w:World) (T G:List Int):Prop:=∃ At ct,GX w0 base bt gG cG N w At ct T G
section
variable {w0 w w1 w2 w4:World} {base bt bg bk bw gG cG N bK ck ct ct2:Nat} {K:List (List Int)} {At At2:Option Addr} {T G:List Int}
theorem GC.fix (hc:GC w0 base bt bg bk bw gG cG N bK ck K) (hk:Kept w0 w (GSet bt gG)):w.cell? ⟨bg,0,none⟩=some (Value.slice (some ⟨gG,0,none⟩) N cG)∧w.cell? ⟨bk,0,none⟩=some (Value.slice (some ⟨bK,0,none⟩) K.length ck)∧w.cell? ⟨bw,0,none⟩=some (TW bt bg bk bw) :=
  ⟨(blk_cell (blk_kept hc.hg hk hc.ng) 0).trans rfl,(blk_cell (blk_kept hc.hk hk hc.nk) 0).trans rfl,(blk_cell (blk_kept hc.hw hk hc.nw) 0).trans rfl⟩
theorem GC.kid (hc:GC w0 base bt bg bk bw gG cG N bK ck K) {l:Int} (h0:0≤l) (h1:l<(K.length:Int)):∃ (Ar:Option Addr) (cr:Nat),∀ W,Kept w0 W (GSet bt gG)→W.cell? ⟨bK,l.toNat,none⟩=some (Value.slice Ar (K.getD l.toNat []).length cr)∧Kd.C (Kd.int .i64) W Ar (K.getD l.toNat []).length (K.getD l.toNat []):=by
  have hr:∀ W,Kept w0 W (GSet bt gG)→∃ (Ar:Option Addr) (cr:Nat),W.cell? ⟨bK,l.toNat,none⟩=some (Value.slice Ar (K.getD l.toNat []).length cr)∧Kd.C (Kd.int .i64) W Ar (K.getD l.toNat []).length (K.getD l.toNat []):=by
    intro W hW
    obtain ⟨ad,c,he,hl,hK,hcell⟩:=Kd.C_get (hc.kids W hW) ([]:List Int) l h0 h1
    obtain ⟨Ar,cr,hcs,hle,hC⟩:=hK
    injection he with he
    subst he
    subst hcs
    have h_:=hcell 0 _ rfl
    rw [add_at] at h_
    refine ⟨Ar,cr,?_,hC⟩
    simpa [Kd.slice] using h_
  obtain ⟨Ar,cr,h2,_⟩:=hr w0 (Kept.refl _ _)
  refine ⟨Ar,cr,fun W hW=>?_⟩
  obtain ⟨A',c',h3,h4⟩:=hr W hW
  have h5:=cell_kept h2 hW hc.nK
  rw [h5] at h3
  injection h3 with h3
  injection h3 with h6 h7 h8
  subst h6
  exact ⟨h5,h4⟩
theorem GX.below (h:GX w0 base bt gG cG N w At ct T G) (hb:Below w.heap.size w w1) (hs:base≤w0.heap.size):GX w0 base bt gG cG N w1 At ct T G :=
  ⟨blk_below h.bx hb,Kd.R_below h.tr hb,Kept.below h.kp hb,h.be.trans (hb.mono (Nat.le_trans hs h.kp.1)),Kd.R_below h.gr hb,h.ln⟩
theorem GX.store (hc:GC w0 base bt bg bk bw gG cG N bK ck K) (h:GX w0 base bt gG cG N w At ct T G) {l:Int} (h0:0≤l) (h1:l<(G.length:Int)) (x:Int):w.cell? ⟨gG,l.toNat,none⟩=some (Value.int .i64 (rd G l))∧w.frozen? ⟨gG,l.toNat,none⟩=false∧l<(N:Int)∧GX w0 base bt gG cG N (w.setCell ⟨gG,l.toNat,none⟩ (.int .i64 x)) At ct T (G.set l.toNat x):=by
  have hn:=h.ln
  have hcc:=Kd.R_celln 0 h.gr l h0 (by omega)
  have hp:=Kd.R_putg h.gr l x
  refine ⟨hcc.1,hcc.2,by omega,⟨(Below.heap_setCell _ _ _ _ hc.nt).trans h.bx,Kd.R_mono (Kd.R_far (p:=⟨gG,l.toNat,none⟩) (Kd.R_bound h.tr) (fun k hk=>by have:=hk.2.1;have:=hc.lG;show k≠gG;omega) _) (fun _ _=>trivial),h.kp.setCell (.inl (.inr rfl)) _,h.be.setCell hc.eG _,hp.1,by rw [List.length_set];exact hn⟩⟩
theorem GX.push (hc:GC w0 base bt bg bk bw gG cG N bK ck K) (h:GX w0 base bt gG cG N w At ct T G) {x:Int} (ho:Kd.R (Kd.int .i64) 2 w4 w0.heap.size (fun _=>True) (.slice At2 (T++[x]).length ct2) (T++[x])) (hg:w.grownBy w4 (Value.slice At T.length ct).ownBlock) :
    w4.cell? ⟨bt,0,none⟩=some (Value.slice At T.length ct)∧w4.frozen? ⟨bt,0,none⟩=false∧Kept w0 w4 (GSet bt gG)∧GX w0 base bt gG cG N (w4.setCell ⟨bt,0,none⟩ (.slice At2 (T++[x]).length ct2)) At2 ct2 (T++[x]) G:=by
  have nb:=Kd.R_base h.tr
  have hlt:=hc.lt
  have hlG:=hc.lG
  have hsz:=h.kp.1
  have hb4:w4.heap[bt]?=some (.cells #[.slice At T.length ct] 27 (0,0)):=(hg.block bt (blk_lt h.bx) (fun e=>by have:=nb bt e.symm;omega)).trans h.bx
  have hk4:Kept w0 w4 (GSet bt gG):=Kept.of_grown hg h.kp (fun k hk=>.inr (nb k hk))
  refine ⟨(blk_cell hb4 0).trans rfl,blk_frozen hb4 0,hk4,⟨(blk_set hb4 0 _).trans rfl,Kd.R_mono (Kd.R_far (p:=⟨bt,0,none⟩) (Kd.R_bound ho) (fun k hk=>by have:=hk.2.1;show k≠bt;omega) _) (fun _ _=>trivial),hk4.setCell (.inl (.inl rfl)) _,?_,Kd.R_far (p:=⟨bt,0,none⟩) (Kd.R_grown h.gr hg (fun k hk e=>by have:=nb k e.symm;omega)) (fun k hk=>by show k≠bt;rw [hk];exact fun e=>hc.nt e.symm) _,h.ln⟩⟩
  have h1:=hc.et
  exact (h.be.grown hg (by omega) (fun k hk=>by have:=nb k hk;omega)).setCell hc.et _
end
set_option maxHeartbeats 8000000 in
set_option maxRecDepth 100000 in
theorem gt_walk (w0:World) (base bt bg bk bw gG cG N bK ck:Nat) (K:List (List Int)) (hc:GC w0 base bt bg bk bw gG cG N bK ck K):∀ (m:Nat) (l:Int) (st r:List Int × List Int) (w:World),gw K m l st=some r→GS w0 base bt gG cG N w st.1 st.2 →
    Calls Tryz.prog 52 #[.int .i64 l,.pointer (some ⟨bt,0,none⟩),.pointer (some ⟨bg,0,none⟩),.pointer (some ⟨bk,0,none⟩),.pointer (some ⟨bw,0,none⟩)] w fun e w'=>e=.returned (.tuple #[])∧GS w0 base bt gG cG N w' r.1 r.2:=by
  intro m
  induction m with
  | zero=>intro l st r w h _;cases h
  | succ m ih =>
    rintro l ⟨T,G⟩ r w h ⟨At,ct,hX⟩
    unfold gw at h
    dsimp only at h hX
    by_cases c0:0≤l∧l<(K.length:Int)∧l<(G.length:Int)∧T.length≤1000∧(K.getD l.toNat []).length≤1000
    rotate_left
    · rw [if_neg c0] at h;cases h
    rw [if_pos c0] at h
    obtain ⟨hl0,hlK,hlG,hT,hkl⟩:=c0
    obtain ⟨Ar,cr,hkid⟩:=hc.kid hl0 hlK
    obtain ⟨ks,hks⟩:∃ ks,K.getD l.toNat []=ks:=⟨_,rfl⟩
    rw [hks] at h hkl hkid
    obtain ⟨hs1,hs2,hs3,hX1⟩:=hX.store hc hl0 hlG (T.length:Int)
    obtain ⟨hf1,hf2,hf3⟩:=hc.fix hX.kp
    have hbx:=(blk_cell hX.bx 0).trans (rfl:_=some (Value.slice At T.length ct))
    have HH:=Aside0.mk h
    have HX1:=Aside0.mk hX1
    have HC:=Aside0.mk hc
    have HS:=Aside0.mk (Nat.le_trans hc.et (Nat.le_of_lt hc.lt))
    have IH:=Aside0.mk ih
    have HKID:=Aside0.mk hkid
    have HT:=Aside0.mk hT
    have HKL:=Aside0.mk hkl
    clear h hX hX1 hc ih hkid hf2 hf3 hT hkl hlG
    go_enter Tryz.func52,Tryz.ntmps52
    go_wp2
    clear hs1 hs2 hf1 hbx
    have HX:=Aside0.mk (HX1.out.below (below_drew1 (Below.refl _ _)) HS.out)
    clear HX1
    refine start_ (n:=11) (S:=fun w'=>w'.cell? ⟨bt,0,none⟩=some (.slice At T.length ct)∧w'.cell? ⟨bk,0,none⟩=some (.slice (some ⟨bK,0,none⟩) K.length ck)∧w'.cell? ⟨bK,l.toNat,none⟩=some (.slice Ar ks.length cr)) (ds:=[10]) #[false,false,false,false,false,false,false,false,false,false,false] (by kernel_rfl) rfl rfl (⟨(blk_cell HX.out.bx 0).trans rfl,(HC.out.fix HX.out.kp).2.1,(HKID.out _ HX.out.kp).1⟩) (fun hHeld=>?_)
    generalize (w.setCell ⟨gG,l.toNat,none⟩ (Value.int IntKind.i64 (T.length:Int))).drew=w2 at HX hHeld ⊢
    refine pure_ (i:=0) (N:=some 14) (v:=?_) (a':=?_) #[true,false,false,false,false,false,false,false,false,false,false] rfl rfl (by kernel_rfl) (fun _ _ _ h=>h) (Or.inl ⟨by rfl,?_⟩) ?_ ?_
    rotate_left
    · intro w'
      go_simp
      with_reducible rfl
    rotate_left
    · simp only [Act.put,List.setIfInBounds_toArray,List.set_cons_zero,List.set_cons_succ,i64_w,i32_w]
      rfl
    refine pure_ (i:=3) (N:=some 17) (v:=?_) (a':=?_) #[true,false,false,true,false,false,false,false,false,false,false] rfl rfl (by kernel_rfl) (fun _ _ _ h=>h) (Or.inl ⟨by rfl,?_⟩) ?_ ?_
    rotate_left
    · intro w'
      go_simp
      with_reducible rfl
    rotate_left
    · simp only [Act.put,List.setIfInBounds_toArray,List.set_cons_zero,List.set_cons_succ,i64_w,i32_w]
      rfl
    refine take_ (i:=1) (N:=some 15) (v:=?_) (a':=?_) #[true,true,false,true,false,false,false,false,false,false,false] rfl rfl (by kernel_rfl) (fun _ _ _ h=>h) (Or.inl ⟨by rfl,?_⟩) hHeld ?_ ?_
    rotate_left
    · rintro w' ⟨s0,s1,s2⟩
      go_simp
      with_reducible rfl
    rotate_left
    · simp only [Act.put,List.setIfInBounds_toArray,List.set_cons_zero,List.set_cons_succ,i64_w,i32_w]
      rfl
    refine take_ (i:=2) (N:=some 16) (v:=?_) (a':=?_) #[true,true,true,true,false,false,false,false,false,false,false] rfl rfl (by kernel_rfl) (fun _ _ _ h=>h) (Or.inl ⟨by rfl,?_⟩) hHeld ?_ ?_
    rotate_left
    · rintro w' ⟨s0,s1,s2⟩
      go_simp
      with_reducible rfl
    rotate_left
    · simp only [Act.put,List.setIfInBounds_toArray,List.set_cons_zero,List.set_cons_succ,i64_w,i32_w]
      rfl
    refine pure_ (i:=4) (N:=some 18) (v:=?_) (a':=?_) #[true,true,true,true,true,false,false,false,false,false,false] rfl rfl (by kernel_rfl) (fun _ _ _ h=>h) (Or.inl ⟨by rfl,?_⟩) ?_ ?_
    rotate_left
    · intro w'
      go_simp
      with_reducible rfl
    rotate_left
    · simp only [Act.put,List.setIfInBounds_toArray,List.set_cons_zero,List.set_cons_succ,i64_w,i32_w]
      rfl
    refine take_ (i:=5) (N:=some 19) (v:=?_) (a':=?_) #[true,true,true,true,true,true,false,false,false,false,false] rfl rfl (by kernel_rfl) (fun _ _ _ h=>h) (Or.inl ⟨by rfl,?_⟩) hHeld ?_ ?_
    rotate_left
    · rintro w' ⟨s0,s1,s2⟩
      go_simp
      with_reducible rfl
    rotate_left
    · simp only [Act.put,List.setIfInBounds_toArray,List.set_cons_zero,List.set_cons_succ,i64_w,i32_w]
      rfl
    refine pure_ (i:=6) (N:=some 20) (v:=?_) (a':=?_) #[true,true,true,true,true,true,true,false,false,false,false] rfl rfl (by kernel_rfl) (fun _ _ _ h=>h) (Or.inl ⟨by rfl,?_⟩) ?_ ?_
    rotate_left
    · intro w'
      go_simp
      with_reducible rfl
    rotate_left
    · simp only [Act.put,List.setIfInBounds_toArray,List.set_cons_zero,List.set_cons_succ,i64_w,i32_w]
      rfl
    refine one_ (i:=7) (N:=some 21) #[true,true,true,true,true,true,true,true,false,false,false] rfl rfl (by kernel_rfl) (by decide) (fun K_ hK=>?_)
    refine event_step (v:=.slice (some ⟨w2.heap.size,0,none⟩) 1 1) (w1:=w2.alloc (.cells [.int .i64 (ks.length:Int)].toArray 2)) (by rfl) (by go_simp) ?_
    refine hK.out _ _ ⟨pw_cell_below (below_alloc (Below.refl _ w2) _) hHeld.1,pw_cell_below (below_alloc (Below.refl _ w2) _) hHeld.2.1,pw_cell_below (below_alloc (Below.refl _ w2) _) hHeld.2.2⟩ (fun hHeld2=>?_)
    clear hK
    refine norm_ (a':=?_) ?_ ?_
    rotate_left
    · show Act.put _ (some 21) _=_
      simp only [Act.put,List.setIfInBounds_toArray,List.set_cons_zero,List.set_cons_succ,i64_w,i32_w]
      rfl
    refine one_ (i:=8) (N:=some 22) #[true,true,true,true,true,true,true,true,true,false,false] rfl rfl (by kernel_rfl) (by decide) (fun K_ hK=>?_)
    refine Kd.R_append_step (Kd.int .i64) (w0:=w2) w0.heap.size (by rfl) (.tmp 15) (.tmp 21) 24 2 (.int .i64 0) 8 rfl Tryz.underlying24 gt_info rfl (by decide) (by omega) (.slice At T.length ct) T (ks.length:Int) [.int .i64 (ks.length:Int)] (fun _=>True) (fun _=>False) rfl rfl rfl (fun _ hk=>hk.elim) (fun _ _=>trivial) HX.out.tr (Below.refl _ _) HX.out.kp.1 (by have h_:=HT.out;omega) ?_
    intro v1 w4 ho hb hg hat
    clear hat hb
    obtain ⟨At2,ct2,e_⟩:=Kd.R_slice ho
    subst e_
    obtain ⟨hp1,hp2,hp3,hp4⟩:=HX.out.push HC.out ho hg
    have HX5:=Aside0.mk hp4
    have HP:=Aside0.mk hp2
    refine hK.out _ _ ⟨hp1,(HC.out.fix hp3).2.1,(HKID.out _ hp3).1⟩ (fun hHeld=>?_)
    clear hK ho hg hp1 hp2 hp3 hp4
    refine norm_ (a':=?_) ?_ ?_
    rotate_left
    · show Act.put _ (some 22) _=_
      simp only [Act.put,List.setIfInBounds_toArray,List.set_cons_zero,List.set_cons_succ,i64_w,i32_w]
      rfl
    refine pure_ (i:=9) (N:=some 23) (v:=?_) (a':=?_) #[true,true,true,true,true,true,true,true,true,true,false] rfl rfl (by kernel_rfl) (fun _ _ _ h=>h) (Or.inl ⟨by rfl,?_⟩) ?_ ?_
    rotate_left
    · intro w'
      go_simp
      with_reducible rfl
    rotate_left
    · simp only [Act.put,List.setIfInBounds_toArray,List.set_cons_zero,List.set_cons_succ,i64_w,i32_w]
      rfl
    refine last_ (i:=10) (N:=none) #[true,true,true,true,true,true,true,true,true,true,true] rfl rfl (by kernel_rfl) (by decide) (fun K_ hK=>?_)
    have hs0:=hHeld.1
    have hf0:=HP.out
    refine skip_ (w1:=w4.setCell ⟨bt,0,none⟩ (.slice At2 (T++[(ks.length:Int)]).length ct2)) (by rfl) rfl (by go_simp) ?_
    clear hs0 hf0 hHeld
    refine hK.out _ _ ?_
    clear hK
    refine done_ (by kernel_rfl) ?_
    generalize w4.setCell ⟨bt,0,none⟩ (Value.slice At2 (T++[(ks.length:Int)]).length ct2)=w5 at HX5 ⊢
    generalize (T++[(ks.length:Int)]).length=nT
    obtain ⟨hk1,hk2,hk3⟩:=HC.out.fix HX5.out.kp
    have hk4:=(HKID.out _ HX5.out.kp).1
    clear hk1 hk3 HP
    go_wp2
    clear hk2 hk4
    go_loopw [29] (fun vv w'=>∃ (v:Nat) (T' G':List Int),vv=.int .i64 (v:Int)∧Aside0 (v≤ks.length)∧Aside0 (gl (gw K m) (ks.drop v) (T',G')=some r)∧Aside0 (GS w0 base bt gG cG N w' T' G')) (fun vv _=>ks.length - (intOf vv).toNat)
    case atStart=>exact ⟨0,_,_,rfl,⟨Nat.zero_le _⟩,⟨HH.out⟩,⟨⟨At2,ct2,HX5.out⟩⟩⟩
    case round =>
      obtain ⟨v,T',G',rfl,hv,HR,HG⟩:=hrel
      by_cases hlt:v<ks.length
      · have hl:((v:Nat):Int)<((ks.length:Nat):Int):=by omega
        obtain ⟨A3,c3,hX3⟩:=HG.out
        obtain ⟨ad,hAr,hcell⟩:=Kd.at_int (HKID.out wr hX3.kp).2 (v:Int) (by omega) hl
        subst hAr
        rw [Int.toNat_natCast] at hcell
        have hcw:=(HC.out.fix hX3.kp).2.2
        unfold TW at hcw
        have h_:=HR.out
        rw [List.drop_eq_getElem_cons hlt,gl] at h_
        obtain ⟨s1,h1,h2⟩:=Option.bind_eq_some_iff.mp h_
        have hrd:ks[v]=rd ks (v:Int):=by simp [rd,hlt]
        rw [hrd] at h1
        have H1:=Aside0.mk h1
        have H2:=Aside0.mk h2
        have HW1:=Aside0.mk (show wrap64 ((v:Int)+1)=((v+1:Nat):Int) by have:=HKL.out;rw [wrap_small (by omega) (by omega)];omega)
        have HLT:=Aside0.mk hlt
        clear h_ h1 h2 hrd hX3 HX5 HH hlt
        go_wp2_with ((with_reducible refine gate_dst (N:=35) rfl ?_);refine callG_ (some 35) rfl rfl 52 #[.int .i64 (rd ks (v:Int)),.pointer (some ⟨bt,0,none⟩),.pointer (some ⟨bg,0,none⟩),.pointer (some ⟨bk,0,none⟩),.pointer (some ⟨bw,0,none⟩)] ?_ ?_;(next=>(have he:=enters_ Tryz.func52 (by kernel_rfl) rfl #[.int .i64 (rd ks (v:Int)),.pointer (some ⟨bt,0,none⟩),.pointer (some ⟨bg,0,none⟩),.pointer (some ⟨bk,0,none⟩),.pointer (some ⟨bw,0,none⟩)] wr;unfold execOp;simp [TW,resolve,Deferred.ofValue,invoke,Act.eval,go_sem,he];done));refine (IH.out (rd ks (v:Int)) (T',G') s1 _ H1.out HG.out).mono ?_;rintro e w6 ⟨rfl,hG⟩;refine ⟨_,rfl,?_⟩;have HG2:=Aside0.mk hG;clear hG hcell hcw HG)
        go_roundw
        case measure =>
          have h_:=HLT.out
          first|(rw [HW1.out];simp only [intOf,Int.toNat_natCast];exact Nat.sub_lt_sub_left h_ (Nat.lt_succ_self v))|(simp only [intOf,Int.toNat_natCast];exact Nat.sub_lt_sub_left h_ (Nat.lt_succ_self v))
        case rel=>exact ⟨v+1,s1.1,s1.2,by first|rfl|(rw [HW1.out]),⟨HLT.out⟩,⟨H2.out⟩,⟨HG2.out⟩⟩
      · have hl:¬ ((v:Nat):Int)<((ks.length:Nat):Int):=by omega
        have h_:=HR.out
        rw [List.drop_eq_nil_of_le (by omega),gl] at h_
        obtain rfl:=Option.some.inj h_
        clear h_ hlt
        go_wp2
        exact bodyPost_end (v:=.tuple #[]) (by simp [results,Tryz.results52,go_sem]) rfl ⟨rfl,HG.out⟩
end Go.Proofs.YtlppkilencpmeaaGreat.Gw
