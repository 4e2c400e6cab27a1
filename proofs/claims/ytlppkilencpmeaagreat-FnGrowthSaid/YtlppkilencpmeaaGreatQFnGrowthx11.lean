/- Functions as Lean functions, with their contracts: written by a program of this claim over the translation; some contracts are proved by hand. -/
import Derived.Test.YtlppkilencpmeaaGreatQFnGrowthx0
import Derived.Test.YtlppkilencpmeaaGreatQFnGrowthx1
import Derived.Test.YtlppkilencpmeaaGreatQFnGrowthx10
namespace Go.Proofs.YtlppkilencpmeaaGreat.QFnGrowth
open Go.RowKit Go.Proofs.YtlppkilencpmeaaGreat.Gl Go.Proofs.YtlppkilencpmeaaGreat.Sz Go.Proofs.YtlppkilencpmeaaGreatW.PrintWords Go.Proofs.YtlppkilencpmeaaGreatW.PrintLast Go.Proofs.YtlppkilencpmeaaGreatW.PrintMore
attribute [local go_sem] max2_int min2_int max_two min_two max_three min_three max_four min_four   -- for this text's walks alone
set_option linter.unusedVariables false
set_option linter.unusedSimpArgs false
theorem q11_0 {P:Prop} (h:P:=by repeat (first|(with_reducible first|exact HB.out|apply below_alloc|apply pw_below_drewN|apply below_drew1|refine below_set ?_ (IsS90.ge HI0.out))|exact HB.out)):P:=h
theorem q11_1 {P:Prop} (h:P:=by repeat (first|(with_reducible first|exact HI0.out|apply IsS90.alloc|apply IsS90.drewN|apply IsS90.drew|apply IsS90.set_1|apply IsS90.set_2)|exact HI0.out)):P:=h
theorem q11_2 {P:Prop} (h:P:=by repeat (first|(with_reducible first|exact HK.out|apply KeepBut.set_|apply keep_drewN|apply keep_drew|apply keep_alloc)|exact HK.out)):P:=h
theorem q11_3 {P:Prop} (h:P:=by (try simp only [List.map_toArray,List.map_cons,List.map_nil]);first|done|rfl):P:=h
theorem q11_4 {P:Prop} (h:P:=by first|rfl|(simp;done)|(simp [*];done)):P:=h
theorem q11_5 {P:Prop} (h:P:=by first|(with_reducible assumption)|assumption):P:=h
set_option maxHeartbeats 8000000
set_option maxRecDepth 100000
section
variable {P:Program} {ops:Array Oper} {a:Act} {Q:Exit→Act→World→Prop} {w:World}
theorem callL_ {rest:List Oper} {oi:Oper} (N:Option Tmp) (hd:oi.dst=N) (hg:oi.guard=none) (f:FuncId) (args:Array Value) (hrun:(execOp a.eval oi).run P w=.ok (.enter f args) w)
  (h:Calls P f args w fun e w'=>∃ v,e=.returned v∧wpList P ops Q rest (a.put N v) w'):wpList P ops Q (oi :: rest) a w:=by
 refine wpList_plain hg fun K hK=>?_
 unfold Oper.wp
 rw [hrun,Oper.upon_enter]
 refine h.mono fun e w'' hh=>?_
 obtain ⟨v,rfl,hk⟩:=hh
 subst hd
 exact hK _ _ hk
end
def impl_ListOfDecreasing.w (k:Nat):Nat→ByteArray→Int→Int→List Int→Option (Int × List Int)
 | 0,_,_,_,_=>none
 | m+1,s,from_,next,L=>if s.toList=([48]:List UInt8) then some (next,L) else (impl_sides.f k s).bind fun b=>(impl_nodesOf.f b.1).bind fun n=>if 0≤wrap64 (from_+n) then (if wrap64 (from_+n)<(L.length:Int) then (impl_ListOfDecreasing.w k m b.1 from_ (wrap64 (next - 1)) (L.set (wrap64 (from_+n)).toNat next)).bind fun q=>impl_ListOfDecreasing.w k m b.2 (wrap64 (wrap64 (from_+n)+1)) q.1 q.2 else none) else none
def FW (bn bo bw:Nat):Value:=.func (.func 71) #[] #[.pointer (some ⟨bn,0,none⟩),.pointer (some ⟨bo,0,none⟩),.pointer (some ⟨bw,0,none⟩)]
def CS (base bn bo bw:Nat) (A:Option Addr) (N c:Nat) (w:World) (next:Int) (L:List Int):Prop :=
 w.heap[bn]?=some (.cells #[.int .i64 next] 2 (0,0))∧w.heap[bo]?=some (.cells #[.slice A N c] 24 (0,0))∧w.heap[bw]?=some (.cells #[FW bn bo bw] 71 (0,0))∧Kd.R (Kd.int .i64) 2 w base (fun k_=>k_≠bn) (.slice A N c) L∧L.length=N∧base≤bn
def SS (bn:Nat) (v:Value) (k_:Nat):Prop:=k_=bn∨some k_=v.ownBlock
def WPost (base bn bo bw:Nat) (A:Option Addr) (N c:Nat) (w:World) (r:Int × List Int) (e:Ending) (w':World):Prop :=
 e=.returned (.tuple #[])∧CS base bn bo bw A N c w' r.1 r.2∧Below base w w'∧Kept w w' (SS bn (.slice A N c))
theorem CS.below {base bn bo bw:Nat} {A:Option Addr} {N c:Nat} {w w':World} {next:Int} {L:List Int} (h:CS base bn bo bw A N c w next L) (hb:Below w.heap.size w w'):CS base bn bo bw A N c w' next L :=
 ⟨blk_below h.1 hb,blk_below h.2.1 hb,blk_below h.2.2.1 hb,Kd.R_below h.2.2.2.1 hb,h.2.2.2.2⟩
theorem CS.lt {base bn bo bw:Nat} {A:Option Addr} {N c:Nat} {w:World} {next:Int} {L:List Int} (h:CS base bn bo bw A N c w next L):base≤w.heap.size:=Nat.le_trans h.2.2.2.2.2 (Nat.le_of_lt (blk_lt h.1))
theorem CS.next {base bn bo bw:Nat} {A:Option Addr} {N c:Nat} {w:World} {next:Int} {L:List Int} (h:CS base bn bo bw A N c w next L) (x:Int):CS base bn bo bw A N c (w.setCell ⟨bn,0,none⟩ (.int .i64 x)) x L∧Below base w (w.setCell ⟨bn,0,none⟩ (.int .i64 x))∧Kept w (w.setCell ⟨bn,0,none⟩ (.int .i64 x)) (SS bn (.slice A N c)):=by
 obtain ⟨h1,h2,h3,h4,h5,h6⟩:=h
 have n2:bo≠bn:=by intro e;rw [e,h1] at h2;injection h2 with h2;injection h2 with _ h2;exact absurd h2 dc
 have n3:bw≠bn:=by intro e;rw [e,h1] at h3;injection h3 with h3;injection h3 with _ h3;exact absurd h3 dc
 exact ⟨⟨(blk_set h1 0 _).trans rfl,(Below.heap_setCell _ _ _ _ n2).trans h2,(Below.heap_setCell _ _ _ _ n3).trans h3,Kd.R_far (p:=⟨bn,0,none⟩) h4 (fun k hk=>hk) _,h5,h6⟩,(Below.refl base w).setCell h6 _,(Kept.refl w _).setCell (.inl (.inl rfl)) _⟩
theorem CS.store {base bn bo bw:Nat} {A:Option Addr} {N c:Nat} {w:World} {next:Int} {L:List Int} (h:CS base bn bo bw A N c w next L) {i:Int} (h0:0≤i) (hi:i<(L.length:Int)) (x:Int):∃ g,A=some ⟨g,0,none⟩∧w.cell? ⟨g,i.toNat,none⟩=some (.int .i64 (rd L i))∧w.frozen? ⟨g,i.toNat,none⟩=false∧(i<(N:Int)) ∧
  CS base bn bo bw A N c (w.setCell ⟨g,i.toNat,none⟩ (.int .i64 x)) next (L.set i.toNat x)∧Below base w (w.setCell ⟨g,i.toNat,none⟩ (.int .i64 x))∧Kept w (w.setCell ⟨g,i.toNat,none⟩ (.int .i64 x)) (SS bn (.slice A N c)):=by
 obtain ⟨h1,h2,h3,h4,h5,h6⟩:=h
 obtain ⟨g,cap,hv,hb,hl,_⟩:=Kd.R_form h4 (by omega)
 injection hv with hA hN hc
 subst hA
 subst hc
 have n1:bn≠g:=fun e=>h4.1 g rfl e.symm
 have n2:bo≠g:=fun e=>Kd.R_ne h4 h2 dc (by rw [e];rfl)
 have n3:bw≠g:=fun e=>Kd.R_ne h4 h3 dc (by rw [e];rfl)
 have hc:=Kd.R_celln 0 h4 i h0 (by rw [← h5];exact hi)
 have hp:=Kd.R_putg h4 i x
 exact ⟨g,rfl,hc.1,hc.2,by rw [← h5];exact hi,⟨(Below.heap_setCell _ _ _ _ n1).trans h1,(Below.heap_setCell _ _ _ _ n2).trans h2,(Below.heap_setCell _ _ _ _ n3).trans h3,hp.1,by rw [List.length_set];exact h5,h6⟩,(Below.refl base w).setCell hb _,(Kept.refl w _).setCell (.inl (.inr rfl)) _⟩
theorem impl_ListOfDecreasing.walk (k base bn bo bw:Nat) (A:Option Addr) (N c:Nat):∀ (m:Nat) (s:ByteArray) (from_ next:Int) (L:List Int) (r:Int × List Int) (w:World),impl_ListOfDecreasing.w k m s from_ next L=some r→CS base bn bo bw A N c w next L →
  Calls Tryz.prog 71 #[.string s,.int .i64 from_,.pointer (some ⟨bn,0,none⟩),.pointer (some ⟨bo,0,none⟩),.pointer (some ⟨bw,0,none⟩)] w (WPost base bn bo bw A N c w r):=by
 intro m
 induction m with
 | zero=>intro s from_ next L r w h _;cases h
 | succ m ih =>
  intro s from_ next L r w h hC
  unfold impl_ListOfDecreasing.w at h
  by_cases c3:s.toList=([48]:List UInt8)
  ·rw [if_pos c3] at h
   obtain rfl:=Option.some.inj h
   have HC:=ak hC
   have c3b0:(s.toList == ([48]:List UInt8))=true:=beq_iff_eq.mpr c3
   have c3b1:(s.toList != ([48]:List UInt8))=false:=bne_eq_false_iff_eq.mpr c3
   clear h hC ih c3
   go_enter Tryz.func71,Tryz.ntmps71
   go_wp2
   refine bodyPost_ret (v:=.tuple #[]) (by simp [results,Tryz.results71,go_sem]) rfl ⟨rfl,HC.out,Below.refl _ _,Kept.refl _ _⟩
  ·rw [if_neg c3] at h
   have c3b0:(s.toList == ([48]:List UInt8))=false:=beq_eq_false_iff_ne.mpr c3
   have c3b1:(s.toList != ([48]:List UInt8))=true:=bne_iff_ne.mpr c3
   clear c3
   obtain ⟨⟨b1,b2⟩,hs,h⟩:=Option.bind_eq_some_iff.mp h
   obtain ⟨n,hn,h⟩:=Option.bind_eq_some_iff.mp h
   dsimp only at hn h
   obtain c1|c1:=nem (0≤wrap64 (from_+n))
   ·rw [if_neg c1] at h;cases h
   rw [if_pos c1] at h
   obtain c2|c2:=nem (wrap64 (from_+n)<(L.length:Int))
   ·rw [if_neg c2] at h;cases h
   rw [if_pos c2] at h
   obtain ⟨⟨q1,q2⟩,hq,h⟩:=Option.bind_eq_some_iff.mp h
   dsimp only at h
   obtain ⟨i,hi⟩:∃ i,wrap64 (from_+n)=i:=⟨_,rfl⟩
   rw [hi] at c1 c2 hq h
   have HI:=ak hi
   have HS:=ak hs
   have HN:=ak hn
   have HQ:=ak hq
   have HH:=ak h
   have HC:=ak hC
   have IH:=ak ih
   have C1:=ak c1
   have C2:=ak c2
   clear hs hn hq h hC ih c1 c2 hi
   go_enter Tryz.func71,Tryz.ntmps71
   go_wp2_with ((with_reducible refine gate_dst (N:=13) rfl ?_);refine goesL_ (some 13) rfl rfl Tryz.func72 kr rfl #[.string s] rfl q11_3 ?_;refine (impl_sides.calls k s b1 b2 _ HS.out).mono ?_;rintro e w1 ⟨rfl,hd⟩;refine ⟨_,rfl,?_⟩;have hb:=hd.below;have HC1:=ak (HC.out.below hb);have HB:=ak (hb.mono HC.out.lt);have HK:=ak (Kept.of_below (S:=SS bn (.slice A N c)) hb);clear hd hb)
   have n0_:=ak (HC1.out.below (below_drew1 (Below.refl _ _)))
   have n1_:=ak (below_drew1 HB.out)
   have n2_:=ak HK.out.drew
   clear HC1 HB HK
   have HC1:=n0_
   have HB:=n1_
   have HK:=n2_
   clear n0_ n1_ n2_
   refine start_ (n:=8) (S:=fun w'=>w'.cell? ⟨bo,0,none⟩=some (.slice A N c)∧w'.cell? ⟨bn,0,none⟩=some (.int .i64 next)) (ds:=[7]) #[false,false,false,false,false,false,false,false] kr rfl rfl (⟨(blk_cell HC1.out.2.1 0).trans rfl,(blk_cell HC1.out.1 0).trans rfl⟩) (fun hHeld=>?_)
   generalize w1.drew=w2 at HC1 HB HK hHeld ⊢
   refine pure_ (i:=1) (N:=some 17) (v:=?_) (a':=?_) #[false,true,false,false,false,false,false,false] rfl rfl kr (fun _ _ _ h=>h) (Or.inl ⟨by rfl,?_⟩) ?_ ?_
   rotate_left
   ·intro w'
    go_simp
    with_reducible rfl
   rotate_left
   ·simp only [Act.put,sIB,sc0,scs,i64_w,i32_w]
    rfl
   refine pure_ (i:=2) (N:=some 18) (v:=?_) (a':=?_) #[false,true,true,false,false,false,false,false] rfl rfl kr (fun _ _ _ h=>h) (Or.inl ⟨by rfl,?_⟩) ?_ ?_
   rotate_left
   ·intro w'
    go_simp
    with_reducible rfl
   rotate_left
   ·simp only [Act.put,sIB,sc0,scs,i64_w,i32_w]
    rfl
   refine take_ (i:=0) (N:=some 16) (v:=?_) (a':=?_) #[true,true,true,false,false,false,false,false] rfl rfl kr (fun _ _ _ h=>h) (Or.inl ⟨by rfl,?_⟩) hHeld ?_ ?_
   rotate_left
   ·rintro w' ⟨s0,s1⟩
    go_simp
    with_reducible rfl
   rotate_left
   ·simp only [Act.put,sIB,sc0,scs,i64_w,i32_w]
    rfl
   refine take_ (i:=5) (N:=some 21) (v:=?_) (a':=?_) #[true,true,true,false,false,true,false,false] rfl rfl kr (fun _ _ _ h=>h) (Or.inl ⟨by rfl,?_⟩) hHeld ?_ ?_
   rotate_left
   ·rintro w' ⟨s0,s1⟩
    go_simp
    with_reducible rfl
   rotate_left
   ·simp only [Act.put,sIB,sc0,scs,i64_w,i32_w]
    rfl
   refine one_ (i:=3) (N:=some 19) #[true,true,true,true,false,true,false,false] rfl rfl kr dc (fun K hK=>?_)
   refine goes_ Tryz.func70 kr rfl #[.string b1] (by rfl) rfl rfl q11_3 ?_
   refine (impl_nodesOf.calls b1 n _ HN.out).mono ?_
   rintro e w3 ⟨rfl,hd⟩
   refine ⟨_,rfl,?_⟩
   have hb:=hd.below
   have n0_:=ak (HC1.out.below hb)
   have n1_:=ak (HB.out.trans (hb.mono HC1.out.lt))
   have n2_:=ak (HK.out.below hb)
   clear HC1 HB HK hd hb
   have HC1:=n0_
   have HB:=n1_
   have HK:=n2_
   clear n0_ n1_ n2_
   refine hK.out _ _ ⟨(blk_cell HC1.out.2.1 0).trans rfl,(blk_cell HC1.out.1 0).trans rfl⟩ (fun hHeld=>?_)
   clear hK K
   refine norm_ (a':=?_) ?_ ?_
   rotate_left
   ·show Act.put _ (some 19) _=_
    simp only [Act.put,sIB,sc0,scs,i64_w,i32_w]
    rfl
   refine pure_ (i:=4) (N:=some 20) (v:=?_) (a':=?_) #[true,true,true,true,true,true,false,false] rfl rfl kr (fun _ _ _ h=>h) (Or.inl ⟨by rfl,?_⟩) ?_ ?_
   rotate_left
   ·intro w'
    go_simp
    with_reducible rfl
   rotate_left
   ·simp only [Act.put,sIB,sc0,scs,i64_w,i32_w]
    rfl
   obtain ⟨g,hA,hcc,hff,hiN,hC4,hB4,hK4⟩:=HC1.out.store C1.out C2.out next
   subst hA
   have hi0:=C1.out
   have hi1:=HI.out
   have HC4:=ak hC4
   have HB4:=ak (HB.out.trans hB4)
   have HK4:=ak (HK.out.then_ hK4 (fun _ h=>.inl h))
   clear hC4 hB4 hK4 HC1 HB HK
   refine pure_ (i:=6) (N:=some 22) (v:=?_) (a':=?_) #[true,true,true,true,true,true,true,false] rfl rfl kr (fun _ _ _ h=>h) (Or.inl ⟨by rfl,?_⟩) ?_ ?_
   rotate_left
   ·intro w'
    go_simp
    with_reducible rfl
   rotate_left
   ·simp only [Act.put,sIB,sc0,scs,i64_w,i32_w]
    rfl
   refine last_ (i:=7) (N:=none) #[true,true,true,true,true,true,true,true] rfl rfl kr dc (fun K hK=>?_)
   refine skip_ (w1:=w3.setCell ⟨g,i.toNat,none⟩ (.int .i64 next)) (by rfl) rfl (by go_simp) ?_
   clear hcc hff hHeld
   refine hK.out _ _ ?_
   clear hK K
   refine done_ kr ?_
   generalize w3.setCell ⟨g,i.toNat,none⟩ (Value.int IntKind.i64 next)=w4 at HC4 HB4 HK4 ⊢
   obtain ⟨hC5,hB5,hK5⟩:=HC4.out.next (wrap64 (next - 1))
   have hc0:=(blk_cell HC4.out.1 0).trans (rfl:_=some (Value.int .i64 next))
   have hf0:=blk_frozen HC4.out.1 0
   have hcw:=(blk_cell hC5.2.2.1 0).trans (rfl:_=some (FW bn bo bw))
   have HC5:=ak hC5
   have HB5:=ak (HB4.out.trans hB5)
   have HK5:=ak (HK4.out.then_ hK5 (fun _ h=>.inl h))
   clear hC5 hB5 hK5 HC4 HB4 HK4
   go_wp2_with ((with_reducible refine gate_dst (N:=28) rfl ?_);refine callL_ (some 28) rfl rfl 71 #[.string b1,.int .i64 from_,.pointer (some ⟨bn,0,none⟩),.pointer (some ⟨bo,0,none⟩),.pointer (some ⟨bw,0,none⟩)] ?_ ?_;(next=>(have he:=enters_ Tryz.func71 kr rfl #[.string b1,.int .i64 from_,.pointer (some ⟨bn,0,none⟩),.pointer (some ⟨bo,0,none⟩),.pointer (some ⟨bw,0,none⟩)] (w4.setCell ⟨bn,0,none⟩ (Value.int IntKind.i64 (wrap64 (next - 1))));unfold execOp;simp [FW,resolve,Deferred.ofValue,invoke,Act.eval,go_sem,he];done));refine (IH.out b1 from_ (wrap64 (next - 1)) (L.set i.toNat next) (q1,q2) _ HQ.out HC5.out).mono ?_;rintro e w6 ⟨rfl,hC,hb,hk⟩;refine ⟨_,rfl,?_⟩;have HC6:=ak hC;have HB6:=ak (HB5.out.trans hb);have HK6:=ak (HK5.out.then_ hk (fun _ h=>.inl h));clear hC hb hk HC5 HB5 HK5 hc0 hf0 hcw)
   have n0_:=ak (HC6.out.below (below_drew1 (Below.refl _ _)))
   have n1_:=ak (below_drew1 HB6.out)
   have n2_:=ak HK6.out.drew
   clear HC6 HB6 HK6
   have HC1:=n0_
   have HB:=n1_
   have HK:=n2_
   clear n0_ n1_ n2_
   refine start_ (n:=8) (S:=fun w'=>w'.cell? ⟨bw,0,none⟩=some (FW bn bo bw)) (ds:=[]) #[false,false,false,false,false,false,false,false] kr rfl rfl ((blk_cell HC1.out.2.2.1 0).trans rfl) (fun hHeld=>?_)
   refine pure_ (i:=1) (N:=some 30) (v:=?_) (a':=?_) #[false,true,false,false,false,false,false,false] rfl rfl kr (fun _ _ _ h=>h) (Or.inl ⟨by rfl,?_⟩) ?_ ?_
   rotate_left
   ·intro w'
    go_simp
    with_reducible rfl
   rotate_left
   ·simp only [Act.put,sIB,sc0,scs,i64_w,i32_w]
    rfl
   refine pure_ (i:=2) (N:=some 31) (v:=?_) (a':=?_) #[false,true,true,false,false,false,false,false] rfl rfl kr (fun _ _ _ h=>h) (Or.inl ⟨by rfl,?_⟩) ?_ ?_
   rotate_left
   ·intro w'
    go_simp
    with_reducible rfl
   rotate_left
   ·simp only [Act.put,sIB,sc0,scs,i64_w,i32_w]
    rfl
   refine pure_ (i:=3) (N:=some 32) (v:=?_) (a':=?_) #[false,true,true,true,false,false,false,false] rfl rfl kr (fun _ _ _ h=>h) (Or.inl ⟨by rfl,?_⟩) ?_ ?_
   rotate_left
   ·intro w'
    go_simp
    with_reducible rfl
   rotate_left
   ·simp only [Act.put,sIB,sc0,scs,i64_w,i32_w]
    rfl
   refine take_ (i:=0) (N:=some 29) (v:=?_) (a':=?_) #[true,true,true,true,false,false,false,false] rfl rfl kr (fun _ _ _ h=>h) (Or.inl ⟨by rfl,?_⟩) hHeld ?_ ?_
   rotate_left
   ·rintro w' s0
    go_simp
    with_reducible rfl
   rotate_left
   ·simp only [Act.put,sIB,sc0,scs,i64_w,i32_w]
    rfl
   refine one_ (i:=4) (N:=some 33) #[true,true,true,true,true,false,false,false] rfl rfl kr dc (fun K hK=>?_)
   refine goes_ Tryz.func70 kr rfl #[.string b1] (by rfl) rfl rfl q11_3 ?_
   refine (impl_nodesOf.calls b1 n _ HN.out).mono ?_
   rintro e w8 ⟨rfl,hd⟩
   refine ⟨_,rfl,?_⟩
   have hb:=hd.below
   have n0_:=ak (HC1.out.below hb)
   have n1_:=ak (HB.out.trans (hb.mono HC1.out.lt))
   have n2_:=ak (HK.out.below hb)
   clear HC1 HB HK hd hb
   have HC1:=n0_
   have HB:=n1_
   have HK:=n2_
   clear n0_ n1_ n2_
   refine hK.out _ _ ((blk_cell HC1.out.2.2.1 0).trans rfl) (fun hHeld=>?_)
   clear hK K
   refine norm_ (a':=?_) ?_ ?_
   rotate_left
   ·show Act.put _ (some 33) _=_
    simp only [Act.put,sIB,sc0,scs,i64_w,i32_w]
    rfl
   refine pure_ (i:=5) (N:=some 34) (v:=?_) (a':=?_) #[true,true,true,true,true,true,false,false] rfl rfl kr (fun _ _ _ h=>h) (Or.inl ⟨by rfl,?_⟩) ?_ ?_
   rotate_left
   ·intro w'
    go_simp
    with_reducible rfl
   rotate_left
   ·simp only [Act.put,sIB,sc0,scs,i64_w,i32_w]
    rfl
   refine pure_ (i:=6) (N:=some 35) (v:=?_) (a':=?_) #[true,true,true,true,true,true,true,false] rfl rfl kr (fun _ _ _ h=>h) (Or.inl ⟨by rfl,?_⟩) ?_ ?_
   rotate_left
   ·intro w'
    go_simp
    with_reducible rfl
   rotate_left
   ·simp only [Act.put,sIB,sc0,scs,i64_w,i32_w]
    rfl
   refine one_ (i:=7) (N:=some 36) #[true,true,true,true,true,true,true,true] rfl rfl kr dc (fun K hK=>?_)
   refine call_ 71 #[.string b2,.int .i64 (wrap64 (i+1)),.pointer (some ⟨bn,0,none⟩),.pointer (some ⟨bo,0,none⟩),.pointer (some ⟨bw,0,none⟩)] (by rfl) rfl ?_ ?_
   ·have he:=enters_ Tryz.func71 kr rfl #[.string b2,.int .i64 (wrap64 (i+1)),.pointer (some ⟨bn,0,none⟩),.pointer (some ⟨bo,0,none⟩),.pointer (some ⟨bw,0,none⟩)] w8
    unfold execOp
    simp [FW,resolve,Deferred.ofValue,invoke,Act.eval,go_sem,HI.out,he]
   refine (IH.out b2 (wrap64 (i+1)) q1 q2 r _ HH.out HC1.out).mono ?_
   rintro e w9 ⟨rfl,hC,hb,hk⟩
   refine ⟨_,rfl,?_⟩
   have n0_:=ak hC
   have n1_:=ak (HB.out.trans hb)
   have n2_:=ak (HK.out.then_ hk (fun _ h=>.inl h))
   clear HC1 HB HK hC hb hk
   have HC1:=n0_
   have HB:=n1_
   have HK:=n2_
   clear n0_ n1_ n2_
   refine hK.out _ _ ((blk_cell HC1.out.2.2.1 0).trans rfl) (fun hHeld=>?_)
   clear hK K
   refine norm_ (a':=?_) ?_ ?_
   rotate_left
   ·show Act.put _ (some 36) _=_
    simp only [Act.put,sIB,sc0,scs,i64_w,i32_w]
    rfl
   refine done_ kr ?_
   go_wp2
   refine bodyPost_end (v:=.tuple #[]) (by simp [results,Tryz.results71,go_sem]) rfl ⟨rfl,HC1.out,HB.out,HK.out⟩
def impl_ListOfDecreasing.f (k:Nat) (a0:ByteArray):Option (List Int × Int):=(impl_IsBinary.f k a0).bind fun b=>if b=true then (impl_nodesOf.f a0).bind fun n=>if 0≤n∧n≤1000 then (impl_ListOfDecreasing.w k k a0 0 (wrap64 (n - 1)) (List.replicate n.toNat 0)).bind fun q=>some (q.2,0) else none else some ([],1)
def ldW (w5:World) (bo:Nat) (x:Int):World:=((w5.alloc (.cells #[.int .i64 x] 2 (0,0))).alloc (.cells #[Value.nilFunc] 71 (0,0)))
def ldV (w5:World) (bo:Nat) (x:Int):World:=((w5.alloc (.cells #[.int .i64 x] 2 (0,0))).alloc (.cells #[FW w5.heap.size bo (w5.heap.size+1)] 71 (0,0)))
theorem ld_start {w w3 w5:World} {A:Option Addr} {m c:Nat} {L:List Int} (x:Int) (HB:Below w.heap.size w w3) (HO:Kd.R (Kd.int .i64) 2 w3 w.heap.size (fun k=>k<w3.heap.size) (.slice A m c) L) (hL:L.length=m)
  (hb:Below (w3.alloc (.cells #[.slice A m c] 24 (0,0))).heap.size (w3.alloc (.cells #[.slice A m c] 24 (0,0))) w5) :
  (ldW w5 w3.heap.size x).cell? ⟨w5.heap.size+1,0,none⟩=some Value.nilFunc∧(ldW w5 w3.heap.size x).frozen? ⟨w5.heap.size+1,0,none⟩=false∧CS w.heap.size w5.heap.size w3.heap.size (w5.heap.size+1) A m c (ldV w5 w3.heap.size x) x L∧Below w.heap.size w (ldV w5 w3.heap.size x):=by
 have hlt:w3.heap.size<w5.heap.size:=by have h:=hb.size;simp at h;omega
 have h0:w.heap.size≤w3.heap.size:=below_size HB
 have hs:(w5.alloc (.cells #[.int .i64 x] 2 (0,0))).heap.size=w5.heap.size+1:=by simp
 have hn:=blk_new (w5.alloc (.cells #[.int .i64 x] 2 (0,0))) (.cells #[Value.nilFunc] 71 (0,0))
 have hm:=blk_new (w5.alloc (.cells #[.int .i64 x] 2 (0,0))) (.cells #[FW w5.heap.size w3.heap.size (w5.heap.size+1)] 71 (0,0))
 rw [hs] at hn hm
 have hn:(ldW w5 w3.heap.size x).heap[w5.heap.size+1]?=some (.cells #[Value.nilFunc] 71 (0,0)):=hn
 have hm:(ldV w5 w3.heap.size x).heap[w5.heap.size+1]?=some (.cells #[FW w5.heap.size w3.heap.size (w5.heap.size+1)] 71 (0,0)):=hm
 have h1:(ldV w5 w3.heap.size x).heap[w5.heap.size]?=some (.cells #[.int .i64 x] 2 (0,0)):=blk_alloc (blk_new w5 _) _
 have h2:(ldV w5 w3.heap.size x).heap[w3.heap.size]?=some (.cells #[.slice A m c] 24 (0,0)):=blk_alloc (blk_alloc (blk_below (blk_new w3 _) hb) _) _
 have h3:Kd.R (Kd.int .i64) 2 (ldV w5 w3.heap.size x) w.heap.size (fun k=>k<w3.heap.size) (.slice A m c) L:=Kd.R_alloc (Kd.R_alloc (Kd.R_below (Kd.R_alloc HO _) hb) _) _
 have h4:Below w.heap.size w (ldV w5 w3.heap.size x):=below_alloc (below_alloc (below_step (below_alloc HB _) hb) _) _
 exact ⟨(blk_cell hn 0).trans rfl,blk_frozen hn 0,⟨h1,h2,hm,Kd.R_mono h3 (fun k hk=>by omega),hL,by omega⟩,h4⟩
@[go_sem] theorem ld_store_func {P:Program} {w:World} {a:Addr} {m:Mode} (fn:Fn) (first captured:Array Value):(store a (.func fn first captured) m).run P w=stored P w a (.func fn first captured) m:=run_store P w a _ m rfl
theorem ld_info:(Tryz.prog.info? 2).map (fun i=>(i.zero,i.size,i.bytes))=some (some (.int .i64 0),1,8):=by kernel_rfl
theorem impl_ListOfDecreasing.calls (k:Nat) (a0:ByteArray) (r1:List Int) (r2:Int) (w:World) (h:impl_ListOfDecreasing.f k a0=some (r1,r2)) :
  Calls Tryz.prog 17 #[.string a0] w fun e w'=>∃ v0_:Value,e=.returned (.tuple #[v0_,.int .i64 r2])∧Kd.R (Kd.int .i64) 2 w' w.heap.size (fun _=>True) v0_ r1∧Below w.heap.size w w':=by
 unfold impl_ListOfDecreasing.f at h
 obtain ⟨b,hb,h⟩:=Option.bind_eq_some_iff.mp h;have HIB:=ak hb;clear hb
 cases b with
 | false =>
  rw [if_neg dc] at h;obtain ⟨rfl,rfl⟩:=Prod.mk.inj (Option.some.inj h);clear h
  go_enter Tryz.func17,Tryz.ntmps17
  go_wp2_with ((with_reducible refine gate_dst (N:=8) rfl ?_);refine goesL_ (some 8) rfl rfl Tryz.func68 kr rfl #[.string a0] rfl q11_3 ?_;refine (impl_IsBinary.calls k a0 _ _ HIB.out).mono ?_;rintro e w1 ⟨rfl,hd⟩;refine ⟨_,rfl,?_⟩;have HB:=ak hd.below;clear hd)
  refine bodyPost_ret (v:=.tuple #[.slice none 0 0,.int .i64 1]) (by simp [results,Tryz.results17,go_sem]) rfl ⟨_,rfl,Kd.R_nil _ _ _ _ _,HB.out⟩
 | true =>
  rw [if_pos rfl] at h;obtain ⟨n,hn,h⟩:=Option.bind_eq_some_iff.mp h;obtain c1|c1:=nem (0≤n∧n≤1000)
  ·rw [if_neg c1] at h;cases h
  rw [if_pos c1] at h;obtain ⟨q,hq,h⟩:=Option.bind_eq_some_iff.mp h;obtain ⟨rfl,rfl⟩:=Prod.mk.inj (Option.some.inj h);have HN:=ak hn;have HQ:=ak hq;have C1:=ak c1;clear h hn hq c1
  go_enter Tryz.func17,Tryz.ntmps17
  go_wp2_with (first|((with_reducible refine gate_dst (N:=8) rfl ?_);refine goesL_ (some 8) rfl rfl Tryz.func68 kr rfl #[.string a0] rfl q11_3 ?_;refine (impl_IsBinary.calls k a0 _ _ HIB.out).mono ?_;rintro e w1 ⟨rfl,hd⟩;refine ⟨_,rfl,?_⟩;have HB:=ak hd.below;clear hd)|((with_reducible refine gate_dst (N:=11) rfl ?_);refine goesL_ (some 11) rfl rfl Tryz.func70 kr rfl #[.string a0] rfl q11_3 ?_;refine (impl_nodesOf.calls a0 _ _ HN.out).mono ?_;rintro e w2 ⟨rfl,hd⟩;refine ⟨_,rfl,?_⟩;have n_:=ak (below_step HB.out hd.below);clear HB hd;have HB:=n_;clear n_)|((with_reducible refine gate_dst (N:=12) rfl ?_);refine Kd.R_make (Kd.int .i64) _ 2 rfl (N:=12) rfl 24 _ _ rfl n rfl rfl Tryz.underlying24 (.int .i64 0) 8 ld_info rfl dc (by omega) 0 (ok:=fun _=>True) (okp:=fun _=>True) rfl (fun _ hk=>hk) trivial C1.out.1 (by have h_:=C1.out;omega) (Below.refl _ _) (Nat.le_refl _) ?_;intro v w3 ho hb hg_ hnew_;clear hg_ hnew_;obtain ⟨A,c,hv⟩:=Kd.R_slice ho;rw [List.length_replicate] at hv;subst hv;have HO:=ak (Kd.R_mono (Kd.R_bound (Kd.R_lower ho (below_size HB.out))) (fun k hk=>hk.2.2.1));have n_:=ak (below_step HB.out hb);clear HB hb ho;have HB:=n_;clear n_)|((with_reducible refine gate_dst (N:=14) rfl ?_);refine goesL_ (some 14) rfl rfl Tryz.func70 kr rfl #[.string a0] rfl q11_3 ?_;refine (impl_nodesOf.calls a0 _ _ HN.out).mono ?_;rintro e w5 ⟨rfl,hd⟩;refine ⟨_,rfl,?_⟩;obtain ⟨hz6,hf6,hC,hB⟩:=ld_start (wrap64 (n - 1)) HB.out HO.out List.length_replicate hd.below;have hz7:=(blk_cell hC.2.2.1 0).trans (rfl:_=some (FW w5.heap.size w3.heap.size (w5.heap.size+1)));clear HB HO;have HC:=ak hC;have HB:=ak hB;clear hC hB hd;unfold FW ldV at hz7;unfold ldW at hz6 hf6)|((with_reducible refine gate_dst (N:=19) rfl ?_);refine callL_ (some 19) rfl rfl 71 #[.string a0,.int .i64 0,.pointer (some ⟨w5.heap.size,0,none⟩),.pointer (some ⟨w3.heap.size,0,none⟩),.pointer (some ⟨w5.heap.size+1,0,none⟩)] ?_ ?_;(next=>(have he:=enters_ Tryz.func71 kr rfl (#[.string a0,.int .i64 0,.pointer (some ⟨w5.heap.size,0,none⟩),.pointer (some ⟨w3.heap.size,0,none⟩),.pointer (some ⟨w5.heap.size+1,0,none⟩)]) (ldV w5 w3.heap.size (wrap64 (n - 1)));unfold ldV FW at he;unfold execOp;simp [FW,resolve,Deferred.ofValue,invoke,Act.eval,go_sem,he];done));refine (impl_ListOfDecreasing.walk k w.heap.size w5.heap.size w3.heap.size (w5.heap.size+1) A n.toNat c k a0 0 (wrap64 (n - 1)) _ q _ HQ.out HC.out).mono ?_;rintro e w8 ⟨rfl,hC,hb,_⟩;refine ⟨_,rfl,?_⟩;have hz8:=(blk_cell hC.2.1 0).trans (rfl:_=some (Value.slice A n.toNat c));have m_:=ak (HB.out.trans hb);have n_:=ak hC;clear HC HB hC hb hz7 hz6 hf6;have HB:=m_;have HC:=n_;clear n_ m_))
  refine bodyPost_ret (v:=.tuple #[.slice A n.toNat c,.int .i64 0]) (by simp [results,Tryz.results17,go_sem]) rfl ⟨_,rfl,Kd.R_mono HC.out.2.2.2.1 (fun _ _=>trivial),HB.out⟩
def spec_l03Bad.f (s0_0:List Int) (s0_1:Int) (s0_2:Int) (a1:ByteArray):Option (ByteArray × Int × Int):=(spec_l01Next.f s0_0 s0_1 s0_2 40).bind fun bt388=>(if bt388.1=0 then (if a1.size+1≤9223372036854775807 then (some (a1++(⟨#[48]⟩:ByteArray),bt388.2.1,bt388.2.2)) else (none)) else (if bt388.1=1 then (if 1≤(a1.size:Int) then (some (a1.extract 1 a1.size,bt388.2.1,bt388.2.2)) else (none)) else (if bt388.1=2 then (some ((⟨#[]⟩:ByteArray),bt388.2.1,bt388.2.2)) else (if bt388.1=3 then (if 1+a1.size≤9223372036854775807 then (some ((⟨#[120]⟩:ByteArray)++a1,bt388.2.1,bt388.2.2)) else (none)) else (some (a1,bt388.2.1,bt388.2.2))))))
theorem spec_l03Bad.calls (g:Nat) (s0_0:List Int) (s0_1:Int) (s0_2:Int) (a1:ByteArray) (r1:ByteArray) (r2:Int) (r3:Int) (w0 w:World) (hI:IsS90 w0 w g s0_0 s0_1 s0_2) (hB:Below w0.heap.size w0 w) (h:spec_l03Bad.f s0_0 s0_1 s0_2 a1=some (r1,r2,r3)) :
  Calls Tryz.prog 111 #[.pointer (some ⟨g,0,none⟩),.string a1] w fun e w'=>e=.returned (.string r1)∧IsS90 w0 w' g s0_0 r2 r3∧Below w0.heap.size w0 w'∧KeepBut w w' g none:=by
 have HI0:=ak hI;have HK:=ak (KeepBut.refl w g none);have HL:=ak hB.size;clear hI;have HW0:=ak hB.size;have HB:=ak hB;clear hB;have H:((spec_l01Next.f s0_0 s0_1 s0_2 40).bind fun ab=>(if ab.1=0 then (if a1.size+1≤9223372036854775807 then (some (a1++(⟨#[48]⟩:ByteArray),ab.2.1,ab.2.2)) else (none)) else (if ab.1=1 then (if 1≤(a1.size:Int) then (some (a1.extract 1 a1.size,ab.2.1,ab.2.2)) else (none)) else (if ab.1=2 then (some ((⟨#[]⟩:ByteArray),ab.2.1,ab.2.2)) else (if ab.1=3 then (if 1+a1.size≤9223372036854775807 then (some ((⟨#[120]⟩:ByteArray)++a1,ab.2.1,ab.2.2)) else (none)) else (some (a1,ab.2.1,ab.2.2)))))))=some (r1,r2,r3):=h;clear h;replace H:=bs H;obtain ⟨⟨aa,ah,ai⟩,A3,H⟩:=H;(try dsimp only at H)
 by_cases c4:aa=0
 ·rw [if_pos c4] at H;have al:=be c4;have aI:=bn c4;clear c4;replace H:=ifs H;obtain ⟨c5,H⟩:=H;have aJ:=eq_true c5;have a3:decide (a1.size+1≤9223372036854775807)=true:=decide_eq_true c5
  try have a4:(9223372036854775807<a1.size+1)=False:=eq_false (Nat.not_lt.2 c5)
  simp only [Option.some.injEq,Prod.mk.injEq] at H;obtain ⟨rfl,rfl,rfl⟩:=H
  go_enter Tryz.func111,Tryz.ntmps111
  go_wp2_with (first|((with_reducible refine gate_callee (f:=50) rfl ?_);refine gl (some 6) Tryz.func50 #[.pointer (some ⟨g,0,none⟩),.int .i64 40] ?_;(with_reducible refine (spec_l01Next.calls g s0_0 s0_1 s0_2 40 aa ah ai w0 _ ?side1 ?side2 A3.out).mono ?_);(case side1=>exact q11_1);(case side2=>exact q11_0);rintro e w6 ⟨rfl,hi,hb,hk⟩;refine ⟨_,rfl,?_⟩;replace HK:=ak (KeepBut.trans q11_2 hk (.inl rfl));replace HB:=ak (hb);replace HI0:=ak (hi);(try clear hb hk hi)))
  go_ret
  exact ⟨ew,q11_1,q11_0,q11_2⟩
 rw [if_neg c4] at H;have al:(aa == 0)=false:=beq_eq_false_iff_ne.mpr c4;have aI:(aa != 0)=true:=bne_iff_ne.mpr c4
 by_cases c7:aa=1
 ·rw [if_pos c7] at H;have aK:=be c7;have aM:=bn c7;clear c7;replace H:=ifs H;obtain ⟨c8,H⟩:=H;have a5:=eq_true c8;have a6:decide (1≤(a1.size:Int))=true:=decide_eq_true c8;clear c8;simp only [Option.some.injEq,Prod.mk.injEq] at H;obtain ⟨rfl,rfl,rfl⟩:=H
  go_enter Tryz.func111,Tryz.ntmps111
  go_wp2_with (first|((with_reducible refine gate_callee (f:=50) rfl ?_);refine gl (some 6) Tryz.func50 #[.pointer (some ⟨g,0,none⟩),.int .i64 40] ?_;(with_reducible refine (spec_l01Next.calls g s0_0 s0_1 s0_2 40 aa ah ai w0 _ ?side1 ?side2 A3.out).mono ?_);(case side1=>exact q11_1);(case side2=>exact q11_0);rintro e w9 ⟨rfl,hi,hb,hk⟩;refine ⟨_,rfl,?_⟩;replace HK:=ak (KeepBut.trans q11_2 hk (.inl rfl));replace HB:=ak (hb);replace HI0:=ak (hi);(try clear hb hk hi)))
  go_ret
  exact ⟨ew,q11_1,q11_0,q11_2⟩
 rw [if_neg c7] at H;have aK:(aa == 1)=false:=beq_eq_false_iff_ne.mpr c7;have aM:(aa != 1)=true:=bne_iff_ne.mpr c7
 by_cases c10:aa=2
 ·rw [if_pos c10] at H;have aN:=be c10;have aQ:=bn c10;clear c10;simp only [Option.some.injEq,Prod.mk.injEq] at H;obtain ⟨rfl,rfl,rfl⟩:=H
  go_enter Tryz.func111,Tryz.ntmps111
  go_wp2_with (first|((with_reducible refine gate_callee (f:=50) rfl ?_);refine gl (some 6) Tryz.func50 #[.pointer (some ⟨g,0,none⟩),.int .i64 40] ?_;(with_reducible refine (spec_l01Next.calls g s0_0 s0_1 s0_2 40 aa ah ai w0 _ ?side1 ?side2 A3.out).mono ?_);(case side1=>exact q11_1);(case side2=>exact q11_0);rintro e w11 ⟨rfl,hi,hb,hk⟩;refine ⟨_,rfl,?_⟩;replace HK:=ak (KeepBut.trans q11_2 hk (.inl rfl));replace HB:=ak (hb);replace HI0:=ak (hi);(try clear hb hk hi)))
  go_ret
  exact ⟨ew,q11_1,q11_0,q11_2⟩
 rw [if_neg c10] at H;have aN:(aa == 2)=false:=beq_eq_false_iff_ne.mpr c10;have aQ:(aa != 2)=true:=bne_iff_ne.mpr c10;obtain c12|c12:=nem (aa=3)
 ·rw [if_neg c12] at H;have aR:(aa == 3)=false:=beq_eq_false_iff_ne.mpr c12;have aT:(aa != 3)=true:=bne_iff_ne.mpr c12;simp only [Option.some.injEq,Prod.mk.injEq] at H;obtain ⟨rfl,rfl,rfl⟩:=H
  go_enter Tryz.func111,Tryz.ntmps111
  go_wp2_with (first|((with_reducible refine gate_callee (f:=50) rfl ?_);refine gl (some 6) Tryz.func50 #[.pointer (some ⟨g,0,none⟩),.int .i64 40] ?_;(with_reducible refine (spec_l01Next.calls g s0_0 s0_1 s0_2 40 aa ah ai w0 _ ?side1 ?side2 A3.out).mono ?_);(case side1=>exact q11_1);(case side2=>exact q11_0);rintro e w15 ⟨rfl,hi,hb,hk⟩;refine ⟨_,rfl,?_⟩;replace HK:=ak (KeepBut.trans q11_2 hk (.inl rfl));replace HB:=ak (hb);replace HI0:=ak (hi);(try clear hb hk hi)))
  go_ret
  exact ⟨ew,q11_1,q11_0,q11_2⟩
 rw [if_pos c12] at H;have aR:=be c12;have aT:=bn c12;clear c12;replace H:=ifs H;obtain ⟨c13,H⟩:=H;have a7:=eq_true c13;have a8:decide (1+a1.size≤9223372036854775807)=true:=decide_eq_true c13
 try have a9:(9223372036854775807<1+a1.size)=False:=eq_false (Nat.not_lt.2 c13)
 simp only [Option.some.injEq,Prod.mk.injEq] at H;obtain ⟨rfl,rfl,rfl⟩:=H
 go_enter Tryz.func111,Tryz.ntmps111
 go_wp2_with (first|((with_reducible refine gate_callee (f:=50) rfl ?_);refine gl (some 6) Tryz.func50 #[.pointer (some ⟨g,0,none⟩),.int .i64 40] ?_;(with_reducible refine (spec_l01Next.calls g s0_0 s0_1 s0_2 40 aa ah ai w0 _ ?side1 ?side2 A3.out).mono ?_);(case side1=>exact q11_1);(case side2=>exact q11_0);rintro e w14 ⟨rfl,hi,hb,hk⟩;refine ⟨_,rfl,?_⟩;replace HK:=ak (KeepBut.trans q11_2 hk (.inl rfl));replace HB:=ak (hb);replace HI0:=ak (hi);(try clear hb hk hi)))
 go_ret
 exact ⟨ew,q11_1,q11_0,q11_2⟩
def spec_l01End.l0:Nat→Int→Int→List Int→Option (Int)
 | 0,_,_,_=>none
 | k+1,x1,x5,x392000=>if x5>0 then (if 0≤x1 then (if x1<(x392000.length:Int) then (spec_l01End.l0 k (wrap64 (x1+1)) (wrap64 ((wrap64 (x5 - 1))+(rd x392000 x1))) x392000) else (none)) else (none)) else (some x1)
def spec_l01End.f (k:Nat) (l0_0:List Int) (a1:Int):Option (Int):=spec_l01End.l0 k a1 1 l0_0
theorem spec_l01End.calls (k:Nat) (A0_0:Option Addr) (c0_0:Nat) (l0_0:List Int) (a1:Int) (r:Int) (w:World) (hr0_0:Kd.C (Kd.int .i64) w A0_0 l0_0.length l0_0) (hc0_0:l0_0.length≤c0_0) (h:spec_l01End.f k l0_0 a1=some r) :
  Calls Tryz.prog 116 #[.agg #[.slice A0_0 l0_0.length c0_0],.int .i64 a1] w fun e w'=>e=.returned (.int .i64 r)∧Below w.heap.size w w':=by
 have hu27:=Tryz.underlying27;have ao:=ak hr0_0;have aC:=ak hc0_0;clear hr0_0 hc0_0;have HB:=ak (Below.refl w.heap.size w);have H:(spec_l01End.l0 k a1 1 l0_0)=some r:=h;clear h;have H':=ak H;clear H
 go_enter Tryz.func116,Tryz.ntmps116
 go_wp2_with (first|((with_reducible refine gate_dst (N:=2) rfl ?_);refine bev (N:=2) (cs:=#[.slice A0_0 l0_0.length c0_0]) (t:=27) ?_;intro aU hg w3 hbox hb;have aj:=ak (hbox);have ba:=gbe hg;have bd:=gbe hg;replace HB:=hbs hb;clear hb hbox hg))
 go_loopg [1,5] k (fun kq v1 v5 w'=>∃ (af:Int) (ad:Int),v1=.int .i64 af∧v5=.int .i64 ad∧Aside0 (spec_l01End.l0 kq af ad l0_0=some r)∧Aside0 (kq≤k)∧Aside0 (w'.heap[aU]?=some (.cells #[(.slice A0_0 l0_0.length c0_0)] 27 (0,0)))∧Aside0 (Below w.heap.size w w'))
 case atStart=>exact ⟨(a1),(1),q11_4,q11_4,H',⟨Nat.le_refl _⟩,⟨pb aj.out⟩,⟨hq⟩⟩
 case round =>
  clear H';obtain ⟨af,ad,rfl,rfl,HA,HK1,aj,HB⟩:=hrel
  cases gk with|zero=>exact absurd HA.out (by simp [spec_l01End.l0])|succ k1=>?_
  have H:=HA.out;clear HA;simp only [spec_l01End.l0] at H;obtain c4|c4:=nem (ad>0)
  ·rw [if_neg c4] at H;have al:decide (0<ad)=false:=decide_eq_false c4;clear c4;obtain rfl:=Option.some.inj H;go_wp2
   go_ret
   exact ⟨ew,hq⟩
  rw [if_pos c4] at H;have al:decide (0<ad)=true:=decide_eq_true c4;clear c4;replace H:=ifs H;obtain ⟨c5,H⟩:=H;have aJ:=dt c5;clear c5;replace H:=ifs H;obtain ⟨c6,H⟩:=H;have bf:=dt c6;clear c6;have H':=ak H;clear H;have bg:=bc aj.out;have bh:=blk_frozen aj.out 0;have ar:0≤(af:Int):=od q11_5;have au:af<(l0_0.length:Int):=od q11_5;obtain ⟨bi,aV,av⟩:=Kd.at_int ao.out af ar au;cases aV;replace av:=(HB.out.cell (World.block_lt_of_cell? w _ av)).trans av;replace ar:=eq_true ar;replace au:=eq_true au;go_wp2
  go_roundg k1
  case measure=>have:=HK1.out;omega
  case rel=>exact ⟨(wrap64 (af+1)),(wrap64 ((wrap64 (ad - 1))+(rd l0_0 af))),q11_4,q11_4,H',⟨by have:=HK1.out;omega⟩,⟨pb aj.out⟩,⟨hq⟩⟩
def spec_l01Children.l0:Nat→List Int→Int→Int→List Int→Option (List Int)
 | 0,_,_,_,_=>none
 | k+1,x5,x6,x7,x394000=>if x7>0 then (if x5.length<17592186044416 then ((spec_l01End.f k x394000 x6).bind fun t401=>(spec_l01Children.l0 k (x5++[x6]) t401 (wrap64 (x7 - 1)) x394000)) else (none)) else (some x5)
def spec_l01Children.f (k:Nat) (l0_0:List Int) (a1:Int):Option (List Int):=if 0≤a1 then (if a1<(l0_0.length:Int) then (spec_l01Children.l0 k ([]:List Int) (wrap64 (a1+1)) (rd l0_0 a1) l0_0) else (none)) else (none)
theorem spec_l01Children.calls (k:Nat) (A0_0:Option Addr) (c0_0:Nat) (l0_0:List Int) (a1:Int) (r:List Int) (w:World) (hr0_0:Kd.C (Kd.int .i64) w A0_0 l0_0.length l0_0) (hc0_0:l0_0.length≤c0_0) (h:spec_l01Children.f k l0_0 a1=some r) :
  Calls Tryz.prog 81 #[.agg #[.slice A0_0 l0_0.length c0_0],.int .i64 a1] w fun e w'=>∃ v0_:Value,e=.returned (v0_)∧Kd.R (Kd.int .i64) 2 w' w.heap.size (fun _=>True) v0_ r∧Below w.heap.size w w':=by
 have hu27:=Tryz.underlying27;have ao:=ak hr0_0;have aC:=ak hc0_0;clear hr0_0 hc0_0;have HB:=ak (Below.refl w.heap.size w);have H:(if 0≤a1 then (if a1<(l0_0.length:Int) then (spec_l01Children.l0 k ([]:List Int) (wrap64 (a1+1)) (rd l0_0 a1) l0_0) else (none)) else (none))=some r:=h;clear h;obtain ⟨aD,hY⟩:∃ y_:List Int,y_=([]:List Int):=⟨_,rfl⟩;replace H:(if 0≤a1 then (if a1<(l0_0.length:Int) then (spec_l01Children.l0 k aD (wrap64 (a1+1)) (rd l0_0 a1) l0_0) else (none)) else (none))=some r:=hh;have aE:=ak hY;clear hY;replace H:=ifs H;obtain ⟨c3,H⟩:=H;have bj:=dt c3;clear c3;replace H:=ifs H;obtain ⟨c4,H⟩:=H;have al:=dt c4;clear c4;have H':=ak H;clear H
 go_enter Tryz.func81,Tryz.ntmps81
 go_wp2_with (first|((with_reducible refine gate_dst (N:=2) rfl ?_);refine bev (N:=2) (cs:=#[.slice A0_0 l0_0.length c0_0]) (t:=27) ?_;intro aG hg w5 hbox hb;have ac:=ak (hbox);have bk:=gbe hg;have bl:=gbe hg;replace HB:=hbs hb;clear hb hbox hg)|((with_reducible refine gate_dst (N:=8) rfl ?_);refine Kd.R_lit (Kd.int .i64) _ 2 ?hg (N:=8) ?hd (xs:=([]:List Int)) (inner:=[]) (ok:=fun _=>True) (okp:=fun _=>True) ?hr ?hp (fun _ hk=>hk) trivial (Below.refl _ _) (Nat.le_refl _) (by simp) ?_;(case hd=>rfl);(case hg=>rfl);(case hr=>exact gs);(case hp=>exact (Reps.none _ _));intro bm w6 ho7 hb hg_ hnew_;clear hg_ hnew_;(first|rw [← aE.out] at ho7|(simp only [Int.reduceToNat] at ho7;rw [← aE.out] at ho7));have aW:=lw ho7;replace ac:=bb ac hb;replace HB:=hbs hb;clear hb ho7;have bp:=bc ac.out;have bq:=blk_frozen ac.out 0;have aw:0≤(a1:Int):=od q11_5;have ax:a1<(l0_0.length:Int):=od q11_5;obtain ⟨ay,aX,az⟩:=Kd.at_int ao.out a1 aw ax;cases aX;replace az:=(HB.out.cell (World.block_lt_of_cell? w _ az)).trans az;replace aw:=eq_true aw;replace ax:=eq_true ax))
 go_loopg [5,6,7] k (fun kq v5 v6 v7 w'=>∃ (ad:List Int) (ae:Int) (ag:Int),v6=.int .i64 ae∧v7=.int .i64 ag∧Aside0 (spec_l01Children.l0 kq ad ae ag l0_0=some r)∧Aside0 (kq≤k)∧Aside0 (Kd.R (Kd.int .i64) 2 w' w.heap.size (fun _=>True) v5 ad)∧Aside0 (w'.heap[aG]?=some (.cells #[(.slice (some ay) l0_0.length c0_0)] 27 (0,0)))∧Aside0 (Below w.heap.size w w'))
 case atStart=>exact ⟨(aD),(wrap64 (a1+1)),(rd l0_0 a1),q11_4,q11_4,H',⟨Nat.le_refl _⟩,⟨pe aW.out⟩,⟨pb ac.out⟩,⟨hq⟩⟩
 case round =>
  clear H';obtain ⟨ad,ae,ag,rfl,rfl,HA,HK1,ap,ac,HB⟩:=hrel
  cases gk with|zero=>exact absurd HA.out (by simp [spec_l01Children.l0])|succ k1=>?_
  have H:=HA.out;clear HA;simp only [spec_l01Children.l0] at H;obtain c9|c9:=nem (ag>0)
  ·rw [if_neg c9] at H;have aY:decide (0<ag)=false:=decide_eq_false c9;clear c9;obtain rfl:=Option.some.inj H;go_wp2
   go_ret
   exact ⟨_,ew,pe ap.out,hq⟩
  rw [if_pos c9] at H;have aY:decide (0<ag)=true:=decide_eq_true c9;clear c9;replace H:=ifs H;obtain ⟨c10,H⟩:=H;have aZ:=ak c10;clear c10;obtain ⟨aH,hY⟩:∃ y_:List Int,y_=(ad++[ae]):=⟨_,rfl⟩;replace H:((spec_l01End.f k1 l0_0 ae).bind fun aq=>(spec_l01Children.l0 k1 aH aq (wrap64 (ag - 1)) l0_0))=some r:=hh;have a2:=ak hY;clear hY;replace H:=bs H;obtain ⟨aq,A11,H⟩:=H;(try dsimp only at H);have H':=ak H;clear H
  go_wp2_with (first|((with_reducible refine gate_builtin (b:=.append) (xs:=#[.tmp 20,.tmp 22]) rfl ?_);at_builtin;refine Kd.R_append (Kd.int .i64) (w0:=w) w.heap.size rfl (.tmp 20) (.tmp 22) 24 2 (.int .i64 0) 8 rfl Tryz.underlying24 info2 rfl dc (by omega) u5 ad ae [.int .i64 ae] (fun _=>True) (fun _=>False) rfl rfl ?aP (fun _ hk=>hk.elim) ?aF ?aO ?aB ?aS ?aL ?_;(case aP=>exact rfl);(case aB=>exact hq);(case aF=>exact (fun _ _=>trivial));(case aO=>exact (pe ap.out));(case aS=>exact (below_size hq));(case aL=>have:=aZ.out;omega);intro br w12 ho hb hg hat;rw [← a2.out] at ho;replace ac:=ak (blk_grown (g:=aG) (o:=.cells #[.slice (some ay) l0_0.length c0_0] 27 (0,0)) (pb ac.out) hg (Kd.R_ne ap.out ac.out dc));replace HB:=ak (hb);have aA:=ak (ho);clear ap;clear ho hb hg hat;have bu:=bc ac.out;have bv:=blk_frozen ac.out 0)|((with_reducible refine gate_callee (f:=116) rfl ?_);refine gl (some 26) Tryz.func116 #[.agg #[.slice (some ay) l0_0.length c0_0],.int .i64 ae] ?_;(with_reducible refine (spec_l01End.calls k1 _ _ l0_0 ae aq _ (pc (Kd.C_below ao.out HB.out)) aC.out A11.out).mono ?_);rintro e w14 ⟨rfl,hb⟩;refine ⟨_,rfl,?_⟩;replace aA:=rb aA hb;replace ac:=bb ac hb;replace HB:=hbs hb;(try clear hb)))
  go_roundg k1
  case measure=>have:=HK1.out;omega
  case rel=>exact ⟨(aH),(aq),(wrap64 (ag - 1)),q11_4,q11_4,H',⟨by have:=HK1.out;omega⟩,⟨pe aA.out⟩,⟨pb ac.out⟩,⟨hq⟩⟩
end Go.Proofs.YtlppkilencpmeaaGreat.QFnGrowth
