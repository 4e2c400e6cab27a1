/- Functions as Lean functions, with their contracts: written by a program of this claim over the translation; some contracts are proved by hand. -/
import Derived.Test.YtlppkilencpmeaaGreatQFnGrowthx0
import Derived.Test.YtlppkilencpmeaaGreatQFnGrowthx1
import Derived.Test.YtlppkilencpmeaaGreatQFnGrowthx6
import Derived.Test.YtlppkilencpmeaaGreatQFnGrowthx11
namespace Go.Proofs.YtlppkilencpmeaaGreat.QFnGrowth
open Go.RowKit Go.Proofs.YtlppkilencpmeaaGreat.Gl Go.Proofs.YtlppkilencpmeaaGreat.Sz Go.Proofs.YtlppkilencpmeaaGreatW.PrintWords Go.Proofs.YtlppkilencpmeaaGreatW.PrintLast Go.Proofs.YtlppkilencpmeaaGreatW.PrintMore
attribute [local go_sem] max2_int min2_int max_two min_two max_three min_three max_four min_four   -- for this text's walks alone
set_option linter.unusedVariables false
set_option linter.unusedSimpArgs false
theorem q12_0 {P:Prop} (h:P:=by repeat (first|(with_reducible first|exact HI0.out|apply IsS90.alloc|apply IsS90.drewN|apply IsS90.drew|apply IsS90.set_1|apply IsS90.set_2|refine IsS90.far ?_ (Aside0.out (by with_reducible assumption)) _)|exact HI0.out)):P:=h
theorem q12_1 {P:Prop} (h:P:=by repeat (first|(with_reducible first|exact HK.out|apply KeepBut.set_|apply keep_drewN|apply keep_drew|apply keep_alloc|refine keep_far ?_ ag.out _)|exact HK.out)):P:=h
theorem q12_2 {P:Prop} (h:P:=by repeat (first|(with_reducible first|exact HB.out|apply below_alloc|apply pw_below_drewN|apply below_drew1|refine below_set ?_ (IsS90.ge HI0.out)|refine below_set ?_ (Aside0.out (by with_reducible assumption)))|exact HB.out)):P:=h
theorem q12_3 {P:Prop} (h:P:=by first|(with_reducible assumption)|assumption):P:=h
theorem q12_4 {P:Prop} (h:P:=by repeat (first|(with_reducible first|exact HI0.out|apply IsS90.alloc|apply IsS90.drewN|apply IsS90.drew|apply IsS90.set_1|apply IsS90.set_2)|exact HI0.out)):P:=h
theorem q12_5 {P:Prop} (h:P:=by repeat (first|(with_reducible first|exact HK.out|apply KeepBut.set_|apply keep_drewN|apply keep_drew|apply keep_alloc)|exact HK.out)):P:=h
theorem q12_6 {P:Prop} (h:P:=by repeat (first|(with_reducible exact aR.out)|(with_reducible refine Kd.C_alloc ?_ _)|(with_reducible refine Kd.C_drewN ?_ _)|(with_reducible refine Kd.C_drew ?_)|exact aR.out)):P:=h
theorem q12_7 {P:Prop} (h:P:=by repeat (first|(with_reducible exact aN.out)|(with_reducible refine Kd.C_alloc ?_ _)|(with_reducible refine Kd.C_drewN ?_ _)|(with_reducible refine Kd.C_drew ?_)|exact aN.out)):P:=h
theorem q12_8 {P:Prop} (h:P:=by first|rfl|(simp;done)|(simp [*];done)):P:=h
set_option maxHeartbeats 8000000
set_option maxRecDepth 100000
mutual
def spec_l01DrawOf.l0:Nat→Int→List Int→List Int→Int→Int→List Int→Int→Int→Option (List Int × Int × Int)
 | 0,_,_,_,_,_,_,_,_=>none
 | k+1,x1,x5,x6,x7,x8,x1000,x1001,x1002=>if x8<x1 then (spec_l01DrawOf.l1 k x1 x5 x6 x7 x8 (wrap64 ((x6.length:Int) - 1)) x1000 x1001 x1002) else (some (x5,x1001,x1002))
def spec_l01DrawOf.l1:Nat→Int→List Int→List Int→Int→Int→Int→List Int→Int→Int→Option (List Int × Int × Int)
 | 0,_,_,_,_,_,_,_,_,_=>none
 | k+1,x1,x5,x6,x7,x8,x9,x1000,x1001,x1002=>if x9>0 then ((spec_l01Next.f x1000 x1001 x1002 x7).bind fun bt415=>(if bt415.1=0 then (spec_l01DrawOf.l1 k x1 x5 x6 x7 x8 (wrap64 (x9 - 1)) x1000 bt415.2.1 bt415.2.2) else (if 0≤x9 then (if x9<(x6.length:Int) then (if 0≤(rd x6 x9) then (if (rd x6 x9)<(x5.length:Int) then ((some (x5.set ((rd x6 x9):Int).toNat (wrap64 ((rd x5 (rd x6 x9))+1)):List Int)).bind fun y420=>(if 0≤(wrap64 (x9+1)) then (if (wrap64 (x9+1))≤(x6.length:Int) then ((spec_l01Own.f (x6.take ((wrap64 (x9+1)):Int).toNat)).bind fun t425=>(if t425.length<17592186044416 then (if y420.length<17592186044416 then (spec_l01DrawOf.l0 k x1 (y420++[0]) (t425++[x8]) x7 (wrap64 (x8+1)) x1000 bt415.2.1 bt415.2.2) else (none)) else (none))) else (none)) else (none))) else (none)) else (none)) else (none)) else (none)))) else (if 0≤x9 then (if x9<(x6.length:Int) then (if 0≤(rd x6 x9) then (if (rd x6 x9)<(x5.length:Int) then ((some (x5.set ((rd x6 x9):Int).toNat (wrap64 ((rd x5 (rd x6 x9))+1)):List Int)).bind fun y436=>(if 0≤(wrap64 (x9+1)) then (if (wrap64 (x9+1))≤(x6.length:Int) then ((spec_l01Own.f (x6.take ((wrap64 (x9+1)):Int).toNat)).bind fun t441=>(if t441.length<17592186044416 then (if y436.length<17592186044416 then (spec_l01DrawOf.l0 k x1 (y436++[0]) (t441++[x8]) x7 (wrap64 (x8+1)) x1000 x1001 x1002) else (none)) else (none))) else (none)) else (none))) else (none)) else (none)) else (none)) else (none))
end
def spec_l01DrawOf.f (k:Nat) (s0_0:List Int) (s0_1:Int) (s0_2:Int) (a1:Int):Option (List Int × Int × Int):=(spec_l01Pick.f s0_0 s0_1 s0_2 ([1,2,4,30]:List Int)).bind fun bt412=>(spec_l01DrawOf.l0 k a1 ([0]:List Int) ([0]:List Int) bt412.1 1 s0_0 bt412.2.1 bt412.2.2)
theorem spec_l01DrawOf.calls (k:Nat) (g:Nat) (s0_0:List Int) (s0_1:Int) (s0_2:Int) (a1:Int) (r1:List Int) (r2:Int) (r3:Int) (w0 w:World) (hI:IsS90 w0 w g s0_0 s0_1 s0_2) (hB:Below w0.heap.size w0 w) (h:spec_l01DrawOf.f k s0_0 s0_1 s0_2 a1=some (r1,r2,r3)) :
  Calls Tryz.prog 100 #[.pointer (some ⟨g,0,none⟩),.int .i64 a1] w fun e w'=>∃ v0_:Value,e=.returned (.agg #[v0_])∧Kd.R (Kd.int .i64) 2 w' w.heap.size (fun _=>True) v0_ r1∧IsS90 w0 w' g s0_0 r2 r3∧Below w0.heap.size w0 w'∧KeepBut w w' g none:=by
 have hu27:=Tryz.underlying27;have HI0:=ak hI;have HK:=ak (KeepBut.refl w g none);have HL:=ak hB.size;clear hI;have HW0:=ak hB.size;have HB:=ak hB;clear hB;have H:((spec_l01Pick.f s0_0 s0_1 s0_2 ([1,2,4,30]:List Int)).bind fun an=>(spec_l01DrawOf.l0 k a1 ([0]:List Int) ([0]:List Int) an.1 1 s0_0 an.2.1 an.2.2))=some (r1,r2,r3):=h;clear h;obtain ⟨a5,hY⟩:∃ y_:List Int,y_=([0]:List Int):=⟨_,rfl⟩;replace H:((spec_l01Pick.f s0_0 s0_1 s0_2 ([1,2,4,30]:List Int)).bind fun an=>(spec_l01DrawOf.l0 k a1 a5 ([0]:List Int) an.1 1 s0_0 an.2.1 an.2.2))=some (r1,r2,r3):=hh;have bK:=ak hY;clear hY;obtain ⟨bh,hY⟩:∃ y_:List Int,y_=([0]:List Int):=⟨_,rfl⟩;replace H:((spec_l01Pick.f s0_0 s0_1 s0_2 ([1,2,4,30]:List Int)).bind fun an=>(spec_l01DrawOf.l0 k a1 a5 bh an.1 1 s0_0 an.2.1 an.2.2))=some (r1,r2,r3):=hh;have bL:=ak hY;clear hY;obtain ⟨bi,hY⟩:∃ y_:List Int,y_=([1,2,4,30]:List Int):=⟨_,rfl⟩;replace H:((spec_l01Pick.f s0_0 s0_1 s0_2 bi).bind fun an=>(spec_l01DrawOf.l0 k a1 a5 bh an.1 1 s0_0 an.2.1 an.2.2))=some (r1,r2,r3):=hh;have bM:=ak hY;clear hY;replace H:=bs H;obtain ⟨⟨aq,bN,bO⟩,A3,H⟩:=H;(try dsimp only at H);have H':=ak H;clear H
 go_enter Tryz.func100,Tryz.ntmps100
 go_wp2_with (first|((with_reducible refine gate_dst (N:=4) rfl ?_);refine bev (N:=4) (cs:=#[.slice none 0 0]) (t:=27) ?_;intro aj hg w4 hbox hb;replace HB:=ak (below_step (by repeat (first|(with_reducible first|exact HB.out|apply below_alloc|apply pw_below_drewN|apply below_drew1|refine below_set ?_ (IsS90.ge HI0.out))|exact HB.out)) hb);have ad:=ak (hbox);have ag:=ak (by rw [hg];exact (keep_size (w:=w) (g:=g) (row:=none) q12_5):w.heap.size≤aj);have cU:=ak (Nat.le_trans HW0.out (by rw [hg];exact (keep_size (w:=w) (g:=g) (row:=none) q12_5):w.heap.size≤aj):w0.heap.size≤aj);replace HK:=ak (KeepBut.trans q12_5 (KeepBut.of_below hb g none) (.inl rfl));have cc:=ak (by rw [hg];exact Nat.ne_of_lt (IsS90.lt (show IsS90 w0 _ g s0_0 s0_1 s0_2 from q12_4)):g≠aj);have a6:=ak (by rw [hg];exact Nat.ne_of_gt (IsS90.lt (show IsS90 w0 _ g s0_0 s0_1 s0_2 from q12_4)):aj≠g);replace HI0:=ak (IsS90.below q12_4 hb);clear hb hbox hg)|((with_reducible refine gate_dst (N:=10) rfl ?_);refine Kd.R_lit (Kd.int .i64) _ 2 ?hg (N:=10) ?hd (xs:=([0]:List Int)) (inner:=[.int .i64 0]) (ok:=fun _=>True) (okp:=fun _=>True) ?hr ?hp (fun _ hk=>hk) trivial (Below.refl _ _) (Nat.le_refl _) (by simp) ?_;(case hd=>rfl);(case hg=>rfl);(case hr=>exact gs);(case hp=>exact (Reps.one (show Kd.M (Kd.int .i64) _ _ _ 0 [.int .i64 0] from rfl) (Reps.none _ _)));intro cV w5 ho6 hb hg_ hnew_;clear hg_ hnew_;(first|rw [← bK.out] at ho6|(simp only [Int.reduceToNat] at ho6;rw [← bK.out] at ho6));have ay:=ak (Kd.R_lower ho6 (keep_size (w:=w) (g:=g) (row:=none) q12_1));replace ad:=bb ad hb;replace HK:=ak (KeepBut.trans q12_1 (KeepBut.of_below hb g none) (.inl rfl));replace HB:=ak (below_step q12_2 hb);replace HI0:=ak (IsS90.below q12_0 hb);clear hb ho6)|((with_reducible refine gate_dst (N:=11) rfl ?_);refine Kd.R_lit (Kd.int .i64) _ 2 ?hg (N:=11) ?hd (xs:=([0]:List Int)) (inner:=[.int .i64 0]) (ok:=fun _=>True) (okp:=fun _=>True) ?hr ?hp (fun _ hk=>hk) trivial (Below.refl _ _) (Nat.le_refl _) (by simp) ?_;(case hd=>rfl);(case hg=>rfl);(case hr=>exact gs);(case hp=>exact (Reps.one (show Kd.M (Kd.int .i64) _ _ _ 0 [.int .i64 0] from rfl) (Reps.none _ _)));intro cW w7 ho8 hb hg_ hnew_;clear hg_ hnew_;(first|rw [← bL.out] at ho8|(simp only [Int.reduceToNat] at ho8;rw [← bL.out] at ho8));have aV:=ak (Kd.R_lower (nw ho8 ay) (keep_size (w:=w) (g:=g) (row:=none) q12_1));replace ay:=rn ay ho8 hb;replace ad:=bb ad hb;replace HK:=ak (KeepBut.trans q12_1 (KeepBut.of_below hb g none) (.inl rfl));replace HB:=ak (below_step q12_2 hb);replace HI0:=ak (IsS90.below q12_0 hb);clear hb ho8)|((with_reducible refine gate_dst (N:=13) rfl ?_);refine Kd.R_lit (Kd.int .i64) _ 2 ?hg (N:=13) ?hd (xs:=([1,2,4,30]:List Int)) (inner:=[.int .i64 1,.int .i64 2,.int .i64 4,.int .i64 30]) (ok:=fun _=>True) (okp:=fun _=>True) ?hr ?hp (fun _ hk=>hk) trivial (Below.refl _ _) (Nat.le_refl _) (by simp) ?_;(case hd=>rfl);(case hg=>rfl);(case hr=>exact gs);(case hp=>exact (Reps.one (show Kd.M (Kd.int .i64) _ _ _ 1 [.int .i64 1] from rfl) (Reps.one (show Kd.M (Kd.int .i64) _ _ _ 2 [.int .i64 2] from rfl) (Reps.one (show Kd.M (Kd.int .i64) _ _ _ 4 [.int .i64 4] from rfl) (Reps.one (show Kd.M (Kd.int .i64) _ _ _ 30 [.int .i64 30] from rfl) (Reps.none _ _))))));intro cX w9 ho10 hb hg_ hnew_;clear hg_ hnew_;(first|rw [← bM.out] at ho10|(simp only [Int.reduceToNat] at ho10;rw [← bM.out] at ho10));have aW:=ak (Kd.R_lower (nw (nw ho10 ay) aV) (keep_size (w:=w) (g:=g) (row:=none) q12_1));replace ay:=rn ay ho10 hb;replace aV:=rn aV ho10 hb;replace ad:=bb ad hb;replace HK:=ak (KeepBut.trans q12_1 (KeepBut.of_below hb g none) (.inl rfl));replace HB:=ak (below_step q12_2 hb);replace HI0:=ak (IsS90.below q12_0 hb);clear hb ho10;obtain ⟨cd,ce,cf⟩:=Kd.R_slice aW.out;subst cf)|((with_reducible refine gate_callee (f:=51) rfl ?_);refine gl (some 14) Tryz.func51 #[.pointer (some ⟨g,0,none⟩),.slice cd bi.length ce] ?_;(with_reducible refine (spec_l01Pick.calls g s0_0 s0_1 s0_2 _ _ bi aq bN bO w0 _ ?side1 ?side2 (pc ((Kd.R_reads' aW.out).2.2)) (Kd.R_reads' aW.out).2.1 ?side5 A3.out).mono ?_);(case side1=>exact q12_0);(case side2=>exact q12_2);(case side5=>exact far_slice (IsS90.own_ne HI0.out aW.out dc));rintro e w12 ⟨rfl,hi,hb,hk⟩;refine ⟨_,rfl,?_⟩;replace ad:=ak (KeepBut.blk hk (g':=aj) (o:=.cells #[.slice none 0 0] 27 (0,0)) (pb ad.out) a6.out (by simp));replace ay:=ak (Kd.R_mono (Kd.R_keep (IsS90.apart (show IsS90 w0 _ g s0_0 s0_1 s0_2 from q12_0) (pe ay.out) dc) hk (fun _ h=>h.2)) (fun _ h=>h.1));replace aV:=ak (Kd.R_mono (Kd.R_keep (IsS90.apart (show IsS90 w0 _ g s0_0 s0_1 s0_2 from q12_0) (pe aV.out) dc) hk (fun _ h=>h.2)) (fun _ h=>h.1));replace aW:=ak (Kd.R_mono (Kd.R_keep (IsS90.apart (show IsS90 w0 _ g s0_0 s0_1 s0_2 from q12_0) (pe aW.out) dc) hk (fun _ h=>h.2)) (fun _ h=>h.1));replace HK:=ak (KeepBut.trans q12_1 hk (.inl rfl));replace HB:=ak (hb);replace HI0:=ak (hi);(try clear hb hk hi)))
 go_loopg [5,6,8] k (fun kq v5 v6 v8 w'=>∃ (af:List Int) (aa:List Int) (ah:Int) (a7:Int) (a8:Int),v8=.int .i64 ah∧Aside0 (spec_l01DrawOf.l0 kq a1 af aa aq ah s0_0 a7 a8=some (r1,r2,r3))∧Aside0 (kq≤k)∧Aside0 (Kd.R (Kd.int .i64) 2 w' w.heap.size (fun k_=>some k_≠(v6:Value).ownBlock) v5 af)∧Aside0 (Kd.R (Kd.int .i64) 2 w' w.heap.size (fun k_=>some k_≠(v5:Value).ownBlock) v6 aa)∧Aside0 (w'.heap[aj]?=some (.cells #[(.slice none 0 0)] 27 (0,0)))∧Aside0 (IsS90 w0 w' g s0_0 a7 a8)∧Aside0 (KeepBut w w' g none)∧Aside0 (Below w0.heap.size w0 w'))
 case atStart=>exact ⟨(a5),(bh),(1),(bN),(bO),q12_8,H',⟨Nat.le_refl _⟩,⟨pe (Kd.R_mono ay.out (fun _ hk=>hk.1.2))⟩,⟨pe (Kd.R_mono aV.out (fun _ hk=>hk.1.2))⟩,⟨pb ad.out⟩,⟨q12_0⟩,⟨q12_1⟩,⟨q12_2⟩⟩
 case round =>
  clear H';obtain ⟨af,aa,ah,a7,a8,rfl,HA,HK1,ab,ae,ad,HI0,HK,HB⟩:=hrel
  cases gk with|zero=>exact absurd HA.out (by simp [spec_l01DrawOf.l0])|succ k1=>?_
  have H:=HA.out;clear HA;simp only [spec_l01DrawOf.l0] at H;obtain c13|c13:=nem (ah<a1)
  ·rw [if_neg c13] at H;have cg:=df c13;clear c13;simp only [Option.some.injEq,Prod.mk.injEq] at H;obtain ⟨rfl,rfl,rfl⟩:=H;obtain ⟨bP,bQ,ch⟩:=Kd.R_slice ab.out;subst ch;have cY:=a6.out;have cZ:=cc.out;have c0:=bc ad.out;have c2:=blk_frozen ad.out 0;go_wp2
   refine bodyPost_ret (results_cell_row rfl _ _ aj 27 #[.slice bP af.length bQ] (0,0) _ rfl (by (with_reducible repeat (first|refine blk_drewN ?_ _|refine blk_drew ?_|refine blk_alloc ?_ _));refine blk_put (cs:=#[.slice none 0 0]) ?_ 0 _ rfl;exact pb ad.out) Tryz.underlying27 rfl kr) rfl ?_
   exact ⟨_,ew,pe (Kd.R_mono (Kd.R_far (p:=⟨aj,0,none⟩) (Kd.R_types ab.out ad.out dc) (fun _ hk=>hk.2) (.slice bP af.length bQ)) (fun _ hk=>trivial)),q12_0,q12_2,q12_1⟩
  rw [if_pos c13] at H;have cg:=dt c13;clear c13;have H':=ak H;clear H;obtain ⟨bR,ai,ci⟩:=Kd.R_slice ae.out;subst ci;go_wp2
  go_loopg [9] k1 (fun kq v9 w'=>∃ (ac:Int) (ao:Int) (ap:Int),v9=.int .i64 ac∧Aside0 (spec_l01DrawOf.l1 kq a1 af aa aq ah ac s0_0 ao ap=some (r1,r2,r3))∧Aside0 (kq≤k1)∧Aside0 (Kd.R (Kd.int .i64) 2 w' w.heap.size (fun k_=>some k_≠((.slice bR aa.length ai):Value).ownBlock) u5 af)∧Aside0 (Kd.R (Kd.int .i64) 2 w' w.heap.size (fun k_=>some k_≠(u5:Value).ownBlock) (.slice bR aa.length ai) aa)∧Aside0 (w'.heap[aj]?=some (.cells #[(.slice none 0 0)] 27 (0,0)))∧Aside0 (IsS90 w0 w' g s0_0 ao ap)∧Aside0 (KeepBut w w' g none)∧Aside0 (Below w0.heap.size w0 w'))
  case atStart=>exact ⟨(wrap64 ((aa.length:Int) - 1)),(a7),(a8),q12_8,H',⟨Nat.le_refl _⟩,⟨pe ab.out⟩,⟨pe ae.out⟩,⟨pb ad.out⟩,⟨q12_0⟩,⟨q12_1⟩,⟨q12_2⟩⟩
  case round =>
   clear H';obtain ⟨ac,ao,ap,rfl,HA,HK2,ab,ae,ad,HI0,HK,HB⟩:=hrel
   cases gk with|zero=>exact absurd HA.out (by simp [spec_l01DrawOf.l1])|succ k2=>?_
   have H:=HA.out;clear HA;simp only [spec_l01DrawOf.l1] at H
   by_cases c15:ac>0
   ·rw [if_pos c15] at H;have cj:decide (0<ac)=true:=decide_eq_true c15;clear c15;replace H:=bs H;obtain ⟨⟨aX,aJ,aK⟩,A16,H⟩:=H;(try dsimp only at H)
    by_cases c17:aX=0
    ·rw [if_pos c17] at H;have ck:=be c17;have cl:=bn c17;clear c17;have H':=ak H;clear H
     go_wp2_with (first|(go_at_call 50;(with_reducible refine (spec_l01Next.calls g s0_0 ao ap aq aX aJ aK w0 _ ?side1 ?side2 A16.out).mono ?_);(case side1=>exact q12_0);(case side2=>exact q12_2);rintro e w18 ⟨rfl,hi,hb,hk⟩;replace ab:=ak (Kd.R_mono (Kd.R_keep (IsS90.apart (show IsS90 w0 _ g s0_0 ao ap from q12_0) (pe ab.out) dc) hk (fun _ h=>h.2)) (fun _ h=>h.1));replace ae:=ak (Kd.R_mono (Kd.R_keep (IsS90.apart (show IsS90 w0 _ g s0_0 ao ap from q12_0) (pe ae.out) dc) hk (fun _ h=>h.2)) (fun _ h=>h.1));replace ad:=ak (KeepBut.blk hk (g':=aj) (o:=.cells #[.slice none 0 0] 27 (0,0)) (pb ad.out) a6.out (by simp));replace HK:=ak (KeepBut.trans q12_1 hk (.inl rfl));replace HB:=ak (hb);replace HI0:=ak (hi);(try clear hb hk hi)))
     go_roundg k2
     case measure=>have:=HK1.out;have:=HK2.out;omega
     case rel=>exact ⟨(wrap64 (ac - 1)),(aJ),(aK),q12_8,H',⟨by have:=HK1.out;have:=HK2.out;omega⟩,⟨pe ab.out⟩,⟨pe ae.out⟩,⟨pb ad.out⟩,⟨q12_0⟩,⟨q12_1⟩,⟨q12_2⟩⟩
    rw [if_neg c17] at H;have ck:(aX == 0)=false:=beq_eq_false_iff_ne.mpr c17;have cl:(aX != 0)=true:=bne_iff_ne.mpr c17;replace H:=ifs H;obtain ⟨c19,H⟩:=H;have c4:=dt c19;clear c19;replace H:=ifs H;obtain ⟨c20,H⟩:=H;have c6:=dt c20;clear c20;replace H:=ifs H;obtain ⟨c21,H⟩:=H;have c7:=dt c21;clear c21;replace H:=ifs H;obtain ⟨c22,H⟩:=H;have da:=dt c22;clear c22;obtain ⟨az,hY⟩:∃ y_:List Int,y_=(af.set ((rd aa ac):Int).toNat (wrap64 ((rd af (rd aa ac))+1))):=⟨_,rfl⟩;replace H:(if 0≤(wrap64 (ac+1)) then (if (wrap64 (ac+1))≤(aa.length:Int) then ((spec_l01Own.f (aa.take ((wrap64 (ac+1)):Int).toNat)).bind fun aA=>(if aA.length<17592186044416 then (if az.length<17592186044416 then (spec_l01DrawOf.l0 k2 a1 (az++[0]) (aA++[ah]) aq (wrap64 (ah+1)) s0_0 aJ aK) else (none)) else (none))) else (none)) else (none))=some (r1,r2,r3):=hh;have cm:=ak hY;clear hY;obtain ⟨ar,a9⟩:∃ j_:Int,(wrap64 (ac+1))=j_:=⟨_,rfl⟩;(first|rw [a9] at H|simp only [a9] at H);(try rw [a9] at A16);have hji24w:(IntKind.i64.wrap (ac+1))=ar:=(i64_w _).trans a9;replace H:=ifs H;obtain ⟨c25,H⟩:=H;have db:=eq_true c25;have dd:decide (0≤(ar))=true:=decide_eq_true c25;clear c25;replace H:=ifs H;obtain ⟨c26,H⟩:=H;have de:=eq_true c26;have dg:decide ((ar)≤(aa.length:Int))=true:=decide_eq_true c26;clear c26;obtain ⟨aB,hY⟩:∃ y_:List Int,y_=(aa.take ((ar):Int).toNat):=⟨_,rfl⟩;replace H:((spec_l01Own.f aB).bind fun aA=>(if aA.length<17592186044416 then (if az.length<17592186044416 then (spec_l01DrawOf.l0 k2 a1 (az++[0]) (aA++[ah]) aq (wrap64 (ah+1)) s0_0 aJ aK) else (none)) else (none)))=some (r1,r2,r3):=hh;have ba:=ak hY;clear hY;replace H:=bs H;obtain ⟨aA,A27,H⟩:=H;(try dsimp only at H);replace H:=ifs H;obtain ⟨c28,H⟩:=H;have cn:=ak c28;clear c28;obtain ⟨bj,hY⟩:∃ y_:List Int,y_=(aA++[ah]):=⟨_,rfl⟩;replace H:(if az.length<17592186044416 then (spec_l01DrawOf.l0 k2 a1 (az++[0]) bj aq (wrap64 (ah+1)) s0_0 aJ aK) else (none))=some (r1,r2,r3):=hh;have co:=ak hY;clear hY;replace H:=ifs H;obtain ⟨c29,H⟩:=H;have cp:=ak c29;clear c29;obtain ⟨bS,hY⟩:∃ y_:List Int,y_=(az++[0]):=⟨_,rfl⟩;replace H:(spec_l01DrawOf.l0 k2 a1 bS bj aq (wrap64 (ah+1)) s0_0 aJ aK)=some (r1,r2,r3):=hh;have cq:=ak hY;clear hY;have H':=ak H;clear H
    go_wp2_with (first|(go_at_call 50;(with_reducible refine (spec_l01Next.calls g s0_0 ao ap aq aX aJ aK w0 _ ?side1 ?side2 A16.out).mono ?_);(case side1=>exact q12_0);(case side2=>exact q12_2);rintro e w30 ⟨rfl,hi,hb,hk⟩;replace ab:=ak (Kd.R_mono (Kd.R_keep (IsS90.apart (show IsS90 w0 _ g s0_0 ao ap from q12_0) (pe ab.out) dc) hk (fun _ h=>h.2)) (fun _ h=>h.1));replace ae:=ak (Kd.R_mono (Kd.R_keep (IsS90.apart (show IsS90 w0 _ g s0_0 ao ap from q12_0) (pe ae.out) dc) hk (fun _ h=>h.2)) (fun _ h=>h.1));replace ad:=ak (KeepBut.blk hk (g':=aj) (o:=.cells #[.slice none 0 0] 27 (0,0)) (pb ad.out) a6.out (by simp));replace HK:=ak (KeepBut.trans q12_1 hk (.inl rfl));replace HB:=ak (hb);replace HI0:=ak (hi);(try clear hb);(try clear hb2);(try clear hk);(try clear hi);have bk:0≤(ac:Int):=od q12_3;have bl:ac<(aa.length:Int):=od q12_3;obtain ⟨av,cr,dh⟩:=Kd.at_int (Kd.R_reads' ae.out).2.2 ac bk bl;cases cr;replace bk:=eq_true bk;replace bl:=eq_true bl;obtain ⟨di,aM,ct⟩:=Kd.R_slice ab.out;subst ct;have bm:0≤((rd aa ac):Int):=od q12_3;have bo:(rd aa ac)<(af.length:Int):=od q12_3;obtain ⟨dj,cu,cv⟩:=Kd.at_int (Kd.R_reads' ab.out).2.2 (rd aa ac) bm bo;cases cu;replace bm:=eq_true bm;replace bo:=eq_true bo;have p23:0≤((rd aa ac):Int):=od q12_3;have q23:((rd aa ac):Int)<((af.length:Int):Int):=od q12_3;obtain ⟨aC,dk,bT,bU,gl23,cl23,bV⟩:=Kd.R_form ab.out (by omega);(first|cases bT|(injection bT with ea_ en_ ec_;(first|subst ea_|(injection ea_ with ea_;subst ea_));subst ec_;clear en_));have GB23:=ak bU;have dl:=ak bV;clear bU gl23 bV;(first|simp only [add_plain] at cv|skip);obtain ⟨dm,dp⟩:=Kd.R_celln 0 ab.out ((rd aa ac):Int) p23 q23;replace p23:=eq_true p23;replace q23:=eq_true q23;obtain ⟨hy32_,hz32_⟩:=Kd.R_celln 0 ab.out ((rd aa ac):Int) (od q12_3) (od q12_3);have bp:=Kd.R_putg ab.out ((rd aa ac):Int) (wrap64 ((rd af (rd aa ac))+1)))|((with_reducible refine gate_store (t:=2) (p:=41) rfl ?_);refine store_event (t:=2) (p:=41) (v:=?vo_w33) (w1:=(w30.setCell ⟨aC,((rd aa ac):Int).toNat,none⟩ (.int .i64 (wrap64 ((rd af (rd aa ac))+1))))) ?hg ?ho ?hn ?hr ?_;(case ho=>rfl);(case hg=>rfl);(case hn=>rfl);(case hr=>exact gs);intro w33 hw;have hg:w30.grownBy w33 (some aC):=(by rw [hw];exact bp.2);have hp_:Kd.R (Kd.int .i64) 2 w33 w.heap.size (fun k_=>some k_≠(.slice (some av) aa.length ai:Value).ownBlock) (.slice (some ⟨aC,0,none⟩) af.length aM) az:=(by rw [hw,cm.out];exact bp.1);clear bp;replace ae:=ak (Kd.R_after (v:=(.slice (some ⟨aC,0,none⟩) af.length aM)) (v1:=(.slice (some ⟨aC,0,none⟩) af.length aM)) (ok:=(fun _=>True)) (pe (Kd.R_mono ae.out (fun _ hk=>⟨trivial,hk⟩))) hg (.inl rfl));replace ad:=ak (blk_grown (g:=aj) (o:=.cells #[.slice none 0 0] 27 (0,0)) (pb ad.out) hg (Kd.R_ne ab.out ad.out dc));replace HI0:=ak (IsS90.grown q12_0 hg (IsS90.own_ne HI0.out ab.out dc));replace HB:=ak (by rw [hw];exact below_set (HB.out) (Nat.le_trans HL.out GB23.out):Below w0.heap.size w0 w33);replace HK:=ak (KeepBut.trans q12_1 (KeepBut.of_grown hg g) (Kd.R_base2 ab.out));replace ab:=ak (hp_);clear hg hw hp_;have q34:((ar):Int)≤((aa.length:Int):Int):=od q12_3;obtain ⟨i034,bW,_,hsz34,_⟩:=info_parts info2;have hroom34:aa.length≤ai:=(Kd.R_reads' ae.out).2.1;have bX:Kd.C (Kd.int .i64) _ (some av) aa.length aa:=(Kd.R_reads' ae.out).2.2;have hcut34:=cut_to (P:=Tryz.prog) 24 2 .i64 Tryz.underlying24 bW (some av) aa.length ai (ar) (od q12_3) q34 hroom34;have bq:=Kd.C_take (m:=((ar):Int).toNat) bX (by omega);have br:aB.length=((ar):Int).toNat:=(by rw [ba.out,List.length_take];omega);rw [← ba.out] at bq;rw [← br] at hcut34;have aN:=ak bq;have cw:=ak (show aB.length≤ai from by omega);clear bq bX hroom34 bW hsz34;have dq:=ak br;clear br;have bY:=ak (show ((ar):Int).toNat≤aa.length from by omega);replace q34:=eq_true q34)|((with_reducible refine gate_callee (f:=90) rfl ?_);refine gl (some 46) Tryz.func90 #[.slice (some av) aB.length ai] ?_;(with_reducible refine (spec_l01Own.calls _ _ aB aA _ ?side1 cw.out A27.out).mono ?_);(case side1=>exact (by repeat (first|exact q12_7|(with_reducible refine Kd.C_alloc ?_ _)|(with_reducible refine Kd.C_drewN ?_ _)|(with_reducible refine Kd.C_drew ?_))));rintro e w35 ⟨cx,rfl,ho0,hb⟩;refine ⟨_,rfl,?_⟩;have aY:=ak (Kd.R_lower (nw (nw ho0 ab) ae) (keep_size (w:=w) (g:=g) (row:=none) q12_1));replace ab:=rn ab ho0 hb;replace ae:=rn ae ho0 hb;replace ad:=bb ad hb;replace aN:=ak (Kd.C_below q12_7 hb);replace HK:=ak (KeepBut.trans q12_1 (KeepBut.of_below hb g none) (.inl rfl));replace HB:=ak (below_step q12_2 hb);replace HI0:=ak (IsS90.below q12_0 hb);(try clear hb ho0))|((with_reducible refine gate_builtin (b:=.append) (xs:=#[.tmp 46,.tmp 48]) rfl ?_);at_builtin;refine Kd.R_append (Kd.int .i64) w.heap.size rfl (.tmp 46) (.tmp 48) 24 2 (.int .i64 0) 8 rfl Tryz.underlying24 info2 rfl dc (by omega) cx aA ah [.int .i64 ah] (fun k_=>some k_≠(.slice (some ⟨aC,0,none⟩) af.length aM:Value).ownBlock∧some k_≠(.slice (some av) aa.length ai:Value).ownBlock) (fun _=>False) rfl rfl ?aP (fun _ hk=>hk.elim) ?aF ?aO (Below.refl _ _) ?aS ?aL ?_;(case aP=>exact rfl);(case aF=>exact (fun k_ hk=>⟨Kd.fresh' (Kd.R_lt (pe ab.out)) k_ hk,Kd.fresh' (Kd.R_lt (pe ae.out)) k_ hk⟩));(case aO=>exact (pe (Kd.R_mono aY.out (fun _ hk=>⟨hk.1.2,hk.2⟩))));(case aS=>exact (keep_size (w:=w) (g:=g) (row:=none) q12_1));(case aL=>have:=cn.out;omega);intro bu w36 ho hb hg hat;rw [← co.out] at ho;replace ab:=ak (Kd.R_after (ok:=(fun k_=>some k_≠(.slice (some av) aa.length ai:Value).ownBlock)) (pe ab.out) hg hat);replace ad:=ak (blk_grown (g:=aj) (o:=.cells #[.slice none 0 0] 27 (0,0)) (pb ad.out) hg (Kd.R_ne aY.out ad.out dc));replace HB:=ak (below_weaken q12_2 HL.out hb);replace HI0:=ak (IsS90.grown q12_0 hg (IsS90.own_ne HI0.out aY.out dc));replace HK:=ak (KeepBut.trans q12_1 (KeepBut.of_grown hg g) (Kd.R_base2 aY.out));replace aN:=ak (show Kd.C (Kd.int .i64) w36 (some av) aB.length aB from by rw [ba.out];exact Kd.C_take (m:=((ar):Int).toNat) ((Kd.R_reads' (Kd.R_after (ok:=(fun k_=>some k_≠(.slice (some ⟨aC,0,none⟩) af.length aM:Value).ownBlock)) (pe (Kd.R_mono ae.out (fun _ hk=>⟨hk.1.2,hk.2⟩))) hg hat)).2.2) bY.out);replace ae:=ak (Kd.R_after (ok:=(fun k_=>some k_≠(.slice (some ⟨aC,0,none⟩) af.length aM:Value).ownBlock)) (pe (Kd.R_mono ae.out (fun _ hk=>⟨hk.1.2,hk.2⟩))) hg hat);have bd:=ak (ho);clear aY;clear ho hb hg hat)|((with_reducible refine gate_builtin (b:=.append) (xs:=#[.tmp 50,.tmp 51]) rfl ?_);at_builtin;refine Kd.R_append (Kd.int .i64) w.heap.size rfl (.tmp 50) (.tmp 51) 24 2 (.int .i64 0) 8 rfl Tryz.underlying24 info2 rfl dc (by omega) (.slice (some ⟨aC,0,none⟩) af.length aM) az 0 [.int .i64 0] (fun k_=>some k_≠(.slice (some av) aa.length ai:Value).ownBlock∧some k_≠(bu:Value).ownBlock) (fun _=>False) rfl rfl ?aP (fun _ hk=>hk.elim) ?aF ?aO (Below.refl _ _) ?aS ?aL ?_;(case aP=>exact rfl);(case aF=>exact (fun k_ hk=>⟨Kd.fresh' (Kd.R_lt (pe ae.out)) k_ hk,Kd.fresh' (Kd.R_lt (pe bd.out)) k_ hk⟩));(case aO=>exact (pe ab.out));(case aS=>exact (keep_size (w:=w) (g:=g) (row:=none) q12_1));(case aL=>have:=cp.out;omega);intro dr w37 ho hb hg hat;rw [← cq.out] at ho;replace ad:=ak (blk_grown (g:=aj) (o:=.cells #[.slice none 0 0] 27 (0,0)) (pb ad.out) hg (Kd.R_ne ab.out ad.out dc));replace bd:=ak (Kd.R_after (ok:=(fun k_=>some k_≠(.slice (some av) aa.length ai:Value).ownBlock)) (pe (Kd.R_mono bd.out (fun _ hk=>⟨hk.2,hk.1⟩))) hg hat);replace HB:=ak (below_weaken q12_2 HL.out hb);replace HI0:=ak (IsS90.grown q12_0 hg (IsS90.own_ne HI0.out ab.out dc));replace HK:=ak (KeepBut.trans q12_1 (KeepBut.of_grown hg g) (Kd.R_base2 ab.out));replace aN:=ak (show Kd.C (Kd.int .i64) w37 (some av) aB.length aB from by rw [ba.out];exact Kd.C_take (m:=((ar):Int).toNat) ((Kd.R_reads' (Kd.R_after (ok:=(fun k_=>some k_≠(bu:Value).ownBlock)) (pe (Kd.R_mono ae.out (fun _ hk=>⟨hk.2,hk.1⟩))) hg hat)).2.2) bY.out);replace ae:=ak (Kd.R_after (ok:=(fun k_=>some k_≠(bu:Value).ownBlock)) (pe (Kd.R_mono ae.out (fun _ hk=>⟨hk.2,hk.1⟩))) hg hat);have cy:=ak (ho);clear ab;clear ho hb hg hat))
    go_roundg k2
    case measure=>have:=HK1.out;have:=HK2.out;omega
    case rel=>exact ⟨(bS),(bj),(wrap64 (ah+1)),(aJ),(aK),q12_8,H',⟨by have:=HK1.out;have:=HK2.out;omega⟩,⟨pe (Kd.R_mono cy.out (fun _ hk=>hk.2))⟩,⟨pe (Kd.R_mono bd.out (fun _ hk=>hk.2))⟩,⟨pb ad.out⟩,⟨q12_0⟩,⟨q12_1⟩,⟨q12_2⟩⟩
   rw [if_neg c15] at H;have cj:decide (0<ac)=false:=decide_eq_false c15;clear c15;replace H:=ifs H;obtain ⟨c38,H⟩:=H;have du:=dt c38;clear c38;replace H:=ifs H;obtain ⟨c39,H⟩:=H;have dv:=dt c39;clear c39;replace H:=ifs H;obtain ⟨c40,H⟩:=H;have dw:=dt c40;clear c40;replace H:=ifs H;obtain ⟨c41,H⟩:=H;have dx:=dt c41;clear c41;obtain ⟨aD,hY⟩:∃ y_:List Int,y_=(af.set ((rd aa ac):Int).toNat (wrap64 ((rd af (rd aa ac))+1))):=⟨_,rfl⟩;replace H:(if 0≤(wrap64 (ac+1)) then (if (wrap64 (ac+1))≤(aa.length:Int) then ((spec_l01Own.f (aa.take ((wrap64 (ac+1)):Int).toNat)).bind fun aE=>(if aE.length<17592186044416 then (if aD.length<17592186044416 then (spec_l01DrawOf.l0 k2 a1 (aD++[0]) (aE++[ah]) aq (wrap64 (ah+1)) s0_0 ao ap) else (none)) else (none))) else (none)) else (none))=some (r1,r2,r3):=hh;have cz:=ak hY;clear hY;obtain ⟨au,bv⟩:∃ j_:Int,(wrap64 (ac+1))=j_:=⟨_,rfl⟩;(first|rw [bv] at H|simp only [bv] at H);have hji43w:(IntKind.i64.wrap (ac+1))=au:=(i64_w _).trans bv;replace H:=ifs H;obtain ⟨c44,H⟩:=H;have dy:=eq_true c44;have dz:decide (0≤(au))=true:=decide_eq_true c44;clear c44;replace H:=ifs H;obtain ⟨c45,H⟩:=H;have dA:=eq_true c45;have dB:decide ((au)≤(aa.length:Int))=true:=decide_eq_true c45;clear c45;obtain ⟨aG,hY⟩:∃ y_:List Int,y_=(aa.take ((au):Int).toNat):=⟨_,rfl⟩;replace H:((spec_l01Own.f aG).bind fun aE=>(if aE.length<17592186044416 then (if aD.length<17592186044416 then (spec_l01DrawOf.l0 k2 a1 (aD++[0]) (aE++[ah]) aq (wrap64 (ah+1)) s0_0 ao ap) else (none)) else (none)))=some (r1,r2,r3):=hh;have bf:=ak hY;clear hY;replace H:=bs H;obtain ⟨aE,A46,H⟩:=H;(try dsimp only at H);replace H:=ifs H;obtain ⟨c47,H⟩:=H;have cA:=ak c47;clear c47;obtain ⟨bw,hY⟩:∃ y_:List Int,y_=(aE++[ah]):=⟨_,rfl⟩;replace H:(if aD.length<17592186044416 then (spec_l01DrawOf.l0 k2 a1 (aD++[0]) bw aq (wrap64 (ah+1)) s0_0 ao ap) else (none))=some (r1,r2,r3):=hh;have cB:=ak hY;clear hY;replace H:=ifs H;obtain ⟨c48,H⟩:=H;have cC:=ak c48;clear c48;obtain ⟨bZ,hY⟩:∃ y_:List Int,y_=(aD++[0]):=⟨_,rfl⟩;replace H:(spec_l01DrawOf.l0 k2 a1 bZ bw aq (wrap64 (ah+1)) s0_0 ao ap)=some (r1,r2,r3):=hh;have cD:=ak hY;clear hY;have H':=ak H;clear H;have bx:0≤(ac:Int):=od q12_3;have bz:ac<(aa.length:Int):=od q12_3;(try (obtain ⟨Aop_,cop_,eop_⟩:=Kd.R_slice ae.out;subst eop_));obtain ⟨aw,cE,dC⟩:=Kd.at_int (Kd.R_reads' ae.out).2.2 ac bx bz;cases cE;replace bx:=eq_true bx;replace bz:=eq_true bz;obtain ⟨dD,aQ,cF⟩:=Kd.R_slice ab.out;subst cF;have bA:0≤((rd aa ac):Int):=od q12_3;have bB:(rd aa ac)<(af.length:Int):=od q12_3;(try (obtain ⟨Aop_,cop_,eop_⟩:=Kd.R_slice ab.out;subst eop_));obtain ⟨dE,cG,cH⟩:=Kd.at_int (Kd.R_reads' ab.out).2.2 (rd aa ac) bA bB;cases cG;replace bA:=eq_true bA;replace bB:=eq_true bB;have p42:0≤((rd aa ac):Int):=od q12_3;have q42:((rd aa ac):Int)<((af.length:Int):Int):=od q12_3;obtain ⟨aH,dF,b0,b1,gl42,cl42,b2⟩:=Kd.R_form ab.out (by omega);(first|cases b0|(injection b0 with ea_ en_ ec_;(first|subst ea_|(injection ea_ with ea_;subst ea_));subst ec_;clear en_));have GB42:=ak b1;have dG:=ak b2;clear b1 gl42 b2;(first|simp only [add_plain] at cH|skip);obtain ⟨dH,dI⟩:=Kd.R_celln 0 ab.out ((rd aa ac):Int) p42 q42;replace p42:=eq_true p42;replace q42:=eq_true q42;have bC:=Kd.R_putg ab.out ((rd aa ac):Int) (wrap64 ((rd af (rd aa ac))+1))
   go_wp2_with (first|((with_reducible refine gate_store (t:=2) (p:=41) rfl ?_);refine store_event (t:=2) (p:=41) (v:=?vo_w51) (w1:=(wr.setCell ⟨aH,((rd aa ac):Int).toNat,none⟩ (.int .i64 (wrap64 ((rd af (rd aa ac))+1))))) ?hg ?ho ?hn ?hr ?_;(case ho=>rfl);(case hg=>rfl);(case hn=>rfl);(case hr=>exact gs);intro w51 hw;have hg:wr.grownBy w51 (some aH):=(by rw [hw];exact bC.2);have hp_:Kd.R (Kd.int .i64) 2 w51 w.heap.size (fun k_=>some k_≠(.slice (some aw) aa.length ai:Value).ownBlock) (.slice (some ⟨aH,0,none⟩) af.length aQ) aD:=(by rw [hw,cz.out];exact bC.1);clear bC;replace ae:=ak (Kd.R_after (v:=(.slice (some ⟨aH,0,none⟩) af.length aQ)) (v1:=(.slice (some ⟨aH,0,none⟩) af.length aQ)) (ok:=(fun _=>True)) (pe (Kd.R_mono ae.out (fun _ hk=>⟨trivial,hk⟩))) hg (.inl rfl));replace ad:=ak (blk_grown (g:=aj) (o:=.cells #[.slice none 0 0] 27 (0,0)) (pb ad.out) hg (Kd.R_ne ab.out ad.out dc));replace HI0:=ak (IsS90.grown q12_0 hg (IsS90.own_ne HI0.out ab.out dc));replace HB:=ak (by rw [hw];exact below_set (HB.out) (Nat.le_trans HL.out GB42.out):Below w0.heap.size w0 w51);replace HK:=ak (KeepBut.trans q12_1 (KeepBut.of_grown hg g) (Kd.R_base2 ab.out));replace ab:=ak (hp_);clear hg hw hp_;have q52:((au):Int)≤((aa.length:Int):Int):=od q12_3;obtain ⟨i052,b3,_,hsz52,_⟩:=info_parts info2;have hroom52:aa.length≤ai:=(Kd.R_reads' ae.out).2.1;have b4:Kd.C (Kd.int .i64) _ (some aw) aa.length aa:=(Kd.R_reads' ae.out).2.2;have hcut52:=cut_to (P:=Tryz.prog) 24 2 .i64 Tryz.underlying24 b3 (some aw) aa.length ai (au) (od q12_3) q52 hroom52;have bD:=Kd.C_take (m:=((au):Int).toNat) b4 (by omega);have bE:aG.length=((au):Int).toNat:=(by rw [bf.out,List.length_take];omega);rw [← bf.out] at bD;rw [← bE] at hcut52;have aR:=ak bD;have cI:=ak (show aG.length≤ai from by omega);clear bD b4 hroom52 b3 hsz52;have dJ:=ak bE;clear bE;have b5:=ak (show ((au):Int).toNat≤aa.length from by omega);replace q52:=eq_true q52)|((with_reducible refine gate_callee (f:=90) rfl ?_);refine gl (some 46) Tryz.func90 #[.slice (some aw) aG.length ai] ?_;(with_reducible refine (spec_l01Own.calls _ _ aG aE _ ?side1 cI.out A46.out).mono ?_);(case side1=>exact (by repeat (first|exact q12_6|(with_reducible refine Kd.C_alloc ?_ _)|(with_reducible refine Kd.C_drewN ?_ _)|(with_reducible refine Kd.C_drew ?_))));rintro e w53 ⟨cJ,rfl,ho0,hb⟩;refine ⟨_,rfl,?_⟩;have aZ:=ak (Kd.R_lower (nw (nw ho0 ab) ae) (keep_size (w:=w) (g:=g) (row:=none) q12_1));replace ab:=rn ab ho0 hb;replace ae:=rn ae ho0 hb;replace ad:=bb ad hb;replace aR:=ak (Kd.C_below q12_6 hb);replace HK:=ak (KeepBut.trans q12_1 (KeepBut.of_below hb g none) (.inl rfl));replace HB:=ak (below_step q12_2 hb);replace HI0:=ak (IsS90.below q12_0 hb);(try clear hb ho0))|((with_reducible refine gate_builtin (b:=.append) (xs:=#[.tmp 46,.tmp 48]) rfl ?_);at_builtin;refine Kd.R_append (Kd.int .i64) w.heap.size rfl (.tmp 46) (.tmp 48) 24 2 (.int .i64 0) 8 rfl Tryz.underlying24 info2 rfl dc (by omega) cJ aE ah [.int .i64 ah] (fun k_=>some k_≠(.slice (some ⟨aH,0,none⟩) af.length aQ:Value).ownBlock∧some k_≠(.slice (some aw) aa.length ai:Value).ownBlock) (fun _=>False) rfl rfl ?aP (fun _ hk=>hk.elim) ?aF ?aO (Below.refl _ _) ?aS ?aL ?_;(case aP=>exact rfl);(case aF=>exact (fun k_ hk=>⟨Kd.fresh' (Kd.R_lt (pe ab.out)) k_ hk,Kd.fresh' (Kd.R_lt (pe ae.out)) k_ hk⟩));(case aO=>exact (pe (Kd.R_mono aZ.out (fun _ hk=>⟨hk.1.2,hk.2⟩))));(case aS=>exact (keep_size (w:=w) (g:=g) (row:=none) q12_1));(case aL=>have:=cA.out;omega);intro bF w54 ho hb hg hat;rw [← cB.out] at ho;replace ab:=ak (Kd.R_after (ok:=(fun k_=>some k_≠(.slice (some aw) aa.length ai:Value).ownBlock)) (pe ab.out) hg hat);replace ad:=ak (blk_grown (g:=aj) (o:=.cells #[.slice none 0 0] 27 (0,0)) (pb ad.out) hg (Kd.R_ne aZ.out ad.out dc));replace HB:=ak (below_weaken q12_2 HL.out hb);replace HI0:=ak (IsS90.grown q12_0 hg (IsS90.own_ne HI0.out aZ.out dc));replace HK:=ak (KeepBut.trans q12_1 (KeepBut.of_grown hg g) (Kd.R_base2 aZ.out));replace aR:=ak (show Kd.C (Kd.int .i64) w54 (some aw) aG.length aG from by rw [bf.out];exact Kd.C_take (m:=((au):Int).toNat) ((Kd.R_reads' (Kd.R_after (ok:=(fun k_=>some k_≠(.slice (some ⟨aH,0,none⟩) af.length aQ:Value).ownBlock)) (pe (Kd.R_mono ae.out (fun _ hk=>⟨hk.1.2,hk.2⟩))) hg hat)).2.2) b5.out);replace ae:=ak (Kd.R_after (ok:=(fun k_=>some k_≠(.slice (some ⟨aH,0,none⟩) af.length aQ:Value).ownBlock)) (pe (Kd.R_mono ae.out (fun _ hk=>⟨hk.1.2,hk.2⟩))) hg hat);have bg:=ak (ho);clear aZ;clear ho hb hg hat)|((with_reducible refine gate_builtin (b:=.append) (xs:=#[.tmp 50,.tmp 51]) rfl ?_);at_builtin;refine Kd.R_append (Kd.int .i64) w.heap.size rfl (.tmp 50) (.tmp 51) 24 2 (.int .i64 0) 8 rfl Tryz.underlying24 info2 rfl dc (by omega) (.slice (some ⟨aH,0,none⟩) af.length aQ) aD 0 [.int .i64 0] (fun k_=>some k_≠(.slice (some aw) aa.length ai:Value).ownBlock∧some k_≠(bF:Value).ownBlock) (fun _=>False) rfl rfl ?aP (fun _ hk=>hk.elim) ?aF ?aO (Below.refl _ _) ?aS ?aL ?_;(case aP=>exact rfl);(case aF=>exact (fun k_ hk=>⟨Kd.fresh' (Kd.R_lt (pe ae.out)) k_ hk,Kd.fresh' (Kd.R_lt (pe bg.out)) k_ hk⟩));(case aO=>exact (pe ab.out));(case aS=>exact (keep_size (w:=w) (g:=g) (row:=none) q12_1));(case aL=>have:=cC.out;omega);intro dK w55 ho hb hg hat;rw [← cD.out] at ho;replace ad:=ak (blk_grown (g:=aj) (o:=.cells #[.slice none 0 0] 27 (0,0)) (pb ad.out) hg (Kd.R_ne ab.out ad.out dc));replace bg:=ak (Kd.R_after (ok:=(fun k_=>some k_≠(.slice (some aw) aa.length ai:Value).ownBlock)) (pe (Kd.R_mono bg.out (fun _ hk=>⟨hk.2,hk.1⟩))) hg hat);replace HB:=ak (below_weaken q12_2 HL.out hb);replace HI0:=ak (IsS90.grown q12_0 hg (IsS90.own_ne HI0.out ab.out dc));replace HK:=ak (KeepBut.trans q12_1 (KeepBut.of_grown hg g) (Kd.R_base2 ab.out));replace aR:=ak (show Kd.C (Kd.int .i64) w55 (some aw) aG.length aG from by rw [bf.out];exact Kd.C_take (m:=((au):Int).toNat) ((Kd.R_reads' (Kd.R_after (ok:=(fun k_=>some k_≠(bF:Value).ownBlock)) (pe (Kd.R_mono ae.out (fun _ hk=>⟨hk.2,hk.1⟩))) hg hat)).2.2) b5.out);replace ae:=ak (Kd.R_after (ok:=(fun k_=>some k_≠(bF:Value).ownBlock)) (pe (Kd.R_mono ae.out (fun _ hk=>⟨hk.2,hk.1⟩))) hg hat);have cK:=ak (ho);clear ab;clear ho hb hg hat))
   go_roundg k2
   case measure=>have:=HK1.out;have:=HK2.out;omega
   case rel=>exact ⟨(bZ),(bw),(wrap64 (ah+1)),(ao),(ap),q12_8,H',⟨by have:=HK1.out;have:=HK2.out;omega⟩,⟨pe (Kd.R_mono cK.out (fun _ hk=>hk.2))⟩,⟨pe (Kd.R_mono bg.out (fun _ hk=>hk.2))⟩,⟨pb ad.out⟩,⟨q12_0⟩,⟨q12_1⟩,⟨q12_2⟩⟩
def spec_l03Binary.f:Nat→List Int→List Int→Option (ByteArray)
 | 0,_,_=>none
 | k+1,l0_0,l1=>if (l1.length:Int)=0 then (some (⟨#[48]⟩:ByteArray)) else (if 0<(l1.length:Int) then ((spec_l01Children.f k l0_0 (rd l1 0)).bind fun t452=>((spec_l03Binary.f k l0_0 t452).bind fun t455=>(if 1+t455.size≤9223372036854775807 then (if 1≤(l1.length:Int) then ((spec_l03Binary.f k l0_0 (l1.drop 1)).bind fun t457=>(if ((⟨#[49]⟩:ByteArray)++t455).size+t457.size≤9223372036854775807 then (some (((⟨#[49]⟩:ByteArray)++t455)++t457)) else (none))) else (none)) else (none)))) else (none))
def spec_l03Binary.T3:Bool × List (List Nat × List Nat):=(true,[([],[]),([],[]),([],[]),([2],[2]),([3],[3]),([1,4],[1,4]),([0,5,5],[0,5]),([6],[6]),([],[]),([],[]),([9],[9]),([8,10,6],[8,10]),([7,11],[7,11]),([12,11,0,1,2,3,4,5,6,7,8,9,10,11,12],[12])])
def spec_l03Binary.B3:List Nat:=[0,0,0,4,12,30,63,127,0,0,512,1919,4095,8191]
theorem spec_l03Binary.tab3:rtab .any (opsOf Tryz.f151 3)=spec_l03Binary.T3:=by kernel_rfl
theorem spec_l03Binary.bits3:waitsOk spec_l03Binary.T3.2 spec_l03Binary.B3=true:=by kernel_rfl
theorem spec_l03Binary.calls (k:Nat):∀ (A0_0:Option Addr) (c0_0:Nat) (l0_0:List Int) (A1:Option Addr) (c1:Nat) (l1:List Int) (r:ByteArray) (w:World) (hr0_0:Kd.C (Kd.int .i64) w A0_0 l0_0.length l0_0) (hc0_0:l0_0.length≤c0_0) (hr1:Kd.C (Kd.int .i64) w A1 l1.length l1) (hc1:l1.length≤c1) (h:spec_l03Binary.f k l0_0 l1=some r),
  Calls Tryz.prog 151 #[.agg #[.slice A0_0 l0_0.length c0_0],.slice A1 l1.length c1] w fun e w'=>e=.returned (.string r)∧Below w.heap.size w w':=by
 induction k using Nat.strongRecOn with
 | _ k ih =>
 intro A0_0 c0_0 l0_0 A1 c1 l1 r w hr0_0 hc0_0 hr1 hc1 h
 cases k with
 | zero=>exact absurd h (by simp [spec_l03Binary.f])
 | succ k =>
 simp only [spec_l03Binary.f] at h;have hu27:=Tryz.underlying27;have bG:=ak hr0_0;have bH:=ak hc0_0;clear hr0_0 hc0_0;have HR1:=ak hr1;have HC1:=ak hc1;clear hr1 hc1;have HB:=ak (Below.refl w.heap.size w);have H:(if (l1.length:Int)=0 then (some (⟨#[48]⟩:ByteArray)) else (if 0<(l1.length:Int) then ((spec_l01Children.f k l0_0 (rd l1 0)).bind fun a4=>((spec_l03Binary.f k l0_0 a4).bind fun ax=>(if 1+ax.size≤9223372036854775807 then (if 1≤(l1.length:Int) then ((spec_l03Binary.f k l0_0 (l1.drop 1)).bind fun aT=>(if ((⟨#[49]⟩:ByteArray)++ax).size+aT.size≤9223372036854775807 then (some (((⟨#[49]⟩:ByteArray)++ax)++aT)) else (none))) else (none)) else (none)))) else (none)))=some r:=h;clear h
 by_cases c3:(l1.length:Int)=0
 ·rw [if_pos c3] at H;have cL:((l1.length:Int) == 0)=true:=beq_iff_eq.mpr c3;have cM:((l1.length:Int) != 0)=false:=bne_eq_false_iff_eq.mpr c3;clear c3;obtain rfl:=Option.some.inj H
  go_enter Tryz.func151,Tryz.ntmps151
  go_wp2_with (first|((with_reducible refine gate_dst (N:=2) rfl ?_);refine bev (N:=2) (cs:=#[.slice A0_0 l0_0.length c0_0]) (t:=27) ?_;intro b6 hg w4 hbox hb;have al:=ak (hbox);have cN:=gbe hg;have cO:=gbe hg;replace HB:=hbs hb;clear hb hbox hg))
  go_ret
  exact ⟨ew,hq⟩
 rw [if_neg c3] at H;have cL:((l1.length:Int) == 0)=false:=beq_eq_false_iff_ne.mpr c3;have cM:((l1.length:Int) != 0)=true:=bne_iff_ne.mpr c3;have dL:¬ (l1=[]):=fun h_=>c3 (by rw [h_];rfl)
 replace H:=ifs H;obtain ⟨c5,H⟩:=H;have dM:=dt c5;have dN:decide (0<l1.length)=true:=decide_eq_true (by omega);clear c5;replace H:=bs H;obtain ⟨a4,A6,H⟩:=H;(try dsimp only at H);replace H:=bs H;obtain ⟨ax,A7,H⟩:=H;(try dsimp only at H);replace H:=ifs H;obtain ⟨c8,H⟩:=H;have dO:=eq_true c8;have dP:decide (1+ax.size≤9223372036854775807)=true:=decide_eq_true c8
 try have dQ:(9223372036854775807<1+ax.size)=False:=eq_false (Nat.not_lt.2 c8)
 replace H:=ifs H;obtain ⟨c9,H⟩:=H;have dR:=eq_true c9;have dS:decide (1≤(l1.length:Int))=true:=decide_eq_true c9;clear c9;replace H:=bs H;obtain ⟨aT,A10,H⟩:=H;(try dsimp only at H);replace H:=ifs H;obtain ⟨c11,H⟩:=H;have dT:=eq_true c11;have dU:decide (((⟨#[49]⟩:ByteArray)++ax).size+aT.size≤9223372036854775807)=true:=decide_eq_true c11
 try have cP:(9223372036854775807<((⟨#[49]⟩:ByteArray)++ax).size+aT.size)=False:=eq_false (Nat.not_lt.2 c11)
 try have dV:(9223372036854775807<1+ax.size+aT.size)=False:=(by have h_:=cP;rw [ByteArray.size_append] at h_;exact h_)
 obtain rfl:=Option.some.inj H
 go_enter Tryz.func151,Tryz.ntmps151
 try go_wp2_with (first|((with_reducible refine gate_dst (N:=2) rfl ?_);refine bev (N:=2) (cs:=#[.slice A0_0 l0_0.length c0_0]) (t:=27) ?_;intro b6 hg w12 hbox hb;have al:=ak (hbox);have cN:=gbe hg;have cO:=gbe hg;replace HB:=hbs hb;clear hb hbox hg))
 have n0_:=ak (blk_drew al.out);have n1_:=ak (below_drew1 HB.out);clear al HB;have al:=n0_;have HB:=n1_;clear n0_ n1_;have bI:0≤(0:Int):=(by omega);have bJ:0<(l1.length:Int):=od q12_3;obtain ⟨b7,cQ,aU⟩:=Kd.at_int HR1.out 0 bI bJ;have hw451_0:=aU;(try rw [show (0:Int).toNat=0 from rfl] at hw451_0);(try rw [show 0*1=0 from rfl] at hw451_0);(try rw [Addr.add_zero'] at hw451_0);cases cQ;have qi451:(0<l1.length)=True:=eq_true (by omega);(try rw [show (0:Int).toNat=0 from rfl] at aU);(try rw [Addr.add_zero'] at aU);replace aU:=(HB.out.cell (World.block_lt_of_cell? w _ aU)).trans aU;replace bI:=eq_true bI;replace bJ:=eq_true bJ;obtain ⟨i014,b8,_,hsz14,_⟩:=info_parts info2;obtain ⟨A14,hcut14,hA14,b9⟩:=print_drop_of (P:=Tryz.prog) (Value.int .i64) 0 24 2 .i64 Tryz.underlying24 b8 hsz14 (some b7) c1 l1 1 (by omega) (od q12_3) HC1.out;have ca:=ak (Kd.C_of_reads (h1:=fun _=>rfl) (hA14 _ (Kd.reads_of_C HR1.out)));have cR:=ak b9;clear hA14 b9 b8 hsz14
 refine start_ (n:=14) (S:=fun w'=>w'.cell? ⟨b6,0,none⟩=some (.slice A0_0 l0_0.length c0_0)∧w'.cell? b7=some (.int .i64 (rd l1 0))) (ds:=[]) #[false,false,false,false,false,false,false,false,false,false,false,false,false,false] kr rfl rfl ⟨(blk_cell al.out 0).trans rfl,((HB.out.cell (World.block_lt_of_cell? w _ hw451_0)).trans hw451_0)⟩ (fun hHeld=>?_);refine with_tabW spec_l03Binary.tab3 spec_l03Binary.bits3 (fun HT_ HW_=>?_)
 generalize w12.drew=w13 at al HB ca aU hHeld ⊢
 refine pur (i:=2) (N:=some 10) (v:=?_) (a':=?_) #[false,false,true,false,false,false,false,false,false,false,false,false,false,false] rfl (Or.inl ⟨by rfl,?_⟩) ?_ ?_
 rotate_left
 ·intro w'
  go_simp
  with_reducible rfl
 rotate_left
 ·simp only [Act.put,sIB,sc0,scs,i64_w,i32_w]
  rfl
 refine pur (i:=3) (N:=some 11) (v:=?_) (a':=?_) #[false,false,true,true,false,false,false,false,false,false,false,false,false,false] rfl (Or.inl ⟨by rfl,?_⟩) ?_ ?_
 rotate_left
 ·intro w'
  go_simp
  with_reducible rfl
 rotate_left
 ·simp only [Act.put,sIB,sc0,scs,i64_w,i32_w]
  rfl
 refine pur (i:=9) (N:=some 17) (v:=?_) (a':=?_) #[false,false,true,true,false,false,false,false,false,true,false,false,false,false] rfl (Or.inl ⟨by rfl,?_⟩) ?_ ?_
 rotate_left
 ·intro w'
  go_simp
  with_reducible rfl
 rotate_left
 ·simp only [Act.put,sIB,sc0,scs,i64_w,i32_w]
  rfl
 refine pur (i:=10) (N:=some 18) (v:=?_) (a':=?_) #[false,false,true,true,false,false,false,false,false,true,true,false,false,false] rfl (Or.inl ⟨by rfl,?_⟩) ?_ ?_
 rotate_left
 ·intro w'
  go_simp
  with_reducible rfl
 rotate_left
 ·simp only [Act.put,sIB,sc0,scs,i64_w,i32_w]
  rfl
 refine take_ (i:=0) (N:=some 8) (v:=?_) (a':=?_) #[true,false,true,true,false,false,false,false,false,true,true,false,false,false] rfl rfl (take_ofW HT_.out HW_.out kr) (fun _ _ _ h=>h) (Or.inl ⟨by rfl,?_⟩) hHeld ?_ ?_
 rotate_left
 ·rintro w' ⟨s0,s1⟩
  go_simp
  with_reducible rfl
 rotate_left
 ·simp only [Act.put,sIB,sc0,scs,i64_w,i32_w]
  rfl
 refine take_ (i:=1) (N:=some 9) (v:=?_) (a':=?_) #[true,true,true,true,false,false,false,false,false,true,true,false,false,false] rfl rfl (take_ofW HT_.out HW_.out kr) (fun _ _ _ h=>h) (Or.inl ⟨by rfl,?_⟩) hHeld ?_ ?_
 rotate_left
 ·rintro w' ⟨s0,s1⟩
  go_simp
  with_reducible rfl
 rotate_left
 ·simp only [Act.put,sIB,sc0,scs,i64_w,i32_w]
  rfl
 refine take_ (i:=4) (N:=some 12) (v:=?_) (a':=?_) #[true,true,true,true,true,false,false,false,false,true,true,false,false,false] rfl rfl (take_ofW HT_.out HW_.out kr) (fun _ _ _ h=>h) (Or.inl ⟨by rfl,?_⟩) hHeld ?_ ?_
 rotate_left
 ·rintro w' ⟨s0,s1⟩
  go_simp
  with_reducible rfl
 rotate_left
 ·simp only [Act.put,sIB,sc0,scs,i64_w,i32_w]
  rfl
 refine take_ (i:=8) (N:=some 16) (v:=?_) (a':=?_) #[true,true,true,true,true,false,false,false,true,true,true,false,false,false] rfl rfl (take_ofW HT_.out HW_.out kr) (fun _ _ _ h=>h) (Or.inl ⟨by rfl,?_⟩) hHeld ?_ ?_
 rotate_left
 ·rintro w' ⟨s0,s1⟩
  go_simp
  with_reducible rfl
 rotate_left
 ·simp only [Act.put,sIB,sc0,scs,i64_w,i32_w]
  rfl
 refine one_ (i:=5) (N:=some 13) #[true,true,true,true,true,true,false,false,true,true,true,false,false,false] rfl rfl (one_of HT_.out kr) dc (fun K hK=>?_)
 refine goes_ Tryz.func81 kr rfl #[.agg #[.slice A0_0 l0_0.length c0_0],.int .i64 (rd l1 0)] (by rfl) rfl rfl am ?_
 with_reducible refine (spec_l01Children.calls k _ _ l0_0 (rd l1 0) a4 _ ?side1 ?side2 A6.out).mono ?_
 (case side1=>exact pc (Kd.C_below bG.out HB.out))
 (case side2=>exact bH.out)
 rintro e w15 ⟨dW,rfl,ho0,hb⟩
 refine ⟨_,rfl,?_⟩
 have n0_:=lw ho0;have n1_:=bb al hb;have n2_:=hbs hb;clear al HB;have aI:=n0_;have al:=n1_;have HB:=n2_;clear n0_ n1_ n2_;(try clear hb);(try clear hb2);(try clear hk);(try clear hi);(try clear ho0);obtain ⟨cS,cT,cb⟩:=Kd.R_slice aI.out;(first|subst cb|(injection cb with f1_ f2_ f3_;have f4_:=f1_.symm;have f5_:=f3_.symm;clear f1_ f2_ f3_;subst f4_;subst f5_))
 refine hK.out _ _ ⟨(blk_cell al.out 0).trans rfl,((HB.out.cell (World.block_lt_of_cell? w _ hw451_0)).trans hw451_0)⟩ (fun hHeld=>?_)
 clear hK K
 refine norm_ (a':=?_) ?_ ?_
 rotate_left
 ·show Act.put _ (some 13) _=_;simp only [Act.put,sIB,sc0,scs,i64_w,i32_w]
  rfl
 refine one_ (i:=6) (N:=some 14) #[true,true,true,true,true,true,true,false,true,true,true,false,false,false] rfl rfl (one_of HT_.out kr) dc (fun K hK=>?_)
 refine goes_ Tryz.func151 kr rfl #[.agg #[.slice A0_0 l0_0.length c0_0],.slice cS a4.length cT] (by rfl) rfl rfl am ?_
 with_reducible refine (ih k (by omega) _ _ l0_0 _ _ a4 ax _ ?side1 ?side2 ?side3 ?side4 A7.out).mono ?_
 (case side1=>exact pc (Kd.C_below bG.out HB.out))
 (case side2=>exact bH.out)
 (case side3=>exact pc ((Kd.R_reads' aI.out).2.2))
 (case side4=>exact (Kd.R_reads' aI.out).2.1)
 rintro e w17 ⟨rfl,hb⟩
 refine ⟨_,rfl,?_⟩
 have n0_:=rb aI hb;have n1_:=bb al hb;have n2_:=hbs hb;clear aI al HB;have aI:=n0_;have al:=n1_;have HB:=n2_;clear n0_ n1_ n2_;(try clear hb);(try clear hb2);(try clear hk);(try clear hi)
 refine hK.out _ _ ⟨(blk_cell al.out 0).trans rfl,((HB.out.cell (World.block_lt_of_cell? w _ hw451_0)).trans hw451_0)⟩ (fun hHeld=>?_)
 clear hK K
 refine norm_ (a':=?_) ?_ ?_
 rotate_left
 ·show Act.put _ (some 14) _=_;simp only [Act.put,sIB,sc0,scs,i64_w,i32_w]
  rfl
 refine pur (i:=7) (N:=some 15) (v:=?_) (a':=?_) (tf 11 3) rfl (Or.inl ⟨by rfl,?_⟩) ?_ ?_
 rotate_left
 ·intro w'
  go_simp
  with_reducible rfl
 rotate_left
 ·simp only [Act.put,sIB,sc0,scs,i64_w,i32_w]
  rfl
 refine one_ (i:=11) (N:=some 19) (tf 12 2) rfl rfl (one_of HT_.out kr) dc (fun K hK=>?_)
 refine goes_ Tryz.func151 kr rfl #[.agg #[.slice A0_0 l0_0.length c0_0],.slice A14 (l1.drop 1).length (c1 - 1)] (by rfl) rfl rfl (by (try simp only [List.map_toArray,List.map_cons,List.map_nil]);first|done|(rw [show (l1.drop 1).length=(l1.length - 1) from List.length_drop] <;> rfl)|rfl|(simp only [List.length_drop,List.length_take];rfl)) ?_
 with_reducible refine (ih k (by omega) _ _ l0_0 _ _ (l1.drop 1) aT _ ?side1 ?side2 ?side3 ?side4 A10.out).mono ?_
 (case side1=>exact pc (Kd.C_below bG.out HB.out))
 (case side2=>exact bH.out)
 (case side3=>exact pc (Kd.C_below ca.out HB.out))
 (case side4=>exact cR.out)
 rintro e w18 ⟨rfl,hb⟩
 refine ⟨_,rfl,?_⟩
 have n0_:=rb aI hb;have n1_:=bb al hb;have n2_:=hbs hb;clear aI al HB;have aI:=n0_;have al:=n1_;have HB:=n2_;clear n0_ n1_ n2_;(try clear hb);(try clear hb2);(try clear hk);(try clear hi)
 refine hK.out _ _ ⟨(blk_cell al.out 0).trans rfl,((HB.out.cell (World.block_lt_of_cell? w _ hw451_0)).trans hw451_0)⟩ (fun hHeld=>?_)
 clear hK K
 refine norm_ (a':=?_) ?_ ?_
 rotate_left
 ·show Act.put _ (some 19) _=_;simp only [Act.put,sIB,sc0,scs,i64_w,i32_w]
  rfl
 refine pur (i:=12) (N:=some 20) (v:=?_) (a':=?_) (tf 13 1) rfl (Or.inl ⟨by rfl,?_⟩) ?_ ?_
 rotate_left
 ·intro w'
  go_simp
  with_reducible rfl
 rotate_left
 ·simp only [Act.put,sIB,sc0,scs,i64_w,i32_w]
  rfl
 refine pur (i:=13) (N:=some 4) (v:=?_) (a':=?_) (tf 14 0) rfl (Or.inl ⟨by rfl,?_⟩) ?_ ?_
 rotate_left
 ·intro w'
  go_simp
  with_reducible rfl
 rotate_left
 ·simp only [Act.put,sIB,sc0,scs,i64_w,i32_w]
  rfl
 refine done_ (done_of HT_.out kr) ?_
 try go_wp2
 go_ret
 exact ⟨ew,hq⟩
end Go.Proofs.YtlppkilencpmeaaGreat.QFnGrowth
