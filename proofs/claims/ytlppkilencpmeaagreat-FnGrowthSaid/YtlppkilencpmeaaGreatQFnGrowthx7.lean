/- Functions as Lean functions, with their contracts: written by a program of this claim over the translation; some contracts are proved by hand. -/
import Derived.Test.YtlppkilencpmeaaGreatQFnGrowthx0
import Derived.Test.YtlppkilencpmeaaGreatQFnGrowthx1
import Derived.Test.YtlppkilencpmeaaGreatQFnGrowthx6
namespace Go.Proofs.YtlppkilencpmeaaGreat.QFnGrowth
open Go.RowKit Go.Proofs.YtlppkilencpmeaaGreat.Gl Go.Proofs.YtlppkilencpmeaaGreat.Sz Go.Proofs.YtlppkilencpmeaaGreatW.PrintWords Go.Proofs.YtlppkilencpmeaaGreatW.PrintLast Go.Proofs.YtlppkilencpmeaaGreatW.PrintMore
attribute [local go_sem] max2_int min2_int max_two min_two max_three min_three max_four min_four   -- for this text's walks alone
set_option linter.unusedVariables false
set_option linter.unusedSimpArgs false
theorem q7_0 {P:Prop} (h:P:=by repeat (first|(with_reducible first|exact aa.out|apply IsS90.alloc|apply IsS90.drewN|apply IsS90.drew|apply IsS90.set_1|apply IsS90.set_2)|exact aa.out)):P:=h
theorem q7_1 {P:Prop} (h:P:=by repeat (first|(with_reducible first|exact HB.out|apply below_alloc|apply pw_below_drewN|apply below_drew1|refine below_set ?_ (IsS90.ge aa.out))|exact HB.out)):P:=h
theorem q7_2 {P:Prop} (h:P:=by repeat (first|(with_reducible first|exact HK.out|apply KeepBut.set_|apply keep_drewN|apply keep_drew|apply keep_alloc)|exact HK.out)):P:=h
theorem q7_3 {P:Prop} (h:P:=by repeat (first|(with_reducible first|exact HI0.out|apply IsS90.alloc|apply IsS90.drewN|apply IsS90.drew|apply IsS90.set_1|apply IsS90.set_2)|exact HI0.out)):P:=h
theorem q7_4 {P:Prop} (h:P:=by repeat (first|(with_reducible first|exact HB.out|apply below_alloc|apply pw_below_drewN|apply below_drew1|refine below_set ?_ (IsS90.ge HI0.out))|exact HB.out)):P:=h
theorem q7_5 {P:Prop} (h:P:=by repeat (first|(with_reducible exact an.out)|(with_reducible refine Kd.C_alloc ?_ _)|(with_reducible refine Kd.C_drewN ?_ _)|(with_reducible refine Kd.C_drew ?_)|exact an.out)):P:=h
theorem q7_6 {P:Prop} (h:P:=by repeat (first|(with_reducible exact au.out)|(with_reducible refine Kd.C_alloc ?_ _)|(with_reducible refine Kd.C_drewN ?_ _)|(with_reducible refine Kd.C_drew ?_)|exact au.out)):P:=h
theorem q7_7 {P:Prop} (h:P:=by first|(with_reducible assumption)|assumption):P:=h
theorem q7_8 {P:Prop} (h:P:=by first|rfl|(simp;done)|(simp [*];done)):P:=h
theorem q7_9 {P:Prop} (h:P:=by repeat (first|exact Drawn0.refl _|apply Drawn0.step)):P:=h
theorem q7_10 {P:Prop} (h:P:=by repeat (first|exact q7_5|(with_reducible refine Kd.C_alloc ?_ _)|(with_reducible refine Kd.C_drewN ?_ _)|(with_reducible refine Kd.C_drew ?_))):P:=h
set_option maxHeartbeats 8000000
set_option maxRecDepth 100000
def spec_l01DrawOrder.l0:Nat→Int→List Int→Int→List Int→Int→Int→Option (List Int × Int × Int)
 | 0,_,_,_,_,_,_=>none
 | k+1,x1,x5,x6,x1000,x1001,x1002=>if x6<x1 then ((spec_l01Next.f x1000 x1001 x1002 (wrap64 (x6+1))).bind fun bt282=>(if 0≤bt282.1 then (if bt282.1≤(x5.length:Int) then ((spec_l01Own.f (x5.take (bt282.1:Int).toNat)).bind fun t289=>((some (([x6]:List Int):List Int)).bind fun y292=>(if t289.length+y292.length<17592186044416 then ((some (t289++y292:List Int)).bind fun y295=>((some (x5.drop (bt282.1:Int).toNat:List Int)).bind fun y298=>(if y295.length+y298.length<17592186044416 then (spec_l01DrawOrder.l0 k x1 (y295++y298) (wrap64 (x6+1)) x1000 bt282.2.1 bt282.2.2) else (none)))) else (none)))) else (none)) else (none))) else (some (x5,x1001,x1002))
def spec_l01DrawOrder.f (k:Nat) (s0_0:List Int) (s0_1:Int) (s0_2:Int) (a1:Int):Option (List Int × Int × Int):=spec_l01DrawOrder.l0 k a1 ([]:List Int) 0 s0_0 s0_1 s0_2
def spec_l01DrawOrder.T6:Bool × List (List Nat × List Nat):=(true,[([],[]),([],[]),([0,1],[0,1]),([2],[2]),([],[]),([4],[4]),([3,5,3],[3,5]),([],[]),([],[]),([7,8],[7,8]),([6,9,6],[6,9]),([10,10,0,1,2,3,4,5,6,7,8,9,10],[0,7,10])])
def spec_l01DrawOrder.B6:List Nat:=[0,0,3,7,0,16,63,0,0,384,1023,2047]
theorem spec_l01DrawOrder.tab6:rtab .any (opsOf Tryz.f62 6)=spec_l01DrawOrder.T6:=by kernel_rfl
theorem spec_l01DrawOrder.bits6:waitsOk spec_l01DrawOrder.T6.2 spec_l01DrawOrder.B6=true:=by kernel_rfl
theorem spec_l01DrawOrder.calls (k:Nat) (g:Nat) (s0_0:List Int) (s0_1:Int) (s0_2:Int) (a1:Int) (r1:List Int) (r2:Int) (r3:Int) (w0 w:World) (hI:IsS90 w0 w g s0_0 s0_1 s0_2) (hB:Below w0.heap.size w0 w) (h:spec_l01DrawOrder.f k s0_0 s0_1 s0_2 a1=some (r1,r2,r3)) :
  Calls Tryz.prog 62 #[.pointer (some ⟨g,0,none⟩),.int .i64 a1] w fun e w'=>∃ v0_:Value,e=.returned (v0_)∧Kd.R (Kd.int .i64) 2 w' w.heap.size (fun _=>True) v0_ r1∧IsS90 w0 w' g s0_0 r2 r3∧Below w0.heap.size w0 w'∧KeepBut w w' g none:=by
 have HI0:=ak hI;have HK:=ak (KeepBut.refl w g none);have HL:=ak hB.size;clear hI;have HW0:=ak hB.size;have HB:=ak hB;clear hB;have H:(spec_l01DrawOrder.l0 k a1 ([]:List Int) 0 s0_0 s0_1 s0_2)=some (r1,r2,r3):=h;clear h;obtain ⟨bI,hY⟩:∃ y_:List Int,y_=([]:List Int):=⟨_,rfl⟩;replace H:(spec_l01DrawOrder.l0 k a1 bI 0 s0_0 s0_1 s0_2)=some (r1,r2,r3):=hh;have bJ:=ak hY;clear hY;have H':=ak H;clear H
 go_enter Tryz.func62,Tryz.ntmps62
 go_wp2_with (first|((with_reducible refine gate_dst (N:=8) rfl ?_);refine Kd.R_lit (Kd.int .i64) _ 2 ?hg (N:=8) ?hd (xs:=([]:List Int)) (inner:=[]) (ok:=fun _=>True) (okp:=fun _=>True) ?hr ?hp (fun _ hk=>hk) trivial (Below.refl _ _) (Nat.le_refl _) (by simp) ?_;(case hd=>rfl);(case hg=>rfl);(case hr=>exact gs);(case hp=>exact (Reps.none _ _));intro cH w3 ho4 hb hg_ hnew_;clear hg_ hnew_;(first|rw [← bJ.out] at ho4|(simp only [Int.reduceToNat] at ho4;rw [← bJ.out] at ho4));have b5:=ak (Kd.R_lower ho4 (keep_size (w:=w) (g:=g) (row:=none) q7_2));replace HK:=ak (KeepBut.trans q7_2 (KeepBut.of_below hb g none) (.inl rfl));replace HB:=ak (below_step q7_4 hb);replace HI0:=ak (IsS90.below q7_3 hb);clear hb ho4))
 go_loopg [5,6] k (fun kq v5 v6 w'=>∃ (af:List Int) (ai:Int) (bh:Int) (bi:Int),v6=.int .i64 ai∧Aside0 (spec_l01DrawOrder.l0 kq a1 af ai s0_0 bh bi=some (r1,r2,r3))∧Aside0 (kq≤k)∧Aside0 (Kd.R (Kd.int .i64) 2 w' w.heap.size (fun _=>True) v5 af)∧Aside0 (IsS90 w0 w' g s0_0 bh bi)∧Aside0 (KeepBut w w' g none)∧Aside0 (Below w0.heap.size w0 w'))
 case atStart=>exact ⟨(bI),(0),(s0_1),(s0_2),q7_8,H',⟨Nat.le_refl _⟩,⟨pe b5.out⟩,⟨q7_3⟩,⟨q7_2⟩,⟨q7_4⟩⟩
 case round =>
  clear H'
  try clear p2
  obtain ⟨af,ai,bh,bi,rfl,HA,HK1,ae,HI0,HK,HB⟩:=hrel
  cases gk with|zero=>exact absurd HA.out (by simp [spec_l01DrawOrder.l0])|succ k1=>?_
  have H:=HA.out;clear HA;simp only [spec_l01DrawOrder.l0] at H;obtain c5|c5:=nem (ai<a1)
  ·rw [if_neg c5] at H;have bK:=df c5;clear c5;simp only [Option.some.injEq,Prod.mk.injEq] at H;obtain ⟨rfl,rfl,rfl⟩:=H;go_wp2
   go_ret
   exact ⟨_,ew,pe ae.out,q7_3,q7_4,q7_2⟩
  rw [if_pos c5] at H;have bK:=dt c5;clear c5;replace H:=bs H;obtain ⟨⟨ah,aT,aU⟩,A6,H⟩:=H;(try dsimp only at H);replace H:=ifs H;obtain ⟨c7,H⟩:=H;have bL:=eq_true c7;have bM:decide (0≤ah)=true:=decide_eq_true c7;clear c7;replace H:=ifs H;obtain ⟨c8,H⟩:=H;have cI:=eq_true c8;have cJ:decide (ah≤(af.length:Int))=true:=decide_eq_true c8;clear c8;obtain ⟨a5,hY⟩:∃ y_:List Int,y_=(af.take (ah:Int).toNat):=⟨_,rfl⟩;replace H:((spec_l01Own.f a5).bind fun aN=>((some (([ai]:List Int):List Int)).bind fun ay=>(if aN.length+ay.length<17592186044416 then ((some (aN++ay:List Int)).bind fun aD=>((some (af.drop (ah:Int).toNat:List Int)).bind fun ao=>(if aD.length+ao.length<17592186044416 then (spec_l01DrawOrder.l0 k1 a1 (aD++ao) (wrap64 (ai+1)) s0_0 aT aU) else (none)))) else (none))))=some (r1,r2,r3):=hh;have bN:=ak hY;clear hY;replace H:=bs H;obtain ⟨aN,A9,H⟩:=H;(try dsimp only at H);obtain ⟨ay,hY⟩:∃ y_:List Int,y_=([ai]:List Int):=⟨_,rfl⟩;replace H:(if aN.length+ay.length<17592186044416 then ((some (aN++ay:List Int)).bind fun aD=>((some (af.drop (ah:Int).toNat:List Int)).bind fun ao=>(if aD.length+ao.length<17592186044416 then (spec_l01DrawOrder.l0 k1 a1 (aD++ao) (wrap64 (ai+1)) s0_0 aT aU) else (none)))) else (none))=some (r1,r2,r3):=hh;have bm:=ak hY;clear hY;replace H:=ifs H;obtain ⟨c10,H⟩:=H;have b6:=ak c10;clear c10;obtain ⟨aD,hY⟩:∃ y_:List Int,y_=(aN++ay):=⟨_,rfl⟩;replace H:((some (af.drop (ah:Int).toNat:List Int)).bind fun ao=>(if aD.length+ao.length<17592186044416 then (spec_l01DrawOrder.l0 k1 a1 (aD++ao) (wrap64 (ai+1)) s0_0 aT aU) else (none)))=some (r1,r2,r3):=hh;have b7:=ak hY;clear hY;have cK:=eq_true (od q7_7:0≤ah);have cL:=eq_true (od q7_7:ah≤(af.length:Int));obtain ⟨ao,hY⟩:∃ y_:List Int,y_=(af.drop (ah:Int).toNat):=⟨_,rfl⟩;replace H:(if aD.length+ao.length<17592186044416 then (spec_l01DrawOrder.l0 k1 a1 (aD++ao) (wrap64 (ai+1)) s0_0 aT aU) else (none))=some (r1,r2,r3):=hh;have bB:=ak hY;clear hY;replace H:=ifs H;obtain ⟨c13,H⟩:=H;have b8:=ak c13;clear c13;obtain ⟨bO,hY⟩:∃ y_:List Int,y_=(aD++ao):=⟨_,rfl⟩;replace H:(spec_l01DrawOrder.l0 k1 a1 bO (wrap64 (ai+1)) s0_0 aT aU)=some (r1,r2,r3):=hh;have b9:=ak hY;clear hY;have H':=ak H;clear H
  try go_wp2_with (first|((with_reducible refine gate_callee (f:=50) rfl ?_);refine gl (some 17) Tryz.func50 #[.pointer (some ⟨g,0,none⟩),.int .i64 (wrap64 (ai+1))] ?_;(with_reducible refine (spec_l01Next.calls g s0_0 bh bi (wrap64 (ai+1)) ah aT aU w0 _ ?side1 ?side2 A6.out).mono ?_);(case side1=>exact q7_3);(case side2=>exact q7_4);rintro e w14 ⟨rfl,hi,hb,hk⟩;refine ⟨_,rfl,?_⟩;replace ae:=ak (Kd.R_mono (Kd.R_keep (IsS90.apart (show IsS90 w0 _ g s0_0 bh bi from q7_3) (pe ae.out) dc) hk (fun _ h=>h.2)) (fun _ h=>h.1));replace HK:=ak (KeepBut.trans q7_2 hk (.inl rfl));replace HB:=ak (hb);replace HI0:=ak (hi);(try clear hb hk hi)))
  have n0_:=ak (Kd.R_drew ae.out);have n1_:=ak (IsS90.drew HI0.out);have n2_:=ak (keep_drew HK.out);have n3_:=ak (below_drew1 HB.out);clear ae HI0 HK HB;have ae:=n0_;have HI0:=n1_;have HK:=n2_;have HB:=n3_;clear n0_ n1_ n2_ n3_;obtain ⟨aq,al,bP⟩:=Kd.R_slice ae.out;(first|subst bP|(injection bP with f1_ f2_ f3_;have f4_:=f1_.symm;have f5_:=f3_.symm;clear f1_ f2_ f3_;subst f4_;subst f5_));have q16:(ah:Int)≤((af.length:Int):Int):=od q7_7;obtain ⟨i016,bQ,_,hsz16,_⟩:=info_parts info2;have hroom16:af.length≤al:=(Kd.R_reads' ae.out).2.1;have bR:Kd.C (Kd.int .i64) _ aq af.length af:=(Kd.R_reads' ae.out).2.2;have hcut16:=cut_to (P:=Tryz.prog) 24 2 .i64 Tryz.underlying24 bQ aq af.length al ah (od q7_7) q16 hroom16;have bC:=Kd.C_take (m:=(ah:Int).toNat) bR (by omega);have bD:a5.length=(ah:Int).toNat:=(by rw [bN.out,List.length_take];omega);rw [← bN.out] at bC;rw [← bD] at hcut16;have an:=ak bC;have bS:=ak (show a5.length≤al from by omega);clear bC bR hroom16 bQ hsz16;have cM:=ak bD;clear bD;have cN:=ak (show (ah:Int).toNat≤af.length from by omega);replace q16:=eq_true q16;have q18:(ah:Int)≤((af.length:Int):Int):=od q7_7;obtain ⟨i018,bT,_,hsz18,_⟩:=info_parts info2;have hroom18:af.length≤al:=(Kd.R_reads' ae.out).2.1;have bU:Kd.C (Kd.int .i64) _ aq af.length af:=(Kd.R_reads' ae.out).2.2;have ca:(0:Int)≤(ah:Int):=od q7_7;have hcut18:=cut_from (P:=Tryz.prog) 24 2 .i64 Tryz.underlying24 bT 1 hsz18 aq af.length al ah ca q18;have bj:=Kd.C_drop (m:=(ah:Int).toNat) (c:=al) bU (by omega) hroom18;obtain ⟨A18,hA18⟩:∃ A1,A1=(if al=(ah:Int).toNat then aq else (aq:Option Addr).map (·.add ((ah:Int).toNat*1))):=⟨_,rfl⟩;obtain ⟨c18,bE⟩:∃ c1,c1=al - (ah:Int).toNat:=⟨_,rfl⟩;have bo:ao.length=af.length - (ah:Int).toNat:=(by rw [bB.out,List.length_drop] <;> omega);rw [show (af).drop (ah:Int).toNat=ao from bB.out.symm] at bj;replace bj:Kd.C (Kd.int .i64) _ A18 ao.length ao:=(by rw [hA18];exact bj);rw [← bo,← hA18,← bE] at hcut18;have au:=ak bj;have cO:=ak (show ao.length≤c18 from by rw [bo,bE];exact Nat.sub_le_sub_right hroom18 _);clear bj bU hroom18 bT hsz18 bE;have cP:=ak bo;have cb:=ak hA18;clear bo hA18;have cc:=ak (show (ah:Int).toNat≤af.length from by omega);replace q18:=eq_true q18
  refine start_ (n:=12) (S:=fun w'=>True) (ds:=[]) #[false,false,false,false,false,false,false,false,false,false,false,false] kr rfl rfl trivial (fun hHeld=>?_);refine with_tabW spec_l01DrawOrder.tab6 spec_l01DrawOrder.bits6 (fun HT_ HW_=>?_)
  generalize w14.drew=w15 at ae HI0 HK HB an au hHeld ⊢
  refine pur (i:=0) (N:=some 18) (v:=?_) (a':=?_) (tf 1 11) rfl (Or.inl ⟨by rfl,?_⟩) ?_ ?_
  rotate_left
  ·intro w'
   go_simp
   with_reducible rfl
  rotate_left
  ·simp only [Act.put,sIB,sc0,scs,i64_w,i32_w]
   rfl
  refine pur (i:=1) (N:=some 19) (v:=?_) (a':=?_) (tf 2 10) rfl (Or.inl ⟨by rfl,?_⟩) ?_ ?_
  rotate_left
  ·intro w'
   go_simp
   with_reducible rfl
  rotate_left
  ·simp only [Act.put,sIB,sc0,scs,i64_w,i32_w]
   rfl
  refine pur (i:=2) (N:=some 20) (v:=?_) (a':=?_) (tf 3 9) rfl (Or.inl ⟨by rfl,?_⟩) ?_ ?_
  rotate_left
  ·intro w'
   go_simp
   with_reducible rfl
  rotate_left
  ·simp only [Act.put,sIB,sc0,scs,i64_w,i32_w]
   rfl
  refine pur (i:=4) (N:=some 22) (v:=?_) (a':=?_) #[true,true,true,false,true,false,false,false,false,false,false,false] rfl (Or.inl ⟨by rfl,?_⟩) ?_ ?_
  rotate_left
  ·intro w'
   go_simp
   with_reducible rfl
  rotate_left
  ·simp only [Act.put,sIB,sc0,scs,i64_w,i32_w]
   rfl
  refine pur (i:=7) (N:=some 25) (v:=?_) (a':=?_) #[true,true,true,false,true,false,false,true,false,false,false,false] rfl (Or.inl ⟨by rfl,?_⟩) ?_ ?_
  rotate_left
  ·intro w'
   go_simp
   with_reducible rfl
  rotate_left
  ·simp only [Act.put,sIB,sc0,scs,i64_w,i32_w]
   rfl
  refine pur (i:=8) (N:=some 26) (v:=?_) (a':=?_) #[true,true,true,false,true,false,false,true,true,false,false,false] rfl (Or.inl ⟨by rfl,?_⟩) ?_ ?_
  rotate_left
  ·intro w'
   go_simp
   with_reducible rfl
  rotate_left
  ·simp only [Act.put,sIB,sc0,scs,i64_w,i32_w]
   rfl
  refine pur (i:=9) (N:=some 27) (v:=?_) (a':=?_) #[true,true,true,false,true,false,false,true,true,true,false,false] rfl (Or.inl ⟨by rfl,?_⟩) ?_ ?_
  rotate_left
  ·intro w'
   go_simp
   with_reducible rfl
  rotate_left
  ·simp only [Act.put,sIB,sc0,scs,i64_w,i32_w]
   rfl
  refine join_ (σ:=Value × Value) 3 #[true,true,true,true,true,true,false,true,true,true,false,false] (fun s_=>[(21,s_.1),(23,s_.2)]) (fun s_ w'=>(Kd.R (Kd.int .i64) 2 w' w.heap.size (fun k_=>some k_≠(s_.2:Value).ownBlock∧some k_≠(.slice aq af.length al:Value).ownBlock) s_.1 aN)∧(Kd.R (Kd.int .i64) 2 w' w.heap.size (fun k_=>some k_≠(s_.1:Value).ownBlock∧some k_≠(.slice aq af.length al:Value).ownBlock) s_.2 ay)∧(Kd.R (Kd.int .i64) 2 w' w.heap.size (fun k_=>some k_≠(s_.1:Value).ownBlock∧some k_≠(s_.2:Value).ownBlock) (.slice aq af.length al) af)∧(IsS90 w0 w' g s0_0 aT aU)∧(KeepBut w w' g none)∧(Below w0.heap.size w0 w')) ?_ ?_
  rotate_left
  ·intro hCont
   refine two_ (i:=3) (j:=5) (Ni:=some 21) (Nj:=some 23) #[true,true,true,true,true,false,false,true,true,true,false,false] #[true,true,true,false,true,true,false,true,true,true,false,false] rfl rfl rfl rfl (two_of HT_.out kr) dc dc (fun K hK=>?_) (fun K hK=>?_)
   ·skip
    refine goes_ Tryz.func90 kr rfl #[.slice aq a5.length al] (by rfl) rfl rfl am ?_
    with_reducible refine (spec_l01Own.calls _ _ a5 aN _ ?side1 ?side2 A9.out).mono ?_
    (case side1=>exact q7_10)
    (case side2=>exact bS.out)
    rintro e w19 ⟨aY,rfl,ho0,hb⟩
    refine ⟨_,rfl,?_⟩
    have n0_:=rn ae ho0 hb;have n1_:=ak (Kd.R_lower (nw ho0 ae) (keep_size (w:=w) (g:=g) (row:=none) q7_2));have n2_:=ak (IsS90.below q7_3 hb);have n3_:=ak (Kd.C_below q7_5 hb);have n4_:=ak (Kd.C_below q7_6 hb);have n5_:=ak (KeepBut.trans q7_2 (KeepBut.of_below hb g none) (.inl rfl));have n6_:=ak (below_step q7_4 hb);clear ae HI0 an au HK HB;have ae:=n0_;have aE:=n1_;have HI0:=n2_;have an:=n3_;have au:=n4_;have HK:=n5_;have HB:=n6_;clear n0_ n1_ n2_ n3_ n4_ n5_ n6_;(try clear hb);(try clear hb2);(try clear hk);(try clear hi);(try clear ho0)
    refine hK.out _ _ trivial (fun hHeld=>?_)
    clear hK K
    refine norm_ (a':=?_) ?_ ?_
    rotate_left
    ·show Act.put _ (some 21) _=_;simp only [Act.put,sIB,sc0,scs,i64_w,i32_w]
     rfl
    refine one_ (i:=5) (N:=some 23) #[true,true,true,true,true,true,false,true,true,true,false,false] rfl rfl (one_of HT_.out kr) dc (fun K hK=>?_)
    refine Kd.R_lit_step (Kd.int .i64) _ 2 ?hg (N:=23) ?hd (xs:=([ai]:List Int)) (inner:=[.int .i64 ai]) (ok:=fun _=>True) (okp:=fun _=>True) ?hr ?hp (fun _ hk=>hk) trivial (Below.refl _ _) (Nat.le_refl _) (by simp) ?_;(case hd=>rfl);(case hg=>rfl);(case hr=>exact gs);(case hp=>exact (Reps.one (show Kd.M (Kd.int .i64) _ _ _ ai [.int .i64 ai] from rfl) (Reps.none _ _)))
    intro a6 w20 ho21 hb hg_ hnew_
    clear hg_ hnew_;(first|rw [← bm.out] at ho21|(simp only [Int.reduceToNat] at ho21;rw [← bm.out] at ho21));have n0_:=rn ae ho21 hb;have n1_:=rn aE ho21 hb;have n2_:=ak (Kd.R_lower (nw (nw ho21 ae) aE) (keep_size (w:=w) (g:=g) (row:=none) q7_2));have n3_:=ak (IsS90.below q7_3 hb);have n4_:=ak (Kd.C_below q7_5 hb);have n5_:=ak (Kd.C_below q7_6 hb);have n6_:=ak (KeepBut.trans q7_2 (KeepBut.of_below hb g none) (.inl rfl));have n7_:=ak (below_step q7_4 hb);clear ae aE HI0 an au HK HB;have ae:=n0_;have aE:=n1_;have ar:=n2_;have HI0:=n3_;have an:=n4_;have au:=n5_;have HK:=n6_;have HB:=n7_;clear n0_ n1_ n2_ n3_ n4_ n5_ n6_ n7_ hb ho21
    refine hK.out _ _ trivial (fun hHeld=>?_)
    clear hK K
    refine norm_ (a':=?_) ?_ ?_
    rotate_left
    ·show Act.put _ (some 23) _=_;simp only [Act.put,sIB,sc0,scs,i64_w,i32_w]
     rfl
    exact norm_ (by simp only [putAll,Act.put,List.setIfInBounds_toArray,List.set_cons_zero,List.set_cons_succ]) (hCont (aY,a6) _ ⟨(pe (Kd.R_mono aE.out (fun _ hk=>⟨hk.2,hk.1.2⟩))),(pe (Kd.R_mono ar.out (fun _ hk=>⟨hk.2,hk.1.2⟩))),(pe (Kd.R_mono ae.out (fun _ hk=>⟨hk.1.2,hk.2⟩))),q7_3,q7_2,q7_4⟩)
   ·skip
    refine Kd.R_lit_step (Kd.int .i64) _ 2 ?hg (N:=23) ?hd (xs:=([ai]:List Int)) (inner:=[.int .i64 ai]) (ok:=fun _=>True) (okp:=fun _=>True) ?hr ?hp (fun _ hk=>hk) trivial (Below.refl _ _) (Nat.le_refl _) (by simp) ?_;(case hd=>rfl);(case hg=>rfl);(case hr=>exact gs);(case hp=>exact (Reps.one (show Kd.M (Kd.int .i64) _ _ _ ai [.int .i64 ai] from rfl) (Reps.none _ _)))
    intro a6 w19 ho20 hb hg_ hnew_
    clear hg_ hnew_;(first|rw [← bm.out] at ho20|(simp only [Int.reduceToNat] at ho20;rw [← bm.out] at ho20));have n0_:=rn ae ho20 hb;have n1_:=ak (Kd.R_lower (nw ho20 ae) (keep_size (w:=w) (g:=g) (row:=none) q7_2));have n2_:=ak (IsS90.below q7_3 hb);have n3_:=ak (Kd.C_below q7_5 hb);have n4_:=ak (Kd.C_below q7_6 hb);have n5_:=ak (KeepBut.trans q7_2 (KeepBut.of_below hb g none) (.inl rfl));have n6_:=ak (below_step q7_4 hb);clear ae HI0 an au HK HB;have ae:=n0_;have ar:=n1_;have HI0:=n2_;have an:=n3_;have au:=n4_;have HK:=n5_;have HB:=n6_;clear n0_ n1_ n2_ n3_ n4_ n5_ n6_ hb ho20
    refine hK.out _ _ trivial (fun hHeld=>?_)
    clear hK K
    refine norm_ (a':=?_) ?_ ?_
    rotate_left
    ·show Act.put _ (some 23) _=_;simp only [Act.put,sIB,sc0,scs,i64_w,i32_w]
     rfl
    refine one_ (i:=3) (N:=some 21) #[true,true,true,true,true,true,false,true,true,true,false,false] rfl rfl (one_of HT_.out kr) dc (fun K hK=>?_)
    refine goes_ Tryz.func90 kr rfl #[.slice aq a5.length al] (by rfl) rfl rfl am ?_
    with_reducible refine (spec_l01Own.calls _ _ a5 aN _ ?side1 ?side2 A9.out).mono ?_
    (case side1=>exact q7_10)
    (case side2=>exact bS.out)
    rintro e w21 ⟨aY,rfl,ho0,hb⟩
    refine ⟨_,rfl,?_⟩
    have n0_:=rn ae ho0 hb;have n1_:=rn ar ho0 hb;have n2_:=ak (Kd.R_lower (nw (nw ho0 ae) ar) (keep_size (w:=w) (g:=g) (row:=none) q7_2));have n3_:=ak (IsS90.below q7_3 hb);have n4_:=ak (Kd.C_below q7_5 hb);have n5_:=ak (Kd.C_below q7_6 hb);have n6_:=ak (KeepBut.trans q7_2 (KeepBut.of_below hb g none) (.inl rfl));have n7_:=ak (below_step q7_4 hb);clear ae ar HI0 an au HK HB;have ae:=n0_;have ar:=n1_;have aE:=n2_;have HI0:=n3_;have an:=n4_;have au:=n5_;have HK:=n6_;have HB:=n7_;clear n0_ n1_ n2_ n3_ n4_ n5_ n6_ n7_;(try clear hb);(try clear hb2);(try clear hk);(try clear hi);(try clear ho0)
    refine hK.out _ _ trivial (fun hHeld=>?_)
    clear hK K
    refine norm_ (a':=?_) ?_ ?_
    rotate_left
    ·show Act.put _ (some 21) _=_;simp only [Act.put,sIB,sc0,scs,i64_w,i32_w]
     rfl
    exact norm_ (by simp only [putAll,Act.put,List.setIfInBounds_toArray,List.set_cons_zero,List.set_cons_succ]) (hCont (aY,a6) _ ⟨(pe (Kd.R_mono aE.out (fun _ hk=>⟨hk.2,hk.1.2⟩))),(pe (Kd.R_mono ar.out (fun _ hk=>⟨hk.2,hk.1.2⟩))),(pe (Kd.R_mono ae.out (fun _ hk=>⟨hk.2,hk.1.2⟩))),q7_3,q7_2,q7_4⟩)
  rintro ⟨aY,a6⟩ w22 ⟨h0_,h1_,h2_,h3_,h4_,h5_⟩
  have n0_:Aside0 (Kd.R (Kd.int .i64) 2 w22 w.heap.size (fun k_=>some k_≠(a6:Value).ownBlock∧some k_≠(.slice aq af.length al:Value).ownBlock) aY aN):=⟨h0_⟩;have n1_:Aside0 (Kd.R (Kd.int .i64) 2 w22 w.heap.size (fun k_=>some k_≠(aY:Value).ownBlock∧some k_≠(.slice aq af.length al:Value).ownBlock) a6 ay):=⟨h1_⟩;have n2_:Aside0 (Kd.R (Kd.int .i64) 2 w22 w.heap.size (fun k_=>some k_≠(aY:Value).ownBlock∧some k_≠(a6:Value).ownBlock) (.slice aq af.length al) af):=⟨h2_⟩;have n3_:Aside0 (IsS90 w0 w22 g s0_0 aT aU):=⟨h3_⟩;have n4_:Aside0 (KeepBut w w22 g none):=⟨h4_⟩;have n5_:Aside0 (Below w0.heap.size w0 w22):=⟨h5_⟩;clear ae HI0 HK HB h0_ h1_ h2_ h3_ h4_ h5_;have aE:=n0_;have ar:=n1_;have ae:=n2_;have HI0:=n3_;have HK:=n4_;have HB:=n5_;clear n0_ n1_ n2_ n3_ n4_ n5_;have hHeld:=trivial;obtain ⟨bp,bq,bV⟩:=Kd.R_slice ar.out;(first|subst bV|(injection bV with f1_ f2_ f3_;have f4_:=f1_.symm;have f5_:=f3_.symm;clear f1_ f2_ f3_;subst f4_;subst f5_))
  refine norm_ (a':=?_) ?_ ?_
  rotate_left
  ·simp only [putAll,Act.put,List.setIfInBounds_toArray,List.set_cons_zero,List.set_cons_succ]
   rfl
  refine one_ (i:=6) (N:=some 24) (tf 10 2) rfl rfl (one_of HT_.out kr) dc (fun K hK=>?_)
  refine Kd.R_append_rows_step (Kd.int .i64) w.heap.size (by rfl) (.tmp 21) (.tmp 23) 24 2 (.int .i64 0) 8 rfl Tryz.underlying24 info2 rfl dc (by omega) aY aN ay _ _ _ (fun k_=>some k_≠(.slice aq af.length al:Value).ownBlock∧some k_≠(.slice bp ay.length bq:Value).ownBlock) (fun _=>False) rfl rfl ?aO ?aR (fun _ _ h=>h) (fun _ h=>h.elim) ?aF (Below.refl _ _) ?aS ?aL ?_
  (case aR=>exact pc ((Kd.R_reads' ar.out).2.2))
  (case aF=>exact (fun k_ hk=>⟨Kd.fresh' (Kd.R_lt (pe ae.out)) k_ hk,Kd.fresh' (Kd.R_lt (pe ar.out)) k_ hk⟩))
  (case aO=>exact (pe (Kd.R_mono aE.out (fun _ hk=>⟨hk.2,hk.1⟩))))
  (case aS=>exact (keep_size (w:=w) (g:=g) (row:=none) q7_2))
  (case aL=>have:=b6.out;omega)
  intro cd w23 ho hb hg hat
  rw [← b7.out] at ho;have n0_:=ak (Kd.R_after (ok:=(fun k_=>some k_≠(.slice bp ay.length bq:Value).ownBlock)) (pe (Kd.R_mono ae.out (fun _ hk=>⟨hk.2,hk.1⟩))) hg hat);have n1_:=ak (IsS90.grown q7_3 hg (IsS90.own_ne HI0.out aE.out dc));have n2_:=ak (Kd.R_after (ok:=(fun k_=>some k_≠(.slice aq af.length al:Value).ownBlock)) (pe (Kd.R_mono ar.out (fun _ hk=>⟨hk.2,hk.1⟩))) hg hat);have n3_:=ak (below_weaken q7_4 HL.out hb);have n4_:=ak (KeepBut.trans q7_2 (KeepBut.of_grown hg g) (Kd.R_base2 aE.out));have n5_:=ak (ho);clear ae HI0 ar HB HK aE;have ae:=n0_;have HI0:=n1_;have ar:=n2_;have HB:=n3_;have HK:=n4_;have br:=n5_;clear n0_ n1_ n2_ n3_ n4_ n5_ ho hb hg hat
  refine hK.out _ _ trivial (fun hHeld=>?_)
  clear hK K
  refine norm_ (a':=?_) ?_ ?_
  rotate_left
  ·show Act.put _ (some 24) _=_;simp only [Act.put,sIB,sc0,scs,i64_w,i32_w]
   rfl
  refine one_ (i:=10) (N:=some 28) (tf 11 1) rfl rfl (one_of HT_.out kr) dc (fun K hK=>?_)
  refine Kd.R_append_rows_step (Kd.int .i64) w.heap.size (by rfl) (.tmp 24) (.tmp 27) 24 2 (.int .i64 0) 8 rfl Tryz.underlying24 info2 rfl dc (by omega) cd aD ao _ _ _ (fun k_=>some k_≠(.slice aq af.length al:Value).ownBlock∧some k_≠(.slice bp ay.length bq:Value).ownBlock) (fun _=>False) rfl rfl ?aO ?aR (fun _ _ h=>h) (fun _ h=>h.elim) ?aF (Below.refl _ _) ?aS ?aL ?_
  (case aR=>exact (show Kd.C (Kd.int .i64) _ A18 ao.length ao from by rw [bB.out,cb.out];exact Kd.C_drop (m:=(ah:Int).toNat) (c:=al) ((Kd.R_reads' (pe ae.out)).2.2) cc.out ((Kd.R_reads' (ae.out)).2.1)))
  (case aF=>exact (fun k_ hk=>⟨Kd.fresh' (Kd.R_lt (pe ae.out)) k_ hk,Kd.fresh' (Kd.R_lt (pe ar.out)) k_ hk⟩))
  (case aO=>exact (pe br.out))
  (case aS=>exact (keep_size (w:=w) (g:=g) (row:=none) q7_2))
  (case aL=>have:=b8.out;omega)
  intro cQ w25 ho hb hg hat
  rw [← b9.out] at ho;have n0_:=ak (Kd.R_after (ok:=(fun k_=>some k_≠(.slice bp ay.length bq:Value).ownBlock)) (pe ae.out) hg hat);have n1_:=ak (IsS90.grown q7_3 hg (IsS90.own_ne HI0.out br.out dc));have n2_:=ak (Kd.R_after (ok:=(fun k_=>some k_≠(.slice aq af.length al:Value).ownBlock)) (pe ar.out) hg hat);have n3_:=ak (below_weaken q7_4 HL.out hb);have n4_:=ak (KeepBut.trans q7_2 (KeepBut.of_grown hg g) (Kd.R_base2 br.out));have n5_:=ak (ho);clear ae HI0 ar HB HK br;have ae:=n0_;have HI0:=n1_;have ar:=n2_;have HB:=n3_;have HK:=n4_;have ce:=n5_;clear n0_ n1_ n2_ n3_ n4_ n5_ ho hb hg hat
  refine hK.out _ _ trivial (fun hHeld=>?_)
  clear hK K
  refine norm_ (a':=?_) ?_ ?_
  rotate_left
  ·show Act.put _ (some 28) _=_;simp only [Act.put,sIB,sc0,scs,i64_w,i32_w]
   rfl
  refine pur (i:=11) (N:=some 5) (v:=?_) (a':=?_) (tf 12 0) rfl (Or.inl ⟨by rfl,?_⟩) ?_ ?_
  rotate_left
  ·intro w'
   go_simp
   with_reducible rfl
  rotate_left
  ·simp only [Act.put,sIB,sc0,scs,i64_w,i32_w]
   rfl
  refine done_ (done_of HT_.out kr) ?_
  try go_wp2
  go_roundg k1
  case measure=>have:=HK1.out;omega
  case rel=>exact ⟨(bO),(wrap64 (ai+1)),(aT),(aU),q7_8,H',⟨by have:=HK1.out;omega⟩,⟨pe (Kd.R_mono ce.out (fun _ hk=>trivial))⟩,⟨q7_3⟩,⟨q7_2⟩,⟨q7_4⟩⟩
def spec_DrawDecreasingTree.f (k:Nat) (l0:List Int):Option (List Int):=(spec_l01From.f k l0).bind fun bt305=>((spec_l01Pick.f bt305.1 bt305.2.1 bt305.2.2 ([5,10,24]:List Int)).bind fun bt312=>((spec_l01Next.f bt305.1 bt312.2.1 bt312.2.2 bt312.1).bind fun bt315=>((spec_l01DrawOrder.f k bt305.1 bt315.2.1 bt315.2.2 bt315.1).bind fun bt318=>((spec_l01Next.f bt305.1 bt318.2.1 bt318.2.2 10).bind fun bt323=>(if bt323.1=0 then (if bt318.1.length<17592186044416 then (some (bt318.1++[0])) else (none)) else (if bt323.1=1 then (if (bt318.1.length:Int)>0 then ((spec_l01Pick.f bt305.1 bt323.2.1 bt323.2.2 ([(-4611686018427387904),4611686018427387904,30]:List Int)).bind fun bt332=>(if 0<(bt318.1.length:Int) then (some (bt318.1.set (0:Int).toNat bt332.1)) else (none))) else (some bt318.1)) else (some bt318.1)))))))
theorem spec_DrawDecreasingTree.calls (k:Nat) (A0:Option Addr) (c0:Nat) (l0:List Int) (r:List Int) (w:World) (hr0:Kd.C (Kd.int .u8) w A0 l0.length l0) (hc0:l0.length≤c0) (h:spec_DrawDecreasingTree.f k l0=some r) :
  Calls Tryz.prog 13 #[.slice A0 l0.length c0] w fun e w'=>∃ v0_:Value,e=.returned (v0_)∧Kd.R (Kd.int .i64) 2 w' w.heap.size (fun _=>True) v0_ r∧Below w.heap.size w w':=by
 have HR0:=ak hr0;have HC0:=ak hc0;clear hr0 hc0;have HB:=ak (Below.refl w.heap.size w);have H:((spec_l01From.f k l0).bind fun a7=>((spec_l01Pick.f a7.1 a7.2.1 a7.2.2 ([5,10,24]:List Int)).bind fun a8=>((spec_l01Next.f a7.1 a8.2.1 a8.2.2 a8.1).bind fun a9=>((spec_l01DrawOrder.f k a7.1 a9.2.1 a9.2.2 a9.1).bind fun ap=>((spec_l01Next.f a7.1 ap.2.1 ap.2.2 10).bind fun aV=>(if aV.1=0 then (if ap.1.length<17592186044416 then (some (ap.1++[0])) else (none)) else (if aV.1=1 then (if (ap.1.length:Int)>0 then ((spec_l01Pick.f a7.1 aV.2.1 aV.2.2 ([(-4611686018427387904),4611686018427387904,30]:List Int)).bind fun bk=>(if 0<(ap.1.length:Int) then (some (ap.1.set (0:Int).toNat bk.1)) else (none))) else (some ap.1)) else (some ap.1))))))))=some r:=h;clear h;replace H:=bs H;obtain ⟨⟨ad,az,aA⟩,A2,H⟩:=H;(try dsimp only at H);obtain ⟨aC,hY⟩:∃ y_:List Int,y_=([5,10,24]:List Int):=⟨_,rfl⟩;replace H:((spec_l01Pick.f ad az aA aC).bind fun a8=>((spec_l01Next.f ad a8.2.1 a8.2.2 a8.1).bind fun a9=>((spec_l01DrawOrder.f k ad a9.2.1 a9.2.2 a9.1).bind fun ap=>((spec_l01Next.f ad ap.2.1 ap.2.2 10).bind fun aV=>(if aV.1=0 then (if ap.1.length<17592186044416 then (some (ap.1++[0])) else (none)) else (if aV.1=1 then (if (ap.1.length:Int)>0 then ((spec_l01Pick.f ad aV.2.1 aV.2.2 ([(-4611686018427387904),4611686018427387904,30]:List Int)).bind fun bk=>(if 0<(ap.1.length:Int) then (some (ap.1.set (0:Int).toNat bk.1)) else (none))) else (some ap.1)) else (some ap.1)))))))=some r:=hh;have aZ:=ak hY;clear hY;replace H:=bs H;obtain ⟨⟨aG,aH,aI⟩,A3,H⟩:=H;(try dsimp only at H);replace H:=bs H;obtain ⟨⟨aJ,aK,aM⟩,A4,H⟩:=H;(try dsimp only at H);replace H:=bs H;obtain ⟨⟨aj,av,aw⟩,A5,H⟩:=H;(try dsimp only at H);replace H:=bs H;obtain ⟨⟨aQ,aW,aX⟩,A6,H⟩:=H;(try dsimp only at H)
 by_cases c7:aQ=0
 ·rw [if_pos c7] at H;have bL:=be c7;have bM:=bn c7;clear c7;replace H:=ifs H;obtain ⟨c8,H⟩:=H;have cf:=ak c8;clear c8;obtain ⟨cg,hY⟩:∃ y_:List Int,y_=(aj++[0]):=⟨_,rfl⟩;replace H:(some cg)=some r:=hh;have ch:=ak hY;clear hY;obtain rfl:=Option.some.inj H
  go_enter Tryz.func13,Tryz.ntmps13
  go_wp2_with (first|((with_reducible refine gate_callee (f:=49) rfl ?_);refine gl (some 6) Tryz.func49 #[.slice A0 l0.length c0] ?_;(with_reducible refine (spec_l01From.calls k _ _ l0 ad az aA w _ ?side1 HR0.out HC0.out A2.out).mono ?_);(case side1=>exact hq);rintro e w9 ⟨ac,rfl,hi,hb,hb2⟩;refine ⟨_,rfl,?_⟩;replace HB:=ak (hb);have aa:=ak (hi);(try clear hb hb2 hi))|((with_reducible refine gate_dst (N:=10) rfl ?_);refine Kd.R_lit (Kd.int .i64) _ 2 ?hg (N:=10) ?hd (xs:=([5,10,24]:List Int)) (inner:=[.int .i64 5,.int .i64 10,.int .i64 24]) (ok:=fun _=>True) (okp:=fun _=>True) ?hr ?hp (fun _ hk=>hk) trivial (Below.refl _ _) (Nat.le_refl _) (by simp) ?_;(case hd=>rfl);(case hg=>rfl);(case hr=>exact gs);(case hp=>exact (Reps.one (show Kd.M (Kd.int .i64) _ _ _ 5 [.int .i64 5] from rfl) (Reps.one (show Kd.M (Kd.int .i64) _ _ _ 10 [.int .i64 10] from rfl) (Reps.one (show Kd.M (Kd.int .i64) _ _ _ 24 [.int .i64 24] from rfl) (Reps.none _ _)))));intro bF w10 ho11 hb hg_ hnew_;clear hg_ hnew_;(first|rw [← aZ.out] at ho11|(simp only [Int.reduceToNat] at ho11;rw [← aZ.out] at ho11));have ab:=ak (Kd.R_lower ho11 (below_size q7_1));replace HB:=ak (below_step q7_1 hb);replace aa:=ak (IsS90.below q7_0 hb);clear hb ho11;obtain ⟨bW,bX,ci⟩:=Kd.R_slice ab.out;subst ci)|((with_reducible refine gate_callee (f:=51) rfl ?_);refine gl (some 11) Tryz.func51 #[.pointer (some ⟨ac,0,none⟩),.slice bW aC.length bX] ?_;(with_reducible refine (spec_l01Pick.calls ac ad az aA _ _ aC aG aH aI w _ ?side1 ?side2 (pc ((Kd.R_reads' ab.out).2.2)) (Kd.R_reads' ab.out).2.1 ?side5 A3.out).mono ?_);(case side1=>exact q7_0);(case side2=>exact q7_1);(case side5=>exact far_slice (IsS90.own_ne aa.out ab.out dc));rintro e w13 ⟨rfl,hi,hb,hk⟩;refine ⟨_,rfl,?_⟩;replace ab:=ak (Kd.R_mono (Kd.R_keep (IsS90.apart (show IsS90 w _ ac ad az aA from q7_0) (pe ab.out) dc) hk (fun _ h=>h.2)) (fun _ h=>h.1));replace HB:=ak (hb);replace aa:=ak (hi);(try clear hb hk hi))|((with_reducible refine gate_callee (f:=50) rfl ?_);refine gl (some 12) Tryz.func50 #[.pointer (some ⟨ac,0,none⟩),.int .i64 aG] ?_;(with_reducible refine (spec_l01Next.calls ac ad aH aI aG aJ aK aM w _ ?side1 ?side2 A4.out).mono ?_);(case side1=>exact q7_0);(case side2=>exact q7_1);rintro e w14 ⟨rfl,hi,hb,hk⟩;refine ⟨_,rfl,?_⟩;replace ab:=ak (Kd.R_mono (Kd.R_keep (IsS90.apart (show IsS90 w _ ac ad aH aI from q7_0) (pe ab.out) dc) hk (fun _ h=>h.2)) (fun _ h=>h.1));replace HB:=ak (hb);replace aa:=ak (hi);(try clear hb hk hi))|((with_reducible refine gate_callee (f:=62) rfl ?_);refine gl (some 13) Tryz.func62 #[.pointer (some ⟨ac,0,none⟩),.int .i64 aJ] ?_;(with_reducible refine (spec_l01DrawOrder.calls k ac ad aK aM aJ aj av aw w _ ?side1 ?side2 A5.out).mono ?_);(case side1=>exact q7_0);(case side2=>exact q7_1);rintro e w15 ⟨bu,rfl,ho0,hi,hb,hk⟩;refine ⟨_,rfl,?_⟩;have ag:=ak (Kd.R_lower (nw ho0 ab) (below_size q7_1));replace ab:=ak (Kd.R_mono (Kd.R_told (Kd.R_oldK (IsS90.apart (show IsS90 w _ ac ad aK aM from q7_0) (pe ab.out) dc) hk) (Kd.R_base ho0)) (fun _ h_=>h_.1));replace HB:=ak (hb);replace aa:=ak (hi);(try clear hb hk hi ho0))|((with_reducible refine gate_callee (f:=50) rfl ?_);refine gl (some 15) Tryz.func50 #[.pointer (some ⟨ac,0,none⟩),.int .i64 10] ?_;(with_reducible refine (spec_l01Next.calls ac ad av aw 10 aQ aW aX w _ ?side1 ?side2 A6.out).mono ?_);(case side1=>exact q7_0);(case side2=>exact q7_1);rintro e w16 ⟨rfl,hi,hb,hk⟩;refine ⟨_,rfl,?_⟩;replace ab:=ak (Kd.R_mono (Kd.R_keep (IsS90.apart (show IsS90 w _ ac ad av aw from q7_0) (pe ab.out) dc) hk (fun _ h=>h.2)) (fun _ h=>h.1));replace ag:=ak (Kd.R_mono (Kd.R_keep (IsS90.apart (show IsS90 w _ ac ad av aw from q7_0) (pe ag.out) dc) hk (fun _ h=>h.2)) (fun _ h=>h.1));replace HB:=ak (hb);replace aa:=ak (hi);(try clear hb hk hi))|((with_reducible refine gate_builtin (b:=.append) (xs:=#[.tmp 18,.tmp 19]) rfl ?_);at_builtin;refine Kd.R_append (Kd.int .i64) (w0:=w) w.heap.size rfl (.tmp 18) (.tmp 19) 24 2 (.int .i64 0) 8 rfl Tryz.underlying24 info2 rfl dc (by omega) bu aj 0 [.int .i64 0] (fun k_=>some k_≠(.slice bW aC.length bX:Value).ownBlock) (fun _=>False) rfl rfl ?aP (fun _ hk=>hk.elim) ?aF ?aO ?aB ?aS ?aL ?_;(case aP=>exact rfl);(case aB=>exact q7_1);(case aF=>exact (fun k_ hk=>Kd.fresh' (Kd.R_lt (pe ab.out)) k_ hk));(case aO=>exact (pe (Kd.R_mono ag.out (fun _ hk=>hk.2))));(case aS=>exact (below_size q7_1));(case aL=>have:=cf.out;omega);intro cR w17 ho hb hg hat;rw [← ch.out] at ho;replace aa:=ak (IsS90.grown q7_0 hg (IsS90.own_ne aa.out ag.out dc));replace ab:=ak (Kd.R_after (ok:=(fun _=>True)) (pe ab.out) hg hat);replace HB:=ak (hb);have cj:=ak (ho);clear ag;clear ho hb hg hat))
  go_ret
  exact ⟨_,ew,pe (Kd.R_mono cj.out (fun _ hk=>trivial)),q7_1⟩
 rw [if_neg c7] at H;have bL:(aQ == 0)=false:=beq_eq_false_iff_ne.mpr c7;have bM:(aQ != 0)=true:=bne_iff_ne.mpr c7;obtain c18|c18:=nem (aQ=1)
 ·rw [if_neg c18] at H;have ck:(aQ == 1)=false:=beq_eq_false_iff_ne.mpr c18;have cl:(aQ != 1)=true:=bne_iff_ne.mpr c18;obtain rfl:=Option.some.inj H
  go_enter Tryz.func13,Tryz.ntmps13
  go_wp2_with (first|((with_reducible refine gate_callee (f:=49) rfl ?_);refine gl (some 6) Tryz.func49 #[.slice A0 l0.length c0] ?_;(with_reducible refine (spec_l01From.calls k _ _ l0 ad az aA w _ ?side1 HR0.out HC0.out A2.out).mono ?_);(case side1=>exact hq);rintro e w47 ⟨ac,rfl,hi,hb,hb2⟩;refine ⟨_,rfl,?_⟩;replace HB:=ak (hb);have aa:=ak (hi);(try clear hb hb2 hi))|((with_reducible refine gate_dst (N:=10) rfl ?_);refine Kd.R_lit (Kd.int .i64) _ 2 ?hg (N:=10) ?hd (xs:=([5,10,24]:List Int)) (inner:=[.int .i64 5,.int .i64 10,.int .i64 24]) (ok:=fun _=>True) (okp:=fun _=>True) ?hr ?hp (fun _ hk=>hk) trivial (Below.refl _ _) (Nat.le_refl _) (by simp) ?_;(case hd=>rfl);(case hg=>rfl);(case hr=>exact gs);(case hp=>exact (Reps.one (show Kd.M (Kd.int .i64) _ _ _ 5 [.int .i64 5] from rfl) (Reps.one (show Kd.M (Kd.int .i64) _ _ _ 10 [.int .i64 10] from rfl) (Reps.one (show Kd.M (Kd.int .i64) _ _ _ 24 [.int .i64 24] from rfl) (Reps.none _ _)))));intro bF w48 ho49 hb hg_ hnew_;clear hg_ hnew_;(first|rw [← aZ.out] at ho49|(simp only [Int.reduceToNat] at ho49;rw [← aZ.out] at ho49));have ab:=ak (Kd.R_lower ho49 (below_size q7_1));replace HB:=ak (below_step q7_1 hb);replace aa:=ak (IsS90.below q7_0 hb);clear hb ho49;obtain ⟨cm,cn,co⟩:=Kd.R_slice ab.out;subst co)|((with_reducible refine gate_callee (f:=51) rfl ?_);refine gl (some 11) Tryz.func51 #[.pointer (some ⟨ac,0,none⟩),.slice cm aC.length cn] ?_;(with_reducible refine (spec_l01Pick.calls ac ad az aA _ _ aC aG aH aI w _ ?side1 ?side2 (pc ((Kd.R_reads' ab.out).2.2)) (Kd.R_reads' ab.out).2.1 ?side5 A3.out).mono ?_);(case side1=>exact q7_0);(case side2=>exact q7_1);(case side5=>exact far_slice (IsS90.own_ne aa.out ab.out dc));rintro e w51 ⟨rfl,hi,hb,hk⟩;refine ⟨_,rfl,?_⟩;replace ab:=ak (Kd.R_mono (Kd.R_keep (IsS90.apart (show IsS90 w _ ac ad az aA from q7_0) (pe ab.out) dc) hk (fun _ h=>h.2)) (fun _ h=>h.1));replace HB:=ak (hb);replace aa:=ak (hi);(try clear hb hk hi))|((with_reducible refine gate_callee (f:=50) rfl ?_);refine gl (some 12) Tryz.func50 #[.pointer (some ⟨ac,0,none⟩),.int .i64 aG] ?_;(with_reducible refine (spec_l01Next.calls ac ad aH aI aG aJ aK aM w _ ?side1 ?side2 A4.out).mono ?_);(case side1=>exact q7_0);(case side2=>exact q7_1);rintro e w52 ⟨rfl,hi,hb,hk⟩;refine ⟨_,rfl,?_⟩;replace ab:=ak (Kd.R_mono (Kd.R_keep (IsS90.apart (show IsS90 w _ ac ad aH aI from q7_0) (pe ab.out) dc) hk (fun _ h=>h.2)) (fun _ h=>h.1));replace HB:=ak (hb);replace aa:=ak (hi);(try clear hb hk hi))|((with_reducible refine gate_callee (f:=62) rfl ?_);refine gl (some 13) Tryz.func62 #[.pointer (some ⟨ac,0,none⟩),.int .i64 aJ] ?_;(with_reducible refine (spec_l01DrawOrder.calls k ac ad aK aM aJ aj av aw w _ ?side1 ?side2 A5.out).mono ?_);(case side1=>exact q7_0);(case side2=>exact q7_1);rintro e w53 ⟨bu,rfl,ho0,hi,hb,hk⟩;refine ⟨_,rfl,?_⟩;have ag:=ak (Kd.R_lower (nw ho0 ab) (below_size q7_1));replace ab:=ak (Kd.R_mono (Kd.R_told (Kd.R_oldK (IsS90.apart (show IsS90 w _ ac ad aK aM from q7_0) (pe ab.out) dc) hk) (Kd.R_base ho0)) (fun _ h_=>h_.1));replace HB:=ak (hb);replace aa:=ak (hi);(try clear hb hk hi ho0))|((with_reducible refine gate_callee (f:=50) rfl ?_);refine gl (some 15) Tryz.func50 #[.pointer (some ⟨ac,0,none⟩),.int .i64 10] ?_;(with_reducible refine (spec_l01Next.calls ac ad av aw 10 aQ aW aX w _ ?side1 ?side2 A6.out).mono ?_);(case side1=>exact q7_0);(case side2=>exact q7_1);rintro e w54 ⟨rfl,hi,hb,hk⟩;refine ⟨_,rfl,?_⟩;replace ab:=ak (Kd.R_mono (Kd.R_keep (IsS90.apart (show IsS90 w _ ac ad av aw from q7_0) (pe ab.out) dc) hk (fun _ h=>h.2)) (fun _ h=>h.1));replace ag:=ak (Kd.R_mono (Kd.R_keep (IsS90.apart (show IsS90 w _ ac ad av aw from q7_0) (pe ag.out) dc) hk (fun _ h=>h.2)) (fun _ h=>h.1));replace HB:=ak (hb);replace aa:=ak (hi);(try clear hb hk hi)))
  go_ret
  exact ⟨_,ew,pe (Kd.R_mono ag.out (fun _ hk=>trivial)),q7_1⟩
 rw [if_pos c18] at H;have ck:=be c18;have cl:=bn c18;clear c18;obtain c19|c19:=nem ((aj.length:Int)>0)
 ·rw [if_neg c19] at H;have cp:decide (0<(aj.length:Int))=false:=decide_eq_false c19;have cq:decide (0<aj.length)=false:=decide_eq_false (by omega);clear c19;obtain rfl:=Option.some.inj H
  go_enter Tryz.func13,Tryz.ntmps13
  go_wp2_with (first|((with_reducible refine gate_callee (f:=49) rfl ?_);refine gl (some 6) Tryz.func49 #[.slice A0 l0.length c0] ?_;(with_reducible refine (spec_l01From.calls k _ _ l0 ad az aA w _ ?side1 HR0.out HC0.out A2.out).mono ?_);(case side1=>exact hq);rintro e w38 ⟨ac,rfl,hi,hb,hb2⟩;refine ⟨_,rfl,?_⟩;replace HB:=ak (hb);have aa:=ak (hi);(try clear hb hb2 hi))|((with_reducible refine gate_dst (N:=10) rfl ?_);refine Kd.R_lit (Kd.int .i64) _ 2 ?hg (N:=10) ?hd (xs:=([5,10,24]:List Int)) (inner:=[.int .i64 5,.int .i64 10,.int .i64 24]) (ok:=fun _=>True) (okp:=fun _=>True) ?hr ?hp (fun _ hk=>hk) trivial (Below.refl _ _) (Nat.le_refl _) (by simp) ?_;(case hd=>rfl);(case hg=>rfl);(case hr=>exact gs);(case hp=>exact (Reps.one (show Kd.M (Kd.int .i64) _ _ _ 5 [.int .i64 5] from rfl) (Reps.one (show Kd.M (Kd.int .i64) _ _ _ 10 [.int .i64 10] from rfl) (Reps.one (show Kd.M (Kd.int .i64) _ _ _ 24 [.int .i64 24] from rfl) (Reps.none _ _)))));intro bF w39 ho40 hb hg_ hnew_;clear hg_ hnew_;(first|rw [← aZ.out] at ho40|(simp only [Int.reduceToNat] at ho40;rw [← aZ.out] at ho40));have ab:=ak (Kd.R_lower ho40 (below_size q7_1));replace HB:=ak (below_step q7_1 hb);replace aa:=ak (IsS90.below q7_0 hb);clear hb ho40;obtain ⟨cr,ct,cu⟩:=Kd.R_slice ab.out;subst cu)|((with_reducible refine gate_callee (f:=51) rfl ?_);refine gl (some 11) Tryz.func51 #[.pointer (some ⟨ac,0,none⟩),.slice cr aC.length ct] ?_;(with_reducible refine (spec_l01Pick.calls ac ad az aA _ _ aC aG aH aI w _ ?side1 ?side2 (pc ((Kd.R_reads' ab.out).2.2)) (Kd.R_reads' ab.out).2.1 ?side5 A3.out).mono ?_);(case side1=>exact q7_0);(case side2=>exact q7_1);(case side5=>exact far_slice (IsS90.own_ne aa.out ab.out dc));rintro e w42 ⟨rfl,hi,hb,hk⟩;refine ⟨_,rfl,?_⟩;replace ab:=ak (Kd.R_mono (Kd.R_keep (IsS90.apart (show IsS90 w _ ac ad az aA from q7_0) (pe ab.out) dc) hk (fun _ h=>h.2)) (fun _ h=>h.1));replace HB:=ak (hb);replace aa:=ak (hi);(try clear hb hk hi))|((with_reducible refine gate_callee (f:=50) rfl ?_);refine gl (some 12) Tryz.func50 #[.pointer (some ⟨ac,0,none⟩),.int .i64 aG] ?_;(with_reducible refine (spec_l01Next.calls ac ad aH aI aG aJ aK aM w _ ?side1 ?side2 A4.out).mono ?_);(case side1=>exact q7_0);(case side2=>exact q7_1);rintro e w43 ⟨rfl,hi,hb,hk⟩;refine ⟨_,rfl,?_⟩;replace ab:=ak (Kd.R_mono (Kd.R_keep (IsS90.apart (show IsS90 w _ ac ad aH aI from q7_0) (pe ab.out) dc) hk (fun _ h=>h.2)) (fun _ h=>h.1));replace HB:=ak (hb);replace aa:=ak (hi);(try clear hb hk hi))|((with_reducible refine gate_callee (f:=62) rfl ?_);refine gl (some 13) Tryz.func62 #[.pointer (some ⟨ac,0,none⟩),.int .i64 aJ] ?_;(with_reducible refine (spec_l01DrawOrder.calls k ac ad aK aM aJ aj av aw w _ ?side1 ?side2 A5.out).mono ?_);(case side1=>exact q7_0);(case side2=>exact q7_1);rintro e w44 ⟨bu,rfl,ho0,hi,hb,hk⟩;refine ⟨_,rfl,?_⟩;have ag:=ak (Kd.R_lower (nw ho0 ab) (below_size q7_1));replace ab:=ak (Kd.R_mono (Kd.R_told (Kd.R_oldK (IsS90.apart (show IsS90 w _ ac ad aK aM from q7_0) (pe ab.out) dc) hk) (Kd.R_base ho0)) (fun _ h_=>h_.1));replace HB:=ak (hb);replace aa:=ak (hi);(try clear hb hk hi ho0))|((with_reducible refine gate_callee (f:=50) rfl ?_);refine gl (some 15) Tryz.func50 #[.pointer (some ⟨ac,0,none⟩),.int .i64 10] ?_;(with_reducible refine (spec_l01Next.calls ac ad av aw 10 aQ aW aX w _ ?side1 ?side2 A6.out).mono ?_);(case side1=>exact q7_0);(case side2=>exact q7_1);rintro e w45 ⟨rfl,hi,hb,hk⟩;refine ⟨_,rfl,?_⟩;replace ab:=ak (Kd.R_mono (Kd.R_keep (IsS90.apart (show IsS90 w _ ac ad av aw from q7_0) (pe ab.out) dc) hk (fun _ h=>h.2)) (fun _ h=>h.1));replace ag:=ak (Kd.R_mono (Kd.R_keep (IsS90.apart (show IsS90 w _ ac ad av aw from q7_0) (pe ag.out) dc) hk (fun _ h=>h.2)) (fun _ h=>h.1));replace HB:=ak (hb);replace aa:=ak (hi);(try clear hb);(try clear hb2);(try clear hk);(try clear hi);obtain ⟨cS,cT,cv⟩:=Kd.R_slice ag.out;subst cv))
  go_ret
  exact ⟨_,ew,pe (Kd.R_mono ag.out (fun _ hk=>trivial)),q7_1⟩
 rw [if_pos c19] at H;have cp:decide (0<(aj.length:Int))=true:=decide_eq_true c19;have cq:decide (0<aj.length)=true:=decide_eq_true (by omega);clear c19;obtain ⟨bg,hY⟩:∃ y_:List Int,y_=([(-4611686018427387904),4611686018427387904,30]:List Int):=⟨_,rfl⟩;replace H:((spec_l01Pick.f ad aW aX bg).bind fun bk=>(if 0<(aj.length:Int) then (some (aj.set (0:Int).toNat bk.1)) else (none)))=some r:=hh;have bY:=ak hY;clear hY;replace H:=bs H;obtain ⟨⟨bv,cw,cx⟩,A20,H⟩:=H;(try dsimp only at H);replace H:=ifs H;obtain ⟨c21,H⟩:=H;have cU:=dt c21;have cV:decide (0<aj.length)=true:=decide_eq_true (by omega);clear c21;obtain ⟨bZ,hY⟩:∃ y_:List Int,y_=(aj.set (0:Int).toNat bv):=⟨_,rfl⟩;replace H:(some bZ)=some r:=hh;have cy:=ak hY;clear hY;obtain rfl:=Option.some.inj H
 go_enter Tryz.func13,Tryz.ntmps13
 go_wp2_with (first|((with_reducible refine gate_callee (f:=49) rfl ?_);refine gl (some 6) Tryz.func49 #[.slice A0 l0.length c0] ?_;(with_reducible refine (spec_l01From.calls k _ _ l0 ad az aA w _ ?side1 HR0.out HC0.out A2.out).mono ?_);(case side1=>exact hq);rintro e w23 ⟨ac,rfl,hi,hb,hb2⟩;refine ⟨_,rfl,?_⟩;replace HB:=ak (hb);have aa:=ak (hi);(try clear hb hb2 hi))|((with_reducible refine gate_dst (N:=10) rfl ?_);refine Kd.R_lit (Kd.int .i64) _ 2 ?hg (N:=10) ?hd (xs:=([5,10,24]:List Int)) (inner:=[.int .i64 5,.int .i64 10,.int .i64 24]) (ok:=fun _=>True) (okp:=fun _=>True) ?hr ?hp (fun _ hk=>hk) trivial (Below.refl _ _) (Nat.le_refl _) (by simp) ?_;(case hd=>rfl);(case hg=>rfl);(case hr=>exact gs);(case hp=>exact (Reps.one (show Kd.M (Kd.int .i64) _ _ _ 5 [.int .i64 5] from rfl) (Reps.one (show Kd.M (Kd.int .i64) _ _ _ 10 [.int .i64 10] from rfl) (Reps.one (show Kd.M (Kd.int .i64) _ _ _ 24 [.int .i64 24] from rfl) (Reps.none _ _)))));intro bF w24 ho25 hb hg_ hnew_;clear hg_ hnew_;(first|rw [← aZ.out] at ho25|(simp only [Int.reduceToNat] at ho25;rw [← aZ.out] at ho25));have ab:=ak (Kd.R_lower ho25 (below_size q7_1));replace HB:=ak (below_step q7_1 hb);replace aa:=ak (IsS90.below q7_0 hb);clear hb ho25;obtain ⟨bw,bx,cz⟩:=Kd.R_slice ab.out;subst cz)|((with_reducible refine gate_callee (f:=51) rfl ?_);refine gl (some 11) Tryz.func51 #[.pointer (some ⟨ac,0,none⟩),.slice bw aC.length bx] ?_;(with_reducible refine (spec_l01Pick.calls ac ad az aA _ _ aC aG aH aI w _ ?side1 ?side2 (pc ((Kd.R_reads' ab.out).2.2)) (Kd.R_reads' ab.out).2.1 ?side5 A3.out).mono ?_);(case side1=>exact q7_0);(case side2=>exact q7_1);(case side5=>exact far_slice (IsS90.own_ne aa.out ab.out dc));rintro e w27 ⟨rfl,hi,hb,hk⟩;refine ⟨_,rfl,?_⟩;replace ab:=ak (Kd.R_mono (Kd.R_keep (IsS90.apart (show IsS90 w _ ac ad az aA from q7_0) (pe ab.out) dc) hk (fun _ h=>h.2)) (fun _ h=>h.1));replace HB:=ak (hb);replace aa:=ak (hi);(try clear hb hk hi))|((with_reducible refine gate_callee (f:=50) rfl ?_);refine gl (some 12) Tryz.func50 #[.pointer (some ⟨ac,0,none⟩),.int .i64 aG] ?_;(with_reducible refine (spec_l01Next.calls ac ad aH aI aG aJ aK aM w _ ?side1 ?side2 A4.out).mono ?_);(case side1=>exact q7_0);(case side2=>exact q7_1);rintro e w28 ⟨rfl,hi,hb,hk⟩;refine ⟨_,rfl,?_⟩;replace ab:=ak (Kd.R_mono (Kd.R_keep (IsS90.apart (show IsS90 w _ ac ad aH aI from q7_0) (pe ab.out) dc) hk (fun _ h=>h.2)) (fun _ h=>h.1));replace HB:=ak (hb);replace aa:=ak (hi);(try clear hb hk hi))|((with_reducible refine gate_callee (f:=62) rfl ?_);refine gl (some 13) Tryz.func62 #[.pointer (some ⟨ac,0,none⟩),.int .i64 aJ] ?_;(with_reducible refine (spec_l01DrawOrder.calls k ac ad aK aM aJ aj av aw w _ ?side1 ?side2 A5.out).mono ?_);(case side1=>exact q7_0);(case side2=>exact q7_1);rintro e w29 ⟨bu,rfl,ho0,hi,hb,hk⟩;refine ⟨_,rfl,?_⟩;have ag:=ak (Kd.R_lower (nw ho0 ab) (below_size q7_1));replace ab:=ak (Kd.R_mono (Kd.R_told (Kd.R_oldK (IsS90.apart (show IsS90 w _ ac ad aK aM from q7_0) (pe ab.out) dc) hk) (Kd.R_base ho0)) (fun _ h_=>h_.1));replace HB:=ak (hb);replace aa:=ak (hi);(try clear hb hk hi ho0))|((with_reducible refine gate_callee (f:=50) rfl ?_);refine gl (some 15) Tryz.func50 #[.pointer (some ⟨ac,0,none⟩),.int .i64 10] ?_;(with_reducible refine (spec_l01Next.calls ac ad av aw 10 aQ aW aX w _ ?side1 ?side2 A6.out).mono ?_);(case side1=>exact q7_0);(case side2=>exact q7_1);rintro e w30 ⟨rfl,hi,hb,hk⟩;refine ⟨_,rfl,?_⟩;replace ab:=ak (Kd.R_mono (Kd.R_keep (IsS90.apart (show IsS90 w _ ac ad av aw from q7_0) (pe ab.out) dc) hk (fun _ h=>h.2)) (fun _ h=>h.1));replace ag:=ak (Kd.R_mono (Kd.R_keep (IsS90.apart (show IsS90 w _ ac ad av aw from q7_0) (pe ag.out) dc) hk (fun _ h=>h.2)) (fun _ h=>h.1));replace HB:=ak (hb);replace aa:=ak (hi);(try clear hb);(try clear hb2);(try clear hk);(try clear hi);obtain ⟨cW,bl,cA⟩:=Kd.R_slice ag.out;subst cA)|((with_reducible refine gate_dst (N:=28) rfl ?_);refine Kd.R_lit (Kd.int .i64) _ 2 ?hg (N:=28) ?hd (xs:=([(-4611686018427387904),4611686018427387904,30]:List Int)) (inner:=[.int .i64 (-4611686018427387904),.int .i64 4611686018427387904,.int .i64 30]) (ok:=fun _=>True) (okp:=fun _=>True) ?hr ?hp (fun _ hk=>hk) trivial (Below.refl _ _) (Nat.le_refl _) (by simp) ?_;(case hd=>rfl);(case hg=>rfl);(case hr=>exact gs);(case hp=>exact (Reps.one (show Kd.M (Kd.int .i64) _ _ _ (-4611686018427387904) [.int .i64 (-4611686018427387904)] from rfl) (Reps.one (show Kd.M (Kd.int .i64) _ _ _ 4611686018427387904 [.int .i64 4611686018427387904] from rfl) (Reps.one (show Kd.M (Kd.int .i64) _ _ _ 30 [.int .i64 30] from rfl) (Reps.none _ _)))));intro cX w32 ho33 hb hg_ hnew_;clear hg_ hnew_;(first|rw [← bY.out] at ho33|(simp only [Int.reduceToNat] at ho33;rw [← bY.out] at ho33));have a4:=ak (Kd.R_lower (nw (nw ho33 ab) ag) (below_size q7_1));replace ab:=rn ab ho33 hb;replace ag:=rn ag ho33 hb;replace HB:=ak (below_step q7_1 hb);replace aa:=ak (IsS90.below q7_0 hb);clear hb ho33;obtain ⟨bz,bA,cB⟩:=Kd.R_slice a4.out;subst cB)|((with_reducible refine gate_callee (f:=51) rfl ?_);refine gl (some 29) Tryz.func51 #[.pointer (some ⟨ac,0,none⟩),.slice bz bg.length bA] ?_;(with_reducible refine (spec_l01Pick.calls ac ad aW aX _ _ bg bv cw cx w _ ?side1 ?side2 (pc ((Kd.R_reads' a4.out).2.2)) (Kd.R_reads' a4.out).2.1 ?side5 A20.out).mono ?_);(case side1=>exact q7_0);(case side2=>exact q7_1);(case side5=>exact far_slice (IsS90.own_ne aa.out a4.out dc));rintro e w35 ⟨rfl,hi,hb,hk⟩;refine ⟨_,rfl,?_⟩;replace ab:=ak (Kd.R_mono (Kd.R_keep (IsS90.apart (show IsS90 w _ ac ad aW aX from q7_0) (pe ab.out) dc) hk (fun _ h=>h.2)) (fun _ h=>h.1));replace ag:=ak (Kd.R_mono (Kd.R_keep (IsS90.apart (show IsS90 w _ ac ad aW aX from q7_0) (pe ag.out) dc) hk (fun _ h=>h.2)) (fun _ h=>h.1));replace a4:=ak (Kd.R_mono (Kd.R_keep (IsS90.apart (show IsS90 w _ ac ad aW aX from q7_0) (pe a4.out) dc) hk (fun _ h=>h.2)) (fun _ h=>h.1));replace HB:=ak (hb);replace aa:=ak (hi);(try clear hb);(try clear hb2);(try clear hk);(try clear hi);have p22:0≤(0:Int):=(by omega);have q22:(0:Int)<((aj.length:Int):Int):=od q7_7;have qi22:(0<aj.length)=True:=eq_true (by omega);obtain ⟨ba,cY,b0,b1,gl22,cl22,b2⟩:=Kd.R_form ag.out (by omega);(first|cases b0|(injection b0 with ea_ en_ ec_;(first|subst ea_|(injection ea_ with ea_;subst ea_));subst ec_;clear en_));have GB22:=ak b1;have cZ:=ak b2;clear b1 gl22 b2;obtain ⟨b3,b4⟩:=Kd.R_celln 0 ag.out (0:Int) p22 q22;(try rw [show (0:Int).toNat=0 from rfl] at b3);(try simp only [Nat.reduceMul,Nat.zero_mul,Nat.zero_add,Nat.reduceAdd] at b3);(try rw [show (0:Int).toNat=0 from rfl] at b4);(try simp only [Nat.reduceMul,Nat.zero_mul,Nat.zero_add,Nat.reduceAdd] at b4);replace p22:=eq_true p22;replace q22:=eq_true q22;have n_:=ak (Kd.R_mono (ok':=(fun k_=>some k_≠(.slice bw aC.length bx:Value).ownBlock∧some k_≠(.slice bz bg.length bA:Value).ownBlock)) ag.out (fun k_ hk=>⟨hk.1.2,hk.2⟩));clear ag;have ag:=n_;clear n_;obtain ⟨hy36_,hz36_⟩:=Kd.R_celln 0 ag.out (0:Int) (by omega) (od q7_7);(try simp only [Int.reduceToNat,Int.toNat_zero,Int.toNat_ofNat,Nat.reduceMul,Nat.zero_mul,Nat.zero_add] at hy36_ hz36_);(try rw [show (0:Int).toNat=0 from rfl] at hy36_);(try rw [show (0:Int).toNat=0 from rfl] at hz36_);have bG:=Kd.R_putg ag.out (0:Int) bv)|((with_reducible refine gate_store (t:=2) (p:=30) rfl ?_);refine store_event (t:=2) (p:=30) (v:=?vo_w37) (w1:=(w35.setCell ⟨ba,(0:Int).toNat,none⟩ (.int .i64 bv))) ?hg ?ho ?hn ?hr ?_;(case ho=>rfl);(case hg=>rfl);(case hn=>rfl);(case hr=>exact gs);intro w37 hw;have hg:w35.grownBy w37 (some ba):=(by rw [hw];exact bG.2);have hp_:Kd.R (Kd.int .i64) 2 w37 w.heap.size (fun k_=>some k_≠(.slice bw aC.length bx:Value).ownBlock∧some k_≠(.slice bz bg.length bA:Value).ownBlock) (.slice (some ⟨ba,0,none⟩) aj.length bl) bZ:=(by rw [hw,cy.out];exact bG.1);clear bG;replace aa:=ak (IsS90.grown q7_0 hg (IsS90.own_ne aa.out ag.out dc));replace ab:=ak (Kd.R_after (v:=(.slice (some ⟨ba,0,none⟩) aj.length bl)) (v1:=(.slice (some ⟨ba,0,none⟩) aj.length bl)) (ok:=(fun k_=>some k_≠(.slice bz bg.length bA:Value).ownBlock)) (pe (Kd.R_mono ab.out (fun _ hk=>⟨hk.2,hk.1.2⟩))) hg (.inl rfl));replace ag:=ak (hp_);replace a4:=ak (Kd.R_after (v:=(.slice (some ⟨ba,0,none⟩) aj.length bl)) (v1:=(.slice (some ⟨ba,0,none⟩) aj.length bl)) (ok:=(fun k_=>some k_≠(.slice bw aC.length bx:Value).ownBlock)) (pe (Kd.R_mono a4.out (fun _ hk=>⟨hk.1.2,hk.2⟩))) hg (.inl rfl));replace HB:=ak (by rw [hw];exact below_set (HB.out) GB22.out:Below w.heap.size w w37);clear hg hw hp_))
 go_ret
 exact ⟨_,ew,pe (Kd.R_mono ag.out (fun _ hk=>trivial)),q7_1⟩
def slices_Compact.f (l0:List Int):Option (List Int):=if l0.length≤100000000 then some (if l0=[] then [] else Lib.compact l0) else none
theorem slices_Compact.calls (P0_:Nat→Prop) (u9000_:Value) (l0:List Int) (r:List Int) (w0 w:World) (hB:Below w0.heap.size w0 w) (ho0:Kd.R (Kd.int .i64) 2 w w0.heap.size P0_ u9000_ l0) (h:slices_Compact.f l0=some r) :
  Calls Tryz.prog 65 #[u9000_] w fun e w'=>∃ v0_:Value,e=.returned (v0_)∧Kd.R (Kd.int .i64) 2 w' w0.heap.size (fun k_=>(P0_ k_∨w.heap.size≤k_)) v0_ r∧Below w0.heap.size w0 w'∧Kept w w' (fun k_=>P0_ k_):=by
 unfold slices_Compact.f at h
 by_cases hc:l0.length≤100000000
 rotate_left
 ·rw [if_neg hc] at h;cases h
 rw [if_pos hc] at h;obtain rfl:=Option.some.inj h;have ho:=Kd.own_of_R ho0;obtain ⟨_,h2⟩:=ho
 rcases h2 with ⟨rfl,h2⟩|⟨g,cap,cur,rfl,hb,hg,hm2,hcap,hs,ht⟩
 ·obtain rfl:l0=[]:=List.eq_nil_of_length_eq_zero h2
  refine (Go.Proofs.AnyG.slices_Compact_int_empty Go.Proofs.Tryz.lCompact none 0 w).mono ?_
  rintro e w' ⟨he,hw⟩
  subst hw
  exact ⟨_,he,by simpa using Kd.R_mono ho0 (fun k hk=>.inl hk),hB,Kept.refl _ _⟩
 ·have hp:P0_ g:=ho0.1 g (by simp [Value.ownBlock]);have hg':w.heap[g]?=some (.cells cur.toList.toArray 2 (0,0)):=by simpa using hg
  have ht':cur.toList.take l0.length=encs EI l0:=by simpa using ht
  by_cases h0:l0=[]
  ·subst h0
   refine (Go.Proofs.AnyG.slices_Compact_int_empty Go.Proofs.Tryz.lCompact (some ⟨g,0,none⟩) cap w).mono ?_
   rintro e w' ⟨he,hw⟩
   subst hw
   exact ⟨_,he,by simpa using Kd.R_mono ho0 (fun k hk=>.inl hk),hB,Kept.refl _ _⟩
  rw [if_neg h0]
  refine (Go.Proofs.AnyG.slices_Compact_int Go.Proofs.Tryz.lCompact g 0 cap l0 w (holds_blk hg' ht') (by omega) (by omega)).mono ?_
  rintro e w' ⟨he,n,hw⟩
  subst hw
  have hle:(Lib.compact l0).length≤l0.length:=by
   have:=List.length_filter_le (Lib.keeps l0.toArray) (List.range l0.length)
   simpa [Lib.compact,Lib.compactUpTo] using this
  obtain ⟨q1,q2,q3⟩:=put_world (P0:=P0_) (cap:=cap) (L:=cur.toList) (s:=Lib.compact l0) (rest:=List.replicate (l0.length - (Lib.compact l0).length) 0) (by simp;omega) hb hp hg' (by simpa using hs) hcap hB n
  exact ⟨_,he,q1,q2,q3⟩
def slices_Index_int64_int64.l0:Nat→List Int→Int→Int→Int→Option (Int)
 | 0,_,_,_,_=>none
 | k+1,x0,x1,x7,x8=>if x8<x7 then (if 0≤x8 then (if x8<(x0.length:Int) then (if x1=(rd x0 x8) then (some x8) else (slices_Index_int64_int64.l0 k x0 x1 x7 (wrap64 (x8+1)))) else (none)) else (none)) else (some (-1))
def slices_Index_int64_int64.f (k:Nat) (l0:List Int) (a1:Int):Option (Int):=slices_Index_int64_int64.l0 k l0 a1 (l0.length:Int) 0
theorem slices_Index_int64_int64.calls (k:Nat) (A0:Option Addr) (c0:Nat) (l0:List Int) (a1:Int) (r:Int) (w:World) (hr0:Kd.C (Kd.int .i64) w A0 l0.length l0) (hc0:l0.length≤c0) (h:slices_Index_int64_int64.f k l0 a1=some r) :
  Calls Tryz.prog 107 #[.slice A0 l0.length c0,.int .i64 a1] w fun e w'=>e=.returned (.int .i64 r)∧Drawn0 w w':=by
 have HR0:=ak hr0;have HC0:=ak hc0;clear hr0 hc0;have H:(slices_Index_int64_int64.l0 k l0 a1 (l0.length:Int) 0)=some r:=h;clear h;have H':=ak H;clear H
 go_enter Tryz.func107,Tryz.ntmps107
 go_wp2
 go_loopg [8] k (fun kq v8 w'=>∃ (ax:Int),v8=.int .i64 ax∧Aside0 (slices_Index_int64_int64.l0 kq l0 a1 (l0.length:Int) ax=some r)∧Aside0 (kq≤k)∧Drawn0 w w')
 case atStart=>exact ⟨(0),q7_8,H',⟨Nat.le_refl _⟩,q7_9⟩
 case round =>
  clear H';obtain ⟨ax,rfl,HA,HK1,⟨m1,rfl⟩⟩:=hrel
  cases gk with|zero=>exact absurd HA.out (by simp [slices_Index_int64_int64.l0])|succ k1=>?_
  have H:=HA.out;clear HA;simp only [slices_Index_int64_int64.l0] at H;obtain c3|c3:=nem (ax<(l0.length:Int))
  ·rw [if_neg c3] at H;have cC:=df c3;clear c3;obtain rfl:=Option.some.inj H;go_wp2
   go_ret
   exact ⟨q7_8,q7_9⟩
  rw [if_pos c3] at H;have cC:=dt c3;clear c3;replace H:=ifs H;obtain ⟨c4,H⟩:=H;have c2:=dt c4;clear c4;replace H:=ifs H;obtain ⟨c5,H⟩:=H;have bK:=dt c5;clear c5
  by_cases c6:a1=(rd l0 ax)
  ·rw [if_pos c6] at H;have cD:=be c6;have cE:=bn c6;clear c6;obtain rfl:=Option.some.inj H;have bd:0≤(ax:Int):=od q7_7;have bf:ax<(l0.length:Int):=od q7_7;obtain ⟨cF,bH,cG⟩:=Kd.at_int HR0.out ax bd bf;cases bH;replace bd:=eq_true bd;replace bf:=eq_true bf;go_wp2
   go_ret
   exact ⟨q7_8,q7_9⟩
  rw [if_neg c6] at H;have cD:(a1 == (rd l0 ax))=false:=beq_eq_false_iff_ne.mpr c6;have cE:(a1 != (rd l0 ax))=true:=bne_iff_ne.mpr c6;have H':=ak H;clear H;have bd:0≤(ax:Int):=od q7_7;have bf:ax<(l0.length:Int):=od q7_7;obtain ⟨cF,bH,cG⟩:=Kd.at_int HR0.out ax bd bf;cases bH;replace bd:=eq_true bd;replace bf:=eq_true bf;go_wp2
  go_roundg k1
  case measure=>have:=HK1.out;omega
  case rel=>exact ⟨(wrap64 (ax+1)),q7_8,H',⟨by have:=HK1.out;omega⟩,q7_9⟩
end Go.Proofs.YtlppkilencpmeaaGreat.QFnGrowth
