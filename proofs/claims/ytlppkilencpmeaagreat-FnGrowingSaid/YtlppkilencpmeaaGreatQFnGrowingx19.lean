/- Functions as Lean functions, with their contracts: written by a program of this claim over the translation; some contracts are proved by hand. -/
import Derived.Test.YtlppkilencpmeaaGreatQFnGrowingx0
import Derived.Test.YtlppkilencpmeaaGreatQFnGrowingx3
import Derived.Test.YtlppkilencpmeaaGreatQFnGrowingx8
import Derived.Test.YtlppkilencpmeaaGreatQFnGrowingx18
namespace Go.Proofs.YtlppkilencpmeaaGreat.QFnGrowing
open Go.RowKit Go.Proofs.YtlppkilencpmeaaGreat.Gl Go.Proofs.YtlppkilencpmeaaGreat.Sz Go.Proofs.YtlppkilencpmeaaGreatW.PrintWords Go.Proofs.YtlppkilencpmeaaGreatW.PrintLast Go.Proofs.YtlppkilencpmeaaGreatW.PrintMore
attribute [local go_sem] max2_int min2_int max_two min_two max_three min_three max_four min_four   -- for this text's walks alone
set_option linter.unusedVariables false
set_option linter.unusedSimpArgs false
theorem q19_0 {P:Prop} (h:P:=by repeat (first|(with_reducible first|exact ag.out|apply IsS90.alloc|apply IsS90.drewN|apply IsS90.drew|apply IsS90.set_1|apply IsS90.set_2|refine IsS90.far ?_ (Aside0.out (by with_reducible assumption)) _)|exact ag.out)):P:=h
theorem q19_1 {P:Prop} (h:P:=by repeat (first|(with_reducible first|exact HB.out|apply below_alloc|apply pw_below_drewN|apply below_drew1|refine below_set ?_ (IsS90.ge ag.out)|refine below_set ?_ (Aside0.out (by with_reducible assumption)))|exact HB.out)):P:=h
set_option maxHeartbeats 8000000
set_option maxRecDepth 100000
def spec_DrawExchangeAt.f (k:Nat) (l0:List Int):Option (List Int × List Int × Int):=(spec_l09Given.f k l0).bind fun bt717=>((spec_l01From.f k l0).bind fun bt724=>((spec_l01Near.f bt724.1 bt724.2.1 bt724.2.2 (mx (wrap64 ((bt717.2.length:Int) - 2)) 0)).bind fun bt728=>(some (bt717.1,bt717.2,bt728.1))))
def spec_DrawExchangeAt.T2:Bool × List (List Nat × List Nat):=(true,[([],[]),([],[]),([],[]),([2],[2]),([],[]),([4],[4]),([5],[5]),([6],[6]),([3,7,3],[3,7]),([0,8,0],[0]),([1,9,0,1,9],[1]),([8,10,0,1,2,3,4,5,6,7,8,9,10],[8])])
def spec_DrawExchangeAt.B2:List Nat:=[0,0,0,4,0,16,48,112,252,509,1023,2047]
theorem spec_DrawExchangeAt.tab2:rtab .any (opsOf Tryz.f33 2)=spec_DrawExchangeAt.T2:=by kernel_rfl
theorem spec_DrawExchangeAt.bits2:waitsOk spec_DrawExchangeAt.T2.2 spec_DrawExchangeAt.B2=true:=by kernel_rfl
theorem spec_DrawExchangeAt.calls (k:Nat) (A0:Option Addr) (c0:Nat) (l0:List Int) (r1:List Int) (r2:List Int) (r3:Int) (w:World) (hr0:Kd.C (Kd.int .u8) w A0 l0.length l0) (hc0:l0.length≤c0) (h:spec_DrawExchangeAt.f k l0=some (r1,r2,r3)) :
  Calls Tryz.prog 33 #[.slice A0 l0.length c0] w fun e w'=>∃ v0_ v1_:Value,e=.returned (.tuple #[.agg #[v0_],v1_,.int .i64 r3])∧Kd.R (Kd.int .i64) 2 w' w.heap.size (fun k_=>some k_≠(v1_:Value).ownBlock) v0_ r1∧Kd.R (Kd.int .i64) 2 w' w.heap.size (fun k_=>some k_≠(v0_:Value).ownBlock) v1_ r2∧Below w.heap.size w w':=by
 have hu27:=Tryz.underlying27;have HR0:=ak hr0;have HC0:=ak hc0;clear hr0 hc0;have HB:=ak (Below.refl w.heap.size w);have H:((spec_l09Given.f k l0).bind fun aq=>((spec_l01From.f k l0).bind fun ar=>((spec_l01Near.f ar.1 ar.2.1 ar.2.2 (mx (wrap64 ((aq.2.length:Int) - 2)) 0)).bind fun ay=>(some (aq.1,aq.2,ay.1)))))=some (r1,r2,r3):=h;clear h;replace H:=bs H;obtain ⟨⟨ac,aj⟩,A2,H⟩:=H;(try dsimp only at H);replace H:=bs H;obtain ⟨⟨al,an,ao⟩,A3,H⟩:=H;(try dsimp only at H);obtain ⟨ji4,ah⟩:∃ j_:Int,(mx (wrap64 ((aj.length:Int) - 2)) 0)=j_:=⟨_,rfl⟩;(first|rw [ah] at H|simp only [ah] at H);(try rw [ah] at A2);(try rw [ah] at A3);(try (have hji4l:0≤ji4:=by (rw [← ah];unfold mx;(repeat' split) <;> omega)));(try (have hji4m:0≤ji4:=by omega));have hji4_:(if (wrap64 ((aj.length:Int) - 2))<0 then 0 else (wrap64 ((aj.length:Int) - 2)))=ji4:=ah;replace H:=bs H;obtain ⟨⟨az,aA,aB⟩,A5,H⟩:=H;(try dsimp only at H);simp only [Option.some.injEq,Prod.mk.injEq] at H;obtain ⟨rfl,rfl,rfl⟩:=H
 go_enter Tryz.func33,Tryz.ntmps33
 try go_wp2_with (first|((with_reducible refine gate_dst (N:=2) rfl ?_);refine bev (N:=2) (cs:=#[.slice none 0 0]) (t:=27) ?_;intro ai hg w6 hbox hb;have aa:=ak (hbox);have aE:=gbe hg;have aF:=gbe hg;replace HB:=hbs hb;clear hb hbox hg)|((with_reducible refine gate_callee (f:=76) rfl ?_);refine gl (some 9) Tryz.func76 #[.slice A0 l0.length c0] ?_;(with_reducible refine (spec_l09Given.calls k _ _ l0 ac aj _ (pc (Kd.C_below HR0.out HB.out)) HC0.out A2.out).mono ?_);rintro e w7 ⟨aG,aw,rfl,ho0,ho1,hb⟩;refine ⟨_,rfl,?_⟩;have ad:=lw ho0;have ae:=lw ho1;replace aa:=bb aa hb;replace HB:=hbs hb;(try clear hb ho0 ho1))|((with_reducible refine gate_dst (N:=5) rfl ?_);refine bev (N:=5) (cs:=#[.slice none 0 0]) (t:=27) ?_;intro af hg w8 hbox hb;replace ad:=rb ad hb;replace ae:=rb ae hb;have ab:=ak (hbox);have aH:=gbe hg;have aI:=gbe hg;replace HB:=hbs hb;have au:=nlb hg aa;have av:=ngb hg aa;replace aa:=bb aa hb;clear hb hbox hg;obtain ⟨Ao9,co9,eo9⟩:=Kd.R_slice ad.out;subst eo9;have aJ:=av.out;have aK:=au.out;have aL:=bc ab.out;have aM:=blk_frozen ab.out 0))
 have n0_:Aside0 (Kd.R (Kd.int .i64) 2 (w8.setCell ⟨af,0,none⟩ (.slice Ao9 ac.length co9)) w.heap.size (fun k_=>some k_≠(aw:Value).ownBlock) (.slice Ao9 ac.length co9) ac):=⟨pe (Kd.R_mono (Kd.R_far (p:=⟨af,0,none⟩) (Kd.R_types ad.out ab.out dc) (fun _ hk=>hk.2) (.slice Ao9 ac.length co9)) (fun _ hk=>hk.1))⟩;have n1_:Aside0 (Kd.R (Kd.int .i64) 2 (w8.setCell ⟨af,0,none⟩ (.slice Ao9 ac.length co9)) w.heap.size (fun k_=>some k_≠(.slice Ao9 ac.length co9:Value).ownBlock) aw aj):=⟨pe (Kd.R_mono (Kd.R_far (p:=⟨af,0,none⟩) (Kd.R_types ae.out ab.out dc) (fun _ hk=>hk.2) (.slice Ao9 ac.length co9)) (fun _ hk=>hk.1))⟩;have n2_:Aside0 ((w8.setCell ⟨af,0,none⟩ (.slice Ao9 ac.length co9)).heap[ai]?=some (.cells #[.slice none 0 0] 27 (0,0))):=⟨by (with_reducible repeat (first|refine blk_drewN ?_ _|refine blk_drew ?_|refine blk_alloc ?_ _));refine blk_far ?_ au.out _;exact pb aa.out⟩;have n3_:Aside0 ((w8.setCell ⟨af,0,none⟩ (.slice Ao9 ac.length co9)).heap[af]?=some (.cells #[.slice Ao9 ac.length co9] 27 (0,0))):=⟨by (with_reducible repeat (first|refine blk_drewN ?_ _|refine blk_drew ?_|refine blk_alloc ?_ _));refine blk_put (cs:=#[.slice none 0 0]) ?_ 0 _ rfl;exact pb ab.out⟩;have n4_:Aside0 (Below w.heap.size w (w8.setCell ⟨af,0,none⟩ (.slice Ao9 ac.length co9))):=⟨hq⟩;(try clear ad);(try clear ae);(try clear aa);(try clear ab);(try clear HB);generalize (w8.setCell ⟨af,0,none⟩ (.slice Ao9 ac.length co9))=w12 at n0_ n1_ n2_ n3_ n4_ ⊢;have ad:=n0_;have ae:=n1_;have aa:=n2_;have ab:=n3_;have HB:=n4_;clear n0_ n1_ n2_ n3_ n4_;have n0_:=ak (Kd.R_drew ad.out);have n1_:=ak (Kd.R_drew ae.out);have n2_:=ak (blk_drew aa.out);have n3_:=ak (blk_drew ab.out);have n4_:=ak (below_drew1 HB.out);clear ad ae aa ab HB;have ad:=n0_;have ae:=n1_;have aa:=n2_;have ab:=n3_;have HB:=n4_;clear n0_ n1_ n2_ n3_ n4_;obtain ⟨aN,aO,ax⟩:=Kd.R_slice ae.out;(first|subst ax|(injection ax with f1_ f2_ f3_;have f4_:=f1_.symm;have f5_:=f3_.symm;clear f1_ f2_ f3_;subst f4_;subst f5_))
 refine start_ (n:=12) (S:=fun w'=>w'.cell? ⟨af,0,none⟩=some (.slice Ao9 ac.length co9)) (ds:=[]) #[false,false,false,false,false,false,false,false,false,false,false,false] kr rfl rfl ((blk_cell ab.out 0).trans rfl) (fun hHeld=>?_);refine with_tabW spec_DrawExchangeAt.tab2 spec_DrawExchangeAt.bits2 (fun HT_ HW_=>?_)
 generalize w12.drew=w13 at ad ae aa ab HB hHeld ⊢
 refine pur (i:=1) (N:=some 13) (v:=?_) (a':=?_) #[false,true,false,false,false,false,false,false,false,false,false,false] rfl (Or.inl ⟨by rfl,?_⟩) ?_ ?_
 rotate_left
 ·intro w'
  go_simp
  with_reducible rfl
 rotate_left
 ·simp only [Act.put,sIB,sc0,scs,i64_w,i32_w]
  rfl
 refine pur (i:=2) (N:=some 14) (v:=?_) (a':=?_) #[false,true,true,false,false,false,false,false,false,false,false,false] rfl (Or.inl ⟨by rfl,?_⟩) ?_ ?_
 rotate_left
 ·intro w'
  go_simp
  with_reducible rfl
 rotate_left
 ·simp only [Act.put,sIB,sc0,scs,i64_w,i32_w]
  rfl
 refine pur (i:=4) (N:=some 16) (v:=?_) (a':=?_) #[false,true,true,false,true,false,false,false,false,false,false,false] rfl (Or.inl ⟨by rfl,?_⟩) ?_ ?_
 rotate_left
 ·intro w'
  go_simp
  with_reducible rfl
 rotate_left
 ·simp only [Act.put,sIB,sc0,scs,i64_w,i32_w]
  rfl
 refine pur (i:=5) (N:=some 17) (v:=?_) (a':=?_) #[false,true,true,false,true,true,false,false,false,false,false,false] rfl (Or.inl ⟨by rfl,?_⟩) ?_ ?_
 rotate_left
 ·intro w'
  go_simp
  with_reducible rfl
 rotate_left
 ·simp only [Act.put,sIB,sc0,scs,i64_w,i32_w]
  rfl
 refine pur (i:=6) (N:=some 18) (v:=?_) (a':=?_) #[false,true,true,false,true,true,true,false,false,false,false,false] rfl (Or.inl ⟨by rfl,?_⟩) ?_ ?_
 rotate_left
 ·intro w'
  go_simp
  with_reducible rfl
 rotate_left
 ·simp only [Act.put,sIB,sc0,scs,i64_w,i32_w]
  rfl
 refine pur (i:=7) (N:=some 19) (v:=?_) (a':=?_) #[false,true,true,false,true,true,true,true,false,false,false,false] rfl (Or.inl ⟨by rfl,?_⟩) ?_ ?_
 rotate_left
 ·intro w'
  go_simp
  with_reducible rfl
 rotate_left
 ·simp only [Act.put,sIB,sc0,scs,i64_w,i32_w]
  rfl
 refine take_ (i:=0) (N:=some 12) (v:=?_) (a':=?_) #[true,true,true,false,true,true,true,true,false,false,false,false] rfl rfl (take_ofW HT_.out HW_.out kr) (fun _ _ _ h=>h) (Or.inl ⟨by rfl,?_⟩) hHeld ?_ ?_
 rotate_left
 ·intro w' s0
  go_simp
  with_reducible rfl
 rotate_left
 ·simp only [Act.put,sIB,sc0,scs,i64_w,i32_w]
  rfl
 refine one_ (i:=3) (N:=some 15) (tf 8 4) rfl rfl (one_of HT_.out kr) dc (fun K hK=>?_)
 refine goes_ Tryz.func49 kr rfl #[.slice A0 l0.length c0] (by rfl) rfl rfl am ?_
 with_reducible refine (spec_l01From.calls k _ _ l0 al an ao w _ ?side1 ?side2 ?side3 A3.out).mono ?_
 (case side1=>exact hq)
 (case side2=>exact HR0.out)
 (case side3=>exact HC0.out)
 rintro e w15 ⟨ap,rfl,hi,hb,hb2⟩
 refine ⟨_,rfl,?_⟩
 have n0_:=ak (Kd.R_below (pe ad.out) hb2);have n1_:=ak (Kd.R_below (pe ae.out) hb2);have n2_:=ak (blk_below (pb aa.out) hb2);have n3_:=ak (blk_below (pb ab.out) hb2);have n4_:=ak (hb);have n5_:=ak (hi);have n6_:=ak (IsS90.ne_blk hi (blk_below (pb aa.out) hb2) dc);have n7_:=ak (Ne.symm (IsS90.ne_blk hi (blk_below (pb aa.out) hb2) dc));have n8_:=ak (IsS90.ne_blk hi (blk_below (pb ab.out) hb2) dc);have n9_:=ak (Ne.symm (IsS90.ne_blk hi (blk_below (pb ab.out) hb2) dc));clear ad ae aa ab HB;have ad:=n0_;have ae:=n1_;have aa:=n2_;have ab:=n3_;have HB:=n4_;have ag:=n5_;have aP:=n6_;have aC:=n7_;have aQ:=n8_;have aD:=n9_;clear n0_ n1_ n2_ n3_ n4_ n5_ n6_ n7_ n8_ n9_;(try clear hb);(try clear hb2);(try clear hk);(try clear hi)
 refine hK.out _ _ ((blk_cell ab.out 0).trans rfl) (fun hHeld=>?_)
 clear hK K
 refine norm_ (a':=?_) ?_ ?_
 rotate_left
 ·show Act.put _ (some 15) _=_;simp only [Act.put,sIB,sc0,scs,i64_w,i32_w]
  rfl
 refine one_ (i:=8) (N:=some 20) (tf 9 3) rfl rfl (one_of HT_.out kr) dc (fun K hK=>?_)
 refine goes_ Tryz.func94 kr rfl #[.pointer (some ⟨ap,0,none⟩),.int .i64 ji4] (by rfl) rfl rfl (by (try simp only [List.map_toArray,List.map_cons,List.map_nil]);first|done|(simp only [ah];rfl)|rfl|(simp only [List.length_drop,List.length_take];rfl)) ?_
 with_reducible refine (spec_l01Near.calls ap al an ao ji4 az aA aB w _ ?side1 ?side2 A5.out).mono ?_
 (case side1=>exact q19_0)
 (case side2=>exact q19_1)
 rintro e w16 ⟨rfl,hi,hb,hk⟩
 refine ⟨_,rfl,?_⟩
 have n0_:=ak (KeepBut.blk hk (g':=ai) (o:=.cells #[.slice none 0 0] 27 (0,0)) (pb aa.out) aC.out (by simp));have n1_:=ak (Kd.R_mono (Kd.R_keep (IsS90.apart (show IsS90 w _ ap al an ao from q19_0) (pe ad.out) dc) hk (fun _ h=>h.2)) (fun _ h=>h.1));have n2_:=ak (Kd.R_mono (Kd.R_keep (IsS90.apart (show IsS90 w _ ap al an ao from q19_0) (pe ae.out) dc) hk (fun _ h=>h.2)) (fun _ h=>h.1));have n3_:=ak (KeepBut.blk hk (g':=af) (o:=.cells #[.slice Ao9 ac.length co9] 27 (0,0)) (pb ab.out) aD.out (by simp));have n4_:=ak (hb);have n5_:=ak (hi);clear aa ad ae ab HB ag;have aa:=n0_;have ad:=n1_;have ae:=n2_;have ab:=n3_;have HB:=n4_;have ag:=n5_;clear n0_ n1_ n2_ n3_ n4_ n5_;(try clear hb);(try clear hb2);(try clear hk);(try clear hi)
 refine hK.out _ _ ((blk_cell ab.out 0).trans rfl) (fun hHeld=>?_)
 clear hK K
 refine norm_ (a':=?_) ?_ ?_
 rotate_left
 ·show Act.put _ (some 20) _=_;simp only [Act.put,sIB,sc0,scs,i64_w,i32_w]
  rfl
 refine one_ (i:=9) (N:=none) (tf 10 2) rfl rfl (one_of HT_.out kr) dc (fun K hK=>?_)
 have hs17:w16.cell? ⟨ai,0,none⟩=some (.slice none 0 0):=(blk_cell aa.out 0).trans rfl;have hfs17:=blk_frozen aa.out 0;have hns17_1:=av.out;have hms17_1:=au.out
 refine skip_ (w1:=?_) (by rfl) rfl ?_ ?_
 rotate_left
 ·go_simp
  rfl
 refine hK.out _ _ ((cell_far (p:=⟨ai,_,none⟩) av.out _).trans (hHeld)) (fun hHeld=>?_)
 clear hK K
 refine pur (i:=10) (N:=some 3) (v:=?_) (a':=?_) (tf 11 1) rfl (Or.inl ⟨by rfl,?_⟩) ?_ ?_
 rotate_left
 ·intro w'
  go_simp
  with_reducible rfl
 rotate_left
 ·simp only [Act.put,sIB,sc0,scs,i64_w,i32_w]
  rfl
 refine pur (i:=11) (N:=some 4) (v:=?_) (a':=?_) (tf 12 0) rfl (Or.inl ⟨by rfl,?_⟩) ?_ ?_
 rotate_left
 ·intro w'
  go_simp
  with_reducible rfl
 rotate_left
 ·simp only [Act.put,sIB,sc0,scs,i64_w,i32_w]
  rfl
 refine done_ (done_of HT_.out kr) ?_
 try go_wp2
 refine bodyPost_ret (results_ctt rfl _ _ ai 27 #[.slice Ao9 ac.length co9] (0,0) _ rfl (by (with_reducible repeat (first|refine blk_drewN ?_ _|refine blk_drew ?_|refine blk_alloc ?_ _));refine blk_put (cs:=#[.slice none 0 0]) ?_ 0 _ rfl;exact pb aa.out) Tryz.underlying27 rfl kr) rfl ?_
 exact ⟨_,_,by first|rfl|(simp [errW_none,errW_some] <;> rfl)|(simp only [← ah];first|rfl|(simp [errW_none,errW_some] <;> rfl))|(simp [*,errW_none,errW_some] <;> rfl),pe (Kd.R_mono (Kd.R_far (p:=⟨ai,0,none⟩) (Kd.R_types ad.out aa.out dc) (fun _ hk=>hk.2) (.slice Ao9 ac.length co9)) (fun _ hk=>hk.1)),pe (Kd.R_mono (Kd.R_far (p:=⟨ai,0,none⟩) (Kd.R_types ae.out aa.out dc) (fun _ hk=>hk.2) (.slice Ao9 ac.length co9)) (fun _ hk=>hk.1)),q19_1⟩
end Go.Proofs.YtlppkilencpmeaaGreat.QFnGrowing
