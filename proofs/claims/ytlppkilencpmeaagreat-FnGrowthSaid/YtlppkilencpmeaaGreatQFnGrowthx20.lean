/- Functions as Lean functions, with their contracts: written by a program of this claim over the translation; some contracts are proved by hand. -/
import Derived.Test.YtlppkilencpmeaaGreatQFnGrowthx0
import Derived.Test.YtlppkilencpmeaaGreatQFnGrowthx14
import Derived.Test.YtlppkilencpmeaaGreatQFnGrowthx18
import Derived.Test.YtlppkilencpmeaaGreatQFnGrowthx19
namespace Go.Proofs.YtlppkilencpmeaaGreat.QFnGrowth
open Go.RowKit Go.Proofs.YtlppkilencpmeaaGreat.Gl Go.Proofs.YtlppkilencpmeaaGreat.Sz Go.Proofs.YtlppkilencpmeaaGreatW.PrintWords Go.Proofs.YtlppkilencpmeaaGreatW.PrintLast Go.Proofs.YtlppkilencpmeaaGreatW.PrintMore
attribute [local go_sem] max2_int min2_int max_two min_two max_three min_three max_four min_four   -- for this text's walks alone
set_option linter.unusedVariables false
set_option linter.unusedSimpArgs false
theorem q20_0 {P:Prop} (h:P:=by first|(with_reducible assumption)|assumption):P:=h
set_option maxHeartbeats 8000000
set_option maxRecDepth 100000
def spec_l09Growing.l0:Nat→List Int→List Int→List Bool→Int→Option (Bool)
 | 0,_,_,_,_=>none
 | k+1,x1,x5,x6,x7=>if x7<(x1.length:Int) then (if 0≤x7 then (if 0≤(rd x1 x7) then (if (rd x1 x7)<(x5.length:Int) then (if (rd x5 (rd x1 x7))≥0 then (if 0≤(rd x5 (rd x1 x7)) then (if (rd x5 (rd x1 x7))<(x6.length:Int) then (if (rdOf false x6 (rd x5 (rd x1 x7))=true) then (if (rd x1 x7)<(x6.length:Int) then (spec_l09Growing.l0 k x1 x5 (x6.set ((rd x1 x7):Int).toNat true) (wrap64 (x7+1))) else (none)) else (some false)) else (none)) else (none)) else (if (rd x1 x7)<(x6.length:Int) then (spec_l09Growing.l0 k x1 x5 (x6.set ((rd x1 x7):Int).toNat true) (wrap64 (x7+1))) else (none))) else (none)) else (none)) else (none)) else (some true)
def spec_l09Growing.f (k:Nat) (l0_0:List Int) (l1:List Int):Option (Bool):=(spec_l01Parents.f k l0_0).bind fun t761=>((spec_l01N.f l0_0).bind fun t764=>(if 0≤t764 then (if (t764:Int).toNat≤281474976710656 then (spec_l09Growing.l0 k l1 t761 (List.replicate (t764:Int).toNat false) 0) else (none)) else (none)))
theorem spec_l09Growing.calls (k:Nat) (A0_0:Option Addr) (c0_0:Nat) (l0_0:List Int) (A1:Option Addr) (c1:Nat) (l1:List Int) (r:Bool) (w:World) (hr0_0:Kd.C (Kd.int .i64) w A0_0 l0_0.length l0_0) (hc0_0:l0_0.length≤c0_0) (hr1:Kd.C (Kd.int .i64) w A1 l1.length l1) (hc1:l1.length≤c1) (h:spec_l09Growing.f k l0_0 l1=some r) :
  Calls Tryz.prog 97 #[.agg #[.slice A0_0 l0_0.length c0_0],.slice A1 l1.length c1] w fun e w'=>e=.returned (.bool r)∧Below w.heap.size w w':=by
 have hu27:=Tryz.underlying27;have ah:=ak hr0_0;have ai:=ak hc0_0;clear hr0_0 hc0_0;have HR1:=ak hr1;have HC1:=ak hc1;clear hr1 hc1;have HB:=ak (Below.refl w.heap.size w);have H:((spec_l01Parents.f k l0_0).bind fun ad=>((spec_l01N.f l0_0).bind fun aq=>(if 0≤aq then (if (aq:Int).toNat≤281474976710656 then (spec_l09Growing.l0 k l1 ad (List.replicate (aq:Int).toNat false) 0) else (none)) else (none))))=some r:=h;clear h;replace H:=bs H;obtain ⟨ad,A3,H⟩:=H;(try dsimp only at H);replace H:=bs H;obtain ⟨aq,A4,H⟩:=H;(try dsimp only at H);replace H:=ifs H;obtain ⟨c5,H⟩:=H;have bz:=eq_true c5;have bA:decide (0≤aq)=true:=decide_eq_true c5;clear c5;replace H:=ifs H;obtain ⟨c6,H⟩:=H;have bB:=eq_true c6;have bC:decide ((aq:Int).toNat≤281474976710656)=true:=decide_eq_true c6;clear c6;obtain ⟨aV,hY⟩:∃ y_:List Bool,y_=(List.replicate (aq:Int).toNat false):=⟨_,rfl⟩;replace H:(spec_l09Growing.l0 k l1 ad aV 0)=some r:=hh;have aW:=ak hY;clear hY;have H':=ak H;clear H
 go_enter Tryz.func97,Tryz.ntmps97
 try go_wp2_with (first|((with_reducible refine gate_dst (N:=2) rfl ?_);refine bev (N:=2) (cs:=#[.slice A0_0 l0_0.length c0_0]) (t:=27) ?_;intro aA hg w7 hbox hb;have ac:=ak (hbox);have bD:=gbe hg;have bE:=gbe hg;replace HB:=hbs hb;clear hb hbox hg))
 have n0_:=ak (blk_drew ac.out);have n1_:=ak (below_drew1 HB.out);clear ac HB;have ac:=n0_;have HB:=n1_;clear n0_ n1_
 refine start_ (n:=7) (S:=fun w'=>w'.cell? ⟨aA,0,none⟩=some (.slice A0_0 l0_0.length c0_0)) (ds:=[]) #[false,false,false,false,false,false,false] kr rfl rfl ((blk_cell ac.out 0).trans rfl) (fun hHeld=>?_)
 generalize w7.drew=w8 at ac HB hHeld ⊢
 refine take_ (i:=0) (N:=some 9) (v:=?_) (a':=?_) #[true,false,false,false,false,false,false] rfl rfl kr (fun _ _ _ h=>h) (Or.inl ⟨by rfl,?_⟩) hHeld ?_ ?_
 rotate_left
 ·intro w' s0
  go_simp
  with_reducible rfl
 rotate_left
 ·simp only [Act.put,sIB,sc0,scs,i64_w,i32_w]
  rfl
 refine take_ (i:=2) (N:=some 11) (v:=?_) (a':=?_) #[true,false,true,false,false,false,false] rfl rfl kr (fun _ _ _ h=>h) (Or.inl ⟨by rfl,?_⟩) hHeld ?_ ?_
 rotate_left
 ·intro w' s0
  go_simp
  with_reducible rfl
 rotate_left
 ·simp only [Act.put,sIB,sc0,scs,i64_w,i32_w]
  rfl
 refine one_ (i:=1) (N:=some 10) #[true,true,true,false,false,false,false] rfl rfl kr dc (fun K hK=>?_)
 refine goes_ Tryz.func79 kr rfl #[.agg #[.slice A0_0 l0_0.length c0_0]] (by rfl) rfl rfl am ?_
 with_reducible refine (spec_l01Parents.calls k _ _ l0_0 ad _ ?side1 ?side2 A3.out).mono ?_
 (case side1=>exact pc (Kd.C_below ah.out HB.out))
 (case side2=>exact ai.out)
 rintro e w9 ⟨bd,rfl,ho0,hb⟩
 refine ⟨_,rfl,?_⟩
 have n0_:=lw ho0;have n1_:=bb ac hb;have n2_:=hbs hb;clear ac HB;have ar:=n0_;have ac:=n1_;have HB:=n2_;clear n0_ n1_ n2_;(try clear hb);(try clear hb2);(try clear hk);(try clear hi);(try clear ho0)
 refine hK.out _ _ ((blk_cell ac.out 0).trans rfl) (fun hHeld=>?_)
 clear hK K
 refine norm_ (a':=?_) ?_ ?_
 rotate_left
 ·show Act.put _ (some 10) _=_;simp only [Act.put,sIB,sc0,scs,i64_w,i32_w]
  rfl
 refine one_ (i:=3) (N:=some 12) #[true,true,true,true,false,false,false] rfl rfl kr dc (fun K hK=>?_)
 refine goes_ Tryz.func80 kr rfl #[.agg #[.slice A0_0 l0_0.length c0_0]] (by rfl) rfl rfl am ?_
 with_reducible refine (spec_l01N.calls _ _ l0_0 aq _ ?side1 ?side2 A4.out).mono ?_
 (case side1=>exact pc (Kd.C_below ah.out HB.out))
 (case side2=>exact ai.out)
 rintro e w10 ⟨rfl,hb⟩
 refine ⟨_,rfl,?_⟩
 have n0_:=rb ar hb;have n1_:=bb ac hb;have n2_:=hbs hb;clear ar ac HB;have ar:=n0_;have ac:=n1_;have HB:=n2_;clear n0_ n1_ n2_;(try clear hb);(try clear hb2);(try clear hk);(try clear hi)
 refine hK.out _ _ ((blk_cell ac.out 0).trans rfl) (fun hHeld=>?_)
 clear hK K
 refine norm_ (a':=?_) ?_ ?_
 rotate_left
 ·show Act.put _ (some 12) _=_;simp only [Act.put,sIB,sc0,scs,i64_w,i32_w]
  rfl
 refine pure_ (i:=5) (N:=some 5) (v:=?_) (a':=?_) #[true,true,true,true,false,true,false] rfl rfl kr (fun _ _ _ h=>h) (Or.inl ⟨by rfl,?_⟩) ?_ ?_
 rotate_left
 ·intro w'
  go_simp
  with_reducible rfl
 rotate_left
 ·simp only [Act.put,sIB,sc0,scs,i64_w,i32_w]
  rfl
 refine one_ (i:=4) (N:=some 13) #[true,true,true,true,true,true,false] rfl rfl kr dc (fun K hK=>?_)
 refine Kd.R_make_step Kd.bool _ 4 (by rfl) (N:=13) rfl 109 _ _ rfl aq rfl rfl Tryz.underlying109 (.bool false) 1 info4 rfl dc (by omega) false (ok:=fun _=>True) (okp:=fun _=>True) rfl (fun _ hk=>hk) trivial (od q20_0) (Nat.le_trans (Nat.mul_le_mul_right _ (od q20_0:aq.toNat≤281474976710656)) (by omega)) (Below.refl _ _) (Nat.le_refl _) ?_
 intro bf w11 ho12 hb hg_ hnew_
 clear hg_ hnew_;(first|rw [← aW.out] at ho12|(simp only [Int.reduceToNat] at ho12;rw [← aW.out] at ho12));have n0_:=rb ar hb;have n1_:=lw ho12;have n2_:=bb ac hb;have n3_:=hbs hb;clear ar ac HB;have ar:=n0_;have bg:=n1_;have ac:=n2_;have HB:=n3_;clear n0_ n1_ n2_ n3_ hb ho12
 refine hK.out _ _ ((blk_cell ac.out 0).trans rfl) (fun hHeld=>?_)
 clear hK K
 refine norm_ (a':=?_) ?_ ?_
 rotate_left
 ·show Act.put _ (some 13) _=_;simp only [Act.put,sIB,sc0,scs,i64_w,i32_w]
  rfl
 refine pure_ (i:=6) (N:=some 6) (v:=?_) (a':=?_) #[true,true,true,true,true,true,true] rfl rfl kr (fun _ _ _ h=>h) (Or.inl ⟨by rfl,?_⟩) ?_ ?_
 rotate_left
 ·intro w'
  go_simp
  with_reducible rfl
 rotate_left
 ·simp only [Act.put,sIB,sc0,scs,i64_w,i32_w]
  rfl
 refine done_ kr ?_
 try go_wp2
 go_loopg [7] k (fun kq v7 w'=>∃ (af:List Bool) (aa:Int),v7=.int .i64 aa∧Aside0 (spec_l09Growing.l0 kq l1 ad af aa=some r)∧Aside0 (kq≤k)∧Aside0 (Kd.R (Kd.int .i64) 2 w' w.heap.size (fun _=>True) bd ad)∧Aside0 (Kd.R Kd.bool 4 w' w.heap.size (fun _=>True) bf af)∧Aside0 (w'.heap[aA]?=some (.cells #[(.slice A0_0 l0_0.length c0_0)] 27 (0,0)))∧Aside0 (Below w.heap.size w w'))
 case atStart=>exact ⟨(aV),(0),(by first|rfl|(simp;done)|(simp [*];done)),H',⟨Nat.le_refl _⟩,⟨pe ar.out⟩,⟨pe bg.out⟩,⟨pb ac.out⟩,⟨hq⟩⟩
 case round =>
  clear H';obtain ⟨af,aa,rfl,HA,HK1,ag,ae,ac,HB⟩:=hrel
  cases gk with|zero=>exact absurd HA.out (by simp [spec_l09Growing.l0])|succ k1=>?_
  have H:=HA.out;clear HA;simp only [spec_l09Growing.l0] at H;obtain c13|c13:=nem (aa<(l1.length:Int))
  ·rw [if_neg c13] at H;have bh:=df c13;clear c13;obtain rfl:=Option.some.inj H;go_wp2
   go_ret
   exact ⟨ew,hq⟩
  rw [if_pos c13] at H;have bh:=dt c13;clear c13;replace H:=ifs H;obtain ⟨c14,H⟩:=H;have bF:=dt c14;clear c14;replace H:=ifs H;obtain ⟨c15,H⟩:=H;have bG:=dt c15;clear c15;replace H:=ifs H;obtain ⟨c16,H⟩:=H;have bH:=dt c16;clear c16;obtain c17|c17:=nem ((rd ad (rd l1 aa))≥0)
  ·rw [if_neg c17] at H;have bi:decide (0≤(rd ad (rd l1 aa)))=false:=decide_eq_false c17;clear c17;replace H:=ifs H;obtain ⟨c30,H⟩:=H;have bI:=dt c30;clear c30;obtain ⟨aF,hY⟩:∃ y_:List Bool,y_=(af.set ((rd l1 aa):Int).toNat true):=⟨_,rfl⟩;replace H:(spec_l09Growing.l0 k1 l1 ad aF (wrap64 (aa+1)))=some r:=hh;have bj:=ak hY;clear hY;have H':=ak H;clear H;have aj:0≤(aa:Int):=od q20_0;have al:aa<(l1.length:Int):=od q20_0;obtain ⟨aB,ax,an⟩:=Kd.at_int HR1.out aa aj al;cases ax;replace an:=(HB.out.cell (World.block_lt_of_cell? w _ an)).trans an;replace aj:=eq_true aj;replace al:=eq_true al;obtain ⟨bJ,bK,bk⟩:=Kd.R_slice ag.out;subst bk;have ao:0≤((rd l1 aa):Int):=od q20_0;have ap:(rd l1 aa)<(ad.length:Int):=od q20_0;(try (obtain ⟨Aop_,cop_,eop_⟩:=Kd.R_slice ag.out;subst eop_));obtain ⟨aX,ay,aY⟩:=Kd.at_int (Kd.R_reads' ag.out).2.2 (rd l1 aa) ao ap;cases ay;replace ao:=eq_true ao;replace ap:=eq_true ap;have aG:0≤(aa:Int):=od q20_0;have aH:aa<(l1.length:Int):=od q20_0;obtain ⟨bl,bm,aI⟩:=Kd.at_int HR1.out aa aG aH;obtain rfl:aB=bl:=(by injection bm);replace aI:=(HB.out.cell (World.block_lt_of_cell? w _ aI)).trans aI;replace aG:=eq_true aG;replace aH:=eq_true aH;have p31:0≤((rd l1 aa):Int):=od q20_0;have q31:((rd l1 aa):Int)<((af.length:Int):Int):=od q20_0;obtain ⟨aC,aZ,a2,a3,gl31,cl31,a4⟩:=Kd.R_form ae.out (by omega);(first|cases a2|(injection a2 with ea_ en_ ec_;(first|subst ea_|(injection ea_ with ea_;subst ea_));subst ec_;clear en_));have GB31:=ak a3;have bL:=ak a4;clear a3 gl31 a4;obtain ⟨bM,bN⟩:=Kd.R_celln false ae.out ((rd l1 aa):Int) p31 q31;replace p31:=eq_true p31;replace q31:=eq_true q31;have aJ:=Kd.R_putg ae.out ((rd l1 aa):Int) true
   go_wp2_with (first|((with_reducible refine gate_store (t:=4) (p:=41) rfl ?_);refine store_event (t:=4) (p:=41) (v:=?vo_w34) (w1:=(wr.setCell ⟨aC,((rd l1 aa):Int).toNat,none⟩ (.bool true))) ?hg ?ho ?hn ?hr ?_;(case ho=>rfl);(case hg=>rfl);(case hn=>rfl);(case hr=>exact gs);intro w34 hw;have hg:wr.grownBy w34 (some aC):=(by rw [hw];exact aJ.2);have hp_:Kd.R Kd.bool 4 w34 w.heap.size (fun _=>True) (.slice (some ⟨aC,0,none⟩) af.length aZ) aF:=(by rw [hw,bj.out];exact aJ.1);clear aJ;replace ag:=ak (Kd.R_over' (v:=(.slice (some ⟨aC,0,none⟩) af.length aZ)) (pe ag.out) (Kd.R_typed ae.out) dc hg);replace ac:=ak (blk_grown (g:=aA) (o:=.cells #[.slice A0_0 l0_0.length c0_0] 27 (0,0)) (pb ac.out) hg (Kd.R_ne ae.out ac.out dc));replace ae:=ak (hp_);replace HB:=ak (by rw [hw];exact below_set (HB.out) GB31.out:Below w.heap.size w w34);clear hg hw hp_))
   go_roundg k1
   case measure=>have:=HK1.out;omega
   case rel=>exact ⟨(aF),(wrap64 (aa+1)),(by first|rfl|(simp;done)|(simp [*];done)),H',⟨by have:=HK1.out;omega⟩,⟨pe ag.out⟩,⟨pe ae.out⟩,⟨pb ac.out⟩,⟨hq⟩⟩
  rw [if_pos c17] at H;have bi:decide (0≤(rd ad (rd l1 aa)))=true:=decide_eq_true c17;clear c17;replace H:=ifs H;obtain ⟨c18,H⟩:=H;have bO:=dt c18;clear c18;replace H:=ifs H;obtain ⟨c19,H⟩:=H;have bP:=dt c19;clear c19;obtain ⟨a5,aK⟩:∃ b_:Bool,b_=(rdOf false af (rd ad (rd l1 aa))):=⟨_,rfl⟩;replace H:(if (a5=true) then (if (rd l1 aa)<(af.length:Int) then (spec_l09Growing.l0 k1 l1 ad (af.set ((rd l1 aa):Int).toNat true) (wrap64 (aa+1))) else (none)) else (some false))=some r:=by rw [← aK] at H;exact H
  have a6:=ak aK;clear aK;obtain c21|c21:=nem ((a5=true))
  ·replace c21:=Bool.eq_false_iff.mpr c21;subst c21;have H1:(some false)=some r:=by rw [if_neg (show ¬ (false=true) by decide)] at H;exact H
   clear H;have H:=H1;clear H1;obtain rfl:=Option.some.inj H;have aj:0≤(aa:Int):=od q20_0;have al:aa<(l1.length:Int):=od q20_0;obtain ⟨aB,ax,an⟩:=Kd.at_int HR1.out aa aj al;cases ax;replace an:=(HB.out.cell (World.block_lt_of_cell? w _ an)).trans an;replace aj:=eq_true aj;replace al:=eq_true al;obtain ⟨bQ,bR,bo⟩:=Kd.R_slice ag.out;subst bo;have ao:0≤((rd l1 aa):Int):=od q20_0;have ap:(rd l1 aa)<(ad.length:Int):=od q20_0;(try (obtain ⟨Aop_,cop_,eop_⟩:=Kd.R_slice ag.out;subst eop_));obtain ⟨aX,ay,aY⟩:=Kd.at_int (Kd.R_reads' ag.out).2.2 (rd l1 aa) ao ap;cases ay;replace ao:=eq_true ao;replace ap:=eq_true ap;obtain ⟨bS,bT,bp⟩:=Kd.R_slice ae.out;subst bp;have au:0≤((rd ad (rd l1 aa)):Int):=od q20_0;have av:(rd ad (rd l1 aa))<(af.length:Int):=od q20_0;(try (obtain ⟨Aop_,cop_,eop_⟩:=Kd.R_slice ae.out;subst eop_));obtain ⟨bq,aL,aD⟩:=Kd.at_bool (Kd.R_reads' ae.out).2.2 (rd ad (rd l1 aa)) au av;(try rw [← a6.out] at aD);cases aL;replace au:=eq_true au;replace av:=eq_true av;go_wp2
   go_ret
   exact ⟨ew,hq⟩
  subst c21;replace H:(if (rd l1 aa)<(af.length:Int) then (spec_l09Growing.l0 k1 l1 ad (af.set ((rd l1 aa):Int).toNat true) (wrap64 (aa+1))) else (none))=some r:=by rw [if_pos rfl] at H;exact H
  replace H:=ifs H;obtain ⟨c22,H⟩:=H;have bU:=dt c22;clear c22;obtain ⟨aM,hY⟩:∃ y_:List Bool,y_=(af.set ((rd l1 aa):Int).toNat true):=⟨_,rfl⟩;replace H:(spec_l09Growing.l0 k1 l1 ad aM (wrap64 (aa+1)))=some r:=hh;have br:=ak hY;clear hY;have H':=ak H;clear H;have aj:0≤(aa:Int):=od q20_0;have al:aa<(l1.length:Int):=od q20_0;obtain ⟨aB,ax,an⟩:=Kd.at_int HR1.out aa aj al;cases ax;replace an:=(HB.out.cell (World.block_lt_of_cell? w _ an)).trans an;replace aj:=eq_true aj;replace al:=eq_true al;obtain ⟨bV,bW,bu⟩:=Kd.R_slice ag.out;subst bu;have ao:0≤((rd l1 aa):Int):=od q20_0;have ap:(rd l1 aa)<(ad.length:Int):=od q20_0;(try (obtain ⟨Aop_,cop_,eop_⟩:=Kd.R_slice ag.out;subst eop_));obtain ⟨aX,ay,aY⟩:=Kd.at_int (Kd.R_reads' ag.out).2.2 (rd l1 aa) ao ap;cases ay;replace ao:=eq_true ao;replace ap:=eq_true ap;obtain ⟨bX,a7,bv⟩:=Kd.R_slice ae.out;subst bv;have au:0≤((rd ad (rd l1 aa)):Int):=od q20_0;have av:(rd ad (rd l1 aa))<(af.length:Int):=od q20_0;(try (obtain ⟨Aop_,cop_,eop_⟩:=Kd.R_slice ae.out;subst eop_));obtain ⟨bq,aL,aD⟩:=Kd.at_bool (Kd.R_reads' ae.out).2.2 (rd ad (rd l1 aa)) au av;(try rw [← a6.out] at aD);cases aL;replace au:=eq_true au;replace av:=eq_true av;have aN:0≤(aa:Int):=od q20_0;have aO:aa<(l1.length:Int):=od q20_0;obtain ⟨bw,bx,aP⟩:=Kd.at_int HR1.out aa aN aO;obtain rfl:aB=bw:=(by injection bx);replace aP:=(HB.out.cell (World.block_lt_of_cell? w _ aP)).trans aP;replace aN:=eq_true aN;replace aO:=eq_true aO;have p23:0≤((rd l1 aa):Int):=od q20_0;have q23:((rd l1 aa):Int)<((af.length:Int):Int):=od q20_0;obtain ⟨aE,bY,a8,a9,gl23,cl23,ba⟩:=Kd.R_form ae.out (by omega);(first|cases a8|(injection a8 with ea_ en_ ec_;(first|subst ea_|(injection ea_ with ea_;subst ea_));subst ec_;clear en_));have GB23:=ak a9;have bZ:=ak ba;clear a9 gl23 ba;(first|simp only [add_plain] at aD|skip);obtain ⟨b0,b1⟩:=Kd.R_celln false ae.out ((rd l1 aa):Int) p23 q23;replace p23:=eq_true p23;replace q23:=eq_true q23;have aQ:=Kd.R_putg ae.out ((rd l1 aa):Int) true
  go_wp2_with (first|((with_reducible refine gate_store (t:=4) (p:=41) rfl ?_);refine store_event (t:=4) (p:=41) (v:=?vo_w27) (w1:=(wr.setCell ⟨aE,((rd l1 aa):Int).toNat,none⟩ (.bool true))) ?hg ?ho ?hn ?hr ?_;(case ho=>rfl);(case hg=>rfl);(case hn=>rfl);(case hr=>exact gs);intro w27 hw;have hg:wr.grownBy w27 (some aE):=(by rw [hw];exact aQ.2);have hp_:Kd.R Kd.bool 4 w27 w.heap.size (fun _=>True) (.slice (some ⟨aE,0,none⟩) af.length a7) aM:=(by rw [hw,br.out];exact aQ.1);clear aQ;replace ag:=ak (Kd.R_over' (v:=(.slice (some ⟨aE,0,none⟩) af.length a7)) (pe ag.out) (Kd.R_typed ae.out) dc hg);replace ac:=ak (blk_grown (g:=aA) (o:=.cells #[.slice A0_0 l0_0.length c0_0] 27 (0,0)) (pb ac.out) hg (Kd.R_ne ae.out ac.out dc));replace ae:=ak (hp_);replace HB:=ak (by rw [hw];exact below_set (HB.out) GB23.out:Below w.heap.size w w27);clear hg hw hp_))
  go_roundg k1
  case measure=>have:=HK1.out;omega
  case rel=>exact ⟨(aM),(wrap64 (aa+1)),(by first|rfl|(simp;done)|(simp [*];done)),H',⟨by have:=HK1.out;omega⟩,⟨pe ag.out⟩,⟨pe ae.out⟩,⟨pb ac.out⟩,⟨hq⟩⟩
def spec_l09Code.f (k:Nat) (l0_0:List Int) (l1:List Int):Option (Int):=(spec_l01Is.f k l0_0).bind fun t776=>(if t776=true then ((spec_l09Order.f k l0_0 l1).bind fun t777=>(if t777=true then ((spec_l09Growing.f k l0_0 l1).bind fun t778=>(if t778=true then (some 0) else (some 5))) else (some 2))) else (some 1))
theorem spec_l09Code.calls (k:Nat) (A0_0:Option Addr) (c0_0:Nat) (l0_0:List Int) (A1:Option Addr) (c1:Nat) (l1:List Int) (r:Int) (w:World) (hr0_0:Kd.C (Kd.int .i64) w A0_0 l0_0.length l0_0) (hc0_0:l0_0.length≤c0_0) (hr1:Kd.C (Kd.int .i64) w A1 l1.length l1) (hc1:l1.length≤c1) (h:spec_l09Code.f k l0_0 l1=some r) :
  Calls Tryz.prog 78 #[.agg #[.slice A0_0 l0_0.length c0_0],.slice A1 l1.length c1] w fun e w'=>e=.returned (.int .i64 r)∧Below w.heap.size w w':=by
 have hu27:=Tryz.underlying27;have ah:=ak hr0_0;have ai:=ak hc0_0;clear hr0_0 hc0_0;have HR1:=ak hr1;have HC1:=ak hc1;clear hr1 hc1;have HB:=ak (Below.refl w.heap.size w);have H:((spec_l01Is.f k l0_0).bind fun aR=>(if aR=true then ((spec_l09Order.f k l0_0 l1).bind fun az=>(if az=true then ((spec_l09Growing.f k l0_0 l1).bind fun aw=>(if aw=true then (some 0) else (some 5))) else (some 2))) else (some 1)))=some r:=h;clear h;replace H:=bs H;obtain ⟨aR,A3,H⟩:=H;(try dsimp only at H);obtain c4|c4:=nem (aR=true)
 ·replace c4:=Bool.eq_false_iff.mpr c4;subst c4;have H1:(some 1)=some r:=by rw [if_neg (show ¬ (false=true) by decide)] at H;exact H
  clear H;have H:=H1;clear H1;obtain rfl:=Option.some.inj H
  go_enter Tryz.func78,Tryz.ntmps78
  go_wp2_with (first|((with_reducible refine gate_dst (N:=2) rfl ?_);refine bev (N:=2) (cs:=#[.slice A0_0 l0_0.length c0_0]) (t:=27) ?_;intro aS hg w28 hbox hb;have ab:=ak (hbox);have aT:=gbe hg;have aU:=gbe hg;replace HB:=hbs hb;clear hb hbox hg;have b2:=bc ab.out;have b3:=blk_frozen ab.out 0)|((with_reducible refine gate_callee (f:=95) rfl ?_);refine gl (some 7) Tryz.func95 #[.agg #[.slice A0_0 l0_0.length c0_0]] ?_;(with_reducible refine (spec_l01Is.calls k _ _ l0_0 false _ (pc (Kd.C_below ah.out HB.out)) ai.out A3.out).mono ?_);rintro e w30 ⟨rfl,hb⟩;refine ⟨_,rfl,?_⟩;replace ab:=bb ab hb;replace HB:=hbs hb;(try clear hb)))
  go_ret
  exact ⟨ew,hq⟩
 subst c4;replace H:((spec_l09Order.f k l0_0 l1).bind fun az=>(if az=true then ((spec_l09Growing.f k l0_0 l1).bind fun aw=>(if aw=true then (some 0) else (some 5))) else (some 2)))=some r:=by rw [if_pos rfl] at H;exact H
 replace H:=bs H;obtain ⟨az,A5,H⟩:=H;(try dsimp only at H);obtain c6|c6:=nem (az=true)
 ·replace c6:=Bool.eq_false_iff.mpr c6;subst c6;have H1:(some 2)=some r:=by rw [if_neg (show ¬ (false=true) by decide)] at H;exact H
  clear H;have H:=H1;clear H1;obtain rfl:=Option.some.inj H
  go_enter Tryz.func78,Tryz.ntmps78
  go_wp2_with (first|((with_reducible refine gate_dst (N:=2) rfl ?_);refine bev (N:=2) (cs:=#[.slice A0_0 l0_0.length c0_0]) (t:=27) ?_;intro aS hg w23 hbox hb;have ab:=ak (hbox);have aT:=gbe hg;have aU:=gbe hg;replace HB:=hbs hb;clear hb hbox hg;have b4:=bc ab.out;have b5:=blk_frozen ab.out 0)|((with_reducible refine gate_callee (f:=95) rfl ?_);refine gl (some 7) Tryz.func95 #[.agg #[.slice A0_0 l0_0.length c0_0]] ?_;(with_reducible refine (spec_l01Is.calls k _ _ l0_0 true _ (pc (Kd.C_below ah.out HB.out)) ai.out A3.out).mono ?_);rintro e w25 ⟨rfl,hb⟩;refine ⟨_,rfl,?_⟩;replace ab:=bb ab hb;replace HB:=hbs hb;(try clear hb);(try clear hb2);(try clear hk);(try clear hi);have b6:=bc ab.out;have b7:=blk_frozen ab.out 0)|((with_reducible refine gate_callee (f:=96) rfl ?_);refine gl (some 12) Tryz.func96 #[.agg #[.slice A0_0 l0_0.length c0_0],.slice A1 l1.length c1] ?_;(with_reducible refine (spec_l09Order.calls k _ _ l0_0 _ _ l1 false _ (pc (Kd.C_below ah.out HB.out)) ai.out (pc (Kd.C_below HR1.out HB.out)) HC1.out A5.out).mono ?_);rintro e w27 ⟨rfl,hb⟩;refine ⟨_,rfl,?_⟩;replace ab:=bb ab hb;replace HB:=hbs hb;(try clear hb)))
  go_ret
  exact ⟨ew,hq⟩
 subst c6;replace H:((spec_l09Growing.f k l0_0 l1).bind fun aw=>(if aw=true then (some 0) else (some 5)))=some r:=by rw [if_pos rfl] at H;exact H
 replace H:=bs H;obtain ⟨aw,A7,H⟩:=H;(try dsimp only at H)
 by_cases c8:aw=true
 ·subst c8;replace H:(some 0)=some r:=by rw [if_pos rfl] at H;exact H
  obtain rfl:=Option.some.inj H
  go_enter Tryz.func78,Tryz.ntmps78
  go_wp2_with (first|((with_reducible refine gate_dst (N:=2) rfl ?_);refine bev (N:=2) (cs:=#[.slice A0_0 l0_0.length c0_0]) (t:=27) ?_;intro aS hg w9 hbox hb;have ab:=ak (hbox);have aT:=gbe hg;have aU:=gbe hg;replace HB:=hbs hb;clear hb hbox hg;have b8:=bc ab.out;have b9:=blk_frozen ab.out 0)|((with_reducible refine gate_callee (f:=95) rfl ?_);refine gl (some 7) Tryz.func95 #[.agg #[.slice A0_0 l0_0.length c0_0]] ?_;(with_reducible refine (spec_l01Is.calls k _ _ l0_0 true _ (pc (Kd.C_below ah.out HB.out)) ai.out A3.out).mono ?_);rintro e w11 ⟨rfl,hb⟩;refine ⟨_,rfl,?_⟩;replace ab:=bb ab hb;replace HB:=hbs hb;(try clear hb);(try clear hb2);(try clear hk);(try clear hi);have ca:=bc ab.out;have cb:=blk_frozen ab.out 0)|((with_reducible refine gate_callee (f:=96) rfl ?_);refine gl (some 12) Tryz.func96 #[.agg #[.slice A0_0 l0_0.length c0_0],.slice A1 l1.length c1] ?_;(with_reducible refine (spec_l09Order.calls k _ _ l0_0 _ _ l1 true _ (pc (Kd.C_below ah.out HB.out)) ai.out (pc (Kd.C_below HR1.out HB.out)) HC1.out A5.out).mono ?_);rintro e w13 ⟨rfl,hb⟩;refine ⟨_,rfl,?_⟩;replace ab:=bb ab hb;replace HB:=hbs hb;(try clear hb);(try clear hb2);(try clear hk);(try clear hi);have cc:=bc ab.out;have cd:=blk_frozen ab.out 0)|((with_reducible refine gate_callee (f:=97) rfl ?_);refine gl (some 17) Tryz.func97 #[.agg #[.slice A0_0 l0_0.length c0_0],.slice A1 l1.length c1] ?_;(with_reducible refine (spec_l09Growing.calls k _ _ l0_0 _ _ l1 true _ (pc (Kd.C_below ah.out HB.out)) ai.out (pc (Kd.C_below HR1.out HB.out)) HC1.out A7.out).mono ?_);rintro e w15 ⟨rfl,hb⟩;refine ⟨_,rfl,?_⟩;replace ab:=bb ab hb;replace HB:=hbs hb;(try clear hb)))
  go_ret
  exact ⟨ew,hq⟩
 replace c8:=Bool.eq_false_iff.mpr c8;subst c8;have H1:(some 5)=some r:=by rw [if_neg (show ¬ (false=true) by decide)] at H;exact H
 clear H;have H:=H1;clear H1;obtain rfl:=Option.some.inj H
 go_enter Tryz.func78,Tryz.ntmps78
 go_wp2_with (first|((with_reducible refine gate_dst (N:=2) rfl ?_);refine bev (N:=2) (cs:=#[.slice A0_0 l0_0.length c0_0]) (t:=27) ?_;intro aS hg w16 hbox hb;have ab:=ak (hbox);have aT:=gbe hg;have aU:=gbe hg;replace HB:=hbs hb;clear hb hbox hg;have ce:=bc ab.out;have cf:=blk_frozen ab.out 0)|((with_reducible refine gate_callee (f:=95) rfl ?_);refine gl (some 7) Tryz.func95 #[.agg #[.slice A0_0 l0_0.length c0_0]] ?_;(with_reducible refine (spec_l01Is.calls k _ _ l0_0 true _ (pc (Kd.C_below ah.out HB.out)) ai.out A3.out).mono ?_);rintro e w18 ⟨rfl,hb⟩;refine ⟨_,rfl,?_⟩;replace ab:=bb ab hb;replace HB:=hbs hb;(try clear hb);(try clear hb2);(try clear hk);(try clear hi);have cg:=bc ab.out;have ch:=blk_frozen ab.out 0)|((with_reducible refine gate_callee (f:=96) rfl ?_);refine gl (some 12) Tryz.func96 #[.agg #[.slice A0_0 l0_0.length c0_0],.slice A1 l1.length c1] ?_;(with_reducible refine (spec_l09Order.calls k _ _ l0_0 _ _ l1 true _ (pc (Kd.C_below ah.out HB.out)) ai.out (pc (Kd.C_below HR1.out HB.out)) HC1.out A5.out).mono ?_);rintro e w20 ⟨rfl,hb⟩;refine ⟨_,rfl,?_⟩;replace ab:=bb ab hb;replace HB:=hbs hb;(try clear hb);(try clear hb2);(try clear hk);(try clear hi);have ci:=bc ab.out;have cj:=blk_frozen ab.out 0)|((with_reducible refine gate_callee (f:=97) rfl ?_);refine gl (some 17) Tryz.func97 #[.agg #[.slice A0_0 l0_0.length c0_0],.slice A1 l1.length c1] ?_;(with_reducible refine (spec_l09Growing.calls k _ _ l0_0 _ _ l1 false _ (pc (Kd.C_below ah.out HB.out)) ai.out (pc (Kd.C_below HR1.out HB.out)) HC1.out A7.out).mono ?_);rintro e w22 ⟨rfl,hb⟩;refine ⟨_,rfl,?_⟩;replace ab:=bb ab hb;replace HB:=hbs hb;(try clear hb)))
 go_ret
 exact ⟨ew,hq⟩
end Go.Proofs.YtlppkilencpmeaaGreat.QFnGrowth
