/- Functions as Lean functions, with their contracts: written by a program of this claim over the translation; some contracts are proved by hand. -/
import Derived.Test.YtimfbpmaepmdoaaQFnDrawingsx0
import Derived.Test.YtimfbpmaepmdoaaQFnDrawingsx2
import Derived.Test.YtimfbpmaepmdoaaQFnDrawingsx3
namespace Go.Proofs.Ytimfbpmaepmdoaa.QFnDrawings
open Go.RowKit Go.Proofs.Ytimfbpmaepmdoaa.Gl Go.Proofs.Ytimfbpmaepmdoaa.Sz Go.Proofs.YtimfbpmaepmdoaaW.PrintWords Go.Proofs.YtimfbpmaepmdoaaW.PrintLast Go.Proofs.YtimfbpmaepmdoaaW.PrintMore
attribute [local go_sem] max2_int min2_int max_two min_two max_three min_three max_four min_four   -- for this text's walks alone
set_option linter.unusedVariables false
set_option linter.unusedSimpArgs false
theorem q4_0 {P:Prop} (h:P:=by first|(with_reducible assumption)|assumption):P:=h
theorem q4_1 {P:Prop} (h:P:=by first|rfl|(simp;done)|(simp [*];done)):P:=h
set_option maxHeartbeats 8000000
set_option maxRecDepth 100000
mutual
def spec_l08Columns.l0:Nat→List Int→Int→Int→Option (List Int)
 | 0,_,_,_=>none
 | k+1,x3,x4,x5=>if x5<(x3.length:Int) then (if 0≤x5 then (spec_l08Columns.l0 k x3 (mn x4 (rd x3 x5)) (wrap64 (x5+1))) else (none)) else (spec_l08Columns.l1 k x3 x4 0)
def spec_l08Columns.l1:Nat→List Int→Int→Int→Option (List Int)
 | 0,_,_,_=>none
 | k+1,x3,x4,x6=>if x6<(x3.length:Int) then (if 0≤x6 then (spec_l08Columns.l1 k (x3.set (x6:Int).toNat (wrap64 ((rd x3 x6) - x4))) x4 (wrap64 (x6+1))) else (none)) else (some x3)
end
def spec_l08Columns.f (k:Nat) (l0_0:List Int):Option (List Int):=(spec_l01Depths.f k l0_0).bind fun t168=>((spec_l08Tidy.f k l0_0 t168 0).bind fun t171=>(if 0<(t171.length:Int) then (spec_l08Columns.l0 k t171 (rd t171 0) 0) else (none)))
theorem spec_l08Columns.calls (k:Nat) (A0_0:Option Addr) (c0_0:Nat) (l0_0:List Int) (r:List Int) (w:World) (hr0_0:Kd.C (Kd.int .i64) w A0_0 l0_0.length l0_0) (hc0_0:l0_0.length≤c0_0) (h:spec_l08Columns.f k l0_0=some r) :
  Calls Try.prog 25 #[.agg #[.slice A0_0 l0_0.length c0_0]] w fun e w'=>∃ v0_:Value,e=.returned (v0_)∧Kd.R (Kd.int .i64) 2 w' w.heap.size (fun _=>True) v0_ r∧Below w.heap.size w w':=by
 have hu28:=Try.underlying28;have ao:=ak hr0_0;have ap:=ak hc0_0;clear hr0_0 hc0_0;have HB:=ak (Below.refl w.heap.size w);have H:((spec_l01Depths.f k l0_0).bind fun an=>((spec_l08Tidy.f k l0_0 an 0).bind fun ad=>(if 0<(ad.length:Int) then (spec_l08Columns.l0 k ad (rd ad 0) 0) else (none))))=some r:=h;clear h;replace H:=bs H;obtain ⟨an,A2,H⟩:=H;(try dsimp only at H);replace H:=bs H;obtain ⟨ad,A3,H⟩:=H;(try dsimp only at H);replace H:=ifs H;obtain ⟨c4,H⟩:=H;have a5:=dt c4;have a6:decide (0<ad.length)=true:=decide_eq_true (by omega);clear c4;have H':=ak H;clear H
 go_enter Try.func25,Try.ntmps25
 try go_wp2_with (first|((with_reducible refine gate_dst (N:=1) rfl ?_);refine bev (N:=1) (cs:=#[.slice A0_0 l0_0.length c0_0]) (t:=28) ?_;intro aq hg w5 hbox hb;have aa:=ak (hbox);have a7:=gbe hg;have a8:=gbe hg;replace HB:=hbs hb;clear hb hbox hg))
 have n0_:=ak (blk_drew aa.out);have n1_:=ak (below_drew1 HB.out);clear aa HB;have aa:=n0_;have HB:=n1_;clear n0_ n1_
 refine start_ (n:=5) (S:=fun w'=>w'.cell? ⟨aq,0,none⟩=some (.slice A0_0 l0_0.length c0_0)) (ds:=[]) #[false,false,false,false,false] kr rfl rfl ((blk_cell aa.out 0).trans rfl) (fun hHeld=>?_)
 generalize w5.drew=w6 at aa HB hHeld ⊢
 refine take_ (i:=0) (N:=some 7) (v:=?_) (a':=?_) #[true,false,false,false,false] rfl rfl kr (fun _ _ _ h=>h) (Or.inl ⟨by rfl,?_⟩) hHeld ?_ ?_
 rotate_left
 ·intro w' s0
  go_simp
  with_reducible rfl
 rotate_left
 ·simp only [Act.put,sIB,sc0,scs,i64_w,i32_w]
  rfl
 refine take_ (i:=1) (N:=some 8) (v:=?_) (a':=?_) #[true,true,false,false,false] rfl rfl kr (fun _ _ _ h=>h) (Or.inl ⟨by rfl,?_⟩) hHeld ?_ ?_
 rotate_left
 ·intro w' s0
  go_simp
  with_reducible rfl
 rotate_left
 ·simp only [Act.put,sIB,sc0,scs,i64_w,i32_w]
  rfl
 refine one_ (i:=2) (N:=some 9) #[true,true,true,false,false] rfl rfl kr dc (fun K hK=>?_)
 refine goes_ Try.func26 kr rfl #[.agg #[.slice A0_0 l0_0.length c0_0]] (by rfl) rfl rfl am ?_
 with_reducible refine (spec_l01Depths.calls k _ _ l0_0 an _ ?side1 ?side2 A2.out).mono ?_
 (case side1=>exact pc (Kd.C_below ao.out HB.out))
 (case side2=>exact ap.out)
 rintro e w7 ⟨a9,rfl,ho0,hb⟩
 refine ⟨_,rfl,?_⟩
 have n0_:=lw ho0;have n1_:=bb aa hb;have n2_:=hbs hb;clear aa HB;have ai:=n0_;have aa:=n1_;have HB:=n2_;clear n0_ n1_ n2_;(try clear hb);(try clear hb2);(try clear hk);(try clear hi);(try clear ho0);obtain ⟨Ao8,co8,eo8⟩:=Kd.R_slice ai.out;(first|subst eo8|(injection eo8 with f1_ f2_ f3_;have f4_:=f1_.symm;have f5_:=f3_.symm;clear f1_ f2_ f3_;subst f4_;subst f5_))
 refine hK.out _ _ ((blk_cell aa.out 0).trans rfl) (fun hHeld=>?_)
 clear hK K
 refine norm_ (a':=?_) ?_ ?_
 rotate_left
 ·show Act.put _ (some 9) _=_;simp only [Act.put,sIB,sc0,scs,i64_w,i32_w]
  rfl
 refine one_ (i:=3) (N:=some 10) #[true,true,true,true,false] rfl rfl kr dc (fun K hK=>?_)
 refine goes_ Try.func44 kr rfl #[.agg #[.slice A0_0 l0_0.length c0_0],.slice Ao8 an.length co8,.int .i64 0] (by rfl) rfl rfl am ?_
 with_reducible refine (spec_l08Tidy.calls k _ _ l0_0 _ _ an 0 ad _ ?side1 ?side2 ?side3 ?side4 A3.out).mono ?_
 (case side1=>exact pc (Kd.C_below ao.out HB.out))
 (case side2=>exact ap.out)
 (case side3=>exact pc ((Kd.R_reads' ai.out).2.2))
 (case side4=>exact (Kd.R_reads' ai.out).2.1)
 rintro e w9 ⟨ba,rfl,ho0,hb⟩
 refine ⟨_,rfl,?_⟩
 have n0_:=rn ai ho0 hb;have n1_:=lw (nw ho0 ai);have n2_:=bb aa hb;have n3_:=hbs hb;clear ai aa HB;have ai:=n0_;have aw:=n1_;have aa:=n2_;have HB:=n3_;clear n0_ n1_ n2_ n3_;(try clear hb);(try clear hb2);(try clear hk);(try clear hi);(try clear ho0)
 refine hK.out _ _ ((blk_cell aa.out 0).trans rfl) (fun hHeld=>?_)
 clear hK K
 refine norm_ (a':=?_) ?_ ?_
 rotate_left
 ·show Act.put _ (some 10) _=_;simp only [Act.put,sIB,sc0,scs,i64_w,i32_w]
  rfl
 refine pure_ (i:=4) (N:=some 3) (v:=?_) (a':=?_) #[true,true,true,true,true] rfl rfl kr (fun _ _ _ h=>h) (Or.inl ⟨by rfl,?_⟩) ?_ ?_
 rotate_left
 ·intro w'
  go_simp
  with_reducible rfl
 rotate_left
 ·simp only [Act.put,sIB,sc0,scs,i64_w,i32_w]
  rfl
 refine done_ kr ?_
 obtain ⟨aO,ar,ax⟩:=Kd.R_slice aw.out;subst ax;have ay:0≤(0:Int):=(by omega);have az:0<(ad.length:Int):=od q4_0;obtain ⟨au,aP,aA⟩:=Kd.at_int (Kd.R_reads' aw.out).2.2 0 ay az;cases aP;have qi174:(0<ad.length)=True:=eq_true (by omega);(try rw [show (0:Int).toNat=0 from rfl] at aA);(try rw [Addr.add_zero'] at aA);replace ay:=eq_true ay;replace az:=eq_true az
 try go_wp2
 go_loopg [4,5] k (fun kq v4 v5 w'=>∃ (ae:Int) (ab:Int),v4=.int .i64 ae∧v5=.int .i64 ab∧Aside0 (spec_l08Columns.l0 kq ad ae ab=some r)∧Aside0 (kq≤k)∧Aside0 (Kd.R (Kd.int .i64) 2 w' w.heap.size (fun _=>True) (.slice (some au) ad.length ar) ad)∧Aside0 (w'.heap[aq]?=some (.cells #[(.slice A0_0 l0_0.length c0_0)] 28 (0,0)))∧Aside0 (Below w.heap.size w w'))
 case atStart=>exact ⟨(rd ad 0),(0),q4_1,q4_1,H',⟨Nat.le_refl _⟩,⟨pe (Kd.R_mono aw.out (fun _ hk=>trivial))⟩,⟨pb aa.out⟩,⟨hq⟩⟩
 case round =>
  clear H';obtain ⟨ae,ab,rfl,rfl,HA,HK1,ac,aa,HB⟩:=hrel
  cases gk with|zero=>exact absurd HA.out (by simp [spec_l08Columns.l0])|succ k1=>?_
  have H:=HA.out;clear HA;simp only [spec_l08Columns.l0] at H
  by_cases c11:ab<(ad.length:Int)
  ·rw [if_pos c11] at H;have aQ:=dt c11;clear c11;replace H:=ifs H;obtain ⟨c12,H⟩:=H;have bd:=dt c12;clear c12;obtain ⟨aK,av⟩:∃ j_:Int,(mn ae (rd ad ab))=j_:=⟨_,rfl⟩;(first|rw [av] at H|simp only [av] at H);have hji13_:(if (rd ad ab)<ae then (rd ad ab) else ae)=aK:=av;have H':=ak H;clear H;have aB:0≤(ab:Int):=od q4_0;have aC:ab<(ad.length:Int):=od q4_0;(try (obtain ⟨Aop_,cop_,eop_⟩:=Kd.R_slice ac.out;subst eop_));obtain ⟨aR,aS,aT⟩:=Kd.at_int (Kd.R_reads' ac.out).2.2 ab aB aC;obtain rfl:au=aR:=(by injection aS);replace aB:=eq_true aB;replace aC:=eq_true aC;go_wp2
   go_roundg k1
   case measure=>have:=HK1.out;omega
   case rel=>exact ⟨(aK),(wrap64 (ab+1)),(by first|rfl|(simp;done)|(simp only [← av] <;> (first|rfl|simp))|(simp [*];done)),q4_1,H',⟨by have:=HK1.out;omega⟩,⟨pe ac.out⟩,⟨pb aa.out⟩,⟨hq⟩⟩
  rw [if_neg c11] at H;have aQ:=df c11;clear c11;have H':=ak H;clear H;go_wp2
  go_loopg [6] k1 (fun kq v6 w'=>∃ (ag:List Int) (af:Int),v6=.int .i64 af∧Aside0 (spec_l08Columns.l1 kq ag ae af=some r)∧Aside0 (kq≤k1)∧Aside0 (Kd.R (Kd.int .i64) 2 w' w.heap.size (fun _=>True) (.slice (some au) ad.length ar) ag)∧Aside0 (w'.heap[aq]?=some (.cells #[(.slice A0_0 l0_0.length c0_0)] 28 (0,0)))∧Aside0 (Below w.heap.size w w'))
  case atStart=>exact ⟨(ad),(0),q4_1,H',⟨Nat.le_refl _⟩,⟨pe ac.out⟩,⟨pb aa.out⟩,⟨hq⟩⟩
  case round =>
   clear H';obtain ⟨ag,af,rfl,HA,HK2,ac,aa,HB⟩:=hrel;have al:=(Kd.R_reads' ac.out).1;rw [al] at ac;(try simp only [al]);(try simp only [al] at aa)
   cases gk with|zero=>exact absurd HA.out (by simp [spec_l08Columns.l1])|succ k2=>?_
   have H:=HA.out;clear HA;simp only [spec_l08Columns.l1] at H;obtain c14|c14:=nem (af<(ag.length:Int))
   ·rw [if_neg c14] at H;have aU:=df c14;clear c14;obtain rfl:=Option.some.inj H;go_wp2
    go_ret
    exact ⟨_,ew,pe ac.out,hq⟩
   rw [if_pos c14] at H;have aU:=dt c14;clear c14;replace H:=ifs H;obtain ⟨c15,H⟩:=H;have bf:=dt c15;clear c15;obtain ⟨aD,hY⟩:∃ y_:List Int,y_=(ag.set (af:Int).toNat (wrap64 ((rd ag af) - ae))):=⟨_,rfl⟩;replace H:(spec_l08Columns.l1 k2 aD ae (wrap64 (af+1)))=some r:=hh;have aV:=ak hY;clear hY;have H':=ak H;clear H;have aE:0≤(af:Int):=od q4_0;have aF:af<(ag.length:Int):=od q4_0;(try (obtain ⟨Aop_,cop_,eop_⟩:=Kd.R_slice ac.out;subst eop_));obtain ⟨aW,aX,aY⟩:=Kd.at_int (Kd.R_reads' ac.out).2.2 af aE aF;obtain rfl:au=aW:=(by injection aX);replace aE:=eq_true aE;replace aF:=eq_true aF;have p16:0≤(af:Int):=od q4_0;have q16:(af:Int)<((ag.length:Int):Int):=od q4_0;obtain ⟨aG,bg,aL,aM,gl16,cl16,aN⟩:=Kd.R_form ac.out (by omega);(first|cases aL|(injection aL with ea_ en_ ec_;(first|subst ea_|(injection ea_ with ea_;subst ea_));subst ec_;clear en_));have GB16:=ak aM;have bh:=ak aN;clear aM gl16 aN;(first|simp only [add_plain] at aA|skip);(first|simp only [add_plain] at aT|skip);(first|simp only [add_plain] at aY|skip);obtain ⟨bi,bj⟩:=Kd.R_celln 0 ac.out (af:Int) p16 q16;replace p16:=eq_true p16;replace q16:=eq_true q16;have aH:=Kd.R_putg ac.out (af:Int) (wrap64 ((rd ag af) - ae))
   go_wp2_with (first|((with_reducible refine gate_store (t:=2) (p:=40) rfl ?_);refine store_event (t:=2) (p:=40) (v:=?vo_w18) (w1:=(wr.setCell ⟨aG,(af:Int).toNat,none⟩ (.int .i64 (wrap64 ((rd ag af) - ae))))) ?hg ?ho ?hn ?hr ?_;(case ho=>rfl);(case hg=>rfl);(case hn=>rfl);(case hr=>exact gs);intro w18 hw;have hg:wr.grownBy w18 (some aG):=(by rw [hw];exact aH.2);have hp_:Kd.R (Kd.int .i64) 2 w18 w.heap.size (fun _=>True) (.slice (some ⟨aG,0,none⟩) ag.length ar) aD:=(by rw [hw,aV.out];exact aH.1);clear aH;replace aa:=ak (blk_grown (g:=aq) (o:=.cells #[.slice A0_0 l0_0.length c0_0] 28 (0,0)) (pb aa.out) hg (Kd.R_ne ac.out aa.out dc));replace ac:=ak (hp_);replace HB:=ak (by rw [hw];exact below_set (HB.out) GB16.out:Below w.heap.size w w18);clear hg hw hp_))
   (try simp only [← al])
   go_roundg k2
   case measure=>have:=HK1.out;have:=HK2.out;omega
   case rel=>exact ⟨(aD),(wrap64 (af+1)),q4_1,H',⟨by have:=HK1.out;have:=HK2.out;omega⟩,⟨by (try simp only [al]);exact pe ac.out⟩,⟨by (try simp only [al]);exact pb aa.out⟩,⟨hq⟩⟩
def spec_l01Height.l0:Nat→List Int→Int→Int→Option (Int)
 | 0,_,_,_=>none
 | k+1,x3,x4,x5=>if x5<(x3.length:Int) then (if 0≤x5 then (spec_l01Height.l0 k x3 (mx x4 (rd x3 x5)) (wrap64 (x5+1))) else (none)) else (some x4)
def spec_l01Height.f (k:Nat) (l0_0:List Int):Option (Int):=(spec_l01Depths.f k l0_0).bind fun t179=>(spec_l01Height.l0 k t179 0 0)
theorem spec_l01Height.calls (k:Nat) (A0_0:Option Addr) (c0_0:Nat) (l0_0:List Int) (r:Int) (w:World) (hr0_0:Kd.C (Kd.int .i64) w A0_0 l0_0.length l0_0) (hc0_0:l0_0.length≤c0_0) (h:spec_l01Height.f k l0_0=some r) :
  Calls Try.prog 27 #[.agg #[.slice A0_0 l0_0.length c0_0]] w fun e w'=>e=.returned (.int .i64 r)∧Below w.heap.size w w':=by
 have hu28:=Try.underlying28;have ao:=ak hr0_0;have ap:=ak hc0_0;clear hr0_0 hc0_0;have HB:=ak (Below.refl w.heap.size w);have H:((spec_l01Depths.f k l0_0).bind fun ah=>(spec_l01Height.l0 k ah 0 0))=some r:=h;clear h;replace H:=bs H;obtain ⟨ah,A2,H⟩:=H;(try dsimp only at H);have H':=ak H;clear H
 go_enter Try.func27,Try.ntmps27
 go_wp2_with (first|((with_reducible refine gate_dst (N:=1) rfl ?_);refine bev (N:=1) (cs:=#[.slice A0_0 l0_0.length c0_0]) (t:=28) ?_;intro aZ hg w3 hbox hb;have aj:=ak (hbox);have bk:=gbe hg;have bl:=gbe hg;replace HB:=hbs hb;clear hb hbox hg;have bm:=bc aj.out;have bo:=blk_frozen aj.out 0)|((with_reducible refine gate_callee (f:=26) rfl ?_);refine gl (some 7) Try.func26 #[.agg #[.slice A0_0 l0_0.length c0_0]] ?_;(with_reducible refine (spec_l01Depths.calls k _ _ l0_0 ah _ (pc (Kd.C_below ao.out HB.out)) ap.out A2.out).mono ?_);rintro e w5 ⟨a1,rfl,ho0,hb⟩;refine ⟨_,rfl,?_⟩;have a2:=lw ho0;replace aj:=bb aj hb;replace HB:=hbs hb;(try clear hb ho0)))
 go_loopg [4,5] k (fun kq v4 v5 w'=>∃ (ae:Int) (ab:Int),v4=.int .i64 ae∧v5=.int .i64 ab∧Aside0 (spec_l01Height.l0 kq ah ae ab=some r)∧Aside0 (kq≤k)∧Aside0 (Kd.R (Kd.int .i64) 2 w' w.heap.size (fun _=>True) a1 ah)∧Aside0 (w'.heap[aZ]?=some (.cells #[(.slice A0_0 l0_0.length c0_0)] 28 (0,0)))∧Aside0 (Below w.heap.size w w'))
 case atStart=>exact ⟨(0),(0),q4_1,q4_1,H',⟨Nat.le_refl _⟩,⟨pe a2.out⟩,⟨pb aj.out⟩,⟨hq⟩⟩
 case round =>
  clear H';obtain ⟨ae,ab,rfl,rfl,HA,HK1,ac,aj,HB⟩:=hrel
  cases gk with|zero=>exact absurd HA.out (by simp [spec_l01Height.l0])|succ k1=>?_
  have H:=HA.out;clear HA;simp only [spec_l01Height.l0] at H;obtain c6|c6:=nem (ab<(ah.length:Int))
  ·rw [if_neg c6] at H;have a3:=df c6;clear c6;obtain rfl:=Option.some.inj H;obtain ⟨aO,ar,ax⟩:=Kd.R_slice ac.out;subst ax;go_wp2
   go_ret
   exact ⟨ew,hq⟩
  rw [if_pos c6] at H;have a3:=dt c6;clear c6;replace H:=ifs H;obtain ⟨c7,H⟩:=H;have bp:=dt c7;clear c7;obtain ⟨ji8,hji8⟩:∃ j_:Int,(mx ae (rd ah ab))=j_:=⟨_,rfl⟩;(first|rw [hji8] at H|simp only [hji8] at H);have hji8_:(if ae<(rd ah ab) then (rd ah ab) else ae)=ji8:=hji8;have H':=ak H;clear H;obtain ⟨Ao9,co9,eo9⟩:=Kd.R_slice ac.out;subst eo9;have aI:0≤(ab:Int):=od q4_0;have aJ:ab<(ah.length:Int):=od q4_0;(try (obtain ⟨Aop_,cop_,eop_⟩:=Kd.R_slice ac.out;subst eop_));obtain ⟨bq,a4,br⟩:=Kd.at_int (Kd.R_reads' ac.out).2.2 ab aI aJ;cases a4;replace aI:=eq_true aI;replace aJ:=eq_true aJ;go_wp2
  go_roundg k1
  case measure=>have:=HK1.out;omega
  case rel=>exact ⟨(ji8),(wrap64 (ab+1)),(by first|rfl|(simp;done)|(simp only [← hji8] <;> (first|rfl|simp))|(simp [*];done)),q4_1,H',⟨by have:=HK1.out;omega⟩,⟨pe ac.out⟩,⟨pb aj.out⟩,⟨hq⟩⟩
end Go.Proofs.Ytimfbpmaepmdoaa.QFnDrawings
