/- Functions as Lean functions, with their contracts: written by a program of this claim over the translation; some contracts are proved by hand. -/
import Derived.Test.YtlppkilencpmeaaGreatQFnGrowthx0
import Derived.Test.YtlppkilencpmeaaGreatQFnGrowthx3
import Derived.Test.YtlppkilencpmeaaGreatQFnGrowthx14
namespace Go.Proofs.YtlppkilencpmeaaGreat.QFnGrowth
open Go.RowKit Go.Proofs.YtlppkilencpmeaaGreat.Gl Go.Proofs.YtlppkilencpmeaaGreat.Sz Go.Proofs.YtlppkilencpmeaaGreatW.PrintWords Go.Proofs.YtlppkilencpmeaaGreatW.PrintLast Go.Proofs.YtlppkilencpmeaaGreatW.PrintMore
attribute [local go_sem] max2_int min2_int max_two min_two max_three min_three max_four min_four   -- for this text's walks alone
set_option linter.unusedVariables false
set_option linter.unusedSimpArgs false
theorem q19_0 {P:Prop} (h:P:=by first|(with_reducible assumption)|assumption):P:=h
set_option maxHeartbeats 8000000
set_option maxRecDepth 100000
def spec_l09Order.l0:Nat→List Int→List Bool→Int→List Int→Option (Bool)
 | 0,_,_,_,_=>none
 | k+1,x1,x5,x6,x748000=>if x6<(x1.length:Int) then (if 0≤x6 then ((spec_l01N.f x748000).bind fun t754=>((spec_l01In.f (rd x1 x6) 0 (wrap64 (t754 - 1))).bind fun t755=>(if t755=true then (if 0≤(rd x1 x6) then (if (rd x1 x6)<(x5.length:Int) then (if rdOf false x5 (rd x1 x6)=true then (some false) else (spec_l09Order.l0 k x1 (x5.set ((rd x1 x6):Int).toNat true) (wrap64 (x6+1)) x748000)) else (none)) else (none)) else (some false)))) else (none)) else ((spec_l01N.f x748000).bind fun t752=>(some ((x1.length:Int) == t752)))
def spec_l09Order.f (k:Nat) (l0_0:List Int) (l1:List Int):Option (Bool):=(spec_l01N.f l0_0).bind fun t748=>(if 0≤t748 then (if (t748:Int).toNat≤281474976710656 then (spec_l09Order.l0 k l1 (List.replicate (t748:Int).toNat false) 0 l0_0) else (none)) else (none))
def spec_l09Order.T5:Bool × List (List Nat × List Nat):=(true,[([],[]),([],[]),([0,1],[0,1]),([2],[2]),([],[]),([4],[4]),([5],[5]),([3,6,5],[3,6]),([7],[7]),([8,7],[8]),([9],[9]),([9],[9]),([9],[9]),([11,12,9],[9,11,12]),([13,9],[9,13]),([10,14,9],[9,10,14]),([15,9],[9,15]),([9,16],[9,16])])
def spec_l09Order.B5:List Nat:=[0,0,3,7,0,16,48,127,255,511,1023,1023,1023,7167,15359,32767,65535,131071]
theorem spec_l09Order.tab5:rtab .any (opsOf Tryz.f96 5)=spec_l09Order.T5:=by kernel_rfl
theorem spec_l09Order.bits5:waitsOk spec_l09Order.T5.2 spec_l09Order.B5=true:=by kernel_rfl
theorem spec_l09Order.calls (k:Nat) (A0_0:Option Addr) (c0_0:Nat) (l0_0:List Int) (A1:Option Addr) (c1:Nat) (l1:List Int) (r:Bool) (w:World) (hr0_0:Kd.C (Kd.int .i64) w A0_0 l0_0.length l0_0) (hc0_0:l0_0.length≤c0_0) (hr1:Kd.C (Kd.int .i64) w A1 l1.length l1) (hc1:l1.length≤c1) (h:spec_l09Order.f k l0_0 l1=some r) :
  Calls Tryz.prog 96 #[.agg #[.slice A0_0 l0_0.length c0_0],.slice A1 l1.length c1] w fun e w'=>e=.returned (.bool r)∧Below w.heap.size w w':=by
 have hu27:=Tryz.underlying27;have au:=ak hr0_0;have av:=ak hc0_0;clear hr0_0 hc0_0;have HR1:=ak hr1;have HC1:=ak hc1;clear hr1 hc1;have HB:=ak (Below.refl w.heap.size w);have H:((spec_l01N.f l0_0).bind fun ai=>(if 0≤ai then (if (ai:Int).toNat≤281474976710656 then (spec_l09Order.l0 k l1 (List.replicate (ai:Int).toNat false) 0 l0_0) else (none)) else (none)))=some r:=h;clear h;replace H:=bs H;obtain ⟨ai,A3,H⟩:=H;(try dsimp only at H);replace H:=ifs H;obtain ⟨c4,H⟩:=H;have a3:=eq_true c4;have a4:decide (0≤ai)=true:=decide_eq_true c4;clear c4;replace H:=ifs H;obtain ⟨c5,H⟩:=H;have a5:=eq_true c5;have a6:decide ((ai:Int).toNat≤281474976710656)=true:=decide_eq_true c5;clear c5;obtain ⟨aJ,hY⟩:∃ y_:List Bool,y_=(List.replicate (ai:Int).toNat false):=⟨_,rfl⟩;replace H:(spec_l09Order.l0 k l1 aJ 0 l0_0)=some r:=hh;have aK:=ak hY;clear hY;have H':=ak H;clear H
 go_enter Tryz.func96,Tryz.ntmps96
 go_wp2_with (first|((with_reducible refine gate_dst (N:=2) rfl ?_);refine bev (N:=2) (cs:=#[.slice A0_0 l0_0.length c0_0]) (t:=27) ?_;intro aw hg w6 hbox hb;have ab:=ak (hbox);have a7:=gbe hg;have a8:=gbe hg;replace HB:=hbs hb;clear hb hbox hg;have a9:=bc ab.out;have ba:=blk_frozen ab.out 0)|((with_reducible refine gate_callee (f:=80) rfl ?_);refine gl (some 8) Tryz.func80 #[.agg #[.slice A0_0 l0_0.length c0_0]] ?_;(with_reducible refine (spec_l01N.calls _ _ l0_0 ai _ (pc (Kd.C_below au.out HB.out)) av.out A3.out).mono ?_);rintro e w8 ⟨rfl,hb⟩;refine ⟨_,rfl,?_⟩;replace ab:=bb ab hb;replace HB:=hbs hb;(try clear hb))|((with_reducible refine gate_dst (N:=9) rfl ?_);refine Kd.R_make Kd.bool _ 4 rfl (N:=9) rfl 109 _ _ rfl ai rfl rfl Tryz.underlying109 (.bool false) 1 info4 rfl dc (by omega) false (ok:=fun _=>True) (okp:=fun _=>True) rfl (fun _ hk=>hk) trivial (od q19_0) (Nat.le_trans (Nat.mul_le_mul_right _ (od q19_0:ai.toNat≤281474976710656)) (by omega)) (Below.refl _ _) (Nat.le_refl _) ?_;intro aS w9 ho10 hb hg_ hnew_;clear hg_ hnew_;(first|rw [← aK.out] at ho10|(simp only [Int.reduceToNat] at ho10;rw [← aK.out] at ho10));have aT:=lw ho10;replace ab:=bb ab hb;replace HB:=hbs hb;clear hb ho10))
 go_loopg [6] k (fun kq v6 w'=>∃ (ae:List Bool) (aa:Int),v6=.int .i64 aa∧Aside0 (spec_l09Order.l0 kq l1 ae aa l0_0=some r)∧Aside0 (kq≤k)∧Aside0 (Kd.R Kd.bool 4 w' w.heap.size (fun _=>True) aS ae)∧Aside0 (w'.heap[aw]?=some (.cells #[(.slice A0_0 l0_0.length c0_0)] 27 (0,0)))∧Aside0 (Below w.heap.size w w'))
 case atStart=>exact ⟨(aJ),(0),(by first|rfl|(simp;done)|(simp [*];done)),H',⟨Nat.le_refl _⟩,⟨pe aT.out⟩,⟨pb ab.out⟩,⟨hq⟩⟩
 case round =>
  clear H';obtain ⟨ae,aa,rfl,HA,HK1,ac,ab,HB⟩:=hrel
  cases gk with|zero=>exact absurd HA.out (by simp [spec_l09Order.l0])|succ k1=>?_
  have H:=HA.out;clear HA;simp only [spec_l09Order.l0] at H;obtain c11|c11:=nem (aa<(l1.length:Int))
  ·rw [if_neg c11] at H;have aU:=df c11;clear c11;replace H:=bs H;obtain ⟨aV,A31,H⟩:=H;(try dsimp only at H);obtain rfl:=Option.some.inj H;have bd:=bc ab.out;have bf:=blk_frozen ab.out 0
   go_wp2_with (first|((with_reducible refine gate_callee (f:=80) rfl ?_);refine gl (some 43) Tryz.func80 #[.agg #[.slice A0_0 l0_0.length c0_0]] ?_;(with_reducible refine (spec_l01N.calls _ _ l0_0 aV _ (pc (Kd.C_below au.out HB.out)) av.out A31.out).mono ?_);rintro e w33 ⟨rfl,hb⟩;refine ⟨_,rfl,?_⟩;replace ac:=rb ac hb;replace ab:=bb ab hb;replace HB:=hbs hb;(try clear hb)))
   go_ret
   exact ⟨ew,hq⟩
  rw [if_pos c11] at H;have aU:=dt c11;clear c11;replace H:=ifs H;obtain ⟨c12,H⟩:=H;have bg:=dt c12;clear c12;replace H:=bs H;obtain ⟨al,A13,H⟩:=H;(try dsimp only at H);replace H:=bs H;obtain ⟨aW,A14,H⟩:=H;(try dsimp only at H);obtain c15|c15:=nem (aW=true)
  ·replace c15:=Bool.eq_false_iff.mpr c15;subst c15;have H1:(some false)=some r:=by rw [if_neg (show ¬ (false=true) by decide)] at H;exact H
   clear H;have H:=H1;clear H1;obtain rfl:=Option.some.inj H
   try go_wp2
   have n0_:=ak (Kd.R_drew ac.out);have n1_:=ak (blk_drew ab.out);have n2_:=ak (below_drew1 HB.out);clear ac ab HB;have ac:=n0_;have ab:=n1_;have HB:=n2_;clear n0_ n1_ n2_;have af:0≤(aa:Int):=od q19_0;have ag:aa<(l1.length:Int):=od q19_0;obtain ⟨aj,ax,ad⟩:=Kd.at_int HR1.out aa af ag;have hw753_0:=ad;cases ax;replace ad:=(HB.out.cell (World.block_lt_of_cell? w _ ad)).trans ad;replace af:=eq_true af;replace ag:=eq_true ag
   refine start_ (n:=18) (S:=fun w'=>w'.cell? ⟨aw,0,none⟩=some (.slice A0_0 l0_0.length c0_0)∧w'.cell? (aj.add (aa).toNat)=some (.int .i64 (rd l1 aa))) (ds:=[]) #[false,false,false,false,false,false,false,false,false,false,false,false,false,false,false,false,false,false] kr rfl rfl ⟨(blk_cell ab.out 0).trans rfl,((HB.out.cell (World.block_lt_of_cell? w _ hw753_0)).trans hw753_0)⟩ (fun hHeld=>?_);refine with_tabW spec_l09Order.tab5 spec_l09Order.bits5 (fun HT_ HW_=>?_)
   generalize wr.drew=w29 at ac ab HB ad hHeld ⊢
   refine pur (i:=0) (N:=some 16) (v:=?_) (a':=?_) (tf 1 17) rfl (Or.inl ⟨by rfl,?_⟩) ?_ ?_
   rotate_left
   ·intro w'
    go_simp
    with_reducible rfl
   rotate_left
   ·simp only [Act.put,sIB,sc0,scs,i64_w,i32_w]
    rfl
   refine pur (i:=1) (N:=some 17) (v:=?_) (a':=?_) (tf 2 16) rfl (Or.inl ⟨by rfl,?_⟩) ?_ ?_
   rotate_left
   ·intro w'
    go_simp
    with_reducible rfl
   rotate_left
   ·simp only [Act.put,sIB,sc0,scs,i64_w,i32_w]
    rfl
   refine pur (i:=2) (N:=some 18) (v:=?_) (a':=?_) (tf 3 15) rfl (Or.inl ⟨by rfl,?_⟩) ?_ ?_
   rotate_left
   ·intro w'
    go_simp
    with_reducible rfl
   rotate_left
   ·simp only [Act.put,sIB,sc0,scs,i64_w,i32_w]
    rfl
   refine take_ (i:=3) (N:=some 19) (v:=?_) (a':=?_) (tf 4 14) rfl rfl (take_ofW HT_.out HW_.out kr) (fun _ _ _ h=>h) (Or.inl ⟨by rfl,?_⟩) hHeld ?_ ?_
   rotate_left
   ·rintro w' ⟨s0,s1⟩
    go_simp
    with_reducible rfl
   rotate_left
   ·simp only [Act.put,sIB,sc0,scs,i64_w,i32_w]
    rfl
   refine take_ (i:=4) (N:=some 20) (v:=?_) (a':=?_) (tf 5 13) rfl rfl (take_ofW HT_.out HW_.out kr) (fun _ _ _ h=>h) (Or.inl ⟨by rfl,?_⟩) hHeld ?_ ?_
   rotate_left
   ·rintro w' ⟨s0,s1⟩
    go_simp
    with_reducible rfl
   rotate_left
   ·simp only [Act.put,sIB,sc0,scs,i64_w,i32_w]
    rfl
   refine one_ (i:=5) (N:=some 21) (tf 6 12) rfl rfl (one_of HT_.out kr) dc (fun K hK=>?_)
   refine goes_ Tryz.func80 kr rfl #[.agg #[.slice A0_0 l0_0.length c0_0]] (by rfl) rfl rfl am ?_
   with_reducible refine (spec_l01N.calls _ _ l0_0 al _ ?side1 ?side2 A13.out).mono ?_
   (case side1=>exact pc (Kd.C_below au.out HB.out))
   (case side2=>exact av.out)
   rintro e w30 ⟨rfl,hb⟩
   refine ⟨_,rfl,?_⟩
   have n0_:=rb ac hb;have n1_:=bb ab hb;have n2_:=hbs hb;clear ac ab HB;have ac:=n0_;have ab:=n1_;have HB:=n2_;clear n0_ n1_ n2_;(try clear hb);(try clear hb2);(try clear hk);(try clear hi)
   refine hK.out _ _ ⟨(blk_cell ab.out 0).trans rfl,((HB.out.cell (World.block_lt_of_cell? w _ hw753_0)).trans hw753_0)⟩ (fun hHeld=>?_)
   clear hK K
   refine norm_ (a':=?_) ?_ ?_
   rotate_left
   ·show Act.put _ (some 21) _=_;simp only [Act.put,sIB,sc0,scs,i64_w,i32_w]
    rfl
   refine pur (i:=6) (N:=some 22) (v:=?_) (a':=?_) (tf 7 11) rfl (Or.inl ⟨by rfl,?_⟩) ?_ ?_
   rotate_left
   ·intro w'
    go_simp
    with_reducible rfl
   rotate_left
   ·simp only [Act.put,sIB,sc0,scs,i64_w,i32_w]
    rfl
   refine one_ (i:=7) (N:=some 23) (tf 8 10) rfl rfl (one_of HT_.out kr) dc (fun K hK=>?_)
   refine goes_ Tryz.func53 kr rfl #[.int .i64 (rd l1 aa),.int .i64 0,.int .i64 (wrap64 (al - 1))] (by rfl) rfl rfl am ?_
   with_reducible refine (spec_l01In.calls (rd l1 aa) 0 (wrap64 (al - 1)) false _ A14.out).mono ?_
   rintro e w' ⟨rfl,⟨nd,rfl⟩⟩
   refine ⟨_,rfl,?_⟩
   refine hK.out _ _ ⟨(blk_cell ab.out 0).trans rfl,((HB.out.cell (World.block_lt_of_cell? w _ hw753_0)).trans hw753_0)⟩ (fun hHeld=>?_)
   clear hK K
   refine norm_ (a':=?_) ?_ ?_
   rotate_left
   ·show Act.put _ (some 23) _=_;simp only [Act.put,sIB,sc0,scs,i64_w,i32_w]
    rfl
   refine pur (i:=8) (N:=some 24) (v:=?_) (a':=?_) (tf 9 9) rfl (Or.inl ⟨by rfl,?_⟩) ?_ ?_
   rotate_left
   ·intro w'
    go_simp
    with_reducible rfl
   rotate_left
   ·simp only [Act.put,sIB,sc0,scs,i64_w,i32_w]
    rfl
   refine pur (i:=9) (N:=some 25) (v:=?_) (a':=?_) (tf 10 8) rfl (Or.inl ⟨by rfl,?_⟩) ?_ ?_
   rotate_left
   ·intro w'
    go_simp
    with_reducible rfl
   rotate_left
   ·simp only [Act.put,sIB,sc0,scs,i64_w,i32_w]
    rfl
   refine pure_ (i:=10) (N:=some 26) (v:=undef) (a':=?_) (tf 11 7) rfl rfl (any_of HT_.out kr) (fun _ _ _ h=>h) (Or.inr ⟨by rfl,rfl⟩) ?_ ?_
   rotate_left
   ·simp only [Act.put,sIB,sc0,scs,i64_w,i32_w]
    rfl
   refine pure_ (i:=11) (N:=some 27) (v:=undef) (a':=?_) (tf 12 6) rfl rfl (any_of HT_.out kr) (fun _ _ _ h=>h) (Or.inr ⟨by rfl,rfl⟩) ?_ ?_
   rotate_left
   ·simp only [Act.put,sIB,sc0,scs,i64_w,i32_w]
    rfl
   refine pure_ (i:=12) (N:=some 28) (v:=undef) (a':=?_) (tf 13 5) rfl rfl (any_of HT_.out kr) (fun _ _ _ h=>h) (Or.inr ⟨by rfl,rfl⟩) ?_ ?_
   rotate_left
   ·simp only [Act.put,sIB,sc0,scs,i64_w,i32_w]
    rfl
   refine pure_ (i:=13) (N:=some 29) (v:=undef) (a':=?_) (tf 14 4) rfl rfl (any_of HT_.out kr) (fun _ _ _ h=>h) (Or.inr ⟨by rfl,rfl⟩) ?_ ?_
   rotate_left
   ·simp only [Act.put,sIB,sc0,scs,i64_w,i32_w]
    rfl
   refine pure_ (i:=14) (N:=some 30) (v:=undef) (a':=?_) (tf 15 3) rfl rfl (any_of HT_.out kr) (fun _ _ _ h=>h) (Or.inr ⟨by rfl,rfl⟩) ?_ ?_
   rotate_left
   ·simp only [Act.put,sIB,sc0,scs,i64_w,i32_w]
    rfl
   refine pure_ (i:=15) (N:=some 31) (v:=undef) (a':=?_) (tf 16 2) rfl rfl (any_of HT_.out kr) (fun _ _ _ h=>h) (Or.inr ⟨by rfl,rfl⟩) ?_ ?_
   rotate_left
   ·simp only [Act.put,sIB,sc0,scs,i64_w,i32_w]
    rfl
   refine pure_ (i:=16) (N:=some 32) (v:=undef) (a':=?_) (tf 17 1) rfl rfl (any_of HT_.out kr) (fun _ _ _ h=>h) (Or.inr ⟨by rfl,rfl⟩) ?_ ?_
   rotate_left
   ·simp only [Act.put,sIB,sc0,scs,i64_w,i32_w]
    rfl
   refine pur (i:=17) (N:=some 33) (v:=?_) (a':=?_) (tf 18 0) rfl (Or.inl ⟨by rfl,?_⟩) ?_ ?_
   rotate_left
   ·intro w'
    go_simp
    with_reducible rfl
   rotate_left
   ·simp only [Act.put,sIB,sc0,scs,i64_w,i32_w]
    rfl
   refine done_ (done_of HT_.out kr) ?_
   try go_wp2
   go_ret
   exact ⟨ew,hq⟩
  subst c15;replace H:(if 0≤(rd l1 aa) then (if (rd l1 aa)<(ae.length:Int) then (if rdOf false ae (rd l1 aa)=true then (some false) else (spec_l09Order.l0 k1 l1 (ae.set ((rd l1 aa):Int).toNat true) (wrap64 (aa+1)) l0_0)) else (none)) else (none))=some r:=by rw [if_pos rfl] at H;exact H
  replace H:=ifs H;obtain ⟨c16,H⟩:=H;have bh:=dt c16;clear c16;replace H:=ifs H;obtain ⟨c17,H⟩:=H;have bi:=dt c17;clear c17;obtain ⟨aL,ay⟩:∃ b_:Bool,b_=(rdOf false ae (rd l1 aa)):=⟨_,rfl⟩;replace H:(if aL=true then (some false) else (spec_l09Order.l0 k1 l1 (ae.set ((rd l1 aa):Int).toNat true) (wrap64 (aa+1)) l0_0))=some r:=by rw [← ay] at H;exact H
  have aM:=ak ay;clear ay
  by_cases c19:aL=true
  ·subst c19;replace H:(some false)=some r:=by rw [if_pos rfl] at H;exact H
   obtain rfl:=Option.some.inj H
   try go_wp2
   have n0_:=ak (Kd.R_drew ac.out);have n1_:=ak (blk_drew ab.out);have n2_:=ak (below_drew1 HB.out);clear ac ab HB;have ac:=n0_;have ab:=n1_;have HB:=n2_;clear n0_ n1_ n2_;have af:0≤(aa:Int):=od q19_0;have ag:aa<(l1.length:Int):=od q19_0;obtain ⟨aj,ax,ad⟩:=Kd.at_int HR1.out aa af ag;have hw753_0:=ad;cases ax;replace ad:=(HB.out.cell (World.block_lt_of_cell? w _ ad)).trans ad;replace af:=eq_true af;replace ag:=eq_true ag;have ao:0≤(aa:Int):=od q19_0;have ap:aa<(l1.length:Int):=od q19_0;obtain ⟨az,aA,ah⟩:=Kd.at_int HR1.out aa ao ap;have hw756_0:=ah;obtain rfl:aj=az:=(by injection aA);replace ah:=(HB.out.cell (World.block_lt_of_cell? w _ ah)).trans ah;replace ao:=eq_true ao;replace ap:=eq_true ap;have aq:0≤((rd l1 aa):Int):=od q19_0;have ar:(rd l1 aa)<(ae.length:Int):=od q19_0;(try (obtain ⟨Aop_,cop_,eop_⟩:=Kd.R_slice ac.out;subst eop_));obtain ⟨aB,aC,an⟩:=Kd.at_bool (Kd.R_reads' ac.out).2.2 (rd l1 aa) aq ar;(try rw [← aM.out] at an);cases aC;replace aq:=eq_true aq;replace ar:=eq_true ar
   refine start_ (n:=18) (S:=fun w'=>w'.cell? ⟨aw,0,none⟩=some (.slice A0_0 l0_0.length c0_0)∧w'.cell? (aj.add (aa).toNat)=some (.int .i64 (rd l1 aa))∧w'.cell? (aj.add (aa).toNat)=some (.int .i64 (rd l1 aa))∧w'.cell? (aB.add (rd l1 aa).toNat)=some (.bool true)) (ds:=[]) #[false,false,false,false,false,false,false,false,false,false,false,false,false,false,false,false,false,false] kr rfl rfl ⟨(blk_cell ab.out 0).trans rfl,((HB.out.cell (World.block_lt_of_cell? w _ hw753_0)).trans hw753_0),((HB.out.cell (World.block_lt_of_cell? w _ hw756_0)).trans hw756_0),an⟩ (fun hHeld=>?_);refine with_tabW spec_l09Order.tab5 spec_l09Order.bits5 (fun HT_ HW_=>?_)
   generalize wr.drew=w20 at ac ab HB ad ah an hHeld ⊢
   refine pur (i:=0) (N:=some 16) (v:=?_) (a':=?_) (tf 1 17) rfl (Or.inl ⟨by rfl,?_⟩) ?_ ?_
   rotate_left
   ·intro w'
    go_simp
    with_reducible rfl
   rotate_left
   ·simp only [Act.put,sIB,sc0,scs,i64_w,i32_w]
    rfl
   refine pur (i:=1) (N:=some 17) (v:=?_) (a':=?_) (tf 2 16) rfl (Or.inl ⟨by rfl,?_⟩) ?_ ?_
   rotate_left
   ·intro w'
    go_simp
    with_reducible rfl
   rotate_left
   ·simp only [Act.put,sIB,sc0,scs,i64_w,i32_w]
    rfl
   refine pur (i:=2) (N:=some 18) (v:=?_) (a':=?_) (tf 3 15) rfl (Or.inl ⟨by rfl,?_⟩) ?_ ?_
   rotate_left
   ·intro w'
    go_simp
    with_reducible rfl
   rotate_left
   ·simp only [Act.put,sIB,sc0,scs,i64_w,i32_w]
    rfl
   refine take_ (i:=3) (N:=some 19) (v:=?_) (a':=?_) (tf 4 14) rfl rfl (take_ofW HT_.out HW_.out kr) (fun _ _ _ h=>h) (Or.inl ⟨by rfl,?_⟩) hHeld ?_ ?_
   rotate_left
   ·rintro w' ⟨s0,s1,s2,s3⟩
    go_simp
    with_reducible rfl
   rotate_left
   ·simp only [Act.put,sIB,sc0,scs,i64_w,i32_w]
    rfl
   refine take_ (i:=4) (N:=some 20) (v:=?_) (a':=?_) (tf 5 13) rfl rfl (take_ofW HT_.out HW_.out kr) (fun _ _ _ h=>h) (Or.inl ⟨by rfl,?_⟩) hHeld ?_ ?_
   rotate_left
   ·rintro w' ⟨s0,s1,s2,s3⟩
    go_simp
    with_reducible rfl
   rotate_left
   ·simp only [Act.put,sIB,sc0,scs,i64_w,i32_w]
    rfl
   refine one_ (i:=5) (N:=some 21) (tf 6 12) rfl rfl (one_of HT_.out kr) dc (fun K hK=>?_)
   refine goes_ Tryz.func80 kr rfl #[.agg #[.slice A0_0 l0_0.length c0_0]] (by rfl) rfl rfl am ?_
   with_reducible refine (spec_l01N.calls _ _ l0_0 al _ ?side1 ?side2 A13.out).mono ?_
   (case side1=>exact pc (Kd.C_below au.out HB.out))
   (case side2=>exact av.out)
   rintro e w21 ⟨rfl,hb⟩
   have HS3_:=(hb.cell (World.block_lt_of_cell? _ _ (hHeld.2.2.2))).trans (hHeld.2.2.2)
   refine ⟨_,rfl,?_⟩
   have n0_:=rb ac hb;have n1_:=bb ab hb;have n2_:=hbs hb;clear ac ab HB;have ac:=n0_;have ab:=n1_;have HB:=n2_;clear n0_ n1_ n2_;(try clear hb);(try clear hb2);(try clear hk);(try clear hi)
   refine hK.out _ _ ⟨(blk_cell ab.out 0).trans rfl,((HB.out.cell (World.block_lt_of_cell? w _ hw753_0)).trans hw753_0),((HB.out.cell (World.block_lt_of_cell? w _ hw756_0)).trans hw756_0),HS3_⟩ (fun hHeld=>?_)
   clear hK K
   refine norm_ (a':=?_) ?_ ?_
   rotate_left
   ·show Act.put _ (some 21) _=_;simp only [Act.put,sIB,sc0,scs,i64_w,i32_w]
    rfl
   refine pur (i:=6) (N:=some 22) (v:=?_) (a':=?_) (tf 7 11) rfl (Or.inl ⟨by rfl,?_⟩) ?_ ?_
   rotate_left
   ·intro w'
    go_simp
    with_reducible rfl
   rotate_left
   ·simp only [Act.put,sIB,sc0,scs,i64_w,i32_w]
    rfl
   refine one_ (i:=7) (N:=some 23) (tf 8 10) rfl rfl (one_of HT_.out kr) dc (fun K hK=>?_)
   refine goes_ Tryz.func53 kr rfl #[.int .i64 (rd l1 aa),.int .i64 0,.int .i64 (wrap64 (al - 1))] (by rfl) rfl rfl am ?_
   with_reducible refine (spec_l01In.calls (rd l1 aa) 0 (wrap64 (al - 1)) true _ A14.out).mono ?_
   rintro e w' ⟨rfl,⟨nd,rfl⟩⟩
   refine ⟨_,rfl,?_⟩
   obtain ⟨bj,bk,aN⟩:=Kd.R_slice ac.out;(first|subst aN|(injection aN with f1_ f2_ f3_;have f4_:=f1_.symm;have f5_:=f3_.symm;clear f1_ f2_ f3_;subst f4_;subst f5_))
   refine hK.out _ _ ⟨(blk_cell ab.out 0).trans rfl,((HB.out.cell (World.block_lt_of_cell? w _ hw753_0)).trans hw753_0),((HB.out.cell (World.block_lt_of_cell? w _ hw756_0)).trans hw756_0),hHeld.2.2.2⟩ (fun hHeld=>?_)
   clear hK K
   refine norm_ (a':=?_) ?_ ?_
   rotate_left
   ·show Act.put _ (some 23) _=_;simp only [Act.put,sIB,sc0,scs,i64_w,i32_w]
    rfl
   refine pur (i:=8) (N:=some 24) (v:=?_) (a':=?_) (tf 9 9) rfl (Or.inl ⟨by rfl,?_⟩) ?_ ?_
   rotate_left
   ·intro w'
    go_simp
    with_reducible rfl
   rotate_left
   ·simp only [Act.put,sIB,sc0,scs,i64_w,i32_w]
    rfl
   refine pur (i:=9) (N:=some 25) (v:=?_) (a':=?_) (tf 10 8) rfl (Or.inl ⟨by rfl,?_⟩) ?_ ?_
   rotate_left
   ·intro w'
    go_simp
    with_reducible rfl
   rotate_left
   ·simp only [Act.put,sIB,sc0,scs,i64_w,i32_w]
    rfl
   refine pur (i:=10) (N:=some 26) (v:=?_) (a':=?_) (tf 11 7) rfl (Or.inl ⟨by rfl,?_⟩) ?_ ?_
   rotate_left
   ·intro w'
    go_simp
    with_reducible rfl
   rotate_left
   ·simp only [Act.put,sIB,sc0,scs,i64_w,i32_w]
    rfl
   refine pur (i:=11) (N:=some 27) (v:=?_) (a':=?_) (tf 12 6) rfl (Or.inl ⟨by rfl,?_⟩) ?_ ?_
   rotate_left
   ·intro w'
    go_simp
    with_reducible rfl
   rotate_left
   ·simp only [Act.put,sIB,sc0,scs,i64_w,i32_w]
    rfl
   refine pur (i:=12) (N:=some 28) (v:=?_) (a':=?_) (tf 13 5) rfl (Or.inl ⟨by rfl,?_⟩) ?_ ?_
   rotate_left
   ·intro w'
    go_simp
    with_reducible rfl
   rotate_left
   ·simp only [Act.put,sIB,sc0,scs,i64_w,i32_w]
    rfl
   refine pur (i:=13) (N:=some 29) (v:=?_) (a':=?_) (tf 14 4) rfl (Or.inl ⟨by rfl,?_⟩) ?_ ?_
   rotate_left
   ·intro w'
    go_simp
    with_reducible rfl
   rotate_left
   ·simp only [Act.put,sIB,sc0,scs,i64_w,i32_w]
    rfl
   refine take_ (i:=14) (N:=some 30) (v:=?_) (a':=?_) (tf 15 3) rfl rfl (take_ofW HT_.out HW_.out kr) (fun _ _ _ h=>h) (Or.inl ⟨by rfl,?_⟩) hHeld ?_ ?_
   rotate_left
   ·rintro w' ⟨s0,s1,s2,s3⟩
    go_simp
    with_reducible rfl
   rotate_left
   ·simp only [Act.put,sIB,sc0,scs,i64_w,i32_w]
    rfl
   refine pur (i:=15) (N:=some 31) (v:=?_) (a':=?_) (tf 16 2) rfl (Or.inl ⟨by rfl,?_⟩) ?_ ?_
   rotate_left
   ·intro w'
    go_simp
    with_reducible rfl
   rotate_left
   ·simp only [Act.put,sIB,sc0,scs,i64_w,i32_w]
    rfl
   refine take_ (i:=16) (N:=some 32) (v:=?_) (a':=?_) (tf 17 1) rfl rfl (take_ofW HT_.out HW_.out kr) (fun _ _ _ h=>h) (Or.inl ⟨by rfl,?_⟩) hHeld ?_ ?_
   rotate_left
   ·rintro w' ⟨s0,s1,s2,s3⟩
    go_simp
    with_reducible rfl
   rotate_left
   ·simp only [Act.put,sIB,sc0,scs,i64_w,i32_w]
    rfl
   refine pur (i:=17) (N:=some 33) (v:=?_) (a':=?_) (tf 18 0) rfl (Or.inl ⟨by rfl,?_⟩) ?_ ?_
   rotate_left
   ·intro w'
    go_simp
    with_reducible rfl
   rotate_left
   ·simp only [Act.put,sIB,sc0,scs,i64_w,i32_w]
    rfl
   refine done_ (done_of HT_.out kr) ?_
   try go_wp2
   go_ret
   exact ⟨ew,hq⟩
  replace c19:=Bool.eq_false_iff.mpr c19;subst c19;have H1:(spec_l09Order.l0 k1 l1 (ae.set ((rd l1 aa):Int).toNat true) (wrap64 (aa+1)) l0_0)=some r:=by rw [if_neg (show ¬ (false=true) by decide)] at H;exact H
  clear H;have H:=H1;clear H1;obtain ⟨aD,hY⟩:∃ y_:List Bool,y_=(ae.set ((rd l1 aa):Int).toNat true):=⟨_,rfl⟩;replace H:(spec_l09Order.l0 k1 l1 aD (wrap64 (aa+1)) l0_0)=some r:=hh;have aX:=ak hY;clear hY;have H':=ak H;clear H
  try go_wp2
  have n0_:=ak (Kd.R_drew ac.out);have n1_:=ak (blk_drew ab.out);have n2_:=ak (below_drew1 HB.out);clear ac ab HB;have ac:=n0_;have ab:=n1_;have HB:=n2_;clear n0_ n1_ n2_;have af:0≤(aa:Int):=od q19_0;have ag:aa<(l1.length:Int):=od q19_0;obtain ⟨aj,ax,ad⟩:=Kd.at_int HR1.out aa af ag;have hw753_0:=ad;cases ax;replace ad:=(HB.out.cell (World.block_lt_of_cell? w _ ad)).trans ad;replace af:=eq_true af;replace ag:=eq_true ag;have ao:0≤(aa:Int):=od q19_0;have ap:aa<(l1.length:Int):=od q19_0;obtain ⟨az,aA,ah⟩:=Kd.at_int HR1.out aa ao ap;have hw756_0:=ah;obtain rfl:aj=az:=(by injection aA);replace ah:=(HB.out.cell (World.block_lt_of_cell? w _ ah)).trans ah;replace ao:=eq_true ao;replace ap:=eq_true ap;have aq:0≤((rd l1 aa):Int):=od q19_0;have ar:(rd l1 aa)<(ae.length:Int):=od q19_0;(try (obtain ⟨Aop_,cop_,eop_⟩:=Kd.R_slice ac.out;subst eop_));obtain ⟨aB,aC,an⟩:=Kd.at_bool (Kd.R_reads' ac.out).2.2 (rd l1 aa) aq ar;(try rw [← aM.out] at an);cases aC;replace aq:=eq_true aq;replace ar:=eq_true ar
  refine start_ (n:=18) (S:=fun w'=>w'.cell? ⟨aw,0,none⟩=some (.slice A0_0 l0_0.length c0_0)∧w'.cell? (aj.add (aa).toNat)=some (.int .i64 (rd l1 aa))∧w'.cell? (aj.add (aa).toNat)=some (.int .i64 (rd l1 aa))∧w'.cell? (aB.add (rd l1 aa).toNat)=some (.bool false)) (ds:=[]) #[false,false,false,false,false,false,false,false,false,false,false,false,false,false,false,false,false,false] kr rfl rfl ⟨(blk_cell ab.out 0).trans rfl,((HB.out.cell (World.block_lt_of_cell? w _ hw753_0)).trans hw753_0),((HB.out.cell (World.block_lt_of_cell? w _ hw756_0)).trans hw756_0),an⟩ (fun hHeld=>?_);refine with_tabW spec_l09Order.tab5 spec_l09Order.bits5 (fun HT_ HW_=>?_)
  generalize wr.drew=w24 at ac ab HB ad ah an hHeld ⊢
  refine pur (i:=0) (N:=some 16) (v:=?_) (a':=?_) (tf 1 17) rfl (Or.inl ⟨by rfl,?_⟩) ?_ ?_
  rotate_left
  ·intro w'
   go_simp
   with_reducible rfl
  rotate_left
  ·simp only [Act.put,sIB,sc0,scs,i64_w,i32_w]
   rfl
  refine pur (i:=1) (N:=some 17) (v:=?_) (a':=?_) (tf 2 16) rfl (Or.inl ⟨by rfl,?_⟩) ?_ ?_
  rotate_left
  ·intro w'
   go_simp
   with_reducible rfl
  rotate_left
  ·simp only [Act.put,sIB,sc0,scs,i64_w,i32_w]
   rfl
  refine pur (i:=2) (N:=some 18) (v:=?_) (a':=?_) (tf 3 15) rfl (Or.inl ⟨by rfl,?_⟩) ?_ ?_
  rotate_left
  ·intro w'
   go_simp
   with_reducible rfl
  rotate_left
  ·simp only [Act.put,sIB,sc0,scs,i64_w,i32_w]
   rfl
  refine take_ (i:=3) (N:=some 19) (v:=?_) (a':=?_) (tf 4 14) rfl rfl (take_ofW HT_.out HW_.out kr) (fun _ _ _ h=>h) (Or.inl ⟨by rfl,?_⟩) hHeld ?_ ?_
  rotate_left
  ·rintro w' ⟨s0,s1,s2,s3⟩
   go_simp
   with_reducible rfl
  rotate_left
  ·simp only [Act.put,sIB,sc0,scs,i64_w,i32_w]
   rfl
  refine take_ (i:=4) (N:=some 20) (v:=?_) (a':=?_) (tf 5 13) rfl rfl (take_ofW HT_.out HW_.out kr) (fun _ _ _ h=>h) (Or.inl ⟨by rfl,?_⟩) hHeld ?_ ?_
  rotate_left
  ·rintro w' ⟨s0,s1,s2,s3⟩
   go_simp
   with_reducible rfl
  rotate_left
  ·simp only [Act.put,sIB,sc0,scs,i64_w,i32_w]
   rfl
  refine one_ (i:=5) (N:=some 21) (tf 6 12) rfl rfl (one_of HT_.out kr) dc (fun K hK=>?_)
  refine goes_ Tryz.func80 kr rfl #[.agg #[.slice A0_0 l0_0.length c0_0]] (by rfl) rfl rfl am ?_
  with_reducible refine (spec_l01N.calls _ _ l0_0 al _ ?side1 ?side2 A13.out).mono ?_
  (case side1=>exact pc (Kd.C_below au.out HB.out))
  (case side2=>exact av.out)
  rintro e w25 ⟨rfl,hb⟩
  have HS3_:=(hb.cell (World.block_lt_of_cell? _ _ (hHeld.2.2.2))).trans (hHeld.2.2.2)
  refine ⟨_,rfl,?_⟩
  have n0_:=rb ac hb;have n1_:=bb ab hb;have n2_:=hbs hb;clear ac ab HB;have ac:=n0_;have ab:=n1_;have HB:=n2_;clear n0_ n1_ n2_;(try clear hb);(try clear hb2);(try clear hk);(try clear hi)
  refine hK.out _ _ ⟨(blk_cell ab.out 0).trans rfl,((HB.out.cell (World.block_lt_of_cell? w _ hw753_0)).trans hw753_0),((HB.out.cell (World.block_lt_of_cell? w _ hw756_0)).trans hw756_0),HS3_⟩ (fun hHeld=>?_)
  clear hK K
  refine norm_ (a':=?_) ?_ ?_
  rotate_left
  ·show Act.put _ (some 21) _=_;simp only [Act.put,sIB,sc0,scs,i64_w,i32_w]
   rfl
  refine pur (i:=6) (N:=some 22) (v:=?_) (a':=?_) (tf 7 11) rfl (Or.inl ⟨by rfl,?_⟩) ?_ ?_
  rotate_left
  ·intro w'
   go_simp
   with_reducible rfl
  rotate_left
  ·simp only [Act.put,sIB,sc0,scs,i64_w,i32_w]
   rfl
  refine one_ (i:=7) (N:=some 23) (tf 8 10) rfl rfl (one_of HT_.out kr) dc (fun K hK=>?_)
  refine goes_ Tryz.func53 kr rfl #[.int .i64 (rd l1 aa),.int .i64 0,.int .i64 (wrap64 (al - 1))] (by rfl) rfl rfl am ?_
  with_reducible refine (spec_l01In.calls (rd l1 aa) 0 (wrap64 (al - 1)) true _ A14.out).mono ?_
  rintro e w' ⟨rfl,⟨nd,rfl⟩⟩
  refine ⟨_,rfl,?_⟩
  obtain ⟨bl,aY,aO⟩:=Kd.R_slice ac.out;(first|subst aO|(injection aO with f1_ f2_ f3_;have f4_:=f1_.symm;have f5_:=f3_.symm;clear f1_ f2_ f3_;subst f4_;subst f5_))
  refine hK.out _ _ ⟨(blk_cell ab.out 0).trans rfl,((HB.out.cell (World.block_lt_of_cell? w _ hw753_0)).trans hw753_0),((HB.out.cell (World.block_lt_of_cell? w _ hw756_0)).trans hw756_0),hHeld.2.2.2⟩ (fun hHeld=>?_)
  clear hK K
  refine norm_ (a':=?_) ?_ ?_
  rotate_left
  ·show Act.put _ (some 23) _=_;simp only [Act.put,sIB,sc0,scs,i64_w,i32_w]
   rfl
  refine pur (i:=8) (N:=some 24) (v:=?_) (a':=?_) (tf 9 9) rfl (Or.inl ⟨by rfl,?_⟩) ?_ ?_
  rotate_left
  ·intro w'
   go_simp
   with_reducible rfl
  rotate_left
  ·simp only [Act.put,sIB,sc0,scs,i64_w,i32_w]
   rfl
  refine pur (i:=9) (N:=some 25) (v:=?_) (a':=?_) (tf 10 8) rfl (Or.inl ⟨by rfl,?_⟩) ?_ ?_
  rotate_left
  ·intro w'
   go_simp
   with_reducible rfl
  rotate_left
  ·simp only [Act.put,sIB,sc0,scs,i64_w,i32_w]
   rfl
  refine pur (i:=10) (N:=some 26) (v:=?_) (a':=?_) (tf 11 7) rfl (Or.inl ⟨by rfl,?_⟩) ?_ ?_
  rotate_left
  ·intro w'
   go_simp
   with_reducible rfl
  rotate_left
  ·simp only [Act.put,sIB,sc0,scs,i64_w,i32_w]
   rfl
  refine pur (i:=11) (N:=some 27) (v:=?_) (a':=?_) (tf 12 6) rfl (Or.inl ⟨by rfl,?_⟩) ?_ ?_
  rotate_left
  ·intro w'
   go_simp
   with_reducible rfl
  rotate_left
  ·simp only [Act.put,sIB,sc0,scs,i64_w,i32_w]
   rfl
  refine pur (i:=12) (N:=some 28) (v:=?_) (a':=?_) (tf 13 5) rfl (Or.inl ⟨by rfl,?_⟩) ?_ ?_
  rotate_left
  ·intro w'
   go_simp
   with_reducible rfl
  rotate_left
  ·simp only [Act.put,sIB,sc0,scs,i64_w,i32_w]
   rfl
  refine pur (i:=13) (N:=some 29) (v:=?_) (a':=?_) (tf 14 4) rfl (Or.inl ⟨by rfl,?_⟩) ?_ ?_
  rotate_left
  ·intro w'
   go_simp
   with_reducible rfl
  rotate_left
  ·simp only [Act.put,sIB,sc0,scs,i64_w,i32_w]
   rfl
  refine take_ (i:=14) (N:=some 30) (v:=?_) (a':=?_) (tf 15 3) rfl rfl (take_ofW HT_.out HW_.out kr) (fun _ _ _ h=>h) (Or.inl ⟨by rfl,?_⟩) hHeld ?_ ?_
  rotate_left
  ·rintro w' ⟨s0,s1,s2,s3⟩
   go_simp
   with_reducible rfl
  rotate_left
  ·simp only [Act.put,sIB,sc0,scs,i64_w,i32_w]
   rfl
  refine pur (i:=15) (N:=some 31) (v:=?_) (a':=?_) (tf 16 2) rfl (Or.inl ⟨by rfl,?_⟩) ?_ ?_
  rotate_left
  ·intro w'
   go_simp
   with_reducible rfl
  rotate_left
  ·simp only [Act.put,sIB,sc0,scs,i64_w,i32_w]
   rfl
  refine take_ (i:=16) (N:=some 32) (v:=?_) (a':=?_) (tf 17 1) rfl rfl (take_ofW HT_.out HW_.out kr) (fun _ _ _ h=>h) (Or.inl ⟨by rfl,?_⟩) hHeld ?_ ?_
  rotate_left
  ·rintro w' ⟨s0,s1,s2,s3⟩
   go_simp
   with_reducible rfl
  rotate_left
  ·simp only [Act.put,sIB,sc0,scs,i64_w,i32_w]
   rfl
  refine pur (i:=17) (N:=some 33) (v:=?_) (a':=?_) (tf 18 0) rfl (Or.inl ⟨by rfl,?_⟩) ?_ ?_
  rotate_left
  ·intro w'
   go_simp
   with_reducible rfl
  rotate_left
  ·simp only [Act.put,sIB,sc0,scs,i64_w,i32_w]
   rfl
  refine done_ (done_of HT_.out kr) ?_
  (try (rw [drewN_self w25];generalize hq_:World.drewN w25 _=w25;have n0_:=ak (Kd.R_at hq_ ac.out);have n1_:=ak (blk_at hq_ ab.out);have n2_:=ak (below_at hq_ HB.out);clear hq_ ac ab HB;have ac:=n0_;have ab:=n1_;have HB:=n2_;clear n0_ n1_ n2_));have aE:0≤(aa:Int):=od q19_0;have aF:aa<(l1.length:Int):=od q19_0;obtain ⟨aZ,a2,aG⟩:=Kd.at_int HR1.out aa aE aF;obtain rfl:aj=aZ:=(by injection a2);replace aG:=(HB.out.cell (World.block_lt_of_cell? w _ aG)).trans aG;replace aE:=eq_true aE;replace aF:=eq_true aF;have p23:0≤((rd l1 aa):Int):=od q19_0;have q23:((rd l1 aa):Int)<((ae.length:Int):Int):=od q19_0;obtain ⟨aH,bm,aP,aQ,gl23,cl23,aR⟩:=Kd.R_form ac.out (by omega);(first|cases aP|(injection aP with ea_ en_ ec_;(first|subst ea_|(injection ea_ with ea_;subst ea_));subst ec_;clear en_));have GB23:=ak aQ;have bo:=ak aR;clear aQ gl23 aR;(first|simp only [add_plain] at an|skip);obtain ⟨bp,bq⟩:=Kd.R_celln false ac.out ((rd l1 aa):Int) p23 q23;replace p23:=eq_true p23;replace q23:=eq_true q23;obtain ⟨hy27_,hz27_⟩:=Kd.R_celln false ac.out ((rd l1 aa):Int) (od q19_0) (od q19_0);have aI:=Kd.R_putg ac.out ((rd l1 aa):Int) true
  try go_wp2_with (first|((with_reducible refine gate_store (t:=4) (p:=39) rfl ?_);refine store_event (t:=4) (p:=39) (v:=?vo_w28) (w1:=(w25.setCell ⟨aH,((rd l1 aa):Int).toNat,none⟩ (.bool true))) ?hg ?ho ?hn ?hr ?_;(case ho=>rfl);(case hg=>rfl);(case hn=>rfl);(case hr=>exact gs);intro w28 hw;have hg:w25.grownBy w28 (some aH):=(by rw [hw];exact aI.2);have hp_:Kd.R Kd.bool 4 w28 w.heap.size (fun _=>True) (.slice (some ⟨aH,0,none⟩) ae.length aY) aD:=(by rw [hw,aX.out];exact aI.1);clear aI;replace ab:=ak (blk_grown (g:=aw) (o:=.cells #[.slice A0_0 l0_0.length c0_0] 27 (0,0)) (pb ab.out) hg (Kd.R_ne ac.out ab.out dc));replace ac:=ak (hp_);replace HB:=ak (by rw [hw];exact below_set (HB.out) GB23.out:Below w.heap.size w w28);clear hg hw hp_))
  go_roundg k1
  case measure=>have:=HK1.out;omega
  case rel=>exact ⟨(aD),(wrap64 (aa+1)),(by first|rfl|(simp;done)|(simp [*];done)),H',⟨by have:=HK1.out;omega⟩,⟨pe ac.out⟩,⟨pb ab.out⟩,⟨hq⟩⟩
end Go.Proofs.YtlppkilencpmeaaGreat.QFnGrowth
