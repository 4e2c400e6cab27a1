import Derived.Test.YtlppkilencpmeaaGreatQFnGrowingx0
import Derived.Test.YtlppkilencpmeaaGreatQFnGrowingx3
import Derived.Test.YtlppkilencpmeaaGreatQFnGrowingx9
import Derived.Test.YtlppkilencpmeaaGreatQFnGrowingx5
/- Functions as Lean functions, with their contracts: written by a program of this claim over the translation; some contracts are proved by hand. -/
namespace Go.Proofs.YtlppkilencpmeaaGreat.QFnGrowing
open Go.RowKit Go.Proofs.YtlppkilencpmeaaGreat.Gl Go.Proofs.YtlppkilencpmeaaGreat.Sz Go.Proofs.YtlppkilencpmeaaGreatW.PrintWords Go.Proofs.YtlppkilencpmeaaGreatW.PrintLast Go.Proofs.YtlppkilencpmeaaGreatW.PrintMore
attribute [local go_sem] max2_int min2_int max_two min_two max_three min_three max_four min_four   -- for this text's walks alone
set_option linter.unusedVariables false
set_option linter.unusedSimpArgs false
theorem q11_0 {P:Prop} (h:P:=by first|(with_reducible assumption)|assumption):P:=h
set_option maxHeartbeats 8000000
set_option maxRecDepth 100000
def spec_l09Order.l0:Nat→List Int→List Bool→Int→List Int→Option (Bool)
 | 0,_,_,_,_=>none
 | k+1,x1,x5,x6,x508000=>if x6<(x1.length:Int) then (if 0≤x6 then ((spec_l01N.f x508000).bind fun t514=>((spec_l01In.f (rd x1 x6) 0 (wrap64 (t514 - 1))).bind fun t515=>(if t515=true then (if 0≤(rd x1 x6) then (if (rd x1 x6)<(x5.length:Int) then (if rdOf false x5 (rd x1 x6)=true then (some false) else (spec_l09Order.l0 k x1 (x5.set ((rd x1 x6):Int).toNat true) (wrap64 (x6+1)) x508000)) else (none)) else (none)) else (some false)))) else (none)) else ((spec_l01N.f x508000).bind fun t512=>(some ((x1.length:Int) == t512)))
def spec_l09Order.f (k:Nat) (l0_0:List Int) (l1:List Int):Option (Bool):=(spec_l01N.f l0_0).bind fun t508=>(if 0≤t508 then (if (t508:Int).toNat≤281474976710656 then (spec_l09Order.l0 k l1 (List.replicate (t508:Int).toNat false) 0 l0_0) else (none)) else (none))
def spec_l09Order.T5:Bool × List (List Nat × List Nat):=(true,[([],[]),([],[]),([0,1],[0,1]),([2],[2]),([],[]),([4],[4]),([5],[5]),([3,6,5],[3,6]),([7],[7]),([8,7],[8]),([9],[9]),([9],[9]),([9],[9]),([11,12,9],[9,11,12]),([13,9],[9,13]),([10,14,9],[9,10,14]),([15,9],[9,15]),([9,16],[9,16])])
def spec_l09Order.B5:List Nat:=[0,0,3,7,0,16,48,127,255,511,1023,1023,1023,7167,15359,32767,65535,131071]
theorem spec_l09Order.tab5:rtab .any (opsOf Tryz.f96 5)=spec_l09Order.T5:=by kernel_rfl
theorem spec_l09Order.bits5:waitsOk spec_l09Order.T5.2 spec_l09Order.B5=true:=by kernel_rfl
theorem spec_l09Order.calls (k:Nat) (A0_0:Option Addr) (c0_0:Nat) (l0_0:List Int) (A1:Option Addr) (c1:Nat) (l1:List Int) (r:Bool) (w:World) (hr0_0:Kd.C (Kd.int .i64) w A0_0 l0_0.length l0_0) (hc0_0:l0_0.length≤c0_0) (hr1:Kd.C (Kd.int .i64) w A1 l1.length l1) (hc1:l1.length≤c1) (h:spec_l09Order.f k l0_0 l1=some r) :
  Calls Tryz.prog 96 #[.agg #[.slice A0_0 l0_0.length c0_0],.slice A1 l1.length c1] w fun e w'=>e=.returned (.bool r)∧Below w.heap.size w w':=by
 have hu27:=Tryz.underlying27;have au:=ak hr0_0;have av:=ak hc0_0;clear hr0_0 hc0_0;have HR1:=ak hr1;have HC1:=ak hc1;clear hr1 hc1;have HB:=ak (Below.refl w.heap.size w);have H:((spec_l01N.f l0_0).bind fun ai=>(if 0≤ai then (if (ai:Int).toNat≤281474976710656 then (spec_l09Order.l0 k l1 (List.replicate (ai:Int).toNat false) 0 l0_0) else (none)) else (none)))=some r:=h;clear h;replace H:=bs H;obtain ⟨ai,A3,H⟩:=H;(try dsimp only at H);replace H:=ifs H;obtain ⟨c4,H⟩:=H;have a3:=eq_true c4;have a4:decide (0≤ai)=true:=decide_eq_true c4;clear c4;replace H:=ifs H;obtain ⟨c5,H⟩:=H;have a5:=eq_true c5;have a6:decide ((ai:Int).toNat≤281474976710656)=true:=decide_eq_true c5;clear c5;obtain ⟨aJ,hY⟩:∃ y_:List Bool,y_=(List.replicate (ai:Int).toNat false):=⟨_,rfl⟩;replace H:(spec_l09Order.l0 k l1 aJ 0 l0_0)=some r:=hh;have aK:=ak hY;clear hY;have H':=ak H;clear H
 go_enter Tryz.func96,Tryz.ntmps96
 go_wp2_with (first|((with_reducible refine gate_dst (N:=2) rfl ?_);refine bev (N:=2) (cs:=#[.slice A0_0 l0_0.length c0_0]) (t:=27) ?_;intro aw hg w6 hbox hb;have ab:=ak (hbox);have a7:=gbe hg;have a8:=gbe hg;replace HB:=hbs hb;clear hb hbox hg;have a9:=bc ab.out;have ba:=blk_frozen ab.out 0)|((with_reducible refine gate_callee (f:=80) rfl ?_);refine gl (some 8) Tryz.func80 #[.agg #[.slice A0_0 l0_0.length c0_0]] ?_;(with_reducible refine (spec_l01N.calls _ _ l0_0 ai _ (pc (Kd.C_below au.out HB.out)) av.out A3.out).mono ?_);rintro e w8 ⟨rfl,hb⟩;refine ⟨_,rfl,?_⟩;replace ab:=bb ab hb;replace HB:=hbs hb;(try clear hb))|((with_reducible refine gate_dst (N:=9) rfl ?_);refine Kd.R_make Kd.bool _ 4 rfl (N:=9) rfl 109 _ _ rfl ai rfl rfl Tryz.underlying109 (.bool false) 1 info4 rfl dc (by omega) false (ok:=fun _=>True) (okp:=fun _=>True) rfl (fun _ hk=>hk) trivial (od q11_0) (Nat.le_trans (Nat.mul_le_mul_right _ (od q11_0:ai.toNat≤281474976710656)) (by omega)) (Below.refl _ _) (Nat.le_refl _) ?_;intro aS w9 ho10 hb hg_ hnew_;clear hg_ hnew_;(first|rw [← aK.out] at ho10|(simp only [Int.reduceToNat] at ho10;rw [← aK.out] at ho10));have aT:=lw ho10;replace ab:=bb ab hb;replace HB:=hbs hb;clear hb ho10))
 go_loopg [6] k (fun kq v6 w'=>∃ (ae:List Bool) (aa:Int),v6=.int .i64 aa∧Aside0 (spec_l09Order.l0 kq l1 ae aa l0_0=some r)∧Aside0 (kq≤k)∧Aside0 (Kd.R Kd.bool 4 w' w.heap.size (fun _=>True) aS ae)∧Aside0 (w'.heap[aw]?=some (.cells #[(.slice A0_0 l0_0.length c0_0)] 27 (0,0)))∧Aside0 (Below w.heap.size w w'))
 case atStart=>exact ⟨(aJ),(0),(by first|rfl|(simp;done)|(simp [*];done)),H',⟨Nat.le_refl _⟩,⟨pe aT.out⟩,⟨pb ab.out⟩,⟨hq⟩⟩
 case round =>
  clear H';obtain ⟨ae,aa,rfl,HA,HK1,ac,ab,HB⟩:=hrel
  cases gk with|zero=>exact absurd HA.out (by simp [spec_l09Order.l0])|succ k1=>?_
  have H:=HA.out;clear HA;simp only [spec_l09Order.l0] at H;obtain c11|c11:=nem (aa<(l1.length:Int))
  ·rw [if_neg c11] at H;have aU:=df c11;clear c11;replace H:=bs H;obtain ⟨aV,A31,H⟩:=H;(try dsimp only at H);obtain rfl:=Option.some.inj H;have bd:=bc ab.out;have bf:=blk_frozen ab.out 0
   go_wp2_with (first|((with_reducible refine gate_callee (f:=80) rfl ?_);refine gl (some 43) Tryz.func80 #[.agg #[.slice A0_0 l0_0.length c0_0]] ?_;(with_reducible refine (spec_l01N.calls _ _ l0_0 aV _ (pc (Kd.C_below au.out HB.out)) av.out A31.out).mono ?_);rintro e w33 ⟨rfl,hb⟩;refine ⟨_,rfl,?_⟩;replace ac:=rb ac hb;replace ab:=bb ab hb;replace HB:=hbs hb;(try clear hb)))
   go_ret
   exact ⟨ew,hq⟩
  rw [if_pos c11] at H;have aU:=dt c11;clear c11;replace H:=ifs H;obtain ⟨c12,H⟩:=H;have bg:=dt c12;clear c12;replace H:=bs H;obtain ⟨al,A13,H⟩:=H;(try dsimp only at H);replace H:=bs H;obtain ⟨aW,A14,H⟩:=H;(try dsimp only at H);obtain c15|c15:=nem (aW=true)
  ·replace c15:=Bool.eq_false_iff.mpr c15;subst c15;have H1:(some false)=some r:=by rw [if_neg (show ¬ (false=true) by decide)] at H;exact H
   clear H;have H:=H1;clear H1;obtain rfl:=Option.some.inj H
   try go_wp2
   have n0_:=ak (Kd.R_drew ac.out);have n1_:=ak (blk_drew ab.out);have n2_:=ak (below_drew1 HB.out);clear ac ab HB;have ac:=n0_;have ab:=n1_;have HB:=n2_;clear n0_ n1_ n2_;have af:0≤(aa:Int):=od q11_0;have ag:aa<(l1.length:Int):=od q11_0;obtain ⟨aj,ax,ad⟩:=Kd.at_int HR1.out aa af ag;have hw513_0:=ad;cases ax;replace ad:=(HB.out.cell (World.block_lt_of_cell? w _ ad)).trans ad;replace af:=eq_true af;replace ag:=eq_true ag
   refine start_ (n:=18) (S:=fun w'=>w'.cell? ⟨aw,0,none⟩=some (.slice A0_0 l0_0.length c0_0)∧w'.cell? (aj.add (aa).toNat)=some (.int .i64 (rd l1 aa))) (ds:=[]) #[false,false,false,false,false,false,false,false,false,false,false,false,false,false,false,false,false,false] kr rfl rfl ⟨(blk_cell ab.out 0).trans rfl,((HB.out.cell (World.block_lt_of_cell? w _ hw513_0)).trans hw513_0)⟩ (fun hHeld=>?_);refine with_tabW spec_l09Order.tab5 spec_l09Order.bits5 (fun HT_ HW_=>?_)
   generalize wr.drew=w29 at ac ab HB ad hHeld ⊢
   refine pur (i:=0) (N:=some 16) (v:=?_) (a':=?_) (tf 1 17) rfl (Or.inl ⟨by rfl,?_⟩) ?_ ?_
   rotate_left
   ·intro w'
    go_simp
    with_reducible rfl
   rotate_left
   ·simp only [Act.put,sIB,sc0,scs,i64_w,i32_w]
    rfl
   refine pur (i:=1) (N:=some 17) (v:=?_) (a':=?_) (tf 2 16) rfl (Or.inl ⟨by rfl,?_⟩) ?_ ?_
   rotate_left
   ·intro w'
    go_simp
    with_reducible rfl
   rotate_left
   ·simp only [Act.put,sIB,sc0,scs,i64_w,i32_w]
    rfl
   refine pur (i:=2) (N:=some 18) (v:=?_) (a':=?_) (tf 3 15) rfl (Or.inl ⟨by rfl,?_⟩) ?_ ?_
   rotate_left
   ·intro w'
    go_simp
    with_reducible rfl
   rotate_left
   ·simp only [Act.put,sIB,sc0,scs,i64_w,i32_w]
    rfl
   refine take_ (i:=3) (N:=some 19) (v:=?_) (a':=?_) (tf 4 14) rfl rfl (take_ofW HT_.out HW_.out kr) (fun _ _ _ h=>h) (Or.inl ⟨by rfl,?_⟩) hHeld ?_ ?_
   rotate_left
   ·rintro w' ⟨s0,s1⟩
    go_simp
    with_reducible rfl
   rotate_left
   ·simp only [Act.put,sIB,sc0,scs,i64_w,i32_w]
    rfl
   refine take_ (i:=4) (N:=some 20) (v:=?_) (a':=?_) (tf 5 13) rfl rfl (take_ofW HT_.out HW_.out kr) (fun _ _ _ h=>h) (Or.inl ⟨by rfl,?_⟩) hHeld ?_ ?_
   rotate_left
   ·rintro w' ⟨s0,s1⟩
    go_simp
    with_reducible rfl
   rotate_left
   ·simp only [Act.put,sIB,sc0,scs,i64_w,i32_w]
    rfl
   refine one_ (i:=5) (N:=some 21) (tf 6 12) rfl rfl (one_of HT_.out kr) dc (fun K hK=>?_)
   refine goes_ Tryz.func80 kr rfl #[.agg #[.slice A0_0 l0_0.length c0_0]] (by rfl) rfl rfl am ?_
   with_reducible refine (spec_l01N.calls _ _ l0_0 al _ ?side1 ?side2 A13.out).mono ?_
   (case side1=>exact pc (Kd.C_below au.out HB.out))
   (case side2=>exact av.out)
   rintro e w30 ⟨rfl,hb⟩
   refine ⟨_,rfl,?_⟩
   have n0_:=rb ac hb;have n1_:=bb ab hb;have n2_:=hbs hb;clear ac ab HB;have ac:=n0_;have ab:=n1_;have HB:=n2_;clear n0_ n1_ n2_;(try clear hb);(try clear hb2);(try clear hk);(try clear hi)
   refine hK.out _ _ ⟨(blk_cell ab.out 0).trans rfl,((HB.out.cell (World.block_lt_of_cell? w _ hw513_0)).trans hw513_0)⟩ (fun hHeld=>?_)
   clear hK K
   refine norm_ (a':=?_) ?_ ?_
   rotate_left
   ·show Act.put _ (some 21) _=_;simp only [Act.put,sIB,sc0,scs,i64_w,i32_w]
    rfl
   refine pur (i:=6) (N:=some 22) (v:=?_) (a':=?_) (tf 7 11) rfl (Or.inl ⟨by rfl,?_⟩) ?_ ?_
   rotate_left
   ·intro w'
    go_simp
    with_reducible rfl
   rotate_left
   ·simp only [Act.put,sIB,sc0,scs,i64_w,i32_w]
    rfl
   refine one_ (i:=7) (N:=some 23) (tf 8 10) rfl rfl (one_of HT_.out kr) dc (fun K hK=>?_)
   refine goes_ Tryz.func53 kr rfl #[.int .i64 (rd l1 aa),.int .i64 0,.int .i64 (wrap64 (al - 1))] (by rfl) rfl rfl am ?_
   with_reducible refine (spec_l01In.calls (rd l1 aa) 0 (wrap64 (al - 1)) false _ A14.out).mono ?_
   rintro e w' ⟨rfl,⟨nd,rfl⟩⟩
   refine ⟨_,rfl,?_⟩
   refine hK.out _ _ ⟨(blk_cell ab.out 0).trans rfl,((HB.out.cell (World.block_lt_of_cell? w _ hw513_0)).trans hw513_0)⟩ (fun hHeld=>?_)
   clear hK K
   refine norm_ (a':=?_) ?_ ?_
   rotate_left
   ·show Act.put _ (some 23) _=_;simp only [Act.put,sIB,sc0,scs,i64_w,i32_w]
    rfl
   refine pur (i:=8) (N:=some 24) (v:=?_) (a':=?_) (tf 9 9) rfl (Or.inl ⟨by rfl,?_⟩) ?_ ?_
   rotate_left
   ·intro w'
    go_simp
    with_reducible rfl
   rotate_left
   ·simp only [Act.put,sIB,sc0,scs,i64_w,i32_w]
    rfl
   refine pur (i:=9) (N:=some 25) (v:=?_) (a':=?_) (tf 10 8) rfl (Or.inl ⟨by rfl,?_⟩) ?_ ?_
   rotate_left
   ·intro w'
    go_simp
    with_reducible rfl
   rotate_left
   ·simp only [Act.put,sIB,sc0,scs,i64_w,i32_w]
    rfl
   refine pure_ (i:=10) (N:=some 26) (v:=undef) (a':=?_) (tf 11 7) rfl rfl (any_of HT_.out kr) (fun _ _ _ h=>h) (Or.inr ⟨by rfl,rfl⟩) ?_ ?_
   rotate_left
   ·simp only [Act.put,sIB,sc0,scs,i64_w,i32_w]
    rfl
   refine pure_ (i:=11) (N:=some 27) (v:=undef) (a':=?_) (tf 12 6) rfl rfl (any_of HT_.out kr) (fun _ _ _ h=>h) (Or.inr ⟨by rfl,rfl⟩) ?_ ?_
   rotate_left
   ·simp only [Act.put,sIB,sc0,scs,i64_w,i32_w]
    rfl
   refine pure_ (i:=12) (N:=some 28) (v:=undef) (a':=?_) (tf 13 5) rfl rfl (any_of HT_.out kr) (fun _ _ _ h=>h) (Or.inr ⟨by rfl,rfl⟩) ?_ ?_
   rotate_left
   ·simp only [Act.put,sIB,sc0,scs,i64_w,i32_w]
    rfl
   refine pure_ (i:=13) (N:=some 29) (v:=undef) (a':=?_) (tf 14 4) rfl rfl (any_of HT_.out kr) (fun _ _ _ h=>h) (Or.inr ⟨by rfl,rfl⟩) ?_ ?_
   rotate_left
   ·simp only [Act.put,sIB,sc0,scs,i64_w,i32_w]
    rfl
   refine pure_ (i:=14) (N:=some 30) (v:=undef) (a':=?_) (tf 15 3) rfl rfl (any_of HT_.out kr) (fun _ _ _ h=>h) (Or.inr ⟨by rfl,rfl⟩) ?_ ?_
   rotate_left
   ·simp only [Act.put,sIB,sc0,scs,i64_w,i32_w]
    rfl
   refine pure_ (i:=15) (N:=some 31) (v:=undef) (a':=?_) (tf 16 2) rfl rfl (any_of HT_.out kr) (fun _ _ _ h=>h) (Or.inr ⟨by rfl,rfl⟩) ?_ ?_
   rotate_left
   ·simp only [Act.put,sIB,sc0,scs,i64_w,i32_w]
    rfl
   refine pure_ (i:=16) (N:=some 32) (v:=undef) (a':=?_) (tf 17 1) rfl rfl (any_of HT_.out kr) (fun _ _ _ h=>h) (Or.inr ⟨by rfl,rfl⟩) ?_ ?_
   rotate_left
   ·simp only [Act.put,sIB,sc0,scs,i64_w,i32_w]
    rfl
   refine pur (i:=17) (N:=some 33) (v:=?_) (a':=?_) (tf 18 0) rfl (Or.inl ⟨by rfl,?_⟩) ?_ ?_
   rotate_left
   ·intro w'
    go_simp
    with_reducible rfl
   rotate_left
   ·simp only [Act.put,sIB,sc0,scs,i64_w,i32_w]
    rfl
   refine done_ (done_of HT_.out kr) ?_
   try go_wp2
   go_ret
   exact ⟨ew,hq⟩
  subst c15;replace H:(if 0≤(rd l1 aa) then (if (rd l1 aa)<(ae.length:Int) then (if rdOf false ae (rd l1 aa)=true then (some false) else (spec_l09Order.l0 k1 l1 (ae.set ((rd l1 aa):Int).toNat true) (wrap64 (aa+1)) l0_0)) else (none)) else (none))=some r:=by rw [if_pos rfl] at H;exact H
  replace H:=ifs H;obtain ⟨c16,H⟩:=H;have bh:=dt c16;clear c16;replace H:=ifs H;obtain ⟨c17,H⟩:=H;have bi:=dt c17;clear c17;obtain ⟨aL,ay⟩:∃ b_:Bool,b_=(rdOf false ae (rd l1 aa)):=⟨_,rfl⟩;replace H:(if aL=true then (some false) else (spec_l09Order.l0 k1 l1 (ae.set ((rd l1 aa):Int).toNat true) (wrap64 (aa+1)) l0_0))=some r:=by rw [← ay] at H;exact H
  have aM:=ak ay;clear ay
  by_cases c19:aL=true
  ·subst c19;replace H:(some false)=some r:=by rw [if_pos rfl] at H;exact H
   obtain rfl:=Option.some.inj H
   try go_wp2
   have n0_:=ak (Kd.R_drew ac.out);have n1_:=ak (blk_drew ab.out);have n2_:=ak (below_drew1 HB.out);clear ac ab HB;have ac:=n0_;have ab:=n1_;have HB:=n2_;clear n0_ n1_ n2_;have af:0≤(aa:Int):=od q11_0;have ag:aa<(l1.length:Int):=od q11_0;obtain ⟨aj,ax,ad⟩:=Kd.at_int HR1.out aa af ag;have hw513_0:=ad;cases ax;replace ad:=(HB.out.cell (World.block_lt_of_cell? w _ ad)).trans ad;replace af:=eq_true af;replace ag:=eq_true ag;have ao:0≤(aa:Int):=od q11_0;have ap:aa<(l1.length:Int):=od q11_0;obtain ⟨az,aA,ah⟩:=Kd.at_int HR1.out aa ao ap;have hw516_0:=ah;obtain rfl:aj=az:=(by injection aA);replace ah:=(HB.out.cell (World.block_lt_of_cell? w _ ah)).trans ah;replace ao:=eq_true ao;replace ap:=eq_true ap;have aq:0≤((rd l1 aa):Int):=od q11_0;have ar:(rd l1 aa)<(ae.length:Int):=od q11_0;(try (obtain ⟨Aop_,cop_,eop_⟩:=Kd.R_slice ac.out;subst eop_));obtain ⟨aB,aC,an⟩:=Kd.at_bool (Kd.R_reads' ac.out).2.2 (rd l1 aa) aq ar;(try rw [← aM.out] at an);cases aC;replace aq:=eq_true aq;replace ar:=eq_true ar
   refine start_ (n:=18) (S:=fun w'=>w'.cell? ⟨aw,0,none⟩=some (.slice A0_0 l0_0.length c0_0)∧w'.cell? (aj.add (aa).toNat)=some (.int .i64 (rd l1 aa))∧w'.cell? (aj.add (aa).toNat)=some (.int .i64 (rd l1 aa))∧w'.cell? (aB.add (rd l1 aa).toNat)=some (.bool true)) (ds:=[]) #[false,false,false,false,false,false,false,false,false,false,false,false,false,false,false,false,false,false] kr rfl rfl ⟨(blk_cell ab.out 0).trans rfl,((HB.out.cell (World.block_lt_of_cell? w _ hw513_0)).trans hw513_0),((HB.out.cell (World.block_lt_of_cell? w _ hw516_0)).trans hw516_0),an⟩ (fun hHeld=>?_);refine with_tabW spec_l09Order.tab5 spec_l09Order.bits5 (fun HT_ HW_=>?_)
   generalize wr.drew=w20 at ac ab HB ad ah an hHeld ⊢
   refine pur (i:=0) (N:=some 16) (v:=?_) (a':=?_) (tf 1 17) rfl (Or.inl ⟨by rfl,?_⟩) ?_ ?_
   rotate_left
   ·intro w'
    go_simp
    with_reducible rfl
   rotate_left
   ·simp only [Act.put,sIB,sc0,scs,i64_w,i32_w]
    rfl
   refine pur (i:=1) (N:=some 17) (v:=?_) (a':=?_) (tf 2 16) rfl (Or.inl ⟨by rfl,?_⟩) ?_ ?_
   rotate_left
   ·intro w'
    go_simp
    with_reducible rfl
   rotate_left
   ·simp only [Act.put,sIB,sc0,scs,i64_w,i32_w]
    rfl
   refine pur (i:=2) (N:=some 18) (v:=?_) (a':=?_) (tf 3 15) rfl (Or.inl ⟨by rfl,?_⟩) ?_ ?_
   rotate_left
   ·intro w'
    go_simp
    with_reducible rfl
   rotate_left
   ·simp only [Act.put,sIB,sc0,scs,i64_w,i32_w]
    rfl
   refine take_ (i:=3) (N:=some 19) (v:=?_) (a':=?_) (tf 4 14) rfl rfl (take_ofW HT_.out HW_.out kr) (fun _ _ _ h=>h) (Or.inl ⟨by rfl,?_⟩) hHeld ?_ ?_
   rotate_left
   ·rintro w' ⟨s0,s1,s2,s3⟩
    go_simp
    with_reducible rfl
   rotate_left
   ·simp only [Act.put,sIB,sc0,scs,i64_w,i32_w]
    rfl
   refine take_ (i:=4) (N:=some 20) (v:=?_) (a':=?_) (tf 5 13) rfl rfl (take_ofW HT_.out HW_.out kr) (fun _ _ _ h=>h) (Or.inl ⟨by rfl,?_⟩) hHeld ?_ ?_
   rotate_left
   ·rintro w' ⟨s0,s1,s2,s3⟩
    go_simp
    with_reducible rfl
   rotate_left
   ·simp only [Act.put,sIB,sc0,scs,i64_w,i32_w]
    rfl
   refine one_ (i:=5) (N:=some 21) (tf 6 12) rfl rfl (one_of HT_.out kr) dc (fun K hK=>?_)
   refine goes_ Tryz.func80 kr rfl #[.agg #[.slice A0_0 l0_0.length c0_0]] (by rfl) rfl rfl am ?_
   with_reducible refine (spec_l01N.calls _ _ l0_0 al _ ?side1 ?side2 A13.out).mono ?_
   (case side1=>exact pc (Kd.C_below au.out HB.out))
   (case side2=>exact av.out)
   rintro e w21 ⟨rfl,hb⟩
   have HS3_:=(hb.cell (World.block_lt_of_cell? _ _ (hHeld.2.2.2))).trans (hHeld.2.2.2)
   refine ⟨_,rfl,?_⟩
   have n0_:=rb ac hb;have n1_:=bb ab hb;have n2_:=hbs hb;clear ac ab HB;have ac:=n0_;have ab:=n1_;have HB:=n2_;clear n0_ n1_ n2_;(try clear hb);(try clear hb2);(try clear hk);(try clear hi)
   refine hK.out _ _ ⟨(blk_cell ab.out 0).trans rfl,((HB.out.cell (World.block_lt_of_cell? w _ hw513_0)).trans hw513_0),((HB.out.cell (World.block_lt_of_cell? w _ hw516_0)).trans hw516_0),HS3_⟩ (fun hHeld=>?_)
   clear hK K
   refine norm_ (a':=?_) ?_ ?_
   rotate_left
   ·show Act.put _ (some 21) _=_;simp only [Act.put,sIB,sc0,scs,i64_w,i32_w]
    rfl
   refine pur (i:=6) (N:=some 22) (v:=?_) (a':=?_) (tf 7 11) rfl (Or.inl ⟨by rfl,?_⟩) ?_ ?_
   rotate_left
   ·intro w'
    go_simp
    with_reducible rfl
   rotate_left
   ·simp only [Act.put,sIB,sc0,scs,i64_w,i32_w]
    rfl
   refine one_ (i:=7) (N:=some 23) (tf 8 10) rfl rfl (one_of HT_.out kr) dc (fun K hK=>?_)
   refine goes_ Tryz.func53 kr rfl #[.int .i64 (rd l1 aa),.int .i64 0,.int .i64 (wrap64 (al - 1))] (by rfl) rfl rfl am ?_
   with_reducible refine (spec_l01In.calls (rd l1 aa) 0 (wrap64 (al - 1)) true _ A14.out).mono ?_
   rintro e w' ⟨rfl,⟨nd,rfl⟩⟩
   refine ⟨_,rfl,?_⟩
   obtain ⟨bj,bk,aN⟩:=Kd.R_slice ac.out;(first|subst aN|(injection aN with f1_ f2_ f3_;have f4_:=f1_.symm;have f5_:=f3_.symm;clear f1_ f2_ f3_;subst f4_;subst f5_))
   refine hK.out _ _ ⟨(blk_cell ab.out 0).trans rfl,((HB.out.cell (World.block_lt_of_cell? w _ hw513_0)).trans hw513_0),((HB.out.cell (World.block_lt_of_cell? w _ hw516_0)).trans hw516_0),hHeld.2.2.2⟩ (fun hHeld=>?_)
   clear hK K
   refine norm_ (a':=?_) ?_ ?_
   rotate_left
   ·show Act.put _ (some 23) _=_;simp only [Act.put,sIB,sc0,scs,i64_w,i32_w]
    rfl
   refine pur (i:=8) (N:=some 24) (v:=?_) (a':=?_) (tf 9 9) rfl (Or.inl ⟨by rfl,?_⟩) ?_ ?_
   rotate_left
   ·intro w'
    go_simp
    with_reducible rfl
   rotate_left
   ·simp only [Act.put,sIB,sc0,scs,i64_w,i32_w]
    rfl
   refine pur (i:=9) (N:=some 25) (v:=?_) (a':=?_) (tf 10 8) rfl (Or.inl ⟨by rfl,?_⟩) ?_ ?_
   rotate_left
   ·intro w'
    go_simp
    with_reducible rfl
   rotate_left
   ·simp only [Act.put,sIB,sc0,scs,i64_w,i32_w]
    rfl
   refine pur (i:=10) (N:=some 26) (v:=?_) (a':=?_) (tf 11 7) rfl (Or.inl ⟨by rfl,?_⟩) ?_ ?_
   rotate_left
   ·intro w'
    go_simp
    with_reducible rfl
   rotate_left
   ·simp only [Act.put,sIB,sc0,scs,i64_w,i32_w]
    rfl
   refine pur (i:=11) (N:=some 27) (v:=?_) (a':=?_) (tf 12 6) rfl (Or.inl ⟨by rfl,?_⟩) ?_ ?_
   rotate_left
   ·intro w'
    go_simp
    with_reducible rfl
   rotate_left
   ·simp only [Act.put,sIB,sc0,scs,i64_w,i32_w]
    rfl
   refine pur (i:=12) (N:=some 28) (v:=?_) (a':=?_) (tf 13 5) rfl (Or.inl ⟨by rfl,?_⟩) ?_ ?_
   rotate_left
   ·intro w'
    go_simp
    with_reducible rfl
   rotate_left
   ·simp only [Act.put,sIB,sc0,scs,i64_w,i32_w]
    rfl
   refine pur (i:=13) (N:=some 29) (v:=?_) (a':=?_) (tf 14 4) rfl (Or.inl ⟨by rfl,?_⟩) ?_ ?_
   rotate_left
   ·intro w'
    go_simp
    with_reducible rfl
   rotate_left
   ·simp only [Act.put,sIB,sc0,scs,i64_w,i32_w]
    rfl
   refine take_ (i:=14) (N:=some 30) (v:=?_) (a':=?_) (tf 15 3) rfl rfl (take_ofW HT_.out HW_.out kr) (fun _ _ _ h=>h) (Or.inl ⟨by rfl,?_⟩) hHeld ?_ ?_
   rotate_left
   ·rintro w' ⟨s0,s1,s2,s3⟩
    go_simp
    with_reducible rfl
   rotate_left
   ·simp only [Act.put,sIB,sc0,scs,i64_w,i32_w]
    rfl
   refine pur (i:=15) (N:=some 31) (v:=?_) (a':=?_) (tf 16 2) rfl (Or.inl ⟨by rfl,?_⟩) ?_ ?_
   rotate_left
   ·intro w'
    go_simp
    with_reducible rfl
   rotate_left
   ·simp only [Act.put,sIB,sc0,scs,i64_w,i32_w]
    rfl
   refine take_ (i:=16) (N:=some 32) (v:=?_) (a':=?_) (tf 17 1) rfl rfl (take_ofW HT_.out HW_.out kr) (fun _ _ _ h=>h) (Or.inl ⟨by rfl,?_⟩) hHeld ?_ ?_
   rotate_left
   ·rintro w' ⟨s0,s1,s2,s3⟩
    go_simp
    with_reducible rfl
   rotate_left
   ·simp only [Act.put,sIB,sc0,scs,i64_w,i32_w]
    rfl
   refine pur (i:=17) (N:=some 33) (v:=?_) (a':=?_) (tf 18 0) rfl (Or.inl ⟨by rfl,?_⟩) ?_ ?_
   rotate_left
   ·intro w'
    go_simp
    with_reducible rfl
   rotate_left
   ·simp only [Act.put,sIB,sc0,scs,i64_w,i32_w]
    rfl
   refine done_ (done_of HT_.out kr) ?_
   try go_wp2
   go_ret
   exact ⟨ew,hq⟩
  replace c19:=Bool.eq_false_iff.mpr c19;subst c19;have H1:(spec_l09Order.l0 k1 l1 (ae.set ((rd l1 aa):Int).toNat true) (wrap64 (aa+1)) l0_0)=some r:=by rw [if_neg (show ¬ (false=true) by decide)] at H;exact H
  clear H;have H:=H1;clear H1;obtain ⟨aD,hY⟩:∃ y_:List Bool,y_=(ae.set ((rd l1 aa):Int).toNat true):=⟨_,rfl⟩;replace H:(spec_l09Order.l0 k1 l1 aD (wrap64 (aa+1)) l0_0)=some r:=hh;have aX:=ak hY;clear hY;have H':=ak H;clear H
  try go_wp2
  have n0_:=ak (Kd.R_drew ac.out);have n1_:=ak (blk_drew ab.out);have n2_:=ak (below_drew1 HB.out);clear ac ab HB;have ac:=n0_;have ab:=n1_;have HB:=n2_;clear n0_ n1_ n2_;have af:0≤(aa:Int):=od q11_0;have ag:aa<(l1.length:Int):=od q11_0;obtain ⟨aj,ax,ad⟩:=Kd.at_int HR1.out aa af ag;have hw513_0:=ad;cases ax;replace ad:=(HB.out.cell (World.block_lt_of_cell? w _ ad)).trans ad;replace af:=eq_true af;replace ag:=eq_true ag;have ao:0≤(aa:Int):=od q11_0;have ap:aa<(l1.length:Int):=od q11_0;obtain ⟨az,aA,ah⟩:=Kd.at_int HR1.out aa ao ap;have hw516_0:=ah;obtain rfl:aj=az:=(by injection aA);replace ah:=(HB.out.cell (World.block_lt_of_cell? w _ ah)).trans ah;replace ao:=eq_true ao;replace ap:=eq_true ap;have aq:0≤((rd l1 aa):Int):=od q11_0;have ar:(rd l1 aa)<(ae.length:Int):=od q11_0;(try (obtain ⟨Aop_,cop_,eop_⟩:=Kd.R_slice ac.out;subst eop_));obtain ⟨aB,aC,an⟩:=Kd.at_bool (Kd.R_reads' ac.out).2.2 (rd l1 aa) aq ar;(try rw [← aM.out] at an);cases aC;replace aq:=eq_true aq;replace ar:=eq_true ar
  refine start_ (n:=18) (S:=fun w'=>w'.cell? ⟨aw,0,none⟩=some (.slice A0_0 l0_0.length c0_0)∧w'.cell? (aj.add (aa).toNat)=some (.int .i64 (rd l1 aa))∧w'.cell? (aj.add (aa).toNat)=some (.int .i64 (rd l1 aa))∧w'.cell? (aB.add (rd l1 aa).toNat)=some (.bool false)) (ds:=[]) #[false,false,false,false,false,false,false,false,false,false,false,false,false,false,false,false,false,false] kr rfl rfl ⟨(blk_cell ab.out 0).trans rfl,((HB.out.cell (World.block_lt_of_cell? w _ hw513_0)).trans hw513_0),((HB.out.cell (World.block_lt_of_cell? w _ hw516_0)).trans hw516_0),an⟩ (fun hHeld=>?_);refine with_tabW spec_l09Order.tab5 spec_l09Order.bits5 (fun HT_ HW_=>?_)
  generalize wr.drew=w24 at ac ab HB ad ah an hHeld ⊢
  refine pur (i:=0) (N:=some 16) (v:=?_) (a':=?_) (tf 1 17) rfl (Or.inl ⟨by rfl,?_⟩) ?_ ?_
  rotate_left
  ·intro w'
   go_simp
   with_reducible rfl
  rotate_left
  ·simp only [Act.put,sIB,sc0,scs,i64_w,i32_w]
   rfl
  refine pur (i:=1) (N:=some 17) (v:=?_) (a':=?_) (tf 2 16) rfl (Or.inl ⟨by rfl,?_⟩) ?_ ?_
  rotate_left
  ·intro w'
   go_simp
   with_reducible rfl
  rotate_left
  ·simp only [Act.put,sIB,sc0,scs,i64_w,i32_w]
   rfl
  refine pur (i:=2) (N:=some 18) (v:=?_) (a':=?_) (tf 3 15) rfl (Or.inl ⟨by rfl,?_⟩) ?_ ?_
  rotate_left
  ·intro w'
   go_simp
   with_reducible rfl
  rotate_left
  ·simp only [Act.put,sIB,sc0,scs,i64_w,i32_w]
   rfl
  refine take_ (i:=3) (N:=some 19) (v:=?_) (a':=?_) (tf 4 14) rfl rfl (take_ofW HT_.out HW_.out kr) (fun _ _ _ h=>h) (Or.inl ⟨by rfl,?_⟩) hHeld ?_ ?_
  rotate_left
  ·rintro w' ⟨s0,s1,s2,s3⟩
   go_simp
   with_reducible rfl
  rotate_left
  ·simp only [Act.put,sIB,sc0,scs,i64_w,i32_w]
   rfl
  refine take_ (i:=4) (N:=some 20) (v:=?_) (a':=?_) (tf 5 13) rfl rfl (take_ofW HT_.out HW_.out kr) (fun _ _ _ h=>h) (Or.inl ⟨by rfl,?_⟩) hHeld ?_ ?_
  rotate_left
  ·rintro w' ⟨s0,s1,s2,s3⟩
   go_simp
   with_reducible rfl
  rotate_left
  ·simp only [Act.put,sIB,sc0,scs,i64_w,i32_w]
   rfl
  refine one_ (i:=5) (N:=some 21) (tf 6 12) rfl rfl (one_of HT_.out kr) dc (fun K hK=>?_)
  refine goes_ Tryz.func80 kr rfl #[.agg #[.slice A0_0 l0_0.length c0_0]] (by rfl) rfl rfl am ?_
  with_reducible refine (spec_l01N.calls _ _ l0_0 al _ ?side1 ?side2 A13.out).mono ?_
  (case side1=>exact pc (Kd.C_below au.out HB.out))
  (case side2=>exact av.out)
  rintro e w25 ⟨rfl,hb⟩
  have HS3_:=(hb.cell (World.block_lt_of_cell? _ _ (hHeld.2.2.2))).trans (hHeld.2.2.2)
  refine ⟨_,rfl,?_⟩
  have n0_:=rb ac hb;have n1_:=bb ab hb;have n2_:=hbs hb;clear ac ab HB;have ac:=n0_;have ab:=n1_;have HB:=n2_;clear n0_ n1_ n2_;(try clear hb);(try clear hb2);(try clear hk);(try clear hi)
  refine hK.out _ _ ⟨(blk_cell ab.out 0).trans rfl,((HB.out.cell (World.block_lt_of_cell? w _ hw513_0)).trans hw513_0),((HB.out.cell (World.block_lt_of_cell? w _ hw516_0)).trans hw516_0),HS3_⟩ (fun hHeld=>?_)
  clear hK K
  refine norm_ (a':=?_) ?_ ?_
  rotate_left
  ·show Act.put _ (some 21) _=_;simp only [Act.put,sIB,sc0,scs,i64_w,i32_w]
   rfl
  refine pur (i:=6) (N:=some 22) (v:=?_) (a':=?_) (tf 7 11) rfl (Or.inl ⟨by rfl,?_⟩) ?_ ?_
  rotate_left
  ·intro w'
   go_simp
   with_reducible rfl
  rotate_left
  ·simp only [Act.put,sIB,sc0,scs,i64_w,i32_w]
   rfl
  refine one_ (i:=7) (N:=some 23) (tf 8 10) rfl rfl (one_of HT_.out kr) dc (fun K hK=>?_)
  refine goes_ Tryz.func53 kr rfl #[.int .i64 (rd l1 aa),.int .i64 0,.int .i64 (wrap64 (al - 1))] (by rfl) rfl rfl am ?_
  with_reducible refine (spec_l01In.calls (rd l1 aa) 0 (wrap64 (al - 1)) true _ A14.out).mono ?_
  rintro e w' ⟨rfl,⟨nd,rfl⟩⟩
  refine ⟨_,rfl,?_⟩
  obtain ⟨bl,aY,aO⟩:=Kd.R_slice ac.out;(first|subst aO|(injection aO with f1_ f2_ f3_;have f4_:=f1_.symm;have f5_:=f3_.symm;clear f1_ f2_ f3_;subst f4_;subst f5_))
  refine hK.out _ _ ⟨(blk_cell ab.out 0).trans rfl,((HB.out.cell (World.block_lt_of_cell? w _ hw513_0)).trans hw513_0),((HB.out.cell (World.block_lt_of_cell? w _ hw516_0)).trans hw516_0),hHeld.2.2.2⟩ (fun hHeld=>?_)
  clear hK K
  refine norm_ (a':=?_) ?_ ?_
  rotate_left
  ·show Act.put _ (some 23) _=_;simp only [Act.put,sIB,sc0,scs,i64_w,i32_w]
   rfl
  refine pur (i:=8) (N:=some 24) (v:=?_) (a':=?_) (tf 9 9) rfl (Or.inl ⟨by rfl,?_⟩) ?_ ?_
  rotate_left
  ·intro w'
   go_simp
   with_reducible rfl
  rotate_left
  ·simp only [Act.put,sIB,sc0,scs,i64_w,i32_w]
   rfl
  refine pur (i:=9) (N:=some 25) (v:=?_) (a':=?_) (tf 10 8) rfl (Or.inl ⟨by rfl,?_⟩) ?_ ?_
  rotate_left
  ·intro w'
   go_simp
   with_reducible rfl
  rotate_left
  ·simp only [Act.put,sIB,sc0,scs,i64_w,i32_w]
   rfl
  refine pur (i:=10) (N:=some 26) (v:=?_) (a':=?_) (tf 11 7) rfl (Or.inl ⟨by rfl,?_⟩) ?_ ?_
  rotate_left
  ·intro w'
   go_simp
   with_reducible rfl
  rotate_left
  ·simp only [Act.put,sIB,sc0,scs,i64_w,i32_w]
   rfl
  refine pur (i:=11) (N:=some 27) (v:=?_) (a':=?_) (tf 12 6) rfl (Or.inl ⟨by rfl,?_⟩) ?_ ?_
  rotate_left
  ·intro w'
   go_simp
   with_reducible rfl
  rotate_left
  ·simp only [Act.put,sIB,sc0,scs,i64_w,i32_w]
   rfl
  refine pur (i:=12) (N:=some 28) (v:=?_) (a':=?_) (tf 13 5) rfl (Or.inl ⟨by rfl,?_⟩) ?_ ?_
  rotate_left
  ·intro w'
   go_simp
   with_reducible rfl
  rotate_left
  ·simp only [Act.put,sIB,sc0,scs,i64_w,i32_w]
   rfl
  refine pur (i:=13) (N:=some 29) (v:=?_) (a':=?_) (tf 14 4) rfl (Or.inl ⟨by rfl,?_⟩) ?_ ?_
  rotate_left
  ·intro w'
   go_simp
   with_reducible rfl
  rotate_left
  ·simp only [Act.put,sIB,sc0,scs,i64_w,i32_w]
   rfl
  refine take_ (i:=14) (N:=some 30) (v:=?_) (a':=?_) (tf 15 3) rfl rfl (take_ofW HT_.out HW_.out kr) (fun _ _ _ h=>h) (Or.inl ⟨by rfl,?_⟩) hHeld ?_ ?_
  rotate_left
  ·rintro w' ⟨s0,s1,s2,s3⟩
   go_simp
   with_reducible rfl
  rotate_left
  ·simp only [Act.put,sIB,sc0,scs,i64_w,i32_w]
   rfl
  refine pur (i:=15) (N:=some 31) (v:=?_) (a':=?_) (tf 16 2) rfl (Or.inl ⟨by rfl,?_⟩) ?_ ?_
  rotate_left
  ·intro w'
   go_simp
   with_reducible rfl
  rotate_left
  ·simp only [Act.put,sIB,sc0,scs,i64_w,i32_w]
   rfl
  refine take_ (i:=16) (N:=some 32) (v:=?_) (a':=?_) (tf 17 1) rfl rfl (take_ofW HT_.out HW_.out kr) (fun _ _ _ h=>h) (Or.inl ⟨by rfl,?_⟩) hHeld ?_ ?_
  rotate_left
  ·rintro w' ⟨s0,s1,s2,s3⟩
   go_simp
   with_reducible rfl
  rotate_left
  ·simp only [Act.put,sIB,sc0,scs,i64_w,i32_w]
   rfl
  refine pur (i:=17) (N:=some 33) (v:=?_) (a':=?_) (tf 18 0) rfl (Or.inl ⟨by rfl,?_⟩) ?_ ?_
  rotate_left
  ·intro w'
   go_simp
   with_reducible rfl
  rotate_left
  ·simp only [Act.put,sIB,sc0,scs,i64_w,i32_w]
   rfl
  refine done_ (done_of HT_.out kr) ?_
  (try (rw [drewN_self w25];generalize hq_:World.drewN w25 _=w25;have n0_:=ak (Kd.R_at hq_ ac.out);have n1_:=ak (blk_at hq_ ab.out);have n2_:=ak (below_at hq_ HB.out);clear hq_ ac ab HB;have ac:=n0_;have ab:=n1_;have HB:=n2_;clear n0_ n1_ n2_));have aE:0≤(aa:Int):=od q11_0;have aF:aa<(l1.length:Int):=od q11_0;obtain ⟨aZ,a2,aG⟩:=Kd.at_int HR1.out aa aE aF;obtain rfl:aj=aZ:=(by injection a2);replace aG:=(HB.out.cell (World.block_lt_of_cell? w _ aG)).trans aG;replace aE:=eq_true aE;replace aF:=eq_true aF;have p23:0≤((rd l1 aa):Int):=od q11_0;have q23:((rd l1 aa):Int)<((ae.length:Int):Int):=od q11_0;obtain ⟨aH,bm,aP,aQ,gl23,cl23,aR⟩:=Kd.R_form ac.out (by omega);(first|cases aP|(injection aP with ea_ en_ ec_;(first|subst ea_|(injection ea_ with ea_;subst ea_));subst ec_;clear en_));have GB23:=ak aQ;have bo:=ak aR;clear aQ gl23 aR;(first|simp only [add_plain] at an|skip);obtain ⟨bp,bq⟩:=Kd.R_celln false ac.out ((rd l1 aa):Int) p23 q23;replace p23:=eq_true p23;replace q23:=eq_true q23;obtain ⟨hy27_,hz27_⟩:=Kd.R_celln false ac.out ((rd l1 aa):Int) (od q11_0) (od q11_0);have aI:=Kd.R_putg ac.out ((rd l1 aa):Int) true
  try go_wp2_with (first|((with_reducible refine gate_store (t:=4) (p:=39) rfl ?_);refine store_event (t:=4) (p:=39) (v:=?vo_w28) (w1:=(w25.setCell ⟨aH,((rd l1 aa):Int).toNat,none⟩ (.bool true))) ?hg ?ho ?hn ?hr ?_;(case ho=>rfl);(case hg=>rfl);(case hn=>rfl);(case hr=>exact gs);intro w28 hw;have hg:w25.grownBy w28 (some aH):=(by rw [hw];exact aI.2);have hp_:Kd.R Kd.bool 4 w28 w.heap.size (fun _=>True) (.slice (some ⟨aH,0,none⟩) ae.length aY) aD:=(by rw [hw,aX.out];exact aI.1);clear aI;replace ab:=ak (blk_grown (g:=aw) (o:=.cells #[.slice A0_0 l0_0.length c0_0] 27 (0,0)) (pb ab.out) hg (Kd.R_ne ac.out ab.out dc));replace ac:=ak (hp_);replace HB:=ak (by rw [hw];exact below_set (HB.out) GB23.out:Below w.heap.size w w28);clear hg hw hp_))
  go_roundg k1
  case measure=>have:=HK1.out;omega
  case rel=>exact ⟨(aD),(wrap64 (aa+1)),(by first|rfl|(simp;done)|(simp [*];done)),H',⟨by have:=HK1.out;omega⟩,⟨pe ac.out⟩,⟨pb ab.out⟩,⟨hq⟩⟩
end Go.Proofs.YtlppkilencpmeaaGreat.QFnGrowing
/- Functions as Lean functions, with their contracts: written by a program of this claim over the translation; some contracts are proved by hand. -/
namespace Go.Proofs.YtlppkilencpmeaaGreat.QFnGrowing
open Go.RowKit Go.Proofs.YtlppkilencpmeaaGreat.Gl Go.Proofs.YtlppkilencpmeaaGreat.Sz Go.Proofs.YtlppkilencpmeaaGreatW.PrintWords Go.Proofs.YtlppkilencpmeaaGreatW.PrintLast Go.Proofs.YtlppkilencpmeaaGreatW.PrintMore
attribute [local go_sem] max2_int min2_int max_two min_two max_three min_three max_four min_four   -- for this text's walks alone
set_option linter.unusedVariables false
set_option linter.unusedSimpArgs false
theorem q12_0 {P:Prop} (h:P:=by first|(with_reducible assumption)|assumption):P:=h
set_option maxHeartbeats 8000000
set_option maxRecDepth 100000
def spec_l09Growing.l0:Nat→List Int→List Int→List Bool→Int→Option (Bool)
 | 0,_,_,_,_=>none
 | k+1,x1,x5,x6,x7=>if x7<(x1.length:Int) then (if 0≤x7 then (if 0≤(rd x1 x7) then (if (rd x1 x7)<(x5.length:Int) then (if (rd x5 (rd x1 x7))≥0 then (if 0≤(rd x5 (rd x1 x7)) then (if (rd x5 (rd x1 x7))<(x6.length:Int) then (if (rdOf false x6 (rd x5 (rd x1 x7))=true) then (if (rd x1 x7)<(x6.length:Int) then (spec_l09Growing.l0 k x1 x5 (x6.set ((rd x1 x7):Int).toNat true) (wrap64 (x7+1))) else (none)) else (some false)) else (none)) else (none)) else (if (rd x1 x7)<(x6.length:Int) then (spec_l09Growing.l0 k x1 x5 (x6.set ((rd x1 x7):Int).toNat true) (wrap64 (x7+1))) else (none))) else (none)) else (none)) else (none)) else (some true)
def spec_l09Growing.f (k:Nat) (l0_0:List Int) (l1:List Int):Option (Bool):=(spec_l01Parents.f k l0_0).bind fun t521=>((spec_l01N.f l0_0).bind fun t524=>(if 0≤t524 then (if (t524:Int).toNat≤281474976710656 then (spec_l09Growing.l0 k l1 t521 (List.replicate (t524:Int).toNat false) 0) else (none)) else (none)))
theorem spec_l09Growing.calls (k:Nat) (A0_0:Option Addr) (c0_0:Nat) (l0_0:List Int) (A1:Option Addr) (c1:Nat) (l1:List Int) (r:Bool) (w:World) (hr0_0:Kd.C (Kd.int .i64) w A0_0 l0_0.length l0_0) (hc0_0:l0_0.length≤c0_0) (hr1:Kd.C (Kd.int .i64) w A1 l1.length l1) (hc1:l1.length≤c1) (h:spec_l09Growing.f k l0_0 l1=some r) :
  Calls Tryz.prog 97 #[.agg #[.slice A0_0 l0_0.length c0_0],.slice A1 l1.length c1] w fun e w'=>e=.returned (.bool r)∧Below w.heap.size w w':=by
 have hu27:=Tryz.underlying27;have ag:=ak hr0_0;have ah:=ak hc0_0;clear hr0_0 hc0_0;have HR1:=ak hr1;have HC1:=ak hc1;clear hr1 hc1;have HB:=ak (Below.refl w.heap.size w);have H:((spec_l01Parents.f k l0_0).bind fun ad=>((spec_l01N.f l0_0).bind fun ar=>(if 0≤ar then (if (ar:Int).toNat≤281474976710656 then (spec_l09Growing.l0 k l1 ad (List.replicate (ar:Int).toNat false) 0) else (none)) else (none))))=some r:=h;clear h;replace H:=bs H;obtain ⟨ad,A3,H⟩:=H;(try dsimp only at H);replace H:=bs H;obtain ⟨ar,A4,H⟩:=H;(try dsimp only at H);replace H:=ifs H;obtain ⟨c5,H⟩:=H;have aY:=eq_true c5;have bM:decide (0≤ar)=true:=decide_eq_true c5;clear c5;replace H:=ifs H;obtain ⟨c6,H⟩:=H;have bN:=eq_true c6;have bO:decide ((ar:Int).toNat≤281474976710656)=true:=decide_eq_true c6;clear c6;obtain ⟨aZ,hY⟩:∃ y_:List Bool,y_=(List.replicate (ar:Int).toNat false):=⟨_,rfl⟩;replace H:(spec_l09Growing.l0 k l1 ad aZ 0)=some r:=hh;have a2:=ak hY;clear hY;have H':=ak H;clear H
 go_enter Tryz.func97,Tryz.ntmps97
 try go_wp2_with (first|((with_reducible refine gate_dst (N:=2) rfl ?_);refine bev (N:=2) (cs:=#[.slice A0_0 l0_0.length c0_0]) (t:=27) ?_;intro aC hg w7 hbox hb;have ac:=ak (hbox);have bP:=gbe hg;have bQ:=gbe hg;replace HB:=hbs hb;clear hb hbox hg))
 have n0_:=ak (blk_drew ac.out);have n1_:=ak (below_drew1 HB.out);clear ac HB;have ac:=n0_;have HB:=n1_;clear n0_ n1_
 refine start_ (n:=7) (S:=fun w'=>w'.cell? ⟨aC,0,none⟩=some (.slice A0_0 l0_0.length c0_0)) (ds:=[]) #[false,false,false,false,false,false,false] kr rfl rfl ((blk_cell ac.out 0).trans rfl) (fun hHeld=>?_)
 generalize w7.drew=w8 at ac HB hHeld ⊢
 refine take_ (i:=0) (N:=some 9) (v:=?_) (a':=?_) #[true,false,false,false,false,false,false] rfl rfl kr (fun _ _ _ h=>h) (Or.inl ⟨by rfl,?_⟩) hHeld ?_ ?_
 rotate_left
 ·intro w' s0
  go_simp
  with_reducible rfl
 rotate_left
 ·simp only [Act.put,sIB,sc0,scs,i64_w,i32_w]
  rfl
 refine take_ (i:=2) (N:=some 11) (v:=?_) (a':=?_) #[true,false,true,false,false,false,false] rfl rfl kr (fun _ _ _ h=>h) (Or.inl ⟨by rfl,?_⟩) hHeld ?_ ?_
 rotate_left
 ·intro w' s0
  go_simp
  with_reducible rfl
 rotate_left
 ·simp only [Act.put,sIB,sc0,scs,i64_w,i32_w]
  rfl
 refine one_ (i:=1) (N:=some 10) #[true,true,true,false,false,false,false] rfl rfl kr dc (fun K hK=>?_)
 refine goes_ Tryz.func79 kr rfl #[.agg #[.slice A0_0 l0_0.length c0_0]] (by rfl) rfl rfl am ?_
 with_reducible refine (spec_l01Parents.calls k _ _ l0_0 ad _ ?side1 ?side2 A3.out).mono ?_
 (case side1=>exact pc (Kd.C_below ag.out HB.out))
 (case side2=>exact ah.out)
 rintro e w9 ⟨bl,rfl,ho0,hb⟩
 refine ⟨_,rfl,?_⟩
 have n0_:=lw ho0;have n1_:=bb ac hb;have n2_:=hbs hb;clear ac HB;have av:=n0_;have ac:=n1_;have HB:=n2_;clear n0_ n1_ n2_;(try clear hb);(try clear hb2);(try clear hk);(try clear hi);(try clear ho0)
 refine hK.out _ _ ((blk_cell ac.out 0).trans rfl) (fun hHeld=>?_)
 clear hK K
 refine norm_ (a':=?_) ?_ ?_
 rotate_left
 ·show Act.put _ (some 10) _=_;simp only [Act.put,sIB,sc0,scs,i64_w,i32_w]
  rfl
 refine one_ (i:=3) (N:=some 12) #[true,true,true,true,false,false,false] rfl rfl kr dc (fun K hK=>?_)
 refine goes_ Tryz.func80 kr rfl #[.agg #[.slice A0_0 l0_0.length c0_0]] (by rfl) rfl rfl am ?_
 with_reducible refine (spec_l01N.calls _ _ l0_0 ar _ ?side1 ?side2 A4.out).mono ?_
 (case side1=>exact pc (Kd.C_below ag.out HB.out))
 (case side2=>exact ah.out)
 rintro e w10 ⟨rfl,hb⟩
 refine ⟨_,rfl,?_⟩
 have n0_:=rb av hb;have n1_:=bb ac hb;have n2_:=hbs hb;clear av ac HB;have av:=n0_;have ac:=n1_;have HB:=n2_;clear n0_ n1_ n2_;(try clear hb);(try clear hb2);(try clear hk);(try clear hi)
 refine hK.out _ _ ((blk_cell ac.out 0).trans rfl) (fun hHeld=>?_)
 clear hK K
 refine norm_ (a':=?_) ?_ ?_
 rotate_left
 ·show Act.put _ (some 12) _=_;simp only [Act.put,sIB,sc0,scs,i64_w,i32_w]
  rfl
 refine pure_ (i:=5) (N:=some 5) (v:=?_) (a':=?_) #[true,true,true,true,false,true,false] rfl rfl kr (fun _ _ _ h=>h) (Or.inl ⟨by rfl,?_⟩) ?_ ?_
 rotate_left
 ·intro w'
  go_simp
  with_reducible rfl
 rotate_left
 ·simp only [Act.put,sIB,sc0,scs,i64_w,i32_w]
  rfl
 refine one_ (i:=4) (N:=some 13) #[true,true,true,true,true,true,false] rfl rfl kr dc (fun K hK=>?_)
 refine Kd.R_make_step Kd.bool _ 4 (by rfl) (N:=13) rfl 109 _ _ rfl ar rfl rfl Tryz.underlying109 (.bool false) 1 info4 rfl dc (by omega) false (ok:=fun _=>True) (okp:=fun _=>True) rfl (fun _ hk=>hk) trivial (od q12_0) (Nat.le_trans (Nat.mul_le_mul_right _ (od q12_0:ar.toNat≤281474976710656)) (by omega)) (Below.refl _ _) (Nat.le_refl _) ?_
 intro bm w11 ho12 hb hg_ hnew_
 clear hg_ hnew_;(first|rw [← a2.out] at ho12|(simp only [Int.reduceToNat] at ho12;rw [← a2.out] at ho12));have n0_:=rb av hb;have n1_:=lw ho12;have n2_:=bb ac hb;have n3_:=hbs hb;clear av ac HB;have av:=n0_;have bo:=n1_;have ac:=n2_;have HB:=n3_;clear n0_ n1_ n2_ n3_ hb ho12
 refine hK.out _ _ ((blk_cell ac.out 0).trans rfl) (fun hHeld=>?_)
 clear hK K
 refine norm_ (a':=?_) ?_ ?_
 rotate_left
 ·show Act.put _ (some 13) _=_;simp only [Act.put,sIB,sc0,scs,i64_w,i32_w]
  rfl
 refine pure_ (i:=6) (N:=some 6) (v:=?_) (a':=?_) #[true,true,true,true,true,true,true] rfl rfl kr (fun _ _ _ h=>h) (Or.inl ⟨by rfl,?_⟩) ?_ ?_
 rotate_left
 ·intro w'
  go_simp
  with_reducible rfl
 rotate_left
 ·simp only [Act.put,sIB,sc0,scs,i64_w,i32_w]
  rfl
 refine done_ kr ?_
 try go_wp2
 go_loopg [7] k (fun kq v7 w'=>∃ (ai:List Bool) (aa:Int),v7=.int .i64 aa∧Aside0 (spec_l09Growing.l0 kq l1 ad ai aa=some r)∧Aside0 (kq≤k)∧Aside0 (Kd.R (Kd.int .i64) 2 w' w.heap.size (fun _=>True) bl ad)∧Aside0 (Kd.R Kd.bool 4 w' w.heap.size (fun _=>True) bm ai)∧Aside0 (w'.heap[aC]?=some (.cells #[(.slice A0_0 l0_0.length c0_0)] 27 (0,0)))∧Aside0 (Below w.heap.size w w'))
 case atStart=>exact ⟨(aZ),(0),(by first|rfl|(simp;done)|(simp [*];done)),H',⟨Nat.le_refl _⟩,⟨pe av.out⟩,⟨pe bo.out⟩,⟨pb ac.out⟩,⟨hq⟩⟩
 case round =>
  clear H';obtain ⟨ai,aa,rfl,HA,HK1,aj,af,ac,HB⟩:=hrel
  cases gk with|zero=>exact absurd HA.out (by simp [spec_l09Growing.l0])|succ k1=>?_
  have H:=HA.out;clear HA;simp only [spec_l09Growing.l0] at H;obtain c13|c13:=nem (aa<(l1.length:Int))
  ·rw [if_neg c13] at H;have bp:=df c13;clear c13;obtain rfl:=Option.some.inj H;go_wp2
   go_ret
   exact ⟨ew,hq⟩
  rw [if_pos c13] at H;have bp:=dt c13;clear c13;replace H:=ifs H;obtain ⟨c14,H⟩:=H;have bR:=dt c14;clear c14;replace H:=ifs H;obtain ⟨c15,H⟩:=H;have bS:=dt c15;clear c15;replace H:=ifs H;obtain ⟨c16,H⟩:=H;have bT:=dt c16;clear c16;obtain c17|c17:=nem ((rd ad (rd l1 aa))≥0)
  ·rw [if_neg c17] at H;have bq:decide (0≤(rd ad (rd l1 aa)))=false:=decide_eq_false c17;clear c17;replace H:=ifs H;obtain ⟨c30,H⟩:=H;have bU:=dt c30;clear c30;obtain ⟨aH,hY⟩:∃ y_:List Bool,y_=(ai.set ((rd l1 aa):Int).toNat true):=⟨_,rfl⟩;replace H:(spec_l09Growing.l0 k1 l1 ad aH (wrap64 (aa+1)))=some r:=hh;have br:=ak hY;clear hY;have H':=ak H;clear H;have al:0≤(aa:Int):=od q12_0;have an:aa<(l1.length:Int):=od q12_0;obtain ⟨aD,az,ao⟩:=Kd.at_int HR1.out aa al an;cases az;replace ao:=(HB.out.cell (World.block_lt_of_cell? w _ ao)).trans ao;replace al:=eq_true al;replace an:=eq_true an;obtain ⟨bV,bW,bu⟩:=Kd.R_slice aj.out;subst bu;have ap:0≤((rd l1 aa):Int):=od q12_0;have aq:(rd l1 aa)<(ad.length:Int):=od q12_0;(try (obtain ⟨Aop_,cop_,eop_⟩:=Kd.R_slice aj.out;subst eop_));obtain ⟨a3,aA,a4⟩:=Kd.at_int (Kd.R_reads' aj.out).2.2 (rd l1 aa) ap aq;cases aA;replace ap:=eq_true ap;replace aq:=eq_true aq;have aI:0≤(aa:Int):=od q12_0;have aJ:aa<(l1.length:Int):=od q12_0;obtain ⟨bv,bw,aK⟩:=Kd.at_int HR1.out aa aI aJ;obtain rfl:aD=bv:=(by injection bw);replace aK:=(HB.out.cell (World.block_lt_of_cell? w _ aK)).trans aK;replace aI:=eq_true aI;replace aJ:=eq_true aJ;have p31:0≤((rd l1 aa):Int):=od q12_0;have q31:((rd l1 aa):Int)<((ai.length:Int):Int):=od q12_0;obtain ⟨aE,a5,a6,a7,gl31,cl31,a8⟩:=Kd.R_form af.out (by omega);(first|cases a6|(injection a6 with ea_ en_ ec_;(first|subst ea_|(injection ea_ with ea_;subst ea_));subst ec_;clear en_));have GB31:=ak a7;have bX:=ak a8;clear a7 gl31 a8;obtain ⟨bY,bZ⟩:=Kd.R_celln false af.out ((rd l1 aa):Int) p31 q31;replace p31:=eq_true p31;replace q31:=eq_true q31;have aL:=Kd.R_putg af.out ((rd l1 aa):Int) true
   go_wp2_with (first|((with_reducible refine gate_store (t:=4) (p:=41) rfl ?_);refine store_event (t:=4) (p:=41) (v:=?vo_w34) (w1:=(wr.setCell ⟨aE,((rd l1 aa):Int).toNat,none⟩ (.bool true))) ?hg ?ho ?hn ?hr ?_;(case ho=>rfl);(case hg=>rfl);(case hn=>rfl);(case hr=>exact gs);intro w34 hw;have hg:wr.grownBy w34 (some aE):=(by rw [hw];exact aL.2);have hp_:Kd.R Kd.bool 4 w34 w.heap.size (fun _=>True) (.slice (some ⟨aE,0,none⟩) ai.length a5) aH:=(by rw [hw,br.out];exact aL.1);clear aL;replace aj:=ak (Kd.R_over' (v:=(.slice (some ⟨aE,0,none⟩) ai.length a5)) (pe aj.out) (Kd.R_typed af.out) dc hg);replace ac:=ak (blk_grown (g:=aC) (o:=.cells #[.slice A0_0 l0_0.length c0_0] 27 (0,0)) (pb ac.out) hg (Kd.R_ne af.out ac.out dc));replace af:=ak (hp_);replace HB:=ak (by rw [hw];exact below_set (HB.out) GB31.out:Below w.heap.size w w34);clear hg hw hp_))
   go_roundg k1
   case measure=>have:=HK1.out;omega
   case rel=>exact ⟨(aH),(wrap64 (aa+1)),(by first|rfl|(simp;done)|(simp [*];done)),H',⟨by have:=HK1.out;omega⟩,⟨pe aj.out⟩,⟨pe af.out⟩,⟨pb ac.out⟩,⟨hq⟩⟩
  rw [if_pos c17] at H;have bq:decide (0≤(rd ad (rd l1 aa)))=true:=decide_eq_true c17;clear c17;replace H:=ifs H;obtain ⟨c18,H⟩:=H;have b0:=dt c18;clear c18;replace H:=ifs H;obtain ⟨c19,H⟩:=H;have b1:=dt c19;clear c19;obtain ⟨a9,aM⟩:∃ b_:Bool,b_=(rdOf false ai (rd ad (rd l1 aa))):=⟨_,rfl⟩;replace H:(if (a9=true) then (if (rd l1 aa)<(ai.length:Int) then (spec_l09Growing.l0 k1 l1 ad (ai.set ((rd l1 aa):Int).toNat true) (wrap64 (aa+1))) else (none)) else (some false))=some r:=by rw [← aM] at H;exact H
  have ba:=ak aM;clear aM;obtain c21|c21:=nem ((a9=true))
  ·replace c21:=Bool.eq_false_iff.mpr c21;subst c21;have H1:(some false)=some r:=by rw [if_neg (show ¬ (false=true) by decide)] at H;exact H
   clear H;have H:=H1;clear H1;obtain rfl:=Option.some.inj H;have al:0≤(aa:Int):=od q12_0;have an:aa<(l1.length:Int):=od q12_0;obtain ⟨aD,az,ao⟩:=Kd.at_int HR1.out aa al an;cases az;replace ao:=(HB.out.cell (World.block_lt_of_cell? w _ ao)).trans ao;replace al:=eq_true al;replace an:=eq_true an;obtain ⟨b2,b3,bx⟩:=Kd.R_slice aj.out;subst bx;have ap:0≤((rd l1 aa):Int):=od q12_0;have aq:(rd l1 aa)<(ad.length:Int):=od q12_0;(try (obtain ⟨Aop_,cop_,eop_⟩:=Kd.R_slice aj.out;subst eop_));obtain ⟨a3,aA,a4⟩:=Kd.at_int (Kd.R_reads' aj.out).2.2 (rd l1 aa) ap aq;cases aA;replace ap:=eq_true ap;replace aq:=eq_true aq;obtain ⟨b4,b5,bz⟩:=Kd.R_slice af.out;subst bz;have aw:0≤((rd ad (rd l1 aa)):Int):=od q12_0;have ax:(rd ad (rd l1 aa))<(ai.length:Int):=od q12_0;(try (obtain ⟨Aop_,cop_,eop_⟩:=Kd.R_slice af.out;subst eop_));obtain ⟨bA,aN,aF⟩:=Kd.at_bool (Kd.R_reads' af.out).2.2 (rd ad (rd l1 aa)) aw ax;(try rw [← ba.out] at aF);cases aN;replace aw:=eq_true aw;replace ax:=eq_true ax;go_wp2
   go_ret
   exact ⟨ew,hq⟩
  subst c21;replace H:(if (rd l1 aa)<(ai.length:Int) then (spec_l09Growing.l0 k1 l1 ad (ai.set ((rd l1 aa):Int).toNat true) (wrap64 (aa+1))) else (none))=some r:=by rw [if_pos rfl] at H;exact H
  replace H:=ifs H;obtain ⟨c22,H⟩:=H;have b6:=dt c22;clear c22;obtain ⟨aO,hY⟩:∃ y_:List Bool,y_=(ai.set ((rd l1 aa):Int).toNat true):=⟨_,rfl⟩;replace H:(spec_l09Growing.l0 k1 l1 ad aO (wrap64 (aa+1)))=some r:=hh;have bB:=ak hY;clear hY;have H':=ak H;clear H;have al:0≤(aa:Int):=od q12_0;have an:aa<(l1.length:Int):=od q12_0;obtain ⟨aD,az,ao⟩:=Kd.at_int HR1.out aa al an;cases az;replace ao:=(HB.out.cell (World.block_lt_of_cell? w _ ao)).trans ao;replace al:=eq_true al;replace an:=eq_true an;obtain ⟨b7,b8,bC⟩:=Kd.R_slice aj.out;subst bC;have ap:0≤((rd l1 aa):Int):=od q12_0;have aq:(rd l1 aa)<(ad.length:Int):=od q12_0;(try (obtain ⟨Aop_,cop_,eop_⟩:=Kd.R_slice aj.out;subst eop_));obtain ⟨a3,aA,a4⟩:=Kd.at_int (Kd.R_reads' aj.out).2.2 (rd l1 aa) ap aq;cases aA;replace ap:=eq_true ap;replace aq:=eq_true aq;obtain ⟨b9,bd,bD⟩:=Kd.R_slice af.out;subst bD;have aw:0≤((rd ad (rd l1 aa)):Int):=od q12_0;have ax:(rd ad (rd l1 aa))<(ai.length:Int):=od q12_0;(try (obtain ⟨Aop_,cop_,eop_⟩:=Kd.R_slice af.out;subst eop_));obtain ⟨bA,aN,aF⟩:=Kd.at_bool (Kd.R_reads' af.out).2.2 (rd ad (rd l1 aa)) aw ax;(try rw [← ba.out] at aF);cases aN;replace aw:=eq_true aw;replace ax:=eq_true ax;have aP:0≤(aa:Int):=od q12_0;have aQ:aa<(l1.length:Int):=od q12_0;obtain ⟨bE,bF,aR⟩:=Kd.at_int HR1.out aa aP aQ;obtain rfl:aD=bE:=(by injection bF);replace aR:=(HB.out.cell (World.block_lt_of_cell? w _ aR)).trans aR;replace aP:=eq_true aP;replace aQ:=eq_true aQ;have p23:0≤((rd l1 aa):Int):=od q12_0;have q23:((rd l1 aa):Int)<((ai.length:Int):Int):=od q12_0;obtain ⟨aG,ca,bf,bg,gl23,cl23,bh⟩:=Kd.R_form af.out (by omega);(first|cases bf|(injection bf with ea_ en_ ec_;(first|subst ea_|(injection ea_ with ea_;subst ea_));subst ec_;clear en_));have GB23:=ak bg;have cb:=ak bh;clear bg gl23 bh;(first|simp only [add_plain] at aF|skip);obtain ⟨cc,cd⟩:=Kd.R_celln false af.out ((rd l1 aa):Int) p23 q23;replace p23:=eq_true p23;replace q23:=eq_true q23;have aS:=Kd.R_putg af.out ((rd l1 aa):Int) true
  go_wp2_with (first|((with_reducible refine gate_store (t:=4) (p:=41) rfl ?_);refine store_event (t:=4) (p:=41) (v:=?vo_w27) (w1:=(wr.setCell ⟨aG,((rd l1 aa):Int).toNat,none⟩ (.bool true))) ?hg ?ho ?hn ?hr ?_;(case ho=>rfl);(case hg=>rfl);(case hn=>rfl);(case hr=>exact gs);intro w27 hw;have hg:wr.grownBy w27 (some aG):=(by rw [hw];exact aS.2);have hp_:Kd.R Kd.bool 4 w27 w.heap.size (fun _=>True) (.slice (some ⟨aG,0,none⟩) ai.length bd) aO:=(by rw [hw,bB.out];exact aS.1);clear aS;replace aj:=ak (Kd.R_over' (v:=(.slice (some ⟨aG,0,none⟩) ai.length bd)) (pe aj.out) (Kd.R_typed af.out) dc hg);replace ac:=ak (blk_grown (g:=aC) (o:=.cells #[.slice A0_0 l0_0.length c0_0] 27 (0,0)) (pb ac.out) hg (Kd.R_ne af.out ac.out dc));replace af:=ak (hp_);replace HB:=ak (by rw [hw];exact below_set (HB.out) GB23.out:Below w.heap.size w w27);clear hg hw hp_))
  go_roundg k1
  case measure=>have:=HK1.out;omega
  case rel=>exact ⟨(aO),(wrap64 (aa+1)),(by first|rfl|(simp;done)|(simp [*];done)),H',⟨by have:=HK1.out;omega⟩,⟨pe aj.out⟩,⟨pe af.out⟩,⟨pb ac.out⟩,⟨hq⟩⟩
def spec_l09Code.f (k:Nat) (l0_0:List Int) (l1:List Int):Option (Int):=(spec_l01Is.f k l0_0).bind fun t536=>(if t536=true then ((spec_l09Order.f k l0_0 l1).bind fun t537=>(if t537=true then ((spec_l09Growing.f k l0_0 l1).bind fun t538=>(if t538=true then (some 0) else (some 5))) else (some 2))) else (some 1))
theorem spec_l09Code.calls (k:Nat) (A0_0:Option Addr) (c0_0:Nat) (l0_0:List Int) (A1:Option Addr) (c1:Nat) (l1:List Int) (r:Int) (w:World) (hr0_0:Kd.C (Kd.int .i64) w A0_0 l0_0.length l0_0) (hc0_0:l0_0.length≤c0_0) (hr1:Kd.C (Kd.int .i64) w A1 l1.length l1) (hc1:l1.length≤c1) (h:spec_l09Code.f k l0_0 l1=some r) :
  Calls Tryz.prog 78 #[.agg #[.slice A0_0 l0_0.length c0_0],.slice A1 l1.length c1] w fun e w'=>e=.returned (.int .i64 r)∧Below w.heap.size w w':=by
 have hu27:=Tryz.underlying27;have ag:=ak hr0_0;have ah:=ak hc0_0;clear hr0_0 hc0_0;have HR1:=ak hr1;have HC1:=ak hc1;clear hr1 hc1;have HB:=ak (Below.refl w.heap.size w);have H:((spec_l01Is.f k l0_0).bind fun aT=>(if aT=true then ((spec_l09Order.f k l0_0 l1).bind fun aB=>(if aB=true then ((spec_l09Growing.f k l0_0 l1).bind fun ay=>(if ay=true then (some 0) else (some 5))) else (some 2))) else (some 1)))=some r:=h;clear h;replace H:=bs H;obtain ⟨aT,A3,H⟩:=H;(try dsimp only at H);obtain c4|c4:=nem (aT=true)
 ·replace c4:=Bool.eq_false_iff.mpr c4;subst c4;have H1:(some 1)=some r:=by rw [if_neg (show ¬ (false=true) by decide)] at H;exact H
  clear H;have H:=H1;clear H1;obtain rfl:=Option.some.inj H
  go_enter Tryz.func78,Tryz.ntmps78
  go_wp2_with (first|((with_reducible refine gate_dst (N:=2) rfl ?_);refine bev (N:=2) (cs:=#[.slice A0_0 l0_0.length c0_0]) (t:=27) ?_;intro aU hg w28 hbox hb;have ab:=ak (hbox);have aV:=gbe hg;have aW:=gbe hg;replace HB:=hbs hb;clear hb hbox hg;have ce:=bc ab.out;have cf:=blk_frozen ab.out 0)|((with_reducible refine gate_callee (f:=95) rfl ?_);refine gl (some 7) Tryz.func95 #[.agg #[.slice A0_0 l0_0.length c0_0]] ?_;(with_reducible refine (spec_l01Is.calls k _ _ l0_0 false _ (pc (Kd.C_below ag.out HB.out)) ah.out A3.out).mono ?_);rintro e w30 ⟨rfl,hb⟩;refine ⟨_,rfl,?_⟩;replace ab:=bb ab hb;replace HB:=hbs hb;(try clear hb)))
  go_ret
  exact ⟨ew,hq⟩
 subst c4;replace H:((spec_l09Order.f k l0_0 l1).bind fun aB=>(if aB=true then ((spec_l09Growing.f k l0_0 l1).bind fun ay=>(if ay=true then (some 0) else (some 5))) else (some 2)))=some r:=by rw [if_pos rfl] at H;exact H
 replace H:=bs H;obtain ⟨aB,A5,H⟩:=H;(try dsimp only at H);obtain c6|c6:=nem (aB=true)
 ·replace c6:=Bool.eq_false_iff.mpr c6;subst c6;have H1:(some 2)=some r:=by rw [if_neg (show ¬ (false=true) by decide)] at H;exact H
  clear H;have H:=H1;clear H1;obtain rfl:=Option.some.inj H
  go_enter Tryz.func78,Tryz.ntmps78
  go_wp2_with (first|((with_reducible refine gate_dst (N:=2) rfl ?_);refine bev (N:=2) (cs:=#[.slice A0_0 l0_0.length c0_0]) (t:=27) ?_;intro aU hg w23 hbox hb;have ab:=ak (hbox);have aV:=gbe hg;have aW:=gbe hg;replace HB:=hbs hb;clear hb hbox hg;have cg:=bc ab.out;have ch:=blk_frozen ab.out 0)|((with_reducible refine gate_callee (f:=95) rfl ?_);refine gl (some 7) Tryz.func95 #[.agg #[.slice A0_0 l0_0.length c0_0]] ?_;(with_reducible refine (spec_l01Is.calls k _ _ l0_0 true _ (pc (Kd.C_below ag.out HB.out)) ah.out A3.out).mono ?_);rintro e w25 ⟨rfl,hb⟩;refine ⟨_,rfl,?_⟩;replace ab:=bb ab hb;replace HB:=hbs hb;(try clear hb);(try clear hb2);(try clear hk);(try clear hi);have ci:=bc ab.out;have cj:=blk_frozen ab.out 0)|((with_reducible refine gate_callee (f:=96) rfl ?_);refine gl (some 12) Tryz.func96 #[.agg #[.slice A0_0 l0_0.length c0_0],.slice A1 l1.length c1] ?_;(with_reducible refine (spec_l09Order.calls k _ _ l0_0 _ _ l1 false _ (pc (Kd.C_below ag.out HB.out)) ah.out (pc (Kd.C_below HR1.out HB.out)) HC1.out A5.out).mono ?_);rintro e w27 ⟨rfl,hb⟩;refine ⟨_,rfl,?_⟩;replace ab:=bb ab hb;replace HB:=hbs hb;(try clear hb)))
  go_ret
  exact ⟨ew,hq⟩
 subst c6;replace H:((spec_l09Growing.f k l0_0 l1).bind fun ay=>(if ay=true then (some 0) else (some 5)))=some r:=by rw [if_pos rfl] at H;exact H
 replace H:=bs H;obtain ⟨ay,A7,H⟩:=H;(try dsimp only at H)
 by_cases c8:ay=true
 ·subst c8;replace H:(some 0)=some r:=by rw [if_pos rfl] at H;exact H
  obtain rfl:=Option.some.inj H
  go_enter Tryz.func78,Tryz.ntmps78
  go_wp2_with (first|((with_reducible refine gate_dst (N:=2) rfl ?_);refine bev (N:=2) (cs:=#[.slice A0_0 l0_0.length c0_0]) (t:=27) ?_;intro aU hg w9 hbox hb;have ab:=ak (hbox);have aV:=gbe hg;have aW:=gbe hg;replace HB:=hbs hb;clear hb hbox hg;have ck:=bc ab.out;have cl:=blk_frozen ab.out 0)|((with_reducible refine gate_callee (f:=95) rfl ?_);refine gl (some 7) Tryz.func95 #[.agg #[.slice A0_0 l0_0.length c0_0]] ?_;(with_reducible refine (spec_l01Is.calls k _ _ l0_0 true _ (pc (Kd.C_below ag.out HB.out)) ah.out A3.out).mono ?_);rintro e w11 ⟨rfl,hb⟩;refine ⟨_,rfl,?_⟩;replace ab:=bb ab hb;replace HB:=hbs hb;(try clear hb);(try clear hb2);(try clear hk);(try clear hi);have bG:=bc ab.out;have bH:=blk_frozen ab.out 0)|((with_reducible refine gate_callee (f:=96) rfl ?_);refine gl (some 12) Tryz.func96 #[.agg #[.slice A0_0 l0_0.length c0_0],.slice A1 l1.length c1] ?_;(with_reducible refine (spec_l09Order.calls k _ _ l0_0 _ _ l1 true _ (pc (Kd.C_below ag.out HB.out)) ah.out (pc (Kd.C_below HR1.out HB.out)) HC1.out A5.out).mono ?_);rintro e w13 ⟨rfl,hb⟩;refine ⟨_,rfl,?_⟩;replace ab:=bb ab hb;replace HB:=hbs hb;(try clear hb);(try clear hb2);(try clear hk);(try clear hi);have bI:=bc ab.out;have bJ:=blk_frozen ab.out 0)|((with_reducible refine gate_callee (f:=97) rfl ?_);refine gl (some 17) Tryz.func97 #[.agg #[.slice A0_0 l0_0.length c0_0],.slice A1 l1.length c1] ?_;(with_reducible refine (spec_l09Growing.calls k _ _ l0_0 _ _ l1 true _ (pc (Kd.C_below ag.out HB.out)) ah.out (pc (Kd.C_below HR1.out HB.out)) HC1.out A7.out).mono ?_);rintro e w15 ⟨rfl,hb⟩;refine ⟨_,rfl,?_⟩;replace ab:=bb ab hb;replace HB:=hbs hb;(try clear hb)))
  go_ret
  exact ⟨ew,hq⟩
 replace c8:=Bool.eq_false_iff.mpr c8;subst c8;have H1:(some 5)=some r:=by rw [if_neg (show ¬ (false=true) by decide)] at H;exact H
 clear H;have H:=H1;clear H1;obtain rfl:=Option.some.inj H
 go_enter Tryz.func78,Tryz.ntmps78
 go_wp2_with (first|((with_reducible refine gate_dst (N:=2) rfl ?_);refine bev (N:=2) (cs:=#[.slice A0_0 l0_0.length c0_0]) (t:=27) ?_;intro aU hg w16 hbox hb;have ab:=ak (hbox);have aV:=gbe hg;have aW:=gbe hg;replace HB:=hbs hb;clear hb hbox hg;have bK:=bc ab.out;have bL:=blk_frozen ab.out 0)|((with_reducible refine gate_callee (f:=95) rfl ?_);refine gl (some 7) Tryz.func95 #[.agg #[.slice A0_0 l0_0.length c0_0]] ?_;(with_reducible refine (spec_l01Is.calls k _ _ l0_0 true _ (pc (Kd.C_below ag.out HB.out)) ah.out A3.out).mono ?_);rintro e w18 ⟨rfl,hb⟩;refine ⟨_,rfl,?_⟩;replace ab:=bb ab hb;replace HB:=hbs hb;(try clear hb);(try clear hb2);(try clear hk);(try clear hi);have cm:=bc ab.out;have cn:=blk_frozen ab.out 0)|((with_reducible refine gate_callee (f:=96) rfl ?_);refine gl (some 12) Tryz.func96 #[.agg #[.slice A0_0 l0_0.length c0_0],.slice A1 l1.length c1] ?_;(with_reducible refine (spec_l09Order.calls k _ _ l0_0 _ _ l1 true _ (pc (Kd.C_below ag.out HB.out)) ah.out (pc (Kd.C_below HR1.out HB.out)) HC1.out A5.out).mono ?_);rintro e w20 ⟨rfl,hb⟩;refine ⟨_,rfl,?_⟩;replace ab:=bb ab hb;replace HB:=hbs hb;(try clear hb);(try clear hb2);(try clear hk);(try clear hi);have co:=bc ab.out;have cp:=blk_frozen ab.out 0)|((with_reducible refine gate_callee (f:=97) rfl ?_);refine gl (some 17) Tryz.func97 #[.agg #[.slice A0_0 l0_0.length c0_0],.slice A1 l1.length c1] ?_;(with_reducible refine (spec_l09Growing.calls k _ _ l0_0 _ _ l1 false _ (pc (Kd.C_below ag.out HB.out)) ah.out (pc (Kd.C_below HR1.out HB.out)) HC1.out A7.out).mono ?_);rintro e w22 ⟨rfl,hb⟩;refine ⟨_,rfl,?_⟩;replace ab:=bb ab hb;replace HB:=hbs hb;(try clear hb)))
 go_ret
 exact ⟨ew,hq⟩
def spec_l09Few.f (k:Nat) (l0_0:List Int):Option (Int):=(spec_l01Is.f k l0_0).bind fun t540=>(if t540=true then ((spec_l01N.f l0_0).bind fun t541=>(if t541>20 then (some 3) else (some 0))) else (some 1))
theorem spec_l09Few.calls (k:Nat) (A0_0:Option Addr) (c0_0:Nat) (l0_0:List Int) (r:Int) (w:World) (hr0_0:Kd.C (Kd.int .i64) w A0_0 l0_0.length l0_0) (hc0_0:l0_0.length≤c0_0) (h:spec_l09Few.f k l0_0=some r) :
  Calls Tryz.prog 87 #[.agg #[.slice A0_0 l0_0.length c0_0]] w fun e w'=>e=.returned (.int .i64 r)∧Below w.heap.size w w':=by
 have hu27:=Tryz.underlying27;have ag:=ak hr0_0;have ah:=ak hc0_0;clear hr0_0 hc0_0;have HB:=ak (Below.refl w.heap.size w);have H:((spec_l01Is.f k l0_0).bind fun aX=>(if aX=true then ((spec_l01N.f l0_0).bind fun au=>(if au>20 then (some 3) else (some 0))) else (some 1)))=some r:=h;clear h;replace H:=bs H;obtain ⟨aX,A2,H⟩:=H;(try dsimp only at H);obtain c3|c3:=nem (aX=true)
 ·replace c3:=Bool.eq_false_iff.mpr c3;subst c3;have H1:(some 1)=some r:=by rw [if_neg (show ¬ (false=true) by decide)] at H;exact H
  clear H;have H:=H1;clear H1;obtain rfl:=Option.some.inj H
  go_enter Tryz.func87,Tryz.ntmps87
  go_wp2_with (first|((with_reducible refine gate_dst (N:=1) rfl ?_);refine bev (N:=1) (cs:=#[.slice A0_0 l0_0.length c0_0]) (t:=27) ?_;intro bi hg w16 hbox hb;have ae:=ak (hbox);have bj:=gbe hg;have bk:=gbe hg;replace HB:=hbs hb;clear hb hbox hg;have bK:=bc ae.out;have bL:=blk_frozen ae.out 0)|((with_reducible refine gate_callee (f:=95) rfl ?_);refine gl (some 5) Tryz.func95 #[.agg #[.slice A0_0 l0_0.length c0_0]] ?_;(with_reducible refine (spec_l01Is.calls k _ _ l0_0 false _ (pc (Kd.C_below ag.out HB.out)) ah.out A2.out).mono ?_);rintro e w18 ⟨rfl,hb⟩;refine ⟨_,rfl,?_⟩;replace ae:=bb ae hb;replace HB:=hbs hb;(try clear hb)))
  go_ret
  exact ⟨ew,hq⟩
 subst c3;replace H:((spec_l01N.f l0_0).bind fun au=>(if au>20 then (some 3) else (some 0)))=some r:=by rw [if_pos rfl] at H;exact H
 replace H:=bs H;obtain ⟨au,A4,H⟩:=H;(try dsimp only at H)
 by_cases c5:au>20
 ·rw [if_pos c5] at H;have aY:decide (20<au)=true:=decide_eq_true c5;clear c5;obtain rfl:=Option.some.inj H
  go_enter Tryz.func87,Tryz.ntmps87
  go_wp2_with (first|((with_reducible refine gate_dst (N:=1) rfl ?_);refine bev (N:=1) (cs:=#[.slice A0_0 l0_0.length c0_0]) (t:=27) ?_;intro bi hg w6 hbox hb;have ae:=ak (hbox);have bj:=gbe hg;have bk:=gbe hg;replace HB:=hbs hb;clear hb hbox hg;have cq:=bc ae.out;have cr:=blk_frozen ae.out 0)|((with_reducible refine gate_callee (f:=95) rfl ?_);refine gl (some 5) Tryz.func95 #[.agg #[.slice A0_0 l0_0.length c0_0]] ?_;(with_reducible refine (spec_l01Is.calls k _ _ l0_0 true _ (pc (Kd.C_below ag.out HB.out)) ah.out A2.out).mono ?_);rintro e w8 ⟨rfl,hb⟩;refine ⟨_,rfl,?_⟩;replace ae:=bb ae hb;replace HB:=hbs hb;(try clear hb);(try clear hb2);(try clear hk);(try clear hi);have ct:=bc ae.out;have cu:=blk_frozen ae.out 0)|((with_reducible refine gate_callee (f:=80) rfl ?_);refine gl (some 9) Tryz.func80 #[.agg #[.slice A0_0 l0_0.length c0_0]] ?_;(with_reducible refine (spec_l01N.calls _ _ l0_0 au _ (pc (Kd.C_below ag.out HB.out)) ah.out A4.out).mono ?_);rintro e w10 ⟨rfl,hb⟩;refine ⟨_,rfl,?_⟩;replace ae:=bb ae hb;replace HB:=hbs hb;(try clear hb)))
  go_ret
  exact ⟨ew,hq⟩
 rw [if_neg c5] at H;have aY:decide (20<au)=false:=decide_eq_false c5;clear c5;obtain rfl:=Option.some.inj H
 go_enter Tryz.func87,Tryz.ntmps87
 go_wp2_with (first|((with_reducible refine gate_dst (N:=1) rfl ?_);refine bev (N:=1) (cs:=#[.slice A0_0 l0_0.length c0_0]) (t:=27) ?_;intro bi hg w11 hbox hb;have ae:=ak (hbox);have bj:=gbe hg;have bk:=gbe hg;replace HB:=hbs hb;clear hb hbox hg;have bG:=bc ae.out;have bH:=blk_frozen ae.out 0)|((with_reducible refine gate_callee (f:=95) rfl ?_);refine gl (some 5) Tryz.func95 #[.agg #[.slice A0_0 l0_0.length c0_0]] ?_;(with_reducible refine (spec_l01Is.calls k _ _ l0_0 true _ (pc (Kd.C_below ag.out HB.out)) ah.out A2.out).mono ?_);rintro e w13 ⟨rfl,hb⟩;refine ⟨_,rfl,?_⟩;replace ae:=bb ae hb;replace HB:=hbs hb;(try clear hb);(try clear hb2);(try clear hk);(try clear hi);have bI:=bc ae.out;have bJ:=blk_frozen ae.out 0)|((with_reducible refine gate_callee (f:=80) rfl ?_);refine gl (some 9) Tryz.func80 #[.agg #[.slice A0_0 l0_0.length c0_0]] ?_;(with_reducible refine (spec_l01N.calls _ _ l0_0 au _ (pc (Kd.C_below ag.out HB.out)) ah.out A4.out).mono ?_);rintro e w15 ⟨rfl,hb⟩;refine ⟨_,rfl,?_⟩;replace ae:=bb ae hb;replace HB:=hbs hb;(try clear hb)))
 go_ret
 exact ⟨ew,hq⟩
end Go.Proofs.YtlppkilencpmeaaGreat.QFnGrowing
