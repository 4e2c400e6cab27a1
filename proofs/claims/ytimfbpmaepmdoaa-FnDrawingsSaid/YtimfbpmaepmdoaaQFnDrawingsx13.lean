/- Functions as Lean functions, with their contracts: written by a program of this claim over the translation; some contracts are proved by hand. -/
import Derived.Test.YtimfbpmaepmdoaaQFnDrawingsx0
import Derived.Test.YtimfbpmaepmdoaaQFnDrawingsx6
namespace Go.Proofs.Ytimfbpmaepmdoaa.QFnDrawings
open Go.RowKit Go.Proofs.Ytimfbpmaepmdoaa.Gl Go.Proofs.Ytimfbpmaepmdoaa.Sz Go.Proofs.YtimfbpmaepmdoaaW.PrintWords Go.Proofs.YtimfbpmaepmdoaaW.PrintLast Go.Proofs.YtimfbpmaepmdoaaW.PrintMore
attribute [local go_sem] max2_int min2_int max_two min_two max_three min_three max_four min_four   -- for this text's walks alone
set_option linter.unusedVariables false
set_option linter.unusedSimpArgs false
theorem q13_0 {P:Prop} (h:P:=by first|(with_reducible assumption)|assumption):P:=h
theorem q13_1 {P:Prop} (h:P:=by first|rfl|(simp;done)|(simp [*];done)):P:=h
set_option maxHeartbeats 8000000
set_option maxRecDepth 100000
mutual
def impl_even.l0:Nat→List Int→List Int→Int→List Int→Int→Int→Option (List Int)
 | 0,_,_,_,_,_,_=>none
 | k+1,x0,x3,x4,x12,x13,x14=>if x14<x13 then (if 0≤x14 then (if x14<(x12.length:Int) then (if (rd x12 x14)=0 then (if x14<(x3.length:Int) then (impl_even.l0 k x0 (x3.set (x14:Int).toNat x4) (wrap64 (x4+2)) x12 x13 (wrap64 (x14+1))) else (none)) else (impl_even.l0 k x0 x3 x4 x12 x13 (wrap64 (x14+1)))) else (none)) else (none)) else (impl_even.l1 k x0 x3 (wrap64 ((x0.length:Int) - 1)))
def impl_even.l1:Nat→List Int→List Int→Int→Option (List Int)
 | 0,_,_,_=>none
 | k+1,x0,x3,x7=>if x7≥0 then ((impl_kidsOf.f k x0 x7).bind fun t551=>(if (t551.length:Int)>0 then (if 0<(t551.length:Int) then (if 0≤(rd t551 0) then (if (rd t551 0)<(x3.length:Int) then (if 0≤(wrap64 ((t551.length:Int) - 1)) then (if (wrap64 ((t551.length:Int) - 1))<(t551.length:Int) then (if 0≤(rd t551 (wrap64 ((t551.length:Int) - 1))) then (if (rd t551 (wrap64 ((t551.length:Int) - 1)))<(x3.length:Int) then (if 0≤x7 then (if x7<(x3.length:Int) then (impl_even.l1 k x0 (x3.set (x7:Int).toNat ((wrap64 ((rd x3 (rd t551 0))+(rd x3 (rd t551 (wrap64 ((t551.length:Int) - 1)))))) / 2)) (wrap64 (x7 - 1))) else (none)) else (none)) else (none)) else (none)) else (none)) else (none)) else (none)) else (none)) else (none)) else (impl_even.l1 k x0 x3 (wrap64 (x7 - 1))))) else (some x3)
end
def impl_even.f (k:Nat) (l0:List Int):Option (List Int):=if 0≤(l0.length:Int) then (if ((l0.length:Int):Int).toNat≤35184372088832 then (impl_even.l0 k l0 (List.replicate ((l0.length:Int):Int).toNat 0) 0 l0 (l0.length:Int) 0) else (none)) else (none)
def impl_even.T15:Bool × List (List Nat × List Nat):=(true,[([],[]),([],[]),([],[]),([],[]),([3],[3]),([4],[4]),([2,5],[2,5]),([6],[6]),([],[]),([],[]),([],[]),([10],[10]),([11],[11]),([9,12],[9,12]),([13],[13]),([8,14],[8,14]),([15],[15]),([7,16],[7,16]),([17],[17]),([0,1,0,1,2,3,4,5,6,7,8,9,10,11,12,13,14,15,16,17,18],[0,1]),([19,18,0,1,2,3,4,5,6,7,8,9,10,11,12,13,14,15,16,17,18],[18,19])])
def impl_even.B15:List Nat:=[0,0,0,0,8,24,60,124,0,0,0,1024,3072,7680,15872,32512,65280,131068,262140,524287,1048575]
theorem impl_even.tab15:rtab .any (opsOf Try.f38 15)=impl_even.T15:=by kernel_rfl
theorem impl_even.bits15:waitsOk impl_even.T15.2 impl_even.B15=true:=by kernel_rfl
theorem impl_even.calls (k:Nat) (A0:Option Addr) (c0:Nat) (l0:List Int) (r:List Int) (w:World) (hr0:Kd.C (Kd.int .i64) w A0 l0.length l0) (hc0:l0.length≤c0) (h:impl_even.f k l0=some r) :
  Calls Try.prog 38 #[.slice A0 l0.length c0] w fun e w'=>∃ v0_:Value,e=.returned (v0_)∧Kd.R (Kd.int .i64) 2 w' w.heap.size (fun _=>True) v0_ r∧Below w.heap.size w w':=by
 have HR0:=ak hr0;have HC0:=ak hc0;clear hr0 hc0;have HB:=ak (Below.refl w.heap.size w);have H:(if 0≤(l0.length:Int) then (if ((l0.length:Int):Int).toNat≤35184372088832 then (impl_even.l0 k l0 (List.replicate ((l0.length:Int):Int).toNat 0) 0 l0 (l0.length:Int) 0) else (none)) else (none))=some r:=h;clear h;replace H:=ifs H;obtain ⟨c2,H⟩:=H;have bB:=eq_true c2;have bC:decide (0≤(l0.length:Int))=true:=decide_eq_true c2;clear c2;replace H:=ifs H;obtain ⟨c3,H⟩:=H;have bD:=eq_true c3;have bE:decide (((l0.length:Int):Int).toNat≤35184372088832)=true:=decide_eq_true c3;clear c3;obtain ⟨aN,hY⟩:∃ y_:List Int,y_=(List.replicate ((l0.length:Int):Int).toNat 0):=⟨_,rfl⟩;replace H:(impl_even.l0 k l0 aN 0 l0 (l0.length:Int) 0)=some r:=hh;have aO:=ak hY;clear hY;have H':=ak H;clear H
 go_enter Try.func38,Try.ntmps38
 go_wp2_with (first|((with_reducible refine gate_dst (N:=11) rfl ?_);refine Kd.R_make (Kd.int .i64) _ 2 rfl (N:=11) rfl 22 _ _ rfl (l0.length:Int) rfl rfl Try.underlying22 (.int .i64 0) 8 info2 rfl dc (by omega) 0 (ok:=fun _=>True) (okp:=fun _=>True) rfl (fun _ hk=>hk) trivial (od q13_0) (Nat.le_trans (Nat.mul_le_mul_right _ (od q13_0:(l0.length:Int).toNat≤35184372088832)) (by omega)) (Below.refl _ _) (Nat.le_refl _) ?_;intro aP w4 ho5 hb hg_ hnew_;clear hg_ hnew_;(first|rw [← aO.out] at ho5|(simp only [Int.reduceToNat] at ho5;rw [← aO.out] at ho5));have a2:=lw ho5;replace HB:=hbs hb;clear hb ho5))
 go_loopg [4,14] k (fun kq v4 v14 w'=>∃ (aj:List Int) (ah:Int) (ac:Int),v4=.int .i64 ah∧v14=.int .i64 ac∧Aside0 (impl_even.l0 kq l0 aj ah l0 (l0.length:Int) ac=some r)∧Aside0 (kq≤k)∧Aside0 (Kd.R (Kd.int .i64) 2 w' w.heap.size (fun _=>True) aP aj)∧Aside0 (Below w.heap.size w w'))
 case atStart=>exact ⟨(aN),(0),(0),q13_1,q13_1,H',⟨Nat.le_refl _⟩,⟨pe a2.out⟩,⟨hq⟩⟩
 case round =>
  clear H';obtain ⟨aj,ah,ac,rfl,rfl,HA,HK1,ab,HB⟩:=hrel
  cases gk with|zero=>exact absurd HA.out (by simp [impl_even.l0])|succ k1=>?_
  have H:=HA.out;clear HA;simp only [impl_even.l0] at H
  by_cases c6:ac<(l0.length:Int)
  ·rw [if_pos c6] at H;have a3:=dt c6;clear c6;replace H:=ifs H;obtain ⟨c7,H⟩:=H;have bF:=dt c7;clear c7;replace H:=ifs H;obtain ⟨c8,H⟩:=H;have bG:=dt c8;clear c8;obtain c9|c9:=nem ((rd l0 ac)=0)
   ·rw [if_neg c9] at H;have a4:((rd l0 ac) == 0)=false:=beq_eq_false_iff_ne.mpr c9;have a5:((rd l0 ac) != 0)=true:=bne_iff_ne.mpr c9;have H':=ak H;clear H;have al:0≤(ac:Int):=od q13_0;have an:ac<(l0.length:Int):=od q13_0;obtain ⟨a6,au,ao⟩:=Kd.at_int HR0.out ac al an;cases au;replace ao:=(HB.out.cell (World.block_lt_of_cell? w _ ao)).trans ao;replace al:=eq_true al;replace an:=eq_true an;go_wp2
    go_roundg k1
    case measure=>have:=HK1.out;omega
    case rel=>exact ⟨(aj),(ah),(wrap64 (ac+1)),q13_1,q13_1,H',⟨by have:=HK1.out;omega⟩,⟨pe ab.out⟩,⟨hq⟩⟩
   rw [if_pos c9] at H;have a4:((rd l0 ac) == 0)=true:=beq_iff_eq.mpr c9;have a5:((rd l0 ac) != 0)=false:=bne_eq_false_iff_eq.mpr c9;clear c9;replace H:=ifs H;obtain ⟨c10,H⟩:=H;have bH:=dt c10;clear c10;obtain ⟨av,hY⟩:∃ y_:List Int,y_=(aj.set (ac:Int).toNat ah):=⟨_,rfl⟩;replace H:(impl_even.l0 k1 l0 av (wrap64 (ah+2)) l0 (l0.length:Int) (wrap64 (ac+1)))=some r:=hh;have a7:=ak hY;clear hY;have H':=ak H;clear H;have al:0≤(ac:Int):=od q13_0;have an:ac<(l0.length:Int):=od q13_0;obtain ⟨a6,au,ao⟩:=Kd.at_int HR0.out ac al an;cases au;replace ao:=(HB.out.cell (World.block_lt_of_cell? w _ ao)).trans ao;replace al:=eq_true al;replace an:=eq_true an;have p11:0≤(ac:Int):=od q13_0;have q11:(ac:Int)<((aj.length:Int):Int):=od q13_0;obtain ⟨aw,a8,aQ,aR,gl11,cl11,aS⟩:=Kd.R_form ab.out (by omega);(first|cases aQ|(injection aQ with ea_ en_ ec_;(first|subst ea_|(injection ea_ with ea_;subst ea_));subst ec_;clear en_));have GB11:=ak aR;have bI:=ak aS;clear aR gl11 aS;obtain ⟨bJ,bK⟩:=Kd.R_celln 0 ab.out (ac:Int) p11 q11;replace p11:=eq_true p11;replace q11:=eq_true q11;have ax:=Kd.R_putg ab.out (ac:Int) ah
   go_wp2_with (first|((with_reducible refine gate_store (t:=2) (p:=24) rfl ?_);refine store_event (t:=2) (p:=24) (v:=?vo_w13) (w1:=(wr.setCell ⟨aw,(ac:Int).toNat,none⟩ (.int .i64 ah))) ?hg ?ho ?hn ?hr ?_;(case ho=>rfl);(case hg=>rfl);(case hn=>rfl);(case hr=>exact gs);intro w13 hw;have hg:wr.grownBy w13 (some aw):=(by rw [hw];exact ax.2);have hp_:Kd.R (Kd.int .i64) 2 w13 w.heap.size (fun _=>True) (.slice (some ⟨aw,0,none⟩) aj.length a8) av:=(by rw [hw,a7.out];exact ax.1);clear ax;replace ab:=ak (hp_);replace HB:=ak (by rw [hw];exact below_set (HB.out) GB11.out:Below w.heap.size w w13);clear hg hw hp_))
   go_roundg k1
   case measure=>have:=HK1.out;omega
   case rel=>exact ⟨(av),(wrap64 (ah+2)),(wrap64 (ac+1)),q13_1,q13_1,H',⟨by have:=HK1.out;omega⟩,⟨pe ab.out⟩,⟨hq⟩⟩
  rw [if_neg c6] at H;have a3:=df c6;clear c6;have H':=ak H;clear H;go_wp2
  go_loopg [7] k1 (fun kq v7 w'=>∃ (ae:List Int) (ad:Int),v7=.int .i64 ad∧Aside0 (impl_even.l1 kq l0 ae ad=some r)∧Aside0 (kq≤k1)∧Aside0 (Kd.R (Kd.int .i64) 2 w' w.heap.size (fun _=>True) aP ae)∧Aside0 (Below w.heap.size w w'))
  case atStart=>exact ⟨(aj),(wrap64 ((l0.length:Int) - 1)),q13_1,H',⟨Nat.le_refl _⟩,⟨pe ab.out⟩,⟨hq⟩⟩
  case round =>
   clear H';obtain ⟨ae,ad,rfl,HA,HK2,ab,HB⟩:=hrel
   cases gk with|zero=>exact absurd HA.out (by simp [impl_even.l1])|succ k2=>?_
   have H:=HA.out;clear HA;simp only [impl_even.l1] at H;obtain c14|c14:=nem (ad≥0)
   ·rw [if_neg c14] at H;have a9:decide (0≤ad)=false:=decide_eq_false c14;clear c14;obtain rfl:=Option.some.inj H;go_wp2
    go_ret
    exact ⟨_,ew,pe ab.out,hq⟩
   rw [if_pos c14] at H;have a9:decide (0≤ad)=true:=decide_eq_true c14;clear c14;replace H:=bs H;obtain ⟨aa,A15,H⟩:=H;(try dsimp only at H);obtain c16|c16:=nem ((aa.length:Int)>0)
   ·rw [if_neg c16] at H;have ba:decide (0<(aa.length:Int))=false:=decide_eq_false c16;have bd:decide (0<aa.length)=false:=decide_eq_false (by omega);clear c16;have H':=ak H;clear H
    go_wp2_with (first|((with_reducible refine gate_callee (f:=58) rfl ?_);refine gl (some 37) Try.func58 #[.slice A0 l0.length c0,.int .i64 ad] ?_;(with_reducible refine (impl_kidsOf.calls k2 _ _ l0 ad aa _ (pc (Kd.C_below HR0.out HB.out)) HC0.out A15.out).mono ?_);rintro e w33 ⟨bf,rfl,ho0,hb⟩;refine ⟨_,rfl,?_⟩;have ai:=lw (nw ho0 ab);replace ab:=rn ab ho0 hb;replace HB:=hbs hb;(try clear hb);(try clear hb2);(try clear hk);(try clear hi);(try clear ho0);obtain ⟨bL,bM,bg⟩:=Kd.R_slice ai.out;subst bg))
    go_roundg k2
    case measure=>have:=HK1.out;have:=HK2.out;omega
    case rel=>exact ⟨(ae),(wrap64 (ad - 1)),q13_1,H',⟨by have:=HK1.out;have:=HK2.out;omega⟩,⟨pe (Kd.R_mono ab.out (fun _ hk=>trivial))⟩,⟨hq⟩⟩
   rw [if_pos c16] at H;have ba:decide (0<(aa.length:Int))=true:=decide_eq_true c16;have bd:decide (0<aa.length)=true:=decide_eq_true (by omega);clear c16;replace H:=ifs H;obtain ⟨c17,H⟩:=H;have bN:=dt c17;have bO:decide (0<aa.length)=true:=decide_eq_true (by omega);clear c17;replace H:=ifs H;obtain ⟨c18,H⟩:=H;have bP:=dt c18;clear c18;replace H:=ifs H;obtain ⟨c19,H⟩:=H;have bQ:=dt c19;clear c19;obtain ⟨af,aq⟩:∃ j_:Int,(wrap64 ((aa.length:Int) - 1))=j_:=⟨_,rfl⟩;(first|rw [aq] at H|simp only [aq] at H);(try rw [aq] at A15);have hji20w:(IntKind.i64.wrap ((aa.length:Int) - 1))=af:=(i64_w _).trans aq;replace H:=ifs H;obtain ⟨c21,H⟩:=H;have bR:=dt c21;clear c21;replace H:=ifs H;obtain ⟨c22,H⟩:=H;have bS:=dt c22;clear c22;replace H:=ifs H;obtain ⟨c23,H⟩:=H;have bT:=dt c23;clear c23;replace H:=ifs H;obtain ⟨c24,H⟩:=H;have bU:=dt c24;clear c24;replace H:=ifs H;obtain ⟨c25,H⟩:=H;have bV:=dt c25;clear c25;replace H:=ifs H;obtain ⟨c26,H⟩:=H;have bW:=dt c26;clear c26;obtain ⟨aT,hY⟩:∃ y_:List Int,y_=(ae.set (ad:Int).toNat ((wrap64 ((rd ae (rd aa 0))+(rd ae (rd aa (af))))) / 2)):=⟨_,rfl⟩;replace H:(impl_even.l1 k2 l0 aT (wrap64 (ad - 1)))=some r:=hh;have bh:=ak hY;clear hY;have H':=ak H;clear H
   try go_wp2_with (first|((with_reducible refine gate_callee (f:=58) rfl ?_);refine gl (some 37) Try.func58 #[.slice A0 l0.length c0,.int .i64 ad] ?_;(with_reducible refine (impl_kidsOf.calls k2 _ _ l0 ad aa _ (pc (Kd.C_below HR0.out HB.out)) HC0.out A15.out).mono ?_);rintro e w28 ⟨bf,rfl,ho0,hb⟩;refine ⟨_,rfl,?_⟩;have ai:=lw (nw ho0 ab);replace ab:=rn ab ho0 hb;replace HB:=hbs hb;(try clear hb);(try clear hb2);(try clear hk);(try clear hi);(try clear ho0);obtain ⟨bX,bY,bi⟩:=Kd.R_slice ai.out;subst bi))
   have n0_:=ak (Kd.R_drew ab.out);have n1_:=ak (Kd.R_drew ai.out);have n2_:=ak (below_drew1 HB.out);clear ab ai HB;have ab:=n0_;have ai:=n1_;have HB:=n2_;clear n0_ n1_ n2_;have ay:0≤(0:Int):=(by omega);have az:0<(aa.length:Int):=od q13_0;obtain ⟨aA,bj,ar⟩:=Kd.at_int (Kd.R_reads' ai.out).2.2 0 ay az;cases bj;have qi554:(0<aa.length)=True:=eq_true (by omega);(try rw [show (0:Int).toNat=0 from rfl] at ar);(try rw [Addr.add_zero'] at ar);replace ay:=eq_true ay;replace az:=eq_true az;obtain ⟨bZ,b0,aU⟩:=Kd.R_slice ab.out;(first|subst aU|(injection aU with f1_ f2_ f3_;have f4_:=f1_.symm;have f5_:=f3_.symm;clear f1_ f2_ f3_;subst f4_;subst f5_));have aB:0≤((rd aa 0):Int):=od q13_0;have aC:(rd aa 0)<(ae.length:Int):=od q13_0;(try (obtain ⟨Aop_,cop_,eop_⟩:=Kd.R_slice ab.out;subst eop_));obtain ⟨bk,bl,aD⟩:=Kd.at_int (Kd.R_reads' ab.out).2.2 (rd aa 0) aB aC;cases bl;replace aB:=eq_true aB;replace aC:=eq_true aC;have aE:0≤((af):Int):=od q13_0;have aF:(af)<(aa.length:Int):=od q13_0;obtain ⟨bm,bo,aV⟩:=Kd.at_int (Kd.R_reads' ai.out).2.2 (af) aE aF;obtain rfl:aA=bm:=(by injection bo);replace aE:=eq_true aE;replace aF:=eq_true aF;have aG:0≤((rd aa (af)):Int):=od q13_0;have aH:(rd aa (af))<(ae.length:Int):=od q13_0;(try (obtain ⟨Aop_,cop_,eop_⟩:=Kd.R_slice ab.out;subst eop_));obtain ⟨bp,bq,aI⟩:=Kd.at_int (Kd.R_reads' ab.out).2.2 (rd aa (af)) aG aH;obtain rfl:bk=bp:=(by injection bq);replace aG:=eq_true aG;replace aH:=eq_true aH;have p27:0≤(ad:Int):=od q13_0;have q27:(ad:Int)<((ae.length:Int):Int):=od q13_0;obtain ⟨aW,b1,aX,aY,gl27,cl27,aZ⟩:=Kd.R_form ab.out (by omega);(first|cases aX|(injection aX with ea_ en_ ec_;(first|subst ea_|(injection ea_ with ea_;subst ea_));subst ec_;clear en_));have GB27:=ak aY;have br:=ak aZ;clear aY gl27 aZ;(first|simp only [add_plain] at aD|skip);(first|simp only [add_plain] at aI|skip);obtain ⟨bu,bv⟩:=Kd.R_celln 0 ab.out (ad:Int) p27 q27;replace p27:=eq_true p27;replace q27:=eq_true q27;have aJ:=Kd.R_putn ab.out (ad:Int) ((wrap64 ((rd ae (rd aa 0))+(rd ae (rd aa (af))))) / 2);rw [← bh.out] at aJ;have a1:=ak aJ;clear aJ
   refine start_ (n:=21) (S:=fun w'=>w'.cell? aA=some (.int .i64 (rd aa 0))∧w'.cell? ⟨aW,(rd aa 0).toNat,none⟩=some (.int .i64 (rd ae (rd aa 0)))∧w'.cell? (aA.add (af).toNat)=some (.int .i64 (rd aa (af)))∧w'.cell? ⟨aW,(rd aa (af)).toNat,none⟩=some (.int .i64 (rd ae (rd aa (af))))) (ds:=[20]) #[false,false,false,false,false,false,false,false,false,false,false,false,false,false,false,false,false,false,false,false,false] kr rfl rfl ⟨ar,aD,aV,aI⟩ (fun hHeld=>?_);refine with_tabW impl_even.tab15 impl_even.bits15 (fun HT_ HW_=>?_)
   generalize w28.drew=w30 at ab ai HB br a1 bv bu ar aD aV aI hHeld ⊢
   refine pur (i:=0) (N:=some 41) (v:=?_) (a':=?_) (tf 1 20) rfl (Or.inl ⟨by rfl,?_⟩) ?_ ?_
   rotate_left
   ·intro w'
    go_simp
    with_reducible rfl
   rotate_left
   ·simp only [Act.put,sIB,sc0,scs,i64_w,i32_w]
    rfl
   refine pur (i:=1) (N:=some 42) (v:=?_) (a':=?_) (tf 2 19) rfl (Or.inl ⟨by rfl,?_⟩) ?_ ?_
   rotate_left
   ·intro w'
    go_simp
    with_reducible rfl
   rotate_left
   ·simp only [Act.put,sIB,sc0,scs,i64_w,i32_w]
    rfl
   refine pur (i:=2) (N:=some 43) (v:=?_) (a':=?_) (tf 3 18) rfl (Or.inl ⟨by rfl,?_⟩) ?_ ?_
   rotate_left
   ·intro w'
    go_simp
    with_reducible rfl
   rotate_left
   ·simp only [Act.put,sIB,sc0,scs,i64_w,i32_w]
    rfl
   refine pur (i:=3) (N:=some 44) (v:=?_) (a':=?_) (tf 4 17) rfl (Or.inl ⟨by rfl,?_⟩) ?_ ?_
   rotate_left
   ·intro w'
    go_simp
    with_reducible rfl
   rotate_left
   ·simp only [Act.put,sIB,sc0,scs,i64_w,i32_w]
    rfl
   refine pur (i:=4) (N:=some 45) (v:=?_) (a':=?_) (tf 5 16) rfl (Or.inl ⟨by rfl,?_⟩) ?_ ?_
   rotate_left
   ·intro w'
    go_simp
    with_reducible rfl
   rotate_left
   ·simp only [Act.put,sIB,sc0,scs,i64_w,i32_w]
    rfl
   refine pur (i:=8) (N:=some 49) (v:=?_) (a':=?_) #[true,true,true,true,true,false,false,false,true,false,false,false,false,false,false,false,false,false,false,false,false] rfl (Or.inl ⟨by rfl,?_⟩) ?_ ?_
   rotate_left
   ·intro w'
    go_simp
    with_reducible rfl
   rotate_left
   ·simp only [Act.put,sIB,sc0,scs,i64_w,i32_w]
    rfl
   refine pur (i:=9) (N:=some 50) (v:=?_) (a':=?_) #[true,true,true,true,true,false,false,false,true,true,false,false,false,false,false,false,false,false,false,false,false] rfl (Or.inl ⟨by rfl,?_⟩) ?_ ?_
   rotate_left
   ·intro w'
    go_simp
    with_reducible rfl
   rotate_left
   ·simp only [Act.put,sIB,sc0,scs,i64_w,i32_w]
    rfl
   refine pur (i:=10) (N:=some 51) (v:=?_) (a':=?_) #[true,true,true,true,true,false,false,false,true,true,true,false,false,false,false,false,false,false,false,false,false] rfl (Or.inl ⟨by rfl,?_⟩) ?_ ?_
   rotate_left
   ·intro w'
    go_simp
    with_reducible rfl
   rotate_left
   ·simp only [Act.put,sIB,sc0,scs,i64_w,i32_w]
    rfl
   refine pur (i:=11) (N:=some 52) (v:=?_) (a':=?_) #[true,true,true,true,true,false,false,false,true,true,true,true,false,false,false,false,false,false,false,false,false] rfl (Or.inl ⟨by rfl,?_⟩) ?_ ?_
   rotate_left
   ·intro w'
    go_simp
    with_reducible rfl
   rotate_left
   ·simp only [Act.put,sIB,sc0,scs,i64_w,i32_w]
    rfl
   refine pur (i:=12) (N:=some 53) (v:=?_) (a':=?_) #[true,true,true,true,true,false,false,false,true,true,true,true,true,false,false,false,false,false,false,false,false] rfl (Or.inl ⟨by rfl,?_⟩) ?_ ?_
   rotate_left
   ·intro w'
    go_simp
    with_reducible rfl
   rotate_left
   ·simp only [Act.put,sIB,sc0,scs,i64_w,i32_w]
    rfl
   refine pur (i:=13) (N:=some 54) (v:=?_) (a':=?_) #[true,true,true,true,true,false,false,false,true,true,true,true,true,true,false,false,false,false,false,false,false] rfl (Or.inl ⟨by rfl,?_⟩) ?_ ?_
   rotate_left
   ·intro w'
    go_simp
    with_reducible rfl
   rotate_left
   ·simp only [Act.put,sIB,sc0,scs,i64_w,i32_w]
    rfl
   refine take_ (i:=5) (N:=some 46) (v:=?_) (a':=?_) #[true,true,true,true,true,true,false,false,true,true,true,true,true,true,false,false,false,false,false,false,false] rfl rfl (take_ofW HT_.out HW_.out kr) (fun _ _ _ h=>h) (Or.inl ⟨by rfl,?_⟩) hHeld ?_ ?_
   rotate_left
   ·rintro w' ⟨s0,s1,s2,s3⟩
    go_simp
    with_reducible rfl
   rotate_left
   ·simp only [Act.put,sIB,sc0,scs,i64_w,i32_w]
    rfl
   refine pur (i:=6) (N:=some 47) (v:=?_) (a':=?_) #[true,true,true,true,true,true,true,false,true,true,true,true,true,true,false,false,false,false,false,false,false] rfl (Or.inl ⟨by rfl,?_⟩) ?_ ?_
   rotate_left
   ·intro w'
    go_simp
    with_reducible rfl
   rotate_left
   ·simp only [Act.put,sIB,sc0,scs,i64_w,i32_w]
    rfl
   refine take_ (i:=7) (N:=some 48) (v:=?_) (a':=?_) (tf 14 7) rfl rfl (take_ofW HT_.out HW_.out kr) (fun _ _ _ h=>h) (Or.inl ⟨by rfl,?_⟩) hHeld ?_ ?_
   rotate_left
   ·rintro w' ⟨s0,s1,s2,s3⟩
    go_simp
    with_reducible rfl
   rotate_left
   ·simp only [Act.put,sIB,sc0,scs,i64_w,i32_w]
    rfl
   refine take_ (i:=14) (N:=some 55) (v:=?_) (a':=?_) (tf 15 6) rfl rfl (take_ofW HT_.out HW_.out kr) (fun _ _ _ h=>h) (Or.inl ⟨by rfl,?_⟩) hHeld ?_ ?_
   rotate_left
   ·rintro w' ⟨s0,s1,s2,s3⟩
    go_simp
    with_reducible rfl
   rotate_left
   ·simp only [Act.put,sIB,sc0,scs,i64_w,i32_w]
    rfl
   refine pur (i:=15) (N:=some 56) (v:=?_) (a':=?_) (tf 16 5) rfl (Or.inl ⟨by rfl,?_⟩) ?_ ?_
   rotate_left
   ·intro w'
    go_simp
    with_reducible rfl
   rotate_left
   ·simp only [Act.put,sIB,sc0,scs,i64_w,i32_w]
    rfl
   refine take_ (i:=16) (N:=some 57) (v:=?_) (a':=?_) (tf 17 4) rfl rfl (take_ofW HT_.out HW_.out kr) (fun _ _ _ h=>h) (Or.inl ⟨by rfl,?_⟩) hHeld ?_ ?_
   rotate_left
   ·rintro w' ⟨s0,s1,s2,s3⟩
    go_simp
    with_reducible rfl
   rotate_left
   ·simp only [Act.put,sIB,sc0,scs,i64_w,i32_w]
    rfl
   refine pur (i:=17) (N:=some 58) (v:=?_) (a':=?_) (tf 18 3) rfl (Or.inl ⟨by rfl,?_⟩) ?_ ?_
   rotate_left
   ·intro w'
    go_simp
    with_reducible rfl
   rotate_left
   ·simp only [Act.put,sIB,sc0,scs,i64_w,i32_w]
    rfl
   refine pur (i:=18) (N:=some 59) (v:=?_) (a':=?_) (tf 19 2) rfl (Or.inl ⟨by rfl,?_⟩) ?_ ?_
   rotate_left
   ·intro w'
    go_simp
    with_reducible rfl
   rotate_left
   ·simp only [Act.put,sIB,sc0,scs,i64_w,i32_w]
    rfl
   refine pur (i:=19) (N:=some 60) (v:=?_) (a':=?_) (tf 20 1) rfl (Or.inl ⟨by rfl,?_⟩) ?_ ?_
   rotate_left
   ·intro w'
    go_simp
    with_reducible rfl
   rotate_left
   ·simp only [Act.put,sIB,sc0,scs,i64_w,i32_w]
    rfl
   refine last_ (i:=20) (N:=none) #[true,true,true,true,true,true,true,true,true,true,true,true,true,true,true,true,true,true,true,true,true] rfl rfl (one_of HT_.out kr) dc (fun K hK=>?_)
   refine skip_ (w1:=?_) (by rfl) rfl ?_ ?_
   rotate_left
   ·go_simp
    rfl
   refine hK.out _ _ ?_
   clear hK K
   refine done_ (done_of HT_.out kr) ?_
   try go_wp2
   go_roundg k2
   case measure=>have:=HK1.out;have:=HK2.out;omega
   case rel=>exact ⟨(aT),(wrap64 (ad - 1)),q13_1,H',⟨by have:=HK1.out;have:=HK2.out;omega⟩,⟨pe (Kd.R_mono a1.out (fun _ hk=>trivial))⟩,⟨by repeat (first|(with_reducible first|exact HB.out|apply below_alloc|apply pw_below_drewN|apply below_drew1|refine below_set ?_ GB27.out)|exact HB.out)⟩⟩
def impl_EvenColumns.f (k:Nat) (l0_0:List Int):Option (List Int × Int):=(impl_IsTree.f k l0_0).bind fun t560=>(if t560=true then ((impl_even.f k l0_0).bind fun t561=>(some (t561,0))) else (some (([]:List Int),1)))
theorem impl_EvenColumns.calls (k:Nat) (A0_0:Option Addr) (c0_0:Nat) (l0_0:List Int) (r1:List Int) (r2:Int) (w:World) (hr0_0:Kd.C (Kd.int .i64) w A0_0 l0_0.length l0_0) (hc0_0:l0_0.length≤c0_0) (h:impl_EvenColumns.f k l0_0=some (r1,r2)) :
  Calls Try.prog 15 #[.agg #[.slice A0_0 l0_0.length c0_0]] w fun e w'=>∃ v0_:Value,e=.returned (.tuple #[v0_,.int .i64 r2])∧Kd.R (Kd.int .i64) 2 w' w.heap.size (fun _=>True) v0_ r1∧Below w.heap.size w w':=by
 have hu28:=Try.underlying28;have aK:=ak hr0_0;have aL:=ak hc0_0;clear hr0_0 hc0_0;have HB:=ak (Below.refl w.heap.size w);have H:((impl_IsTree.f k l0_0).bind fun aM=>(if aM=true then ((impl_even.f k l0_0).bind fun ap=>(some (ap,0))) else (some (([]:List Int),1))))=some (r1,r2):=h;clear h;replace H:=bs H;obtain ⟨aM,A2,H⟩:=H;(try dsimp only at H);obtain c3|c3:=nem (aM=true)
 ·replace c3:=Bool.eq_false_iff.mpr c3;subst c3;have H1:(some (([]:List Int),1))=some (r1,r2):=by rw [if_neg (show ¬ (false=true) by decide)] at H;exact H
  clear H;have H:=H1;clear H1;simp only [Option.some.injEq,Prod.mk.injEq] at H;obtain ⟨rfl,rfl⟩:=H
  go_enter Try.func15,Try.ntmps15
  go_wp2_with (first|((with_reducible refine gate_dst (N:=1) rfl ?_);refine bev (N:=1) (cs:=#[.slice A0_0 l0_0.length c0_0]) (t:=28) ?_;intro bw hg w10 hbox hb;have ag:=ak (hbox);have bx:=gbe hg;have bz:=gbe hg;replace HB:=hbs hb;clear hb hbox hg;have b2:=bc ag.out;have b3:=blk_frozen ag.out 0)|((with_reducible refine gate_callee (f:=29) rfl ?_);refine gl (some 5) Try.func29 #[.agg #[.slice A0_0 l0_0.length c0_0]] ?_;(with_reducible refine (impl_IsTree.calls k _ _ l0_0 false _ (pc (Kd.C_below aK.out HB.out)) aL.out A2.out).mono ?_);rintro e w12 ⟨rfl,hb⟩;refine ⟨_,rfl,?_⟩;replace ag:=bb ag hb;replace HB:=hbs hb;(try clear hb)))
  go_ret2
  exact ⟨_,ew,by first|exact Kd.R_nil _ _ _ _ _|exact Kd.N_nil _ _ _ _ _|exact Kd.V_nil _ _ _ _ _|exact Kd.Q_nil _ _ _ _ _|exact Kd.S_nil _ _ _ _ _,hq⟩
 subst c3;replace H:((impl_even.f k l0_0).bind fun ap=>(some (ap,0)))=some (r1,r2):=by rw [if_pos rfl] at H;exact H
 replace H:=bs H;obtain ⟨ap,A4,H⟩:=H;(try dsimp only at H);simp only [Option.some.injEq,Prod.mk.injEq] at H;obtain ⟨rfl,rfl⟩:=H
 go_enter Try.func15,Try.ntmps15
 go_wp2_with (first|((with_reducible refine gate_dst (N:=1) rfl ?_);refine bev (N:=1) (cs:=#[.slice A0_0 l0_0.length c0_0]) (t:=28) ?_;intro bw hg w5 hbox hb;have ag:=ak (hbox);have bx:=gbe hg;have bz:=gbe hg;replace HB:=hbs hb;clear hb hbox hg;have b4:=bc ag.out;have b5:=blk_frozen ag.out 0)|((with_reducible refine gate_callee (f:=29) rfl ?_);refine gl (some 5) Try.func29 #[.agg #[.slice A0_0 l0_0.length c0_0]] ?_;(with_reducible refine (impl_IsTree.calls k _ _ l0_0 true _ (pc (Kd.C_below aK.out HB.out)) aL.out A2.out).mono ?_);rintro e w7 ⟨rfl,hb⟩;refine ⟨_,rfl,?_⟩;replace ag:=bb ag hb;replace HB:=hbs hb;(try clear hb);(try clear hb2);(try clear hk);(try clear hi);have b6:=bc ag.out;have b7:=blk_frozen ag.out 0)|((with_reducible refine gate_callee (f:=38) rfl ?_);refine gl (some 9) Try.func38 #[.slice A0_0 l0_0.length c0_0] ?_;(with_reducible refine (impl_even.calls k _ _ l0_0 ap _ (pc (Kd.C_below aK.out HB.out)) aL.out A4.out).mono ?_);rintro e w9 ⟨b8,rfl,ho0,hb⟩;refine ⟨_,rfl,?_⟩;have bA:=lw ho0;replace ag:=bb ag hb;replace HB:=hbs hb;(try clear hb ho0)))
 go_ret2
 exact ⟨_,ew,pe bA.out,hq⟩
end Go.Proofs.Ytimfbpmaepmdoaa.QFnDrawings
