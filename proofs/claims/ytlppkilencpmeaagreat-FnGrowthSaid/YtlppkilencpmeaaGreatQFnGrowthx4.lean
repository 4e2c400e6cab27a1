/- Functions as Lean functions, with their contracts: written by a program of this claim over the translation; some contracts are proved by hand. -/
import Derived.Test.YtlppkilencpmeaaGreatQFnGrowthx0
import Derived.Test.YtlppkilencpmeaaGreatQFnGrowthx3
namespace Go.Proofs.YtlppkilencpmeaaGreat.QFnGrowth
open Go.RowKit Go.Proofs.YtlppkilencpmeaaGreat.Gl Go.Proofs.YtlppkilencpmeaaGreat.Sz Go.Proofs.YtlppkilencpmeaaGreatW.PrintWords Go.Proofs.YtlppkilencpmeaaGreatW.PrintLast Go.Proofs.YtlppkilencpmeaaGreatW.PrintMore
attribute [local go_sem] max2_int min2_int max_two min_two max_three min_three max_four min_four   -- for this text's walks alone
set_option linter.unusedVariables false
set_option linter.unusedSimpArgs false
theorem q4_0 {P:Prop} (h:P:=by first|rfl|(simp;done)|(simp [*];done)):P:=h
theorem q4_1 {P:Prop} (h:P:=by first|(with_reducible assumption)|assumption):P:=h
theorem q4_2 {P:Prop} (h:P:=by repeat (first|exact Drawn0.refl _|apply Drawn0.step)):P:=h
set_option maxHeartbeats 8000000
set_option maxRecDepth 100000
mutual
def impl_isTree.j0:Nat→List Int→Bool→Option (Bool)
 | 0,_,_=>none
 | k+1,x0,x13=>if x13=true then (some false) else (impl_isTree.l0 k 1 x0 (x0.length:Int) 0)
def impl_isTree.l0:Nat→Int→List Int→Int→Int→Option (Bool)
 | 0,_,_,_,_=>none
 | k+1,x3,x14,x15,x16=>if x16<x15 then (if 0≤x16 then (if x16<(x14.length:Int) then (if x3=0 then (some false) else (if (rd x14 x16)<0 then (some false) else (if (rd x14 x16)≥24 then (some false) else (impl_isTree.l0 k (wrap64 (x3+(wrap64 ((rd x14 x16) - 1)))) x14 x15 (wrap64 (x16+1)))))) else (none)) else (none)) else (some (x3 == 0))
end
def impl_isTree.f (k:Nat) (l0:List Int):Option (Bool):=if (l0.length:Int)<1 then (impl_isTree.j0 k l0 true) else (impl_isTree.j0 k l0 (decide ((l0.length:Int)>24)))
theorem impl_isTree.calls (k:Nat) (A0:Option Addr) (c0:Nat) (l0:List Int) (r:Bool) (w:World) (hr0:Kd.C (Kd.int .i64) w A0 l0.length l0) (hc0:l0.length≤c0) (h:impl_isTree.f k l0=some r) :
  Calls Tryz.prog 121 #[.slice A0 l0.length c0] w fun e w'=>e=.returned (.bool r)∧Drawn0 w w':=by
 have HR0:=ak hr0;have HC0:=ak hc0;clear hr0 hc0;have H:(if (l0.length:Int)<1 then (impl_isTree.j0 k l0 true) else (impl_isTree.j0 k l0 (decide ((l0.length:Int)>24))))=some r:=h;clear h;have HC2:=ak H;clear H
 go_enter Tryz.func121,Tryz.ntmps121
 go_upto_region 1 with (fail)
 go_cut [13] (fun v13 wc=>∃ (kq:Nat) (aB:Bool),v13=.bool aB∧Aside0 (impl_isTree.j0 kq l0 aB=some r)∧Aside0 (kq≤k)∧Drawn0 w wc)
 case first =>
  have H:=HC2.out;clear HC2
  by_cases c3:(l0.length:Int)<1
  ·rw [if_pos c3] at H;have al:=dt c3;have aV:decide (l0.length<1)=true:=decide_eq_true (by omega);clear c3;(first|rw [al]|(simp only [i64_w,i32_w];rw [al])|skip);have H':=ak H;clear H;go_wp2
   go_meet
   case rel=>exact ⟨_,(true),q4_0,H',⟨by first|omega|exact Nat.le_refl _⟩,q4_2⟩
  rw [if_neg c3] at H;have al:=df c3;have aV:decide (l0.length<1)=false:=decide_eq_false (by omega);clear c3;(first|rw [al]|(simp only [i64_w,i32_w];rw [al])|skip);have H':=ak H;clear H;go_wp2
  go_meet
  case rel=>exact ⟨_,(decide ((l0.length:Int)>24)),q4_0,H',⟨by first|omega|exact Nat.le_refl _⟩,q4_2⟩
 clear HC2;obtain ⟨kq,aB,rfl,HA,HJ1,⟨mc1,rfl⟩⟩:=hcut
 cases kq with|zero=>exact absurd HA.out (by simp [impl_isTree.j0])|succ kj1=>?_
 have H:=HA.out;clear HA;simp only [impl_isTree.j0] at H
 by_cases c4:aB=true
 ·subst c4;replace H:(some false)=some r:=by rw [if_pos rfl] at H;exact H
  obtain rfl:=Option.some.inj H;go_wp2
  go_ret
  exact ⟨q4_0,q4_2⟩
 replace c4:=Bool.eq_false_iff.mpr c4;subst c4;have H1:(impl_isTree.l0 kj1 1 l0 (l0.length:Int) 0)=some r:=by rw [if_neg (show ¬ (false=true) by decide)] at H;exact H
 clear H;have H:=H1;clear H1;have H':=ak H;clear H;go_wp2
 go_loopg [3,16] kj1 (fun kq v3 v16 w'=>∃ (ao:Int) (ac:Int),v3=.int .i64 ao∧v16=.int .i64 ac∧Aside0 (impl_isTree.l0 kq ao l0 (l0.length:Int) ac=some r)∧Aside0 (kq≤kj1)∧Drawn0 w w')
 case atStart=>exact ⟨(1),(0),q4_0,q4_0,H',⟨Nat.le_refl _⟩,q4_2⟩
 case round =>
  clear H';obtain ⟨ao,ac,rfl,rfl,HA,HK2,⟨m2,rfl⟩⟩:=hrel
  cases gk with|zero=>exact absurd HA.out (by simp [impl_isTree.l0])|succ k2=>?_
  have H:=HA.out;clear HA;simp only [impl_isTree.l0] at H;obtain c5|c5:=nem (ac<(l0.length:Int))
  ·rw [if_neg c5] at H;have aW:=df c5;clear c5;obtain rfl:=Option.some.inj H;go_wp2
   go_ret
   exact ⟨q4_0,q4_2⟩
  rw [if_pos c5] at H;have aW:=dt c5;clear c5;replace H:=ifs H;obtain ⟨c6,H⟩:=H;have aX:=dt c6;clear c6;replace H:=ifs H;obtain ⟨c7,H⟩:=H;have aE:=dt c7;clear c7
  by_cases c8:ao=0
  ·rw [if_pos c8] at H;have aY:=be c8;have bf:=bn c8;clear c8;obtain rfl:=Option.some.inj H;have ag:0≤(ac:Int):=od q4_1;have ah:ac<(l0.length:Int):=od q4_1;obtain ⟨aF,ap,aG⟩:=Kd.at_int HR0.out ac ag ah;cases ap;replace ag:=eq_true ag;replace ah:=eq_true ah;go_wp2
   go_ret
   exact ⟨q4_0,q4_2⟩
  rw [if_neg c8] at H;have aY:(ao == 0)=false:=beq_eq_false_iff_ne.mpr c8;have bf:(ao != 0)=true:=bne_iff_ne.mpr c8
  by_cases c9:(rd l0 ac)<0
  ·rw [if_pos c9] at H;have aZ:=dt c9;clear c9;obtain rfl:=Option.some.inj H;have ag:0≤(ac:Int):=od q4_1;have ah:ac<(l0.length:Int):=od q4_1;obtain ⟨aF,ap,aG⟩:=Kd.at_int HR0.out ac ag ah;cases ap;replace ag:=eq_true ag;replace ah:=eq_true ah;go_wp2
   go_ret
   exact ⟨q4_0,q4_2⟩
  rw [if_neg c9] at H;have aZ:=df c9;clear c9
  by_cases c10:(rd l0 ac)≥24
  ·rw [if_pos c10] at H;have a2:decide (24≤(rd l0 ac))=true:=decide_eq_true c10;clear c10;obtain rfl:=Option.some.inj H;have ag:0≤(ac:Int):=od q4_1;have ah:ac<(l0.length:Int):=od q4_1;obtain ⟨aF,ap,aG⟩:=Kd.at_int HR0.out ac ag ah;cases ap;replace ag:=eq_true ag;replace ah:=eq_true ah;go_wp2
   go_ret
   exact ⟨q4_0,q4_2⟩
  rw [if_neg c10] at H;have a2:decide (24≤(rd l0 ac))=false:=decide_eq_false c10;clear c10;have H':=ak H;clear H;have ag:0≤(ac:Int):=od q4_1;have ah:ac<(l0.length:Int):=od q4_1;obtain ⟨aF,ap,aG⟩:=Kd.at_int HR0.out ac ag ah;cases ap;replace ag:=eq_true ag;replace ah:=eq_true ah;go_wp2
  go_roundg k2
  case measure=>have:=HJ1.out;have:=HK2.out;omega
  case rel=>exact ⟨(wrap64 (ao+(wrap64 ((rd l0 ac) - 1)))),(wrap64 (ac+1)),q4_0,q4_0,H',⟨by have:=HJ1.out;have:=HK2.out;omega⟩,q4_2⟩
def impl_IsTree.f (k:Nat) (l0_0:List Int):Option (Bool):=(impl_isTree.f k l0_0).bind fun t185=>(some t185)
theorem impl_IsTree.calls (k:Nat) (A0_0:Option Addr) (c0_0:Nat) (l0_0:List Int) (r:Bool) (w:World) (hr0_0:Kd.C (Kd.int .i64) w A0_0 l0_0.length l0_0) (hc0_0:l0_0.length≤c0_0) (h:impl_IsTree.f k l0_0=some r) :
  Calls Tryz.prog 92 #[.agg #[.slice A0_0 l0_0.length c0_0]] w fun e w'=>e=.returned (.bool r)∧Below w.heap.size w w':=by
 have hu27:=Tryz.underlying27;have az:=ak hr0_0;have aA:=ak hc0_0;clear hr0_0 hc0_0;have HB:=ak (Below.refl w.heap.size w);have H:((impl_isTree.f k l0_0).bind fun aH=>(some aH))=some r:=h;clear h;replace H:=bs H;obtain ⟨aH,A2,H⟩:=H;(try dsimp only at H);obtain rfl:=Option.some.inj H
 go_enter Tryz.func92,Tryz.ntmps92
 go_wp2_with (first|((with_reducible refine gate_dst (N:=1) rfl ?_);refine bev (N:=1) (cs:=#[.slice A0_0 l0_0.length c0_0]) (t:=27) ?_;intro bC hg w3 hbox hb;have a3:=ak (hbox);have bD:=gbe hg;have bE:=gbe hg;replace HB:=hbs hb;clear hb hbox hg;have bF:=bc a3.out;have bG:=blk_frozen a3.out 0)|((with_reducible refine gate_callee (f:=121) rfl ?_);refine gl (some 5) Tryz.func121 #[.slice A0_0 l0_0.length c0_0] ?_;(with_reducible refine (impl_isTree.calls k _ _ l0_0 aH _ (pc (Kd.C_below az.out HB.out)) aA.out A2.out).mono ?_);rintro e w' ⟨rfl,⟨nd,rfl⟩⟩;refine ⟨_,rfl,?_⟩))
 go_ret
 exact ⟨ew,hq⟩
def impl_orderCode.l0:Nat→List Int→Int→Int→Option (Int)
 | 0,_,_,_=>none
 | k+1,x21,x22,x23=>if x23<x22 then (if 0≤x23 then (if x23<(x21.length:Int) then (if (rd x21 x23)=x23 then (impl_orderCode.l0 k x21 x22 (wrap64 (x23+1))) else (some 2)) else (none)) else (none)) else (some 0)
def impl_orderCode.f (k:Nat) (l0_0:List Int) (l1:List Int):Option (Int):=(impl_IsTree.f k l0_0).bind fun t187=>(if t187=true then ((slices_Clone.f l1).bind fun t188=>((slices_Sort.f t188).bind fun t191=>(if (l1.length:Int)=(l0_0.length:Int) then (impl_orderCode.l0 k t191 (t188.length:Int) 0) else (some 2)))) else (some 1))
theorem impl_orderCode.calls (k:Nat) (A0_0:Option Addr) (c0_0:Nat) (l0_0:List Int) (A1:Option Addr) (c1:Nat) (l1:List Int) (r:Int) (w:World) (hr0_0:Kd.C (Kd.int .i64) w A0_0 l0_0.length l0_0) (hc0_0:l0_0.length≤c0_0) (hr1:Kd.C (Kd.int .i64) w A1 l1.length l1) (hc1:l1.length≤c1) (h:impl_orderCode.f k l0_0 l1=some r) :
  Calls Tryz.prog 55 #[.agg #[.slice A0_0 l0_0.length c0_0],.slice A1 l1.length c1] w fun e w'=>e=.returned (.int .i64 r)∧Below w.heap.size w w':=by
 have hu27:=Tryz.underlying27;have az:=ak hr0_0;have aA:=ak hc0_0;clear hr0_0 hc0_0;have HR1:=ak hr1;have HC1:=ak hc1;clear hr1 hc1;have HB:=ak (Below.refl w.heap.size w);have H:((impl_IsTree.f k l0_0).bind fun aI=>(if aI=true then ((slices_Clone.f l1).bind fun aj=>((slices_Sort.f aj).bind fun ab=>(if (l1.length:Int)=(l0_0.length:Int) then (impl_orderCode.l0 k ab (aj.length:Int) 0) else (some 2)))) else (some 1)))=some r:=h;clear h;replace H:=bs H;obtain ⟨aI,A3,H⟩:=H;(try dsimp only at H);obtain c4|c4:=nem (aI=true)
 ·replace c4:=Bool.eq_false_iff.mpr c4;subst c4;have H1:(some 1)=some r:=by rw [if_neg (show ¬ (false=true) by decide)] at H;exact H
  clear H;have H:=H1;clear H1;obtain rfl:=Option.some.inj H
  go_enter Tryz.func55,Tryz.ntmps55
  go_wp2_with (first|((with_reducible refine gate_dst (N:=2) rfl ?_);refine bev (N:=2) (cs:=#[.slice A0_0 l0_0.length c0_0]) (t:=27) ?_;intro aJ hg w26 hbox hb;have aa:=ak (hbox);have a4:=gbe hg;have a5:=gbe hg;replace HB:=hbs hb;clear hb hbox hg;have bH:=bc aa.out;have bI:=blk_frozen aa.out 0)|((with_reducible refine gate_callee (f:=92) rfl ?_);refine gl (some 9) Tryz.func92 #[.agg #[.slice A0_0 l0_0.length c0_0]] ?_;(with_reducible refine (impl_IsTree.calls k _ _ l0_0 false _ (pc (Kd.C_below az.out HB.out)) aA.out A3.out).mono ?_);rintro e w28 ⟨rfl,hb⟩;refine ⟨_,rfl,?_⟩;replace aa:=bb aa hb;replace HB:=hbs hb;(try clear hb)))
  go_ret
  exact ⟨ew,hq⟩
 subst c4;replace H:((slices_Clone.f l1).bind fun aj=>((slices_Sort.f aj).bind fun ab=>(if (l1.length:Int)=(l0_0.length:Int) then (impl_orderCode.l0 k ab (aj.length:Int) 0) else (some 2))))=some r:=by rw [if_pos rfl] at H;exact H
 replace H:=bs H;obtain ⟨aj,A5,H⟩:=H;(try dsimp only at H);replace H:=Option.bind_eq_some_iff.mp H;obtain ⟨ab,A60,H⟩:=H;replace H:(if (l1.length:Int)=(l0_0.length:Int) then (impl_orderCode.l0 k ab (aj.length:Int) 0) else (some 2))=some r:=H
 have hln_:aj.length=ab.length:=by
  unfold slices_Sort.f at A60
  split at A60
  ·rw [← Option.some.inj A60];exact (List.length_mergeSort _).symm
  ·cases A60
 rw [hln_] at H;have A6:=ak A60;clear A60;obtain c7|c7:=nem ((l1.length:Int)=(l0_0.length:Int))
 ·rw [if_neg c7] at H;have aE:((l1.length:Int) == (l0_0.length:Int))=false:=beq_eq_false_iff_ne.mpr c7;have bg:((l1.length:Int) != (l0_0.length:Int))=true:=bne_iff_ne.mpr c7;have bh:(l1.length == l0_0.length)=false:=by first|simpa using c7|(simp at c7 ⊢;omega)
  obtain rfl:=Option.some.inj H
  go_enter Tryz.func55,Tryz.ntmps55
  go_wp2_with (first|((with_reducible refine gate_dst (N:=2) rfl ?_);refine bev (N:=2) (cs:=#[.slice A0_0 l0_0.length c0_0]) (t:=27) ?_;intro aJ hg w19 hbox hb;have aa:=ak (hbox);have a4:=gbe hg;have a5:=gbe hg;replace HB:=hbs hb;clear hb hbox hg;have bJ:=bc aa.out;have bK:=blk_frozen aa.out 0)|((with_reducible refine gate_callee (f:=92) rfl ?_);refine gl (some 9) Tryz.func92 #[.agg #[.slice A0_0 l0_0.length c0_0]] ?_;(with_reducible refine (impl_IsTree.calls k _ _ l0_0 true _ (pc (Kd.C_below az.out HB.out)) aA.out A3.out).mono ?_);rintro e w21 ⟨rfl,hb⟩;refine ⟨_,rfl,?_⟩;replace aa:=bb aa hb;replace HB:=hbs hb;(try clear hb))|((with_reducible refine gate_callee (f:=63) rfl ?_);refine gl (some 12) Tryz.func63 #[.slice A1 l1.length c1] ?_;(with_reducible refine (slices_Clone.calls _ _ l1 aj _ (pc (Kd.C_below HR1.out HB.out)) HC1.out A5.out).mono ?_);rintro e w22 ⟨bi,rfl,ho0,hb⟩;refine ⟨_,rfl,?_⟩;have ai:=lw ho0;replace aa:=bb aa hb;replace HB:=hbs hb;(try clear hb);(try clear hb2);(try clear hk);(try clear hi);(try clear ho0);obtain ⟨aK,aL,bj⟩:=Kd.R_slice ai.out;subst bj;(try rw [hln_]);(try rw [hln_] at ai))|((with_reducible refine gate_callee (f:=64) rfl ?_);refine gl (some 14) Tryz.func64 #[.slice aK ab.length aL] ?_;(with_reducible refine (slices_Sort.calls (fun k_=>some k_=(.slice aK ab.length aL:Value).ownBlock) (.slice aK ab.length aL) aj ab w _ ?side1 ?side2 A6.out).mono ?_);(case side1=>exact hq);(case side2=>exact Kd.R_tight rfl ai.out);rintro e w24 ⟨rfl,hy0,hb,hkp⟩;refine ⟨_,rfl,?_⟩;replace aa:=ak (blk_kept (pb aa.out) hkp (fun hs_=>(fun e_=>(Kd.R_ne ai.out aa.out dc) e_) hs_));replace ai:=ak (Kd.R_reok rfl hy0 (fun k_ e_=>ai.out.1 k_ e_));replace HB:=ak (hb);(try clear hb);(try clear hkp);(try clear hy0);have bL:=bc aa.out;have bM:=blk_frozen aa.out 0))
  go_ret
  exact ⟨ew,hq⟩
 rw [if_pos c7] at H;have aE:((l1.length:Int) == (l0_0.length:Int))=true:=beq_iff_eq.mpr c7;have bg:((l1.length:Int) != (l0_0.length:Int))=false:=bne_eq_false_iff_eq.mpr c7;have bh:(l1.length == l0_0.length)=true:=by first|simpa using c7|(simp at c7 ⊢;omega)
 clear c7;have H':=ak H;clear H
 go_enter Tryz.func55,Tryz.ntmps55
 go_wp2_with (first|((with_reducible refine gate_dst (N:=2) rfl ?_);refine bev (N:=2) (cs:=#[.slice A0_0 l0_0.length c0_0]) (t:=27) ?_;intro aJ hg w8 hbox hb;have aa:=ak (hbox);have a4:=gbe hg;have a5:=gbe hg;replace HB:=hbs hb;clear hb hbox hg;have bN:=bc aa.out;have bO:=blk_frozen aa.out 0)|((with_reducible refine gate_callee (f:=92) rfl ?_);refine gl (some 9) Tryz.func92 #[.agg #[.slice A0_0 l0_0.length c0_0]] ?_;(with_reducible refine (impl_IsTree.calls k _ _ l0_0 true _ (pc (Kd.C_below az.out HB.out)) aA.out A3.out).mono ?_);rintro e w10 ⟨rfl,hb⟩;refine ⟨_,rfl,?_⟩;replace aa:=bb aa hb;replace HB:=hbs hb;(try clear hb))|((with_reducible refine gate_callee (f:=63) rfl ?_);refine gl (some 12) Tryz.func63 #[.slice A1 l1.length c1] ?_;(with_reducible refine (slices_Clone.calls _ _ l1 aj _ (pc (Kd.C_below HR1.out HB.out)) HC1.out A5.out).mono ?_);rintro e w11 ⟨bi,rfl,ho0,hb⟩;refine ⟨_,rfl,?_⟩;have ai:=lw ho0;replace aa:=bb aa hb;replace HB:=hbs hb;(try clear hb);(try clear hb2);(try clear hk);(try clear hi);(try clear ho0);obtain ⟨aC,aD,bk⟩:=Kd.R_slice ai.out;subst bk;(try rw [hln_]);(try rw [hln_] at ai))|((with_reducible refine gate_callee (f:=64) rfl ?_);refine gl (some 14) Tryz.func64 #[.slice aC ab.length aD] ?_;(with_reducible refine (slices_Sort.calls (fun k_=>some k_=(.slice aC ab.length aD:Value).ownBlock) (.slice aC ab.length aD) aj ab w _ ?side1 ?side2 A6.out).mono ?_);(case side1=>exact hq);(case side2=>exact Kd.R_tight rfl ai.out);rintro e w13 ⟨rfl,hy0,hb,hkp⟩;refine ⟨_,rfl,?_⟩;replace aa:=ak (blk_kept (pb aa.out) hkp (fun hs_=>(fun e_=>(Kd.R_ne ai.out aa.out dc) e_) hs_));replace ai:=ak (Kd.R_reok rfl hy0 (fun k_ e_=>ai.out.1 k_ e_));replace HB:=ak (hb);(try clear hb);(try clear hkp);(try clear hy0);have bP:=bc aa.out;have bQ:=blk_frozen aa.out 0))
 go_loopg [23] k (fun kq v23 w'=>∃ (ae:Int),v23=.int .i64 ae∧Aside0 (impl_orderCode.l0 kq ab (ab.length:Int) ae=some r)∧Aside0 (kq≤k)∧Aside0 (Kd.R (Kd.int .i64) 2 w' w.heap.size (fun _=>True) (.slice aC ab.length aD) ab)∧Aside0 (w'.heap[aJ]?=some (.cells #[(.slice A0_0 l0_0.length c0_0)] 27 (0,0)))∧Aside0 (Below w.heap.size w w'))
 case atStart=>exact ⟨(0),q4_0,H',⟨Nat.le_refl _⟩,⟨pe ai.out⟩,⟨pb aa.out⟩,⟨hq⟩⟩
 case round =>
  clear H';obtain ⟨ae,rfl,HA,HK1,aq,aa,HB⟩:=hrel;have aw:=(Kd.R_reads' aq.out).1;rw [aw] at aq;(try simp only [aw]);(try simp only [aw] at aa)
  cases gk with|zero=>exact absurd HA.out (by simp [impl_orderCode.l0])|succ k1=>?_
  have H:=HA.out;clear HA;simp only [impl_orderCode.l0] at H;obtain c15|c15:=nem (ae<(ab.length:Int))
  ·rw [if_neg c15] at H;have bl:=df c15;clear c15;obtain rfl:=Option.some.inj H;go_wp2
   go_ret
   exact ⟨ew,hq⟩
  rw [if_pos c15] at H;have bl:=dt c15;clear c15;replace H:=ifs H;obtain ⟨c16,H⟩:=H;have bR:=dt c16;clear c16;replace H:=ifs H;obtain ⟨c17,H⟩:=H;have bS:=dt c17;clear c17;obtain c18|c18:=nem ((rd ab ae)=ae)
  ·rw [if_neg c18] at H;have bm:((rd ab ae) == ae)=false:=beq_eq_false_iff_ne.mpr c18;have bo:((rd ab ae) != ae)=true:=bne_iff_ne.mpr c18;obtain rfl:=Option.some.inj H;have ar:0≤(ae:Int):=od q4_1;have au:ae<(ab.length:Int):=od q4_1;(try (obtain ⟨Aop_,cop_,eop_⟩:=Kd.R_slice aq.out;subst eop_));obtain ⟨bp,aM,bq⟩:=Kd.at_int (Kd.R_reads' aq.out).2.2 ae ar au;cases aM;replace ar:=eq_true ar;replace au:=eq_true au;go_wp2
   go_ret
   exact ⟨ew,hq⟩
  rw [if_pos c18] at H;have bm:((rd ab ae) == ae)=true:=beq_iff_eq.mpr c18;have bo:((rd ab ae) != ae)=false:=bne_eq_false_iff_eq.mpr c18;clear c18;have H':=ak H;clear H;have ar:0≤(ae:Int):=od q4_1;have au:ae<(ab.length:Int):=od q4_1;(try (obtain ⟨Aop_,cop_,eop_⟩:=Kd.R_slice aq.out;subst eop_));obtain ⟨bp,aM,bq⟩:=Kd.at_int (Kd.R_reads' aq.out).2.2 ae ar au;cases aM;replace ar:=eq_true ar;replace au:=eq_true au;go_wp2;(try simp only [← aw])
  go_roundg k1
  case measure=>have:=HK1.out;omega
  case rel=>exact ⟨(wrap64 (ae+1)),q4_0,H',⟨by have:=HK1.out;omega⟩,⟨by (try simp only [aw]);exact pe aq.out⟩,⟨by (try simp only [aw]);exact pb aa.out⟩,⟨hq⟩⟩
def impl_labelsOf.l0:Nat→List Int→List Int→Int→Int→Option (List Int)
 | 0,_,_,_,_=>none
 | k+1,x3,x9,x10,x11=>if x11<x10 then (if 0≤x11 then (if x11<(x9.length:Int) then (if 0≤(rd x9 x11) then (if (rd x9 x11)<(x3.length:Int) then (impl_labelsOf.l0 k (x3.set ((rd x9 x11):Int).toNat x11) x9 x10 (wrap64 (x11+1))) else (none)) else (none)) else (none)) else (none)) else (some x3)
def impl_labelsOf.f (k:Nat) (l0:List Int):Option (List Int):=if 0≤(l0.length:Int) then (if ((l0.length:Int):Int).toNat≤35184372088832 then (impl_labelsOf.l0 k (List.replicate ((l0.length:Int):Int).toNat 0) l0 (l0.length:Int) 0) else (none)) else (none)
theorem impl_labelsOf.calls (k:Nat) (A0:Option Addr) (c0:Nat) (l0:List Int) (r:List Int) (w:World) (hr0:Kd.C (Kd.int .i64) w A0 l0.length l0) (hc0:l0.length≤c0) (h:impl_labelsOf.f k l0=some r) :
  Calls Tryz.prog 58 #[.slice A0 l0.length c0] w fun e w'=>∃ v0_:Value,e=.returned (v0_)∧Kd.R (Kd.int .i64) 2 w' w.heap.size (fun _=>True) v0_ r∧Below w.heap.size w w':=by
 have HR0:=ak hr0;have HC0:=ak hc0;clear hr0 hc0;have HB:=ak (Below.refl w.heap.size w);have H:(if 0≤(l0.length:Int) then (if ((l0.length:Int):Int).toNat≤35184372088832 then (impl_labelsOf.l0 k (List.replicate ((l0.length:Int):Int).toNat 0) l0 (l0.length:Int) 0) else (none)) else (none))=some r:=h;clear h;replace H:=ifs H;obtain ⟨c2,H⟩:=H;have bT:=eq_true c2;have bU:decide (0≤(l0.length:Int))=true:=decide_eq_true c2;clear c2;replace H:=ifs H;obtain ⟨c3,H⟩:=H;have al:=eq_true c3;have aV:decide (((l0.length:Int):Int).toNat≤35184372088832)=true:=decide_eq_true c3;clear c3;obtain ⟨a6,hY⟩:∃ y_:List Int,y_=(List.replicate ((l0.length:Int):Int).toNat 0):=⟨_,rfl⟩;replace H:(impl_labelsOf.l0 k a6 l0 (l0.length:Int) 0)=some r:=hh;have a7:=ak hY;clear hY;have H':=ak H;clear H
 go_enter Tryz.func58,Tryz.ntmps58
 go_wp2_with (first|((with_reducible refine gate_dst (N:=8) rfl ?_);refine Kd.R_make (Kd.int .i64) _ 2 rfl (N:=8) rfl 24 _ _ rfl (l0.length:Int) rfl rfl Tryz.underlying24 (.int .i64 0) 8 info2 rfl dc (by omega) 0 (ok:=fun _=>True) (okp:=fun _=>True) rfl (fun _ hk=>hk) trivial (od q4_1) (Nat.le_trans (Nat.mul_le_mul_right _ (od q4_1:(l0.length:Int).toNat≤35184372088832)) (by omega)) (Below.refl _ _) (Nat.le_refl _) ?_;intro br w4 ho5 hb hg_ hnew_;clear hg_ hnew_;(first|rw [← a7.out] at ho5|(simp only [Int.reduceToNat] at ho5;rw [← a7.out] at ho5));have bu:=lw ho5;replace HB:=hbs hb;clear hb ho5))
 go_loopg [11] k (fun kq v11 w'=>∃ (ax:List Int) (af:Int),v11=.int .i64 af∧Aside0 (impl_labelsOf.l0 kq ax l0 (l0.length:Int) af=some r)∧Aside0 (kq≤k)∧Aside0 (Kd.R (Kd.int .i64) 2 w' w.heap.size (fun _=>True) br ax)∧Aside0 (Below w.heap.size w w'))
 case atStart=>exact ⟨(a6),(0),q4_0,H',⟨Nat.le_refl _⟩,⟨pe bu.out⟩,⟨hq⟩⟩
 case round =>
  clear H';obtain ⟨ax,af,rfl,HA,HK1,ay,HB⟩:=hrel
  cases gk with|zero=>exact absurd HA.out (by simp [impl_labelsOf.l0])|succ k1=>?_
  have H:=HA.out;clear HA;simp only [impl_labelsOf.l0] at H;obtain c6|c6:=nem (af<(l0.length:Int))
  ·rw [if_neg c6] at H;have aX:=df c6;clear c6;obtain rfl:=Option.some.inj H;go_wp2
   go_ret
   exact ⟨_,ew,pe ay.out,hq⟩
  rw [if_pos c6] at H;have aX:=dt c6;clear c6;replace H:=ifs H;obtain ⟨c7,H⟩:=H;have aE:=dt c7;clear c7;replace H:=ifs H;obtain ⟨c8,H⟩:=H;have aY:=dt c8;clear c8;replace H:=ifs H;obtain ⟨c9,H⟩:=H;have aZ:=dt c9;clear c9;replace H:=ifs H;obtain ⟨c10,H⟩:=H;have a2:=dt c10;clear c10;obtain ⟨aN,hY⟩:∃ y_:List Int,y_=(ax.set ((rd l0 af):Int).toNat af):=⟨_,rfl⟩;replace H:(impl_labelsOf.l0 k1 aN l0 (l0.length:Int) (wrap64 (af+1)))=some r:=hh;have bv:=ak hY;clear hY;have H':=ak H;clear H;have aO:0≤(af:Int):=od q4_1;have aP:af<(l0.length:Int):=od q4_1;obtain ⟨bV,bw,aQ⟩:=Kd.at_int HR0.out af aO aP;cases bw;replace aQ:=(HB.out.cell (World.block_lt_of_cell? w _ aQ)).trans aQ;replace aO:=eq_true aO;replace aP:=eq_true aP;have p11:0≤((rd l0 af):Int):=od q4_1;have q11:((rd l0 af):Int)<((ax.length:Int):Int):=od q4_1;obtain ⟨aR,bx,a8,a9,gl11,cl11,ba⟩:=Kd.R_form ay.out (by omega);(first|cases a8|(injection a8 with ea_ en_ ec_;(first|subst ea_|(injection ea_ with ea_;subst ea_));subst ec_;clear en_));have GB11:=ak a9;have bW:=ak ba;clear a9 gl11 ba;obtain ⟨bX,bY⟩:=Kd.R_celln 0 ay.out ((rd l0 af):Int) p11 q11;replace p11:=eq_true p11;replace q11:=eq_true q11;have aS:=Kd.R_putg ay.out ((rd l0 af):Int) af
  go_wp2_with (first|((with_reducible refine gate_store (t:=2) (p:=19) rfl ?_);refine store_event (t:=2) (p:=19) (v:=?vo_w13) (w1:=(wr.setCell ⟨aR,((rd l0 af):Int).toNat,none⟩ (.int .i64 af))) ?hg ?ho ?hn ?hr ?_;(case ho=>rfl);(case hg=>rfl);(case hn=>rfl);(case hr=>exact gs);intro w13 hw;have hg:wr.grownBy w13 (some aR):=(by rw [hw];exact aS.2);have hp_:Kd.R (Kd.int .i64) 2 w13 w.heap.size (fun _=>True) (.slice (some ⟨aR,0,none⟩) ax.length bx) aN:=(by rw [hw,bv.out];exact aS.1);clear aS;replace ay:=ak (hp_);replace HB:=ak (by rw [hw];exact below_set (HB.out) GB11.out:Below w.heap.size w w13);clear hg hw hp_))
  go_roundg k1
  case measure=>have:=HK1.out;omega
  case rel=>exact ⟨(aN),(wrap64 (af+1)),q4_0,H',⟨by have:=HK1.out;omega⟩,⟨pe ay.out⟩,⟨hq⟩⟩
def bits_Mul64.f (a0:Int) (a1:Int):Option (Int × Int):=some (IntKind.u64.wrap ((IntKind.u64.wrap ((IntKind.u64.wrap ((a0 / 4294967296)*(a1 / 4294967296)))+((IntKind.u64.wrap ((IntKind.u64.wrap ((a0 / 4294967296)*(Go.bits .and .u64 a1 4294967295)))+((IntKind.u64.wrap ((Go.bits .and .u64 a0 4294967295)*(Go.bits .and .u64 a1 4294967295))) / 4294967296))) / 4294967296)))+((IntKind.u64.wrap ((Go.bits .and .u64 (IntKind.u64.wrap ((IntKind.u64.wrap ((a0 / 4294967296)*(Go.bits .and .u64 a1 4294967295)))+((IntKind.u64.wrap ((Go.bits .and .u64 a0 4294967295)*(Go.bits .and .u64 a1 4294967295))) / 4294967296))) 4294967295)+(IntKind.u64.wrap ((Go.bits .and .u64 a0 4294967295)*(a1 / 4294967296))))) / 4294967296)),IntKind.u64.wrap (a0*a1))
theorem bits_Mul64.calls (a0:Int) (a1:Int) (r1:Int) (r2:Int) (w:World) (h:bits_Mul64.f a0 a1=some (r1,r2)) :
  Calls Tryz.prog 144 #[.int .u64 a0,.int .u64 a1] w fun e w'=>e=.returned (.tuple #[.int .u64 r1,.int .u64 r2])∧Drawn0 w w':=by
 have H:(some (IntKind.u64.wrap ((IntKind.u64.wrap ((IntKind.u64.wrap ((a0 / 4294967296)*(a1 / 4294967296)))+((IntKind.u64.wrap ((IntKind.u64.wrap ((a0 / 4294967296)*(Go.bits .and .u64 a1 4294967295)))+((IntKind.u64.wrap ((Go.bits .and .u64 a0 4294967295)*(Go.bits .and .u64 a1 4294967295))) / 4294967296))) / 4294967296)))+((IntKind.u64.wrap ((Go.bits .and .u64 (IntKind.u64.wrap ((IntKind.u64.wrap ((a0 / 4294967296)*(Go.bits .and .u64 a1 4294967295)))+((IntKind.u64.wrap ((Go.bits .and .u64 a0 4294967295)*(Go.bits .and .u64 a1 4294967295))) / 4294967296))) 4294967295)+(IntKind.u64.wrap ((Go.bits .and .u64 a0 4294967295)*(a1 / 4294967296))))) / 4294967296)),IntKind.u64.wrap (a0*a1)))=some (r1,r2):=h;clear h;simp only [Option.some.injEq,Prod.mk.injEq] at H;obtain ⟨rfl,rfl⟩:=H
 go_enter Tryz.func144,Tryz.ntmps144
 go_wp2
 go_ret2
 exact ⟨q4_0,q4_2⟩
def bits_Mul.f (a0:Int) (a1:Int):Option (Int × Int):=(bits_Mul64.f a0 a1).bind fun bt198=>(some (bt198.1,bt198.2))
theorem bits_Mul.calls (a0:Int) (a1:Int) (r1:Int) (r2:Int) (w:World) (h:bits_Mul.f a0 a1=some (r1,r2)) :
  Calls Tryz.prog 124 #[.int .u64 a0,.int .u64 a1] w fun e w'=>e=.returned (.tuple #[.int .u64 r1,.int .u64 r2])∧Drawn0 w w':=by
 have H:((bits_Mul64.f a0 a1).bind fun bd=>(some (bd.1,bd.2)))=some (r1,r2):=h;clear h;replace H:=bs H;obtain ⟨⟨bz,bA⟩,A3,H⟩:=H;(try dsimp only at H);simp only [Option.some.injEq,Prod.mk.injEq] at H;obtain ⟨rfl,rfl⟩:=H
 go_enter Tryz.func124,Tryz.ntmps124
 go_wp2_with (first|((with_reducible refine gate_callee (f:=144) rfl ?_);refine gl (some 25) Tryz.func144 #[.int .u64 a0,.int .u64 a1] ?_;(with_reducible refine (bits_Mul64.calls a0 a1 bz bA _ A3.out).mono ?_);rintro e w' ⟨rfl,⟨nd,rfl⟩⟩;refine ⟨_,rfl,?_⟩))
 go_ret2
 exact ⟨q4_0,q4_2⟩
def slices_Repeat.f (l0:List Int) (a1:Int):Option (List Int):=if l0.length=1∧1≤a1∧a1≤24 then some (List.replicate a1.toNat (rd l0 0)) else none
theorem bits_Mul.one:∀ a:Fin 25,bits_Mul.f 1 ((a.val:Nat):Int)=some (0,((a.val:Nat):Int)):=by decide +kernel
theorem slices_Repeat.calls (A0:Option Addr) (c0:Nat) (l0:List Int) (a1:Int) (r:List Int) (w:World) (hr0:Kd.C (Kd.int .i64) w A0 l0.length l0) (hc0:l0.length≤c0) (h:slices_Repeat.f l0 a1=some r) :
  Calls Tryz.prog 102 #[.slice A0 l0.length c0,.int .i64 a1] w fun e w'=>∃ v0_:Value,e=.returned (v0_)∧Kd.R (Kd.int .i64) 2 w' w.heap.size (fun _=>True) v0_ r∧Below w.heap.size w w':=by
 unfold slices_Repeat.f at h
 by_cases hc:l0.length=1∧1≤a1∧a1≤24
 rotate_left
 ·rw [if_neg hc] at h;cases h
 rw [if_pos hc] at h;obtain ⟨h1,h2,h3⟩:=hc
 obtain ⟨x,rfl⟩:∃ x,l0=[x]:=by
  match l0,h1 with
  | [x],_=>exact ⟨x,rfl⟩
 obtain ⟨m,rfl⟩:∃ m:Nat,a1=(m:Int):=⟨a1.toNat,by omega⟩;have hmul:=bits_Mul.one ⟨m,by omega⟩;simp only at hmul;have HMUL:=ak hmul;have HR0:=ak hr0;have HC0:=ak hc0;obtain rfl:=Option.some.inj h;clear hr0 hc0 hmul h;simp only [List.length_cons,List.length_nil] at h1 ⊢;clear h1
 go_enter Tryz.func102,Tryz.ntmps102
 go_wp2_with (first|(go_at_call 124;refine (bits_Mul.calls _ _ _ _ _ HMUL.out).mono ?_;rintro e w1 ⟨rfl,hd⟩;have HB:=ak hd.below;clear hd)|((with_reducible refine gate_dst (N:=30) rfl ?_);refine Kd.R_make (Kd.int .i64) _ 2 rfl (N:=30) rfl 24 _ _ rfl (m:Int) rfl rfl Tryz.underlying24 (.int .i64 0) 8 info2 rfl dc (by omega) 0 (ok:=fun _=>True) (okp:=fun _=>True) rfl (fun _ hk=>hk) trivial (by omega) (by omega) (Below.refl _ _) (Nat.le_refl _) ?_;intro bZ w4 ho5 hb hg_ hnew_;clear hg_ hnew_;have HO:=ak (Kd.R_lower ho5 HB.out.size);have n1_:=ak (below_step HB.out hb);clear HB;have HB:=n1_;clear n1_;clear hb ho5)|((with_reducible refine gate_dst (N:=33) rfl ?_);refine Kd.R_copy (d:=(0:Int)) _ rfl (.tmp 31) (.tmp 32) 24 24 2 rfl Tryz.underlying24 kr _ _ _ _ _ _ (fun _=>True) rfl rfl HO.out (Kd.C_below HR0.out HB.out) HB.out HB.out.size ?_;intro w5 ho2 hb2 hg2;have n1_:=ak hb2;have n2_:=ak ho2;clear HB HO hb2 ho2 hg2;have HB:=n1_;have HO:=n2_;clear n1_ n2_))
 obtain ⟨g,cap,L0,rfl,hbg,hg0,hL0,hmc,hcap,ht0⟩:=block_of_R HO.out (m:=m) (by simp;omega) (by omega);have h1m:min 1 m=1:=by omega
 have ht1:L0.take m=encs EI (repd x 1 m):=by
  rw [ht0,List.length_replicate,Int.toNat_natCast,h1m];unfold repd;simp
 have HG0:=ak hg0;have HT0:=ak ht1;have HL0:=ak hL0;clear HO hg0 ht0 ht1 hL0;rw [h1m];have e1:((1:Nat):Int)=1:=rfl;rw [e1];clear h1m e1
 go_loopw [8] (fun v8 w'=>∃ (n:Nat) (L:List Value),v8=.int .i64 (n:Int)∧Aside0 (1≤n∧n≤m)∧Aside0 (w'.heap[g]?=some (.cells L.toArray 2 (0,0)))∧Aside0 (L.length=cap)∧Aside0 (L.take m=encs EI (repd x n m))∧Aside0 (Below w.heap.size w w')) (fun v8 _=>m - (intOf v8).toNat)
 case atStart=>exact ⟨1,L0,rfl,⟨by omega⟩,HG0,HL0,HT0,HB⟩
 case round =>
  obtain ⟨n,L,rfl,HN,HG,HL,HT,HB⟩:=hrel;have hn:=HN.out
  by_cases hlt:n<m
  rotate_left
  ·go_wp2
   refine bodyPost_ret (v:=.slice (some ⟨g,0,none⟩) m cap) (by simp [results,Tryz.results102,go_sem]) rfl ⟨_,rfl,?_,HB.out⟩
   have e:n=m:=by omega
   subst e
   refine R_of_block hbg HG.out HL.out hmc hcap (by simp) ?_
   rw [HT.out];unfold repd;simp [rd]
  go_wp2
  have hle:min n (m - n)≤m - n:=Nat.min_le_right _ _;obtain ⟨q,hq⟩:∃ q,q=min n (m - n):=⟨_,rfl⟩;have HQ:=ak hq;obtain ⟨cs,hcs⟩:∃ cs,cs=encs EI (List.replicate q x):=⟨_,rfl⟩;have hcl:cs.length=q:=by rw [hcs];simp [encs]
  have C1:=ak (show cs.length=Nat.min n (m - n) from hcl.trans hq);have C2:=ak (show 0<cs.length→some (⟨g,n,none⟩:Addr)=some ⟨g,n,none⟩∧∃ ad,some (⟨g,0,none⟩:Addr)=some ad∧∀ j v,cs[j]?=some v→wr.drew.cell? (ad.add j)=some v from fun _=>⟨rfl,_,rfl,fun j v hv=>copy_src HG.out HT.out hn.2 hcs hq hv⟩);have C3:=ak (show n+cs.length≤L.length by rw [hcl,HL.out];omega);have C4:=ak (show ∀ v∈cs,v.oneCell'=true by rw [hcs];intro v hv;simp only [encs,List.mem_map] at hv;obtain ⟨a,_,rfl⟩:=hv;rfl);have HCS:=ak hcs;have HCL:=ak hcl;clear hq hcs hcl hle;have hnc:n≤cap:=by omega
  have b0:¬ cap=n:=by omega
  go_region_law (rw [if_pos (by rfl)];refine op_copy_splice (.tmp 41) (.tmp 44) 24 24 rfl 2 Tryz.underlying24 kr (some ⟨g,n,none⟩) (some ⟨g,0,none⟩) (m - n) (cap - n) n cap (by go_simp) (by go_simp) g n L 2 HG.out cs C1.out C2.out C3.out C4.out w.heap.size w (below_drew HB.out) hbg ?_;intro w6 hg6 hb6)
  have hg6':=ak hg6.out;have hb6':=ak hb6;clear hg6 hb6;have hq1:1≤q∧n+q≤m:=by rw [HQ.out];omega
  go_simp
  rw [HCL.out,Go.IntWalk.i64_in _ (by omega)]
  go_roundw
  case measure=>simp [intOf];omega
  case rel =>
   (repeat apply Exists.intro)
   refine ⟨⟨n+q,splice L n cs,?_,⟨by omega⟩,hg6',⟨(length_splice L n cs C3.out).trans HL.out⟩,⟨by rw [HCS.out,HQ.out];exact take_splice hn.2 (by rw [HL.out];exact hmc) HT.out⟩,hb6'⟩,rfl⟩
   go_num
def impl_endOf.l0:Nat→List Int→Int→Int→Option (Int)
 | 0,_,_,_=>none
 | k+1,x0,x1,x5=>if x5>0 then (if 0≤x1 then (if x1<(x0.length:Int) then (impl_endOf.l0 k x0 (wrap64 (x1+1)) (wrap64 (x5+(wrap64 ((rd x0 x1) - 1))))) else (none)) else (none)) else (some x1)
def impl_endOf.f (k:Nat) (l0:List Int) (a1:Int):Option (Int):=impl_endOf.l0 k l0 a1 1
theorem impl_endOf.calls (k:Nat) (A0:Option Addr) (c0:Nat) (l0:List Int) (a1:Int) (r:Int) (w:World) (hr0:Kd.C (Kd.int .i64) w A0 l0.length l0) (hc0:l0.length≤c0) (h:impl_endOf.f k l0 a1=some r) :
  Calls Tryz.prog 117 #[.slice A0 l0.length c0,.int .i64 a1] w fun e w'=>e=.returned (.int .i64 r)∧Drawn0 w w':=by
 have HR0:=ak hr0;have HC0:=ak hc0;clear hr0 hc0;have H:(impl_endOf.l0 k l0 a1 1)=some r:=h;clear h;have H':=ak H;clear H
 go_enter Tryz.func117,Tryz.ntmps117
 go_wp2
 go_loopg [1,5] k (fun kq v1 v5 w'=>∃ (an:Int) (av:Int),v1=.int .i64 an∧v5=.int .i64 av∧Aside0 (impl_endOf.l0 kq l0 an av=some r)∧Aside0 (kq≤k)∧Drawn0 w w')
 case atStart=>exact ⟨(a1),(1),q4_0,q4_0,H',⟨Nat.le_refl _⟩,q4_2⟩
 case round =>
  clear H';obtain ⟨an,av,rfl,rfl,HA,HK1,⟨m1,rfl⟩⟩:=hrel
  cases gk with|zero=>exact absurd HA.out (by simp [impl_endOf.l0])|succ k1=>?_
  have H:=HA.out;clear HA;simp only [impl_endOf.l0] at H;obtain c3|c3:=nem (av>0)
  ·rw [if_neg c3] at H;have al:decide (0<av)=false:=decide_eq_false c3;clear c3;obtain rfl:=Option.some.inj H;go_wp2
   go_ret
   exact ⟨q4_0,q4_2⟩
  rw [if_pos c3] at H;have al:decide (0<av)=true:=decide_eq_true c3;clear c3;replace H:=ifs H;obtain ⟨c4,H⟩:=H;have b1:=dt c4;clear c4;replace H:=ifs H;obtain ⟨c5,H⟩:=H;have aW:=dt c5;clear c5;have H':=ak H;clear H;have aT:0≤(an:Int):=od q4_1;have aU:an<(l0.length:Int):=od q4_1;obtain ⟨b2,bB,b3⟩:=Kd.at_int HR0.out an aT aU;cases bB;replace aT:=eq_true aT;replace aU:=eq_true aU;go_wp2
  go_roundg k1
  case measure=>have:=HK1.out;omega
  case rel=>exact ⟨(wrap64 (an+1)),(wrap64 (av+(wrap64 ((rd l0 an) - 1)))),q4_0,q4_0,H',⟨by have:=HK1.out;omega⟩,q4_2⟩
end Go.Proofs.YtlppkilencpmeaaGreat.QFnGrowth
