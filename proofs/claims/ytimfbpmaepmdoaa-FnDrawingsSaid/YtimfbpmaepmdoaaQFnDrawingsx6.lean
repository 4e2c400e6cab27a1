/- Functions as Lean functions, with their contracts: written by a program of this claim over the translation; some contracts are proved by hand. -/
import Derived.Test.YtimfbpmaepmdoaaQFnDrawingsx0
namespace Go.Proofs.Ytimfbpmaepmdoaa.QFnDrawings
open Go.RowKit Go.Proofs.Ytimfbpmaepmdoaa.Gl Go.Proofs.Ytimfbpmaepmdoaa.Sz Go.Proofs.YtimfbpmaepmdoaaW.PrintWords Go.Proofs.YtimfbpmaepmdoaaW.PrintLast Go.Proofs.YtimfbpmaepmdoaaW.PrintMore
attribute [local go_sem] max2_int min2_int max_two min_two max_three min_three max_four min_four   -- for this text's walks alone
set_option linter.unusedVariables false
set_option linter.unusedSimpArgs false
theorem q6_0 {P:Prop} (h:P:=by first|rfl|(simp;done)|(simp [*];done)):P:=h
theorem q6_1 {P:Prop} (h:P:=by repeat (first|exact Drawn0.refl _|apply Drawn0.step)):P:=h
theorem q6_2 {P:Prop} (h:P:=by first|(with_reducible assumption)|assumption):P:=h
set_option maxHeartbeats 8000000
set_option maxRecDepth 100000
mutual
def impl_isTree.j0:Nat→List Int→Bool→Option (Bool)
 | 0,_,_=>none
 | k+1,x0,x13=>if x13=true then (some false) else (impl_isTree.l0 k 1 x0 (x0.length:Int) 0)
def impl_isTree.l0:Nat→Int→List Int→Int→Int→Option (Bool)
 | 0,_,_,_,_=>none
 | k+1,x3,x14,x15,x16=>if x16<x15 then (if 0≤x16 then (if x16<(x14.length:Int) then (if x3=0 then (some false) else (if (rd x14 x16)<0 then (some false) else (if (rd x14 x16)≥24 then (some false) else (impl_isTree.l0 k (wrap64 (x3+(wrap64 ((rd x14 x16) - 1)))) x14 x15 (wrap64 (x16+1)))))) else (none)) else (none)) else (some (x3 == 0))
end
def impl_isTree.f (k:Nat) (l0:List Int):Option (Bool):=if (l0.length:Int)<1 then (impl_isTree.j0 k l0 true) else (impl_isTree.j0 k l0 (decide ((l0.length:Int)>24)))
theorem impl_isTree.calls (k:Nat) (A0:Option Addr) (c0:Nat) (l0:List Int) (r:Bool) (w:World) (hr0:Kd.C (Kd.int .i64) w A0 l0.length l0) (hc0:l0.length≤c0) (h:impl_isTree.f k l0=some r) :
  Calls Try.prog 46 #[.slice A0 l0.length c0] w fun e w'=>e=.returned (.bool r)∧Drawn0 w w':=by
 have HR0:=ak hr0;have HC0:=ak hc0;clear hr0 hc0;have H:(if (l0.length:Int)<1 then (impl_isTree.j0 k l0 true) else (impl_isTree.j0 k l0 (decide ((l0.length:Int)>24))))=some r:=h;clear h;have HC2:=ak H;clear H
 go_enter Try.func46,Try.ntmps46
 go_upto_region 1 with (fail)
 go_cut [13] (fun v13 wc=>∃ (kq:Nat) (an:Bool),v13=.bool an∧Aside0 (impl_isTree.j0 kq l0 an=some r)∧Aside0 (kq≤k)∧Drawn0 w wc)
 case first =>
  have H:=HC2.out;clear HC2
  by_cases c3:(l0.length:Int)<1
  ·rw [if_pos c3] at H;have ag:=dt c3;have aI:decide (l0.length<1)=true:=decide_eq_true (by omega);clear c3;(first|rw [ag]|(simp only [i64_w,i32_w];rw [ag])|skip);have H':=ak H;clear H;go_wp2
   go_meet
   case rel=>exact ⟨_,(true),q6_0,H',⟨by first|omega|exact Nat.le_refl _⟩,q6_1⟩
  rw [if_neg c3] at H;have ag:=df c3;have aI:decide (l0.length<1)=false:=decide_eq_false (by omega);clear c3;(first|rw [ag]|(simp only [i64_w,i32_w];rw [ag])|skip);have H':=ak H;clear H;go_wp2
  go_meet
  case rel=>exact ⟨_,(decide ((l0.length:Int)>24)),q6_0,H',⟨by first|omega|exact Nat.le_refl _⟩,q6_1⟩
 clear HC2;obtain ⟨kq,an,rfl,HA,HJ1,⟨mc1,rfl⟩⟩:=hcut
 cases kq with|zero=>exact absurd HA.out (by simp [impl_isTree.j0])|succ kj1=>?_
 have H:=HA.out;clear HA;simp only [impl_isTree.j0] at H
 by_cases c4:an=true
 ·subst c4;replace H:(some false)=some r:=by rw [if_pos rfl] at H;exact H
  obtain rfl:=Option.some.inj H;go_wp2
  go_ret
  exact ⟨q6_0,q6_1⟩
 replace c4:=Bool.eq_false_iff.mpr c4;subst c4;have H1:(impl_isTree.l0 kj1 1 l0 (l0.length:Int) 0)=some r:=by rw [if_neg (show ¬ (false=true) by decide)] at H;exact H
 clear H;have H:=H1;clear H1;have H':=ak H;clear H;go_wp2
 go_loopg [3,16] kj1 (fun kq v3 v16 w'=>∃ (ai:Int) (aa:Int),v3=.int .i64 ai∧v16=.int .i64 aa∧Aside0 (impl_isTree.l0 kq ai l0 (l0.length:Int) aa=some r)∧Aside0 (kq≤kj1)∧Drawn0 w w')
 case atStart=>exact ⟨(1),(0),q6_0,q6_0,H',⟨Nat.le_refl _⟩,q6_1⟩
 case round =>
  clear H';obtain ⟨ai,aa,rfl,rfl,HA,HK2,⟨m2,rfl⟩⟩:=hrel
  cases gk with|zero=>exact absurd HA.out (by simp [impl_isTree.l0])|succ k2=>?_
  have H:=HA.out;clear HA;simp only [impl_isTree.l0] at H;obtain c5|c5:=nem (aa<(l0.length:Int))
  ·rw [if_neg c5] at H;have aA:=df c5;clear c5;obtain rfl:=Option.some.inj H;go_wp2
   go_ret
   exact ⟨q6_0,q6_1⟩
  rw [if_pos c5] at H;have aA:=dt c5;clear c5;replace H:=ifs H;obtain ⟨c6,H⟩:=H;have a3:=dt c6;clear c6;replace H:=ifs H;obtain ⟨c7,H⟩:=H;have aC:=dt c7;clear c7
  by_cases c8:ai=0
  ·rw [if_pos c8] at H;have aJ:=be c8;have aK:=bn c8;clear c8;obtain rfl:=Option.some.inj H;have ab:0≤(aa:Int):=od q6_2;have ac:aa<(l0.length:Int):=od q6_2;obtain ⟨ap,aj,aq⟩:=Kd.at_int HR0.out aa ab ac;cases aj;replace ab:=eq_true ab;replace ac:=eq_true ac;go_wp2
   go_ret
   exact ⟨q6_0,q6_1⟩
  rw [if_neg c8] at H;have aJ:(ai == 0)=false:=beq_eq_false_iff_ne.mpr c8;have aK:(ai != 0)=true:=bne_iff_ne.mpr c8
  by_cases c9:(rd l0 aa)<0
  ·rw [if_pos c9] at H;have aM:=dt c9;clear c9;obtain rfl:=Option.some.inj H;have ab:0≤(aa:Int):=od q6_2;have ac:aa<(l0.length:Int):=od q6_2;obtain ⟨ap,aj,aq⟩:=Kd.at_int HR0.out aa ab ac;cases aj;replace ab:=eq_true ab;replace ac:=eq_true ac;go_wp2
   go_ret
   exact ⟨q6_0,q6_1⟩
  rw [if_neg c9] at H;have aM:=df c9;clear c9
  by_cases c10:(rd l0 aa)≥24
  ·rw [if_pos c10] at H;have aN:decide (24≤(rd l0 aa))=true:=decide_eq_true c10;clear c10;obtain rfl:=Option.some.inj H;have ab:0≤(aa:Int):=od q6_2;have ac:aa<(l0.length:Int):=od q6_2;obtain ⟨ap,aj,aq⟩:=Kd.at_int HR0.out aa ab ac;cases aj;replace ab:=eq_true ab;replace ac:=eq_true ac;go_wp2
   go_ret
   exact ⟨q6_0,q6_1⟩
  rw [if_neg c10] at H;have aN:decide (24≤(rd l0 aa))=false:=decide_eq_false c10;clear c10;have H':=ak H;clear H;have ab:0≤(aa:Int):=od q6_2;have ac:aa<(l0.length:Int):=od q6_2;obtain ⟨ap,aj,aq⟩:=Kd.at_int HR0.out aa ab ac;cases aj;replace ab:=eq_true ab;replace ac:=eq_true ac;go_wp2
  go_roundg k2
  case measure=>have:=HJ1.out;have:=HK2.out;omega
  case rel=>exact ⟨(wrap64 (ai+(wrap64 ((rd l0 aa) - 1)))),(wrap64 (aa+1)),q6_0,q6_0,H',⟨by have:=HJ1.out;have:=HK2.out;omega⟩,q6_1⟩
def impl_IsTree.f (k:Nat) (l0_0:List Int):Option (Bool):=(impl_isTree.f k l0_0).bind fun t204=>(some t204)
theorem impl_IsTree.calls (k:Nat) (A0_0:Option Addr) (c0_0:Nat) (l0_0:List Int) (r:Bool) (w:World) (hr0_0:Kd.C (Kd.int .i64) w A0_0 l0_0.length l0_0) (hc0_0:l0_0.length≤c0_0) (h:impl_IsTree.f k l0_0=some r) :
  Calls Try.prog 29 #[.agg #[.slice A0_0 l0_0.length c0_0]] w fun e w'=>e=.returned (.bool r)∧Below w.heap.size w w':=by
 have hu28:=Try.underlying28;have aQ:=ak hr0_0;have aR:=ak hc0_0;clear hr0_0 hc0_0;have HB:=ak (Below.refl w.heap.size w);have H:((impl_isTree.f k l0_0).bind fun ar=>(some ar))=some r:=h;clear h;replace H:=bs H;obtain ⟨ar,A2,H⟩:=H;(try dsimp only at H);obtain rfl:=Option.some.inj H
 go_enter Try.func29,Try.ntmps29
 go_wp2_with (first|((with_reducible refine gate_dst (N:=1) rfl ?_);refine bev (N:=1) (cs:=#[.slice A0_0 l0_0.length c0_0]) (t:=28) ?_;intro a4 hg w3 hbox hb;have aD:=ak (hbox);have a5:=gbe hg;have a6:=gbe hg;replace HB:=hbs hb;clear hb hbox hg;have a7:=bc aD.out;have a8:=blk_frozen aD.out 0)|((with_reducible refine gate_callee (f:=46) rfl ?_);refine gl (some 5) Try.func46 #[.slice A0_0 l0_0.length c0_0] ?_;(with_reducible refine (impl_isTree.calls k _ _ l0_0 ar _ (pc (Kd.C_below aQ.out HB.out)) aR.out A2.out).mono ?_);rintro e w' ⟨rfl,⟨nd,rfl⟩⟩;refine ⟨_,rfl,?_⟩))
 go_ret
 exact ⟨ew,hq⟩
def impl_endOf.l0:Nat→List Int→Int→Int→Option (Int)
 | 0,_,_,_=>none
 | k+1,x0,x1,x5=>if x5>0 then (if 0≤x1 then (if x1<(x0.length:Int) then (impl_endOf.l0 k x0 (wrap64 (x1+1)) (wrap64 (x5+(wrap64 ((rd x0 x1) - 1))))) else (none)) else (none)) else (some x1)
def impl_endOf.f (k:Nat) (l0:List Int) (a1:Int):Option (Int):=impl_endOf.l0 k l0 a1 1
theorem impl_endOf.calls (k:Nat) (A0:Option Addr) (c0:Nat) (l0:List Int) (a1:Int) (r:Int) (w:World) (hr0:Kd.C (Kd.int .i64) w A0 l0.length l0) (hc0:l0.length≤c0) (h:impl_endOf.f k l0 a1=some r) :
  Calls Try.prog 73 #[.slice A0 l0.length c0,.int .i64 a1] w fun e w'=>e=.returned (.int .i64 r)∧Drawn0 w w':=by
 have HR0:=ak hr0;have HC0:=ak hc0;clear hr0 hc0;have H:(impl_endOf.l0 k l0 a1 1)=some r:=h;clear h;have H':=ak H;clear H
 go_enter Try.func73,Try.ntmps73
 go_wp2
 go_loopg [1,5] k (fun kq v1 v5 w'=>∃ (ah:Int) (ae:Int),v1=.int .i64 ah∧v5=.int .i64 ae∧Aside0 (impl_endOf.l0 kq l0 ah ae=some r)∧Aside0 (kq≤k)∧Drawn0 w w')
 case atStart=>exact ⟨(a1),(1),q6_0,q6_0,H',⟨Nat.le_refl _⟩,q6_1⟩
 case round =>
  clear H'
  try clear p2
  obtain ⟨ah,ae,rfl,rfl,HA,HK1,⟨m1,rfl⟩⟩:=hrel
  cases gk with|zero=>exact absurd HA.out (by simp [impl_endOf.l0])|succ k1=>?_
  have H:=HA.out;clear HA;simp only [impl_endOf.l0] at H;obtain c3|c3:=nem (ae>0)
  ·rw [if_neg c3] at H;have ag:decide (0<ae)=false:=decide_eq_false c3;clear c3;obtain rfl:=Option.some.inj H;go_wp2
   go_ret
   exact ⟨q6_0,q6_1⟩
  rw [if_pos c3] at H;have ag:decide (0<ae)=true:=decide_eq_true c3;clear c3;replace H:=ifs H;obtain ⟨c4,H⟩:=H;have aT:=dt c4;clear c4;replace H:=ifs H;obtain ⟨c5,H⟩:=H;have aA:=dt c5;clear c5;have H':=ak H;clear H;have au:0≤(ah:Int):=od q6_2;have av:ah<(l0.length:Int):=od q6_2;obtain ⟨a9,aU,ba⟩:=Kd.at_int HR0.out ah au av;cases aU;replace au:=eq_true au;replace av:=eq_true av;go_wp2
  go_roundg k1
  case measure=>have:=HK1.out;omega
  case rel=>exact ⟨(wrap64 (ah+1)),(wrap64 (ae+(wrap64 ((rd l0 ah) - 1)))),q6_0,q6_0,H',⟨by have:=HK1.out;omega⟩,q6_1⟩
def impl_kidsOf.l0:Nat→List Int→List Int→Int→Int→Int→Option (List Int)
 | 0,_,_,_,_,_=>none
 | k+1,x0,x5,x6,x13,x14=>if x14<x13 then (if x5.length<17592186044416 then ((impl_endOf.f k x0 x6).bind fun t213=>(impl_kidsOf.l0 k x0 (x5++[x6]) t213 x13 (wrap64 (x14+1)))) else (none)) else (some x5)
def impl_kidsOf.f (k:Nat) (l0:List Int) (a1:Int):Option (List Int):=if 0≤a1 then (if a1<(l0.length:Int) then (impl_kidsOf.l0 k l0 ([]:List Int) (wrap64 (a1+1)) (rd l0 a1) 0) else (none)) else (none)
theorem impl_kidsOf.calls (k:Nat) (A0:Option Addr) (c0:Nat) (l0:List Int) (a1:Int) (r:List Int) (w:World) (hr0:Kd.C (Kd.int .i64) w A0 l0.length l0) (hc0:l0.length≤c0) (h:impl_kidsOf.f k l0 a1=some r) :
  Calls Try.prog 58 #[.slice A0 l0.length c0,.int .i64 a1] w fun e w'=>∃ v0_:Value,e=.returned (v0_)∧Kd.R (Kd.int .i64) 2 w' w.heap.size (fun _=>True) v0_ r∧Below w.heap.size w w':=by
 have HR0:=ak hr0;have HC0:=ak hc0;clear hr0 hc0;have HB:=ak (Below.refl w.heap.size w);have H:(if 0≤a1 then (if a1<(l0.length:Int) then (impl_kidsOf.l0 k l0 ([]:List Int) (wrap64 (a1+1)) (rd l0 a1) 0) else (none)) else (none))=some r:=h;clear h;obtain ⟨aE,hY⟩:∃ y_:List Int,y_=([]:List Int):=⟨_,rfl⟩;replace H:(if 0≤a1 then (if a1<(l0.length:Int) then (impl_kidsOf.l0 k l0 aE (wrap64 (a1+1)) (rd l0 a1) 0) else (none)) else (none))=some r:=hh;have aG:=ak hY;clear hY;replace H:=ifs H;obtain ⟨c3,H⟩:=H;have ag:=dt c3;clear c3;replace H:=ifs H;obtain ⟨c4,H⟩:=H;have aT:=dt c4;clear c4;have H':=ak H;clear H
 go_enter Try.func58,Try.ntmps58
 go_wp2_with (first|((with_reducible refine gate_dst (N:=7) rfl ?_);refine Kd.R_lit (Kd.int .i64) _ 2 ?hg (N:=7) ?hd (xs:=([]:List Int)) (inner:=[]) (ok:=fun _=>True) (okp:=fun _=>True) ?hr ?hp (fun _ hk=>hk) trivial (Below.refl _ _) (Nat.le_refl _) (by simp) ?_;(case hd=>rfl);(case hg=>rfl);(case hr=>exact gs);(case hp=>exact (Reps.none _ _));intro bd w5 ho6 hb hg_ hnew_;clear hg_ hnew_;(first|rw [← aG.out] at ho6|(simp only [Int.reduceToNat] at ho6;rw [← aG.out] at ho6));have aV:=lw ho6;replace HB:=hbs hb;clear hb ho6;have aw:0≤(a1:Int):=od q6_2;have ax:a1<(l0.length:Int):=od q6_2;obtain ⟨aW,aX,ay⟩:=Kd.at_int HR0.out a1 aw ax;cases aX;replace ay:=(HB.out.cell (World.block_lt_of_cell? w _ ay)).trans ay;replace aw:=eq_true aw;replace ax:=eq_true ax))
 go_loopg [5,6,14] k (fun kq v5 v6 v14 w'=>∃ (ae:List Int) (af:Int) (al:Int),v6=.int .i64 af∧v14=.int .i64 al∧Aside0 (impl_kidsOf.l0 kq l0 ae af (rd l0 a1) al=some r)∧Aside0 (kq≤k)∧Aside0 (Kd.R (Kd.int .i64) 2 w' w.heap.size (fun _=>True) v5 ae)∧Aside0 (Below w.heap.size w w'))
 case atStart=>exact ⟨(aE),(wrap64 (a1+1)),(0),q6_0,q6_0,H',⟨Nat.le_refl _⟩,⟨pe aV.out⟩,⟨hq⟩⟩
 case round =>
  clear H';obtain ⟨ae,af,al,rfl,rfl,HA,HK1,az,HB⟩:=hrel
  cases gk with|zero=>exact absurd HA.out (by simp [impl_kidsOf.l0])|succ k1=>?_
  have H:=HA.out;clear HA;simp only [impl_kidsOf.l0] at H;obtain c7|c7:=nem (al<(rd l0 a1))
  ·rw [if_neg c7] at H;have aC:=df c7;clear c7;obtain rfl:=Option.some.inj H;go_wp2
   go_ret
   exact ⟨_,ew,pe az.out,hq⟩
  rw [if_pos c7] at H;have aC:=dt c7;clear c7;replace H:=ifs H;obtain ⟨c8,H⟩:=H;have aY:=ak c8;clear c8;obtain ⟨aH,hY⟩:∃ y_:List Int,y_=(ae++[af]):=⟨_,rfl⟩;replace H:((impl_endOf.f k1 l0 af).bind fun ao=>(impl_kidsOf.l0 k1 l0 aH ao (rd l0 a1) (wrap64 (al+1))))=some r:=hh;have aZ:=ak hY;clear hY;replace H:=bs H;obtain ⟨ao,A9,H⟩:=H;(try dsimp only at H);have H':=ak H;clear H
  go_wp2_with (first|((with_reducible refine gate_builtin (b:=.append) (xs:=#[.tmp 16,.tmp 18]) rfl ?_);at_builtin;refine Kd.R_append (Kd.int .i64) (w0:=w) w.heap.size rfl (.tmp 16) (.tmp 18) 22 2 (.int .i64 0) 8 rfl Try.underlying22 info2 rfl dc (by omega) u5 ae af [.int .i64 af] (fun _=>True) (fun _=>False) rfl rfl ?aP (fun _ hk=>hk.elim) ?aF ?aO ?aB ?aS ?aL ?_;(case aP=>exact rfl);(case aB=>exact hq);(case aF=>exact (fun _ _=>trivial));(case aO=>exact (pe az.out));(case aS=>exact (below_size hq));(case aL=>have:=aY.out;omega);intro bf w10 ho hb hg hat;rw [← aZ.out] at ho;replace HB:=ak (hb);have a2:=ak (ho);clear az;clear ho hb hg hat)|((with_reducible refine gate_callee (f:=73) rfl ?_);refine gl (some 22) Try.func73 #[.slice (some aW) l0.length c0,.int .i64 af] ?_;(with_reducible refine (impl_endOf.calls k1 _ _ l0 af ao _ (pc (Kd.C_below HR0.out HB.out)) HC0.out A9.out).mono ?_);rintro e w' ⟨rfl,⟨nd,rfl⟩⟩;refine ⟨_,rfl,?_⟩))
  go_roundg k1
  case measure=>have:=HK1.out;omega
  case rel=>exact ⟨(aH),(ao),(wrap64 (al+1)),q6_0,q6_0,H',⟨by have:=HK1.out;omega⟩,⟨pe a2.out⟩,⟨hq⟩⟩
def slices_Grow.f (l0:List Int) (a1:Int):Option (List Int):=if l0=[]∧0≤a1∧a1≤100000000 then some [] else none
theorem slices_Grow.calls (A0:Option Addr) (c0:Nat) (l0:List Int) (a1:Int) (r:List Int) (w:World) (hr0:Kd.C (Kd.int .i64) w A0 l0.length l0) (hc0:l0.length≤c0) (h:slices_Grow.f l0 a1=some r) (hA:A0=none∧c0=0:=by exact ⟨rfl,rfl⟩) :
  Calls Try.prog 74 #[.slice A0 l0.length c0,.int .i64 a1] w fun e w'=>∃ v0_:Value,e=.returned (v0_)∧Kd.R (Kd.int .i64) 2 w' w.heap.size (fun _=>True) v0_ r∧Below w.heap.size w w':=by
 obtain ⟨rfl,rfl⟩:=hA
 unfold slices_Grow.f at h
 by_cases hc:l0=[]∧0≤a1∧a1≤100000000
 rotate_left
 ·rw [if_neg hc] at h;cases h
 rw [if_pos hc] at h;obtain rfl:=Option.some.inj h;obtain ⟨rfl,h0,h1⟩:=hc;clear h hr0 hc0;simp only [List.length_nil];have e0:wrap64 ((0:Int) - 0)=0:=by unfold wrap64;omega
 have e1:wrap64 a1=a1:=by unfold wrap64;omega
 have c1:decide (a1<0)=false:=decide_eq_false (by omega);have H0:=ak (show 0≤wrap64 a1 by rw [e1];exact h0);have H1:=ak (show wrap64 a1≤100000000 by rw [e1];exact h1)
 by_cases hz:a1>0
 ·have c2:decide (a1>0)=true:=decide_eq_true hz;have c3:(0<a1)=True:=eq_true hz;clear h0 h1 hz
  go_enter Try.func74,Try.ntmps74
  go_wp2_with ((with_reducible refine gate_builtin (b:=.append) (xs:=#[.tmp 20,.tmp 21]) rfl ?_);at_builtin;refine Kd.R_append_zeros (Kd.int .i64) (w0:=w) w.heap.size rfl (.tmp 20) (.tmp 21) 22 3 2 (.int .i64 0) 8 rfl Try.underlying22 Try.underlying3 info2 rfl dc (by omega) (.slice none 0 0) ([]:List Int) (0:Int) (wrap64 a1) (fun _=>True) rfl rfl rfl (fun _ _=>trivial) (Kd.R_nil _ _ _ _ _) H0.out (Below.refl _ _) (Nat.le_refl _) (by have h1_:=H1.out;have h0_:=H0.out;show (0+(wrap64 a1).toNat)*8≤140737488355328;omega) ?_;intro v1 w1 ho hb hg hat;obtain ⟨A1,c1_,e1_⟩:=Kd.R_slice ho;subst e1_;have HO:=ak ho;have HB:=ak hb;clear ho hb hg hat)
  go_ret
  exact ⟨_,rfl,by simpa using Kd.R_take (m:=0) HO.out (Nat.zero_le _),HB.out⟩
 have c2:decide (a1>0)=false:=decide_eq_false hz;have c3:(0<a1)=False:=eq_false hz;clear h0 h1 hz
 go_enter Try.func74,Try.ntmps74
 go_wp2
 go_ret
 exact ⟨_,rfl,Kd.R_nil _ _ _ _ _,Below.refl _ _⟩
def slices_Concat.f (l0:List (List Int)):Option (List Int):=if l0.length≤1000∧l0.flatten.length≤1000000 then some l0.flatten else none
theorem slices_Concat.row {w:World} {A:Option Addr} {n:Nat} {xs:List (List Int)} (h:Kd.C (Kd.slice 2 (Kd.int .i64)) w A n xs) (i:Nat) (h1:i<n):∃ ad A0 c0,A=some ad∧w.cell? (ad.add i)=some (.slice A0 (xs.getD i []).length c0)∧(xs.getD i []).length≤c0∧(Kd.int .i64).C w A0 (xs.getD i []).length (xs.getD i []):=by
 obtain ⟨ad,c,e,_,hK,hc0⟩:=Kd.C_get h ([]:List Int) (i:Int) (Int.natCast_nonneg _) (Int.ofNat_lt.2 h1)
 have hc:∀ j u,c[j]?=some u→w.cell? (ad.add ((i:Int).toNat*1+j))=some u:=hc0
 obtain ⟨A0,c0,rfl,l0,g0⟩:=hK
 exact ⟨ad,A0,c0,e,by have hq:=hc 0 _ rfl;rwa [Nat.mul_one,Nat.add_zero,Int.toNat_natCast] at hq,l0,g0⟩
theorem slices_Concat.take {l:List (List Int)} {i:Nat} (h:i<l.length):(l.take (i+1)).flatten=(l.take i).flatten++l.getD i []:=by
 rw [List.take_succ_eq_append_getElem h,List.flatten_append,List.getD_eq_getElem?_getD,List.getElem?_eq_getElem h];simp
theorem slices_Concat.len {l:List (List Int)} (i:Nat):(l.take i).flatten.length≤l.flatten.length:=by
 have e:l.flatten=(l.take i).flatten++(l.drop i).flatten:=by rw [← List.flatten_append,List.take_append_drop]
 rw [e,List.length_append];omega
theorem slices_Concat.calls (A0:Option Addr) (c0:Nat) (l0:List (List Int)) (r:List Int) (w:World) (hr0:Kd.C (Kd.slice 2 (Kd.int .i64)) w A0 l0.length l0) (hc0:l0.length≤c0) (h:slices_Concat.f l0=some r) :
  Calls Try.prog 60 #[.slice A0 l0.length c0] w fun e w'=>∃ v0_:Value,e=.returned (v0_)∧Kd.R (Kd.int .i64) 2 w' w.heap.size (fun _=>True) v0_ r∧Below w.heap.size w w':=by
 unfold slices_Concat.f at h
 by_cases hc:l0.length≤1000∧l0.flatten.length≤1000000
 rotate_left
 ·rw [if_neg hc] at h;cases h
 rw [if_pos hc] at h;obtain rfl:=Option.some.inj h;have HL:=ak hc;have HR0:=ak hr0;have HC0:=ak hc0;obtain ⟨T,hT⟩:∃ T,T=l0.flatten.length:=⟨_,rfl⟩;have HG:=ak (show slices_Grow.f [] (T:Int)=some [] from by unfold slices_Grow.f;rw [if_pos ⟨rfl,by omega,by omega⟩]);have HT:=ak hT;clear h hc hr0 hc0 hT
 go_enter Try.func60,Try.ntmps60
 go_wp2
 go_loop [3,11] (fun v3 v11=>∃ i a:Nat,v3=.int .i64 (a:Int)∧v11=.int .i64 (i:Int)∧Aside0 (i≤l0.length)∧Aside0 (a=(l0.take i).flatten.length)) (fun _ v11=>l0.length - (intOf v11).toNat)
 case atStart=>exact ⟨0,0,rfl,rfl,⟨Nat.zero_le _⟩,⟨rfl⟩⟩
 case round =>
  obtain ⟨i,a,rfl,rfl,hi,HA⟩:=hrel
  by_cases hlt:i<l0.length
  ·have hl:((i:Nat):Int)<((l0.length:Nat):Int):=Int.ofNat_lt.2 hlt;have hrow:=slices_Concat.row HR0.out i hlt;have h1_:=slices_Concat.len (l:=l0) (i+1);have htk:=slices_Concat.take hlt;obtain ⟨xs,hxs⟩:∃ xs,xs=l0.getD i []:=⟨_,rfl⟩;rw [← hxs] at htk hrow;rw [htk,List.length_append,← HA.out] at h1_;obtain ⟨ad,Ai,ci,rfl,hx,hci,hCi⟩:=hrow;obtain ⟨b,hb⟩:∃ b,b=xs.length:=⟨_,rfl⟩;rw [← hb] at h1_ hx;have h2_:=HL.out;have hw:wrap64 ((a:Int)+(b:Int))=((a+b:Nat):Int):=by unfold wrap64;omega
   have HW:=ak hw;have hw0:¬ ((a+b:Nat):Int)<0:=by omega
   have hw1:wrap64 ((i:Int)+1)=((i+1:Nat):Int):=by clear hw;unfold wrap64;omega
   have HW1:=ak hw1;have HN:=ak (show a+b=(l0.take (i+1)).flatten.length by rw [htk,List.length_append,← HA.out,← hb]);have HLT:=ak hlt;clear hb h1_ h2_ hCi hci htk hxs hw1;go_wp2
   go_round
   case rel=>exact ⟨i+1,a+b,by first|rfl|exact congrArg (Value.int .i64) HW.out,by first|rfl|(rw [HW1.out]),⟨HLT.out⟩,HN⟩
   case measure =>
    have h_:=HLT.out
    first|(rw [HW1.out];simp only [intOf,Int.toNat_natCast];exact Nat.sub_lt_sub_left h_ (Nat.lt_succ_self i))|(simp only [intOf,Int.toNat_natCast];exact Nat.sub_lt_sub_left h_ (Nat.lt_succ_self i))
  have hl:¬ ((i:Nat):Int)<((l0.length:Nat):Int):=fun h=>hlt (Int.ofNat_lt.1 h)
  have hil:=hi.out;have he:a=T:=by rw [HA.out,List.take_of_length_le (by omega)];exact HT.out.symm
  subst he;clear hil hlt
  go_wp2_with ((with_reducible refine gate_callee (f:=74) rfl ?_);refine goesL_ (some 24) rfl rfl Try.func74 kr rfl #[.slice none 0 0,.int .i64 (a:Int)] rfl (by (try simp only [List.map_toArray,List.map_cons,List.map_nil]);first|done|rfl) ?_;refine (slices_Grow.calls none 0 [] (a:Int) [] _ (Kd.C_nil _ _) (Nat.le_refl _) HG.out).mono ?_;rintro e w1 ⟨v24,rfl,ho,hb⟩;refine ⟨_,rfl,?_⟩;have HO:=ak ho;have HB:=ak hb;clear ho hb)
  go_loopw [6,27] (fun v6 v27 w'=>∃ (j:Nat) (s:List Int),v27=.int .i64 (j:Int)∧Aside0 (j≤l0.length)∧Aside0 (s=(l0.take j).flatten)∧Aside0 (Kd.R (Kd.int .i64) 2 w' w.heap.size (fun _=>True) v6 s)∧Aside0 (Below w.heap.size w w')) (fun _ v27 _=>l0.length - (intOf v27).toNat)
  case atStart=>exact ⟨0,[],rfl,⟨Nat.zero_le _⟩,⟨rfl⟩,HO,HB⟩
  case round =>
   obtain ⟨j,s,rfl,hj,HS,ho,hb⟩:=hrel
   by_cases hlt:j<l0.length
   rotate_left
   ·have hl:¬ ((j:Nat):Int)<((l0.length:Nat):Int):=fun h=>hlt (Int.ofNat_lt.1 h)
    have hjl:=hj.out;have hoo:=ho.out;rw [HS.out,List.take_of_length_le (by omega)] at hoo;have HO3:=ak hoo;clear hoo hjl hlt;go_wp2
    go_ret
    exact ⟨_,rfl,HO3.out,hb.out⟩
   have hl:((j:Nat):Int)<((l0.length:Nat):Int):=Int.ofNat_lt.2 hlt;have hrow:=slices_Concat.row (Kd.C_below HR0.out hb.out) j hlt;have h1_:=slices_Concat.len (l:=l0) (j+1);have htk:=slices_Concat.take hlt;obtain ⟨xs,hxs⟩:∃ xs,xs=l0.getD j []:=⟨_,rfl⟩;rw [← hxs] at htk hrow;rw [htk,List.length_append,← HS.out] at h1_;rw [← HS.out] at htk;obtain ⟨ad,Ai,ci,rfl,hx,hci,hCi⟩:=hrow;have h2_:=HL.out;have HLEN:=ak (show (s.length+xs.length)*8≤140737488355328 by omega);have HTK:=ak htk;have hw1:wrap64 ((j:Int)+1)=((j+1:Nat):Int):=by unfold wrap64;omega
   have HW1:=ak hw1;have HLT:=ak hlt;have HCI:=ak hCi;obtain ⟨A6,c6,e6⟩:=Kd.R_slice ho.out;subst e6;clear h1_ h2_ hCi hci htk hxs hw1
   go_wp2_with ((with_reducible refine gate_builtin (b:=.append) (xs:=#[.tmp 31,.tmp 32]) rfl ?_);at_builtin;refine Kd.R_append_rows (Kd.int .i64) (w0:=w) w.heap.size rfl (.tmp 31) (.tmp 32) 22 2 (.int .i64 0) 8 rfl Try.underlying22 info2 rfl dc (by omega) (.slice A6 s.length c6) s xs Ai xs.length ci (fun _=>True) (fun _=>False) rfl rfl ho.out HCI.out (fun _ _ h=>h) (fun _ h=>h.elim) (fun _ h=>trivial) hb.out hb.out.size HLEN.out ?_;intro v1 w2 ho2 hb2 hg2 _;have HO2:=ak ho2;have HB2:=ak hb2;clear ho2 hb2 hg2)
   go_roundw
   case rel=>exact ⟨j+1,s++xs,by first|rfl|(rw [HW1.out]),⟨HLT.out⟩,⟨HTK.out.symm⟩,HO2,HB2⟩
   case measure =>
    have h_:=HLT.out
    first|(rw [HW1.out];simp only [intOf,Int.toNat_natCast];exact Nat.sub_lt_sub_left h_ (Nat.lt_succ_self j))|(simp only [intOf,Int.toNat_natCast];exact Nat.sub_lt_sub_left h_ (Nat.lt_succ_self j))
end Go.Proofs.Ytimfbpmaepmdoaa.QFnDrawings
