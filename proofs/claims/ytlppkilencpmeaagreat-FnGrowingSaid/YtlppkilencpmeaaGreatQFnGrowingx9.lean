import Derived.Test.YtlppkilencpmeaaGreatQFnGrowingx0
import Derived.Test.YtlppkilencpmeaaGreatQFnGrowingx1
import Derived.Test.YtlppkilencpmeaaGreatQFnGrowingx2
import Derived.Test.YtlppkilencpmeaaGreatQFnGrowingx3
/- Functions as Lean functions, with their contracts: written by a program of this claim over the translation; some contracts are proved by hand. -/
namespace Go.Proofs.YtlppkilencpmeaaGreat.QFnGrowing
open Go.RowKit Go.Proofs.YtlppkilencpmeaaGreat.Gl Go.Proofs.YtlppkilencpmeaaGreat.Sz Go.Proofs.YtlppkilencpmeaaGreatW.PrintWords Go.Proofs.YtlppkilencpmeaaGreatW.PrintLast Go.Proofs.YtlppkilencpmeaaGreatW.PrintMore
attribute [local go_sem] max2_int min2_int max_two min_two max_three min_three max_four min_four   -- for this text's walks alone
set_option linter.unusedVariables false
set_option linter.unusedSimpArgs false
theorem q9_0 {P:Prop} (h:P:=by first|rfl|(simp;done)|(simp [*];done)):P:=h
theorem q9_1 {P:Prop} (h:P:=by first|(with_reducible assumption)|assumption):P:=h
theorem q9_2 {P:Prop} (h:P:=by repeat (first|exact Drawn0.refl _|apply Drawn0.step)):P:=h
theorem q9_3 {P:Prop} (h:P:=by repeat (first|exact (Kd.C_below HR1.out hq)|(with_reducible refine Kd.C_alloc ?_ _)|(with_reducible refine Kd.C_drewN ?_ _)|(with_reducible refine Kd.C_drew ?_))):P:=h
theorem q9_4 {P:Prop} (h:P:=by have:=HK1.out;omega):P:=h
set_option maxHeartbeats 8000000
set_option maxRecDepth 100000
def impl_growingCode.f (k:Nat) (l0_0:List Int) (l1:List Int):Option (Int):=(impl_orderCode.f k l0_0 l1).bind fun t442=>(if t442=0 then ((impl_isGrowing.f k l0_0 l1).bind fun t443=>(if t443=true then (some 0) else (some 5))) else (some t442))
theorem impl_growingCode.calls (k:Nat) (A0_0:Option Addr) (c0_0:Nat) (l0_0:List Int) (A1:Option Addr) (c1:Nat) (l1:List Int) (r:Int) (w:World) (hr0_0:Kd.C (Kd.int .i64) w A0_0 l0_0.length l0_0) (hc0_0:l0_0.length≤c0_0) (hr1:Kd.C (Kd.int .i64) w A1 l1.length l1) (hc1:l1.length≤c1) (h:impl_growingCode.f k l0_0 l1=some r) :
  Calls Tryz.prog 57 #[.agg #[.slice A0_0 l0_0.length c0_0],.slice A1 l1.length c1] w fun e w'=>e=.returned (.int .i64 r)∧Below w.heap.size w w':=by
 have hu27:=Tryz.underlying27;have aj:=ak hr0_0;have al:=ak hc0_0;clear hr0_0 hc0_0;have HR1:=ak hr1;have HC1:=ak hc1;clear hr1 hc1;have HB:=ak (Below.refl w.heap.size w);have H:((impl_orderCode.f k l0_0 l1).bind fun an=>(if an=0 then ((impl_isGrowing.f k l0_0 l1).bind fun aA=>(if aA=true then (some 0) else (some 5))) else (some an)))=some r:=h;clear h;replace H:=bs H;obtain ⟨an,A3,H⟩:=H;(try dsimp only at H);obtain c4|c4:=nem (an=0)
 ·rw [if_neg c4] at H;have ao:(an == 0)=false:=beq_eq_false_iff_ne.mpr c4;have aC:(an != 0)=true:=bne_iff_ne.mpr c4;obtain rfl:=Option.some.inj H
  go_enter Tryz.func57,Tryz.ntmps57
  go_wp2_with (first|((with_reducible refine gate_dst (N:=2) rfl ?_);refine bev (N:=2) (cs:=#[.slice A0_0 l0_0.length c0_0]) (t:=27) ?_;intro aT hg w17 hbox hb;have ad:=ak (hbox);have aU:=gbe hg;have aV:=gbe hg;replace HB:=hbs hb;clear hb hbox hg;have bR:=bc ad.out;have bS:=blk_frozen ad.out 0)|((with_reducible refine gate_callee (f:=55) rfl ?_);refine gl (some 8) Tryz.func55 #[.agg #[.slice A0_0 l0_0.length c0_0],.slice A1 l1.length c1] ?_;(with_reducible refine (impl_orderCode.calls k _ _ l0_0 _ _ l1 an _ (pc (Kd.C_below aj.out HB.out)) al.out (pc (Kd.C_below HR1.out HB.out)) HC1.out A3.out).mono ?_);rintro e w19 ⟨rfl,hb⟩;refine ⟨_,rfl,?_⟩;replace ad:=bb ad hb;replace HB:=hbs hb;(try clear hb)))
  go_ret
  exact ⟨ew,hq⟩
 rw [if_pos c4] at H;have ao:=be c4;have aC:=bn c4;clear c4;replace H:=bs H;obtain ⟨aA,A5,H⟩:=H;(try dsimp only at H)
 by_cases c6:aA=true
 ·subst c6;replace H:(some 0)=some r:=by rw [if_pos rfl] at H;exact H
  obtain rfl:=Option.some.inj H
  go_enter Tryz.func57,Tryz.ntmps57
  go_wp2_with (first|((with_reducible refine gate_dst (N:=2) rfl ?_);refine bev (N:=2) (cs:=#[.slice A0_0 l0_0.length c0_0]) (t:=27) ?_;intro aT hg w7 hbox hb;have ad:=ak (hbox);have aU:=gbe hg;have aV:=gbe hg;replace HB:=hbs hb;clear hb hbox hg;have bh:=bc ad.out;have bi:=blk_frozen ad.out 0)|((with_reducible refine gate_callee (f:=55) rfl ?_);refine gl (some 8) Tryz.func55 #[.agg #[.slice A0_0 l0_0.length c0_0],.slice A1 l1.length c1] ?_;(with_reducible refine (impl_orderCode.calls k _ _ l0_0 _ _ l1 an _ (pc (Kd.C_below aj.out HB.out)) al.out (pc (Kd.C_below HR1.out HB.out)) HC1.out A3.out).mono ?_);rintro e w9 ⟨rfl,hb⟩;refine ⟨_,rfl,?_⟩;replace ad:=bb ad hb;replace HB:=hbs hb;(try clear hb);(try clear hb2);(try clear hk);(try clear hi);have bj:=bc ad.out;have bk:=blk_frozen ad.out 0)|((with_reducible refine gate_callee (f:=56) rfl ?_);refine gl (some 15) Tryz.func56 #[.slice A0_0 l0_0.length c0_0,.slice A1 l1.length c1] ?_;(with_reducible refine (impl_isGrowing.calls k _ _ l0_0 _ _ l1 true _ (pc (Kd.C_below aj.out HB.out)) al.out (pc (Kd.C_below HR1.out HB.out)) HC1.out A5.out).mono ?_);rintro e w11 ⟨rfl,hb⟩;refine ⟨_,rfl,?_⟩;replace ad:=bb ad hb;replace HB:=hbs hb;(try clear hb)))
  go_ret
  exact ⟨ew,hq⟩
 replace c6:=Bool.eq_false_iff.mpr c6;subst c6;have H1:(some 5)=some r:=by rw [if_neg (show ¬ (false=true) by decide)] at H;exact H
 clear H;have H:=H1;clear H1;obtain rfl:=Option.some.inj H
 go_enter Tryz.func57,Tryz.ntmps57
 go_wp2_with (first|((with_reducible refine gate_dst (N:=2) rfl ?_);refine bev (N:=2) (cs:=#[.slice A0_0 l0_0.length c0_0]) (t:=27) ?_;intro aT hg w12 hbox hb;have ad:=ak (hbox);have aU:=gbe hg;have aV:=gbe hg;replace HB:=hbs hb;clear hb hbox hg;have bT:=bc ad.out;have bU:=blk_frozen ad.out 0)|((with_reducible refine gate_callee (f:=55) rfl ?_);refine gl (some 8) Tryz.func55 #[.agg #[.slice A0_0 l0_0.length c0_0],.slice A1 l1.length c1] ?_;(with_reducible refine (impl_orderCode.calls k _ _ l0_0 _ _ l1 an _ (pc (Kd.C_below aj.out HB.out)) al.out (pc (Kd.C_below HR1.out HB.out)) HC1.out A3.out).mono ?_);rintro e w14 ⟨rfl,hb⟩;refine ⟨_,rfl,?_⟩;replace ad:=bb ad hb;replace HB:=hbs hb;(try clear hb);(try clear hb2);(try clear hk);(try clear hi);have bV:=bc ad.out;have bW:=blk_frozen ad.out 0)|((with_reducible refine gate_callee (f:=56) rfl ?_);refine gl (some 15) Tryz.func56 #[.slice A0_0 l0_0.length c0_0,.slice A1 l1.length c1] ?_;(with_reducible refine (impl_isGrowing.calls k _ _ l0_0 _ _ l1 false _ (pc (Kd.C_below aj.out HB.out)) al.out (pc (Kd.C_below HR1.out HB.out)) HC1.out A5.out).mono ?_);rintro e w16 ⟨rfl,hb⟩;refine ⟨_,rfl,?_⟩;replace ad:=bb ad hb;replace HB:=hbs hb;(try clear hb)))
 go_ret
 exact ⟨ew,hq⟩
def impl_grownCode.f (k:Nat) (l0_0:List Int):Option (Int):=(impl_IsTree.f k l0_0).bind fun t445=>(if t445=true then (if (l0_0.length:Int)>20 then (some 3) else (some 0)) else (some 1))
theorem impl_grownCode.calls (k:Nat) (A0_0:Option Addr) (c0_0:Nat) (l0_0:List Int) (r:Int) (w:World) (hr0_0:Kd.C (Kd.int .i64) w A0_0 l0_0.length l0_0) (hc0_0:l0_0.length≤c0_0) (h:impl_grownCode.f k l0_0=some r) :
  Calls Tryz.prog 82 #[.agg #[.slice A0_0 l0_0.length c0_0]] w fun e w'=>e=.returned (.int .i64 r)∧Below w.heap.size w w':=by
 have hu27:=Tryz.underlying27;have aj:=ak hr0_0;have al:=ak hc0_0;clear hr0_0 hc0_0;have HB:=ak (Below.refl w.heap.size w);have H:((impl_IsTree.f k l0_0).bind fun aD=>(if aD=true then (if (l0_0.length:Int)>20 then (some 3) else (some 0)) else (some 1)))=some r:=h;clear h;replace H:=bs H;obtain ⟨aD,A2,H⟩:=H;(try dsimp only at H);obtain c3|c3:=nem (aD=true)
 ·replace c3:=Bool.eq_false_iff.mpr c3;subst c3;have H1:(some 1)=some r:=by rw [if_neg (show ¬ (false=true) by decide)] at H;exact H
  clear H;have H:=H1;clear H1;obtain rfl:=Option.some.inj H
  go_enter Tryz.func82,Tryz.ntmps82
  go_wp2_with (first|((with_reducible refine gate_dst (N:=1) rfl ?_);refine bev (N:=1) (cs:=#[.slice A0_0 l0_0.length c0_0]) (t:=27) ?_;intro aW hg w13 hbox hb;have af:=ak (hbox);have aX:=gbe hg;have aY:=gbe hg;replace HB:=hbs hb;clear hb hbox hg;have bX:=bc af.out;have bY:=blk_frozen af.out 0)|((with_reducible refine gate_callee (f:=92) rfl ?_);refine gl (some 5) Tryz.func92 #[.agg #[.slice A0_0 l0_0.length c0_0]] ?_;(with_reducible refine (impl_IsTree.calls k _ _ l0_0 false _ (pc (Kd.C_below aj.out HB.out)) al.out A2.out).mono ?_);rintro e w15 ⟨rfl,hb⟩;refine ⟨_,rfl,?_⟩;replace af:=bb af hb;replace HB:=hbs hb;(try clear hb)))
  go_ret
  exact ⟨ew,hq⟩
 subst c3;replace H:(if (l0_0.length:Int)>20 then (some 3) else (some 0))=some r:=by rw [if_pos rfl] at H;exact H
 by_cases c4:(l0_0.length:Int)>20
 ·rw [if_pos c4] at H;have ao:decide (20<(l0_0.length:Int))=true:=decide_eq_true c4;have aC:decide (20<l0_0.length)=true:=decide_eq_true (by omega);clear c4;obtain rfl:=Option.some.inj H
  go_enter Tryz.func82,Tryz.ntmps82
  go_wp2_with (first|((with_reducible refine gate_dst (N:=1) rfl ?_);refine bev (N:=1) (cs:=#[.slice A0_0 l0_0.length c0_0]) (t:=27) ?_;intro aW hg w5 hbox hb;have af:=ak (hbox);have aX:=gbe hg;have aY:=gbe hg;replace HB:=hbs hb;clear hb hbox hg;have bZ:=bc af.out;have b0:=blk_frozen af.out 0)|((with_reducible refine gate_callee (f:=92) rfl ?_);refine gl (some 5) Tryz.func92 #[.agg #[.slice A0_0 l0_0.length c0_0]] ?_;(with_reducible refine (impl_IsTree.calls k _ _ l0_0 true _ (pc (Kd.C_below aj.out HB.out)) al.out A2.out).mono ?_);rintro e w7 ⟨rfl,hb⟩;refine ⟨_,rfl,?_⟩;replace af:=bb af hb;replace HB:=hbs hb;(try clear hb);(try clear hb2);(try clear hk);(try clear hi);have bh:=bc af.out;have bi:=blk_frozen af.out 0))
  go_ret
  exact ⟨ew,hq⟩
 rw [if_neg c4] at H;have ao:decide (20<(l0_0.length:Int))=false:=decide_eq_false c4;have aC:decide (20<l0_0.length)=false:=decide_eq_false (by omega);clear c4;obtain rfl:=Option.some.inj H
 go_enter Tryz.func82,Tryz.ntmps82
 go_wp2_with (first|((with_reducible refine gate_dst (N:=1) rfl ?_);refine bev (N:=1) (cs:=#[.slice A0_0 l0_0.length c0_0]) (t:=27) ?_;intro aW hg w9 hbox hb;have af:=ak (hbox);have aX:=gbe hg;have aY:=gbe hg;replace HB:=hbs hb;clear hb hbox hg;have bj:=bc af.out;have bk:=blk_frozen af.out 0)|((with_reducible refine gate_callee (f:=92) rfl ?_);refine gl (some 5) Tryz.func92 #[.agg #[.slice A0_0 l0_0.length c0_0]] ?_;(with_reducible refine (impl_IsTree.calls k _ _ l0_0 true _ (pc (Kd.C_below aj.out HB.out)) al.out A2.out).mono ?_);rintro e w11 ⟨rfl,hb⟩;refine ⟨_,rfl,?_⟩;replace af:=bb af hb;replace HB:=hbs hb;(try clear hb);(try clear hb2);(try clear hk);(try clear hi);have b1:=bc af.out;have b2:=blk_frozen af.out 0))
 go_ret
 exact ⟨ew,hq⟩
def impl_sizesOf.l0:Nat→List Int→List Int→Int→Int→Option (List Int)
 | 0,_,_,_,_=>none
 | k+1,x0,x3,x7,x8=>if x8<x7 then ((impl_endOf.f k x0 x8).bind fun t449=>(if x3.length<17592186044416 then (impl_sizesOf.l0 k x0 (x3++[wrap64 (t449 - x8)]) x7 (wrap64 (x8+1))) else (none))) else (some x3)
def impl_sizesOf.f (k:Nat) (l0:List Int):Option (List Int):=impl_sizesOf.l0 k l0 ([]:List Int) (l0.length:Int) 0
theorem impl_sizesOf.calls (k:Nat) (A0:Option Addr) (c0:Nat) (l0:List Int) (r:List Int) (w:World) (hr0:Kd.C (Kd.int .i64) w A0 l0.length l0) (hc0:l0.length≤c0) (h:impl_sizesOf.f k l0=some r) :
  Calls Tryz.prog 83 #[.slice A0 l0.length c0] w fun e w'=>∃ v0_:Value,e=.returned (v0_)∧Kd.R (Kd.int .i64) 2 w' w.heap.size (fun _=>True) v0_ r∧Below w.heap.size w w':=by
 have HR0:=ak hr0;have HC0:=ak hc0;clear hr0 hc0;have HB:=ak (Below.refl w.heap.size w);have H:(impl_sizesOf.l0 k l0 ([]:List Int) (l0.length:Int) 0)=some r:=h;clear h;obtain ⟨aZ,hY⟩:∃ y_:List Int,y_=([]:List Int):=⟨_,rfl⟩;replace H:(impl_sizesOf.l0 k l0 aZ (l0.length:Int) 0)=some r:=hh;have a2:=ak hY;clear hY;have H':=ak H;clear H
 go_enter Tryz.func83,Tryz.ntmps83
 go_wp2_with (first|((with_reducible refine gate_dst (N:=5) rfl ?_);refine Kd.R_lit (Kd.int .i64) _ 2 ?hg (N:=5) ?hd (xs:=([]:List Int)) (inner:=[]) (ok:=fun _=>True) (okp:=fun _=>True) ?hr ?hp (fun _ hk=>hk) trivial (Below.refl _ _) (Nat.le_refl _) (by simp) ?_;(case hd=>rfl);(case hg=>rfl);(case hr=>exact gs);(case hp=>exact (Reps.none _ _));intro b3 w2 ho3 hb hg_ hnew_;clear hg_ hnew_;(first|rw [← a2.out] at ho3|(simp only [Int.reduceToNat] at ho3;rw [← a2.out] at ho3));have bl:=lw ho3;replace HB:=hbs hb;clear hb ho3))
 go_loopg [3,8] k (fun kq v3 v8 w'=>∃ (ai:List Int) (ab:Int),v8=.int .i64 ab∧Aside0 (impl_sizesOf.l0 kq l0 ai (l0.length:Int) ab=some r)∧Aside0 (kq≤k)∧Aside0 (Kd.R (Kd.int .i64) 2 w' w.heap.size (fun _=>True) v3 ai)∧Aside0 (Below w.heap.size w w'))
 case atStart=>exact ⟨(aZ),(0),q9_0,H',⟨Nat.le_refl _⟩,⟨pe bl.out⟩,⟨hq⟩⟩
 case round =>
  clear H'
  try clear p2
  obtain ⟨ai,ab,rfl,HA,HK1,ap,HB⟩:=hrel
  cases gk with|zero=>exact absurd HA.out (by simp [impl_sizesOf.l0])|succ k1=>?_
  have H:=HA.out;clear HA;simp only [impl_sizesOf.l0] at H;obtain c4|c4:=nem (ab<(l0.length:Int))
  ·rw [if_neg c4] at H;have ao:=df c4;clear c4;obtain rfl:=Option.some.inj H;go_wp2
   go_ret
   exact ⟨_,ew,pe ap.out,hq⟩
  rw [if_pos c4] at H;have ao:=dt c4;clear c4;replace H:=bs H;obtain ⟨ax,A5,H⟩:=H;(try dsimp only at H);replace H:=ifs H;obtain ⟨c6,H⟩:=H;have bm:=ak c6;clear c6;obtain ⟨a3,hY⟩:∃ y_:List Int,y_=(ai++[wrap64 (ax - ab)]):=⟨_,rfl⟩;replace H:(impl_sizesOf.l0 k1 l0 a3 (l0.length:Int) (wrap64 (ab+1)))=some r:=hh;have bo:=ak hY;clear hY;have H':=ak H;clear H
  go_wp2_with (first|((with_reducible refine gate_callee (f:=117) rfl ?_);refine gl (some 14) Tryz.func117 #[.slice A0 l0.length c0,.int .i64 ab] ?_;(with_reducible refine (impl_endOf.calls k1 _ _ l0 ab ax _ (pc (Kd.C_below HR0.out HB.out)) HC0.out A5.out).mono ?_);rintro e w' ⟨rfl,⟨nd,rfl⟩⟩;refine ⟨_,rfl,?_⟩)|((with_reducible refine gate_builtin (b:=.append) (xs:=#[.tmp 11,.tmp 17]) rfl ?_);at_builtin;refine Kd.R_append (Kd.int .i64) (w0:=w) w.heap.size rfl (.tmp 11) (.tmp 17) 24 2 (.int .i64 0) 8 rfl Tryz.underlying24 info2 rfl dc (by omega) u3 ai (wrap64 (ax - ab)) [.int .i64 (wrap64 (ax - ab))] (fun _=>True) (fun _=>False) rfl rfl ?aP (fun _ hk=>hk.elim) ?aF ?aO ?aB ?aS ?aL ?_;(case aP=>exact rfl);(case aB=>exact hq);(case aF=>exact (fun _ _=>trivial));(case aO=>exact (pe ap.out));(case aS=>exact (below_size hq));(case aL=>have:=bm.out;omega);intro b4 w7 ho hb hg hat;rw [← bo.out] at ho;replace HB:=ak (hb);have bp:=ak (ho);clear ap;clear ho hb hg hat))
  go_roundg k1
  case measure=>have:=HK1.out;omega
  case rel=>exact ⟨(a3),(wrap64 (ab+1)),q9_0,H',⟨q9_4⟩,⟨pe bp.out⟩,⟨hq⟩⟩
def slices_Index_int64_int64.l0:Nat→List Int→Int→Int→Int→Option (Int)
 | 0,_,_,_,_=>none
 | k+1,x0,x1,x7,x8=>if x8<x7 then (if 0≤x8 then (if x8<(x0.length:Int) then (if x1=(rd x0 x8) then (some x8) else (slices_Index_int64_int64.l0 k x0 x1 x7 (wrap64 (x8+1)))) else (none)) else (none)) else (some (-1))
def slices_Index_int64_int64.f (k:Nat) (l0:List Int) (a1:Int):Option (Int):=slices_Index_int64_int64.l0 k l0 a1 (l0.length:Int) 0
theorem slices_Index_int64_int64.calls (k:Nat) (A0:Option Addr) (c0:Nat) (l0:List Int) (a1:Int) (r:Int) (w:World) (hr0:Kd.C (Kd.int .i64) w A0 l0.length l0) (hc0:l0.length≤c0) (h:slices_Index_int64_int64.f k l0 a1=some r) :
  Calls Tryz.prog 107 #[.slice A0 l0.length c0,.int .i64 a1] w fun e w'=>e=.returned (.int .i64 r)∧Drawn0 w w':=by
 have HR0:=ak hr0;have HC0:=ak hc0;clear hr0 hc0;have H:(slices_Index_int64_int64.l0 k l0 a1 (l0.length:Int) 0)=some r:=h;clear h;have H':=ak H;clear H
 go_enter Tryz.func107,Tryz.ntmps107
 go_wp2
 go_loopg [8] k (fun kq v8 w'=>∃ (ab:Int),v8=.int .i64 ab∧Aside0 (slices_Index_int64_int64.l0 kq l0 a1 (l0.length:Int) ab=some r)∧Aside0 (kq≤k)∧Drawn0 w w')
 case atStart=>exact ⟨(0),q9_0,H',⟨Nat.le_refl _⟩,q9_2⟩
 case round =>
  clear H';obtain ⟨ab,rfl,HA,HK1,⟨m1,rfl⟩⟩:=hrel
  cases gk with|zero=>exact absurd HA.out (by simp [slices_Index_int64_int64.l0])|succ k1=>?_
  have H:=HA.out;clear HA;simp only [slices_Index_int64_int64.l0] at H;obtain c3|c3:=nem (ab<(l0.length:Int))
  ·rw [if_neg c3] at H;have aE:=df c3;clear c3;obtain rfl:=Option.some.inj H;go_wp2
   go_ret
   exact ⟨q9_0,q9_2⟩
  rw [if_pos c3] at H;have aE:=dt c3;clear c3;replace H:=ifs H;obtain ⟨c4,H⟩:=H;have ao:=dt c4;clear c4;replace H:=ifs H;obtain ⟨c5,H⟩:=H;have bq:=dt c5;clear c5
  by_cases c6:a1=(rd l0 ab)
  ·rw [if_pos c6] at H;have a4:=be c6;have br:=bn c6;clear c6;obtain rfl:=Option.some.inj H;have aq:0≤(ab:Int):=od q9_1;have ar:ab<(l0.length:Int):=od q9_1;obtain ⟨bu,aG,bv⟩:=Kd.at_int HR0.out ab aq ar;cases aG;replace aq:=eq_true aq;replace ar:=eq_true ar;go_wp2
   go_ret
   exact ⟨q9_0,q9_2⟩
  rw [if_neg c6] at H;have a4:(a1 == (rd l0 ab))=false:=beq_eq_false_iff_ne.mpr c6;have br:(a1 != (rd l0 ab))=true:=bne_iff_ne.mpr c6;have H':=ak H;clear H;have aq:0≤(ab:Int):=od q9_1;have ar:ab<(l0.length:Int):=od q9_1;obtain ⟨bu,aG,bv⟩:=Kd.at_int HR0.out ab aq ar;cases aG;replace aq:=eq_true aq;replace ar:=eq_true ar;go_wp2
  go_roundg k1
  case measure=>have:=HK1.out;omega
  case rel=>exact ⟨(wrap64 (ab+1)),q9_0,H',⟨q9_4⟩,q9_2⟩
def slices_Contains_int64_int64.f (k:Nat) (l0:List Int) (a1:Int):Option (Bool):=(slices_Index_int64_int64.f k l0 a1).bind fun t454=>(some (decide (t454≥0)))
theorem slices_Contains_int64_int64.calls (k:Nat) (A0:Option Addr) (c0:Nat) (l0:List Int) (a1:Int) (r:Bool) (w:World) (hr0:Kd.C (Kd.int .i64) w A0 l0.length l0) (hc0:l0.length≤c0) (h:slices_Contains_int64_int64.f k l0 a1=some r) :
  Calls Tryz.prog 118 #[.slice A0 l0.length c0,.int .i64 a1] w fun e w'=>e=.returned (.bool r)∧Drawn0 w w':=by
 have HR0:=ak hr0;have HC0:=ak hc0;clear hr0 hc0;have H:((slices_Index_int64_int64.f k l0 a1).bind fun aH=>(some (decide (aH≥0))))=some r:=h;clear h;replace H:=bs H;obtain ⟨aH,A3,H⟩:=H;(try dsimp only at H);obtain rfl:=Option.some.inj H
 go_enter Tryz.func118,Tryz.ntmps118
 go_wp2_with (first|((with_reducible refine gate_callee (f:=107) rfl ?_);refine gl (some 7) Tryz.func107 #[.slice A0 l0.length c0,.int .i64 a1] ?_;(with_reducible refine (slices_Index_int64_int64.calls k _ _ l0 a1 aH _ (pc (HR0.out)) HC0.out A3.out).mono ?_);rintro e w' ⟨rfl,⟨nd,rfl⟩⟩;refine ⟨_,rfl,?_⟩))
 go_ret
 exact ⟨q9_0,q9_2⟩
def impl_nexts.l0:Nat→List Int→List Int→List Int→Int→Int→Option (List Int)
 | 0,_,_,_,_,_=>none
 | k+1,x1,x5,x6,x12,x13=>if x13<x12 then ((slices_Contains_int64_int64.f k x1 x13).bind fun t461=>(if t461=true then (impl_nexts.l0 k x1 x5 x6 x12 (wrap64 (x13+1))) else (if x13=0 then (if x6.length<17592186044416 then (impl_nexts.l0 k x1 x5 (x6++[x13]) x12 (wrap64 (x13+1))) else (none)) else (if 0≤x13 then (if x13<(x5.length:Int) then ((slices_Contains_int64_int64.f k x1 (rd x5 x13)).bind fun t466=>(if t466=true then (if x6.length<17592186044416 then (impl_nexts.l0 k x1 x5 (x6++[x13]) x12 (wrap64 (x13+1))) else (none)) else (impl_nexts.l0 k x1 x5 x6 x12 (wrap64 (x13+1))))) else (none)) else (none))))) else (some x6)
def impl_nexts.f (k:Nat) (l0:List Int) (l1:List Int):Option (List Int):=(impl_parentsOf.f k l0).bind fun t455=>(impl_nexts.l0 k l1 t455 ([]:List Int) (l0.length:Int) 0)
theorem impl_nexts.calls (k:Nat) (A0:Option Addr) (c0:Nat) (l0:List Int) (A1:Option Addr) (c1:Nat) (l1:List Int) (r:List Int) (w:World) (hr0:Kd.C (Kd.int .i64) w A0 l0.length l0) (hc0:l0.length≤c0) (hr1:Kd.C (Kd.int .i64) w A1 l1.length l1) (hc1:l1.length≤c1) (h:impl_nexts.f k l0 l1=some r) :
  Calls Tryz.prog 84 #[.slice A0 l0.length c0,.slice A1 l1.length c1] w fun e w'=>∃ v0_:Value,e=.returned (v0_)∧Kd.R (Kd.int .i64) 2 w' w.heap.size (fun _=>True) v0_ r∧Below w.heap.size w w':=by
 have HR0:=ak hr0;have HC0:=ak hc0;clear hr0 hc0;have HR1:=ak hr1;have HC1:=ak hc1;clear hr1 hc1;have HB:=ak (Below.refl w.heap.size w);have H:((impl_parentsOf.f k l0).bind fun ae=>(impl_nexts.l0 k l1 ae ([]:List Int) (l0.length:Int) 0))=some r:=h;clear h;replace H:=bs H;obtain ⟨ae,A3,H⟩:=H;(try dsimp only at H);obtain ⟨a5,hY⟩:∃ y_:List Int,y_=([]:List Int):=⟨_,rfl⟩;replace H:(impl_nexts.l0 k l1 ae a5 (l0.length:Int) 0)=some r:=hh;have a6:=ak hY;clear hY;have H':=ak H;clear H
 go_enter Tryz.func84,Tryz.ntmps84
 go_wp2_with (first|((with_reducible refine gate_callee (f:=59) rfl ?_);refine gl (some 9) Tryz.func59 #[.slice A0 l0.length c0] ?_;(with_reducible refine (impl_parentsOf.calls k _ _ l0 ae _ (pc (HR0.out)) HC0.out A3.out).mono ?_);rintro e w4 ⟨aI,rfl,ho0,hb⟩;refine ⟨_,rfl,?_⟩;have ay:=lw ho0;replace HB:=hbs hb;(try clear hb ho0))|((with_reducible refine gate_dst (N:=10) rfl ?_);refine Kd.R_lit (Kd.int .i64) _ 2 ?hg (N:=10) ?hd (xs:=([]:List Int)) (inner:=[]) (ok:=fun _=>True) (okp:=fun _=>True) ?hr ?hp (fun _ hk=>hk) trivial (Below.refl _ _) (Nat.le_refl _) (by simp) ?_;(case hd=>rfl);(case hg=>rfl);(case hr=>exact gs);(case hp=>exact (Reps.none _ _));intro b5 w5 ho6 hb hg_ hnew_;clear hg_ hnew_;(first|rw [← a6.out] at ho6|(simp only [Int.reduceToNat] at ho6;rw [← a6.out] at ho6));have bw:=lw (nw ho6 ay);replace ay:=rn ay ho6 hb;replace HB:=hbs hb;clear hb ho6))
 go_loopg [6,13] k (fun kq v6 v13 w'=>∃ (ac:List Int) (aa:Int),v13=.int .i64 aa∧Aside0 (impl_nexts.l0 kq l1 ae ac (l0.length:Int) aa=some r)∧Aside0 (kq≤k)∧Aside0 (Kd.R (Kd.int .i64) 2 w' w.heap.size (fun k_=>some k_≠(v6:Value).ownBlock) aI ae)∧Aside0 (Kd.R (Kd.int .i64) 2 w' w.heap.size (fun k_=>some k_≠(aI:Value).ownBlock) v6 ac)∧Aside0 (Below w.heap.size w w'))
 case atStart=>exact ⟨(a5),(0),q9_0,H',⟨Nat.le_refl _⟩,⟨pe (Kd.R_mono ay.out (fun _ hk=>hk.2))⟩,⟨pe (Kd.R_mono bw.out (fun _ hk=>hk.2))⟩,⟨hq⟩⟩
 case round =>
  clear H';obtain ⟨ac,aa,rfl,HA,HK1,ag,au,HB⟩:=hrel
  cases gk with|zero=>exact absurd HA.out (by simp [impl_nexts.l0])|succ k1=>?_
  have H:=HA.out;clear HA;simp only [impl_nexts.l0] at H;obtain c7|c7:=nem (aa<(l0.length:Int))
  ·rw [if_neg c7] at H;have a7:=df c7;clear c7;obtain rfl:=Option.some.inj H;go_wp2
   go_ret
   exact ⟨_,ew,pe (Kd.R_mono au.out (fun _ hk=>trivial)),hq⟩
  rw [if_pos c7] at H;have a7:=dt c7;clear c7;replace H:=bs H;obtain ⟨bx,A8,H⟩:=H;(try dsimp only at H)
  by_cases c9:bx=true
  ·subst c9;replace H:(impl_nexts.l0 k1 l1 ae ac (l0.length:Int) (wrap64 (aa+1)))=some r:=by rw [if_pos rfl] at H;exact H
   have H':=ak H;clear H
   go_wp2_with (first|((with_reducible refine gate_callee (f:=118) rfl ?_);refine gl (some 18) Tryz.func118 #[.slice A1 l1.length c1,.int .i64 aa] ?_;(with_reducible refine (slices_Contains_int64_int64.calls k1 _ _ l1 aa true _ (pc (Kd.C_below HR1.out HB.out)) HC1.out A8.out).mono ?_);rintro e w' ⟨rfl,⟨nd,rfl⟩⟩;refine ⟨_,rfl,?_⟩))
   go_roundg k1
   case measure=>have:=HK1.out;omega
   case rel=>exact ⟨(ac),(wrap64 (aa+1)),q9_0,H',⟨q9_4⟩,⟨pe ag.out⟩,⟨pe au.out⟩,⟨hq⟩⟩
  replace c9:=Bool.eq_false_iff.mpr c9;subst c9;have H1:(if aa=0 then (if ac.length<17592186044416 then (impl_nexts.l0 k1 l1 ae (ac++[aa]) (l0.length:Int) (wrap64 (aa+1))) else (none)) else (if 0≤aa then (if aa<(ae.length:Int) then ((slices_Contains_int64_int64.f k1 l1 (rd ae aa)).bind fun aJ=>(if aJ=true then (if ac.length<17592186044416 then (impl_nexts.l0 k1 l1 ae (ac++[aa]) (l0.length:Int) (wrap64 (aa+1))) else (none)) else (impl_nexts.l0 k1 l1 ae ac (l0.length:Int) (wrap64 (aa+1))))) else (none)) else (none)))=some r:=by rw [if_neg (show ¬ (false=true) by decide)] at H;exact H
  clear H;have H:=H1;clear H1
  by_cases c10:aa=0
  ·rw [if_pos c10] at H;have bz:=be c10;have bA:=bn c10;clear c10;replace H:=ifs H;obtain ⟨c11,H⟩:=H;have bB:=ak c11;clear c11;obtain ⟨a8,hY⟩:∃ y_:List Int,y_=(ac++[aa]):=⟨_,rfl⟩;replace H:(impl_nexts.l0 k1 l1 ae a8 (l0.length:Int) (wrap64 (aa+1)))=some r:=hh;have bC:=ak hY;clear hY;have H':=ak H;clear H
   go_wp2_with (first|((with_reducible refine gate_callee (f:=118) rfl ?_);refine gl (some 18) Tryz.func118 #[.slice A1 l1.length c1,.int .i64 aa] ?_;(with_reducible refine (slices_Contains_int64_int64.calls k1 _ _ l1 aa false _ (pc (Kd.C_below HR1.out HB.out)) HC1.out A8.out).mono ?_);rintro e w' ⟨rfl,⟨nd,rfl⟩⟩;refine ⟨_,rfl,?_⟩)|((with_reducible refine gate_builtin (b:=.append) (xs:=#[.tmp 32,.tmp 34]) rfl ?_);at_builtin;refine Kd.R_append (Kd.int .i64) (w0:=w) w.heap.size rfl (.tmp 32) (.tmp 34) 24 2 (.int .i64 0) 8 rfl Tryz.underlying24 info2 rfl dc (by omega) u6 ac aa [.int .i64 aa] (fun k_=>some k_≠(aI:Value).ownBlock) (fun _=>False) rfl rfl ?aP (fun _ hk=>hk.elim) ?aF ?aO ?aB ?aS ?aL ?_;(case aP=>exact rfl);(case aB=>exact hq);(case aF=>exact (fun k_ hk=>Kd.fresh' (Kd.R_lt (pe ag.out)) k_ hk));(case aO=>exact (pe au.out));(case aS=>exact (below_size hq));(case aL=>have:=bB.out;omega);intro b6 w12 ho hb hg hat;rw [← bC.out] at ho;replace ag:=ak (Kd.R_after (ok:=(fun _=>True)) (pe (Kd.R_mono ag.out (fun _ hk=>⟨trivial,hk⟩))) hg hat);replace HB:=ak (hb);have bD:=ak (ho);clear au;clear ho hb hg hat))
   go_roundg k1
   case measure=>have:=HK1.out;omega
   case rel=>exact ⟨(a8),(wrap64 (aa+1)),q9_0,H',⟨q9_4⟩,⟨pe (Kd.R_mono ag.out (fun _ hk=>hk.2))⟩,⟨pe bD.out⟩,⟨hq⟩⟩
  rw [if_neg c10] at H;have bz:(aa == 0)=false:=beq_eq_false_iff_ne.mpr c10;have bA:(aa != 0)=true:=bne_iff_ne.mpr c10;replace H:=ifs H;obtain ⟨c13,H⟩:=H;have b7:=dt c13;clear c13;replace H:=ifs H;obtain ⟨c14,H⟩:=H;have b8:=dt c14;clear c14;replace H:=bs H;obtain ⟨aJ,A15,H⟩:=H;(try dsimp only at H);obtain c16|c16:=nem (aJ=true)
  ·replace c16:=Bool.eq_false_iff.mpr c16;subst c16;have H1:(impl_nexts.l0 k1 l1 ae ac (l0.length:Int) (wrap64 (aa+1)))=some r:=by rw [if_neg (show ¬ (false=true) by decide)] at H;exact H
   clear H;have H:=H1;clear H1;have H':=ak H;clear H
   go_wp2_with (first|((with_reducible refine gate_callee (f:=118) rfl ?_);refine gl (some 18) Tryz.func118 #[.slice A1 l1.length c1,.int .i64 aa] ?_;(with_reducible refine (slices_Contains_int64_int64.calls k1 _ _ l1 aa false _ (pc (Kd.C_below HR1.out HB.out)) HC1.out A8.out).mono ?_);rintro e w' ⟨rfl,⟨nd,rfl⟩⟩;refine ⟨_,rfl,?_⟩;obtain ⟨b9,ca,bE⟩:=Kd.R_slice ag.out;subst bE;have av:0≤(aa:Int):=od q9_1;have aw:aa<(ae.length:Int):=od q9_1;obtain ⟨a9,aK,bF⟩:=Kd.at_int (Kd.R_reads' ag.out).2.2 aa av aw;cases aK;replace av:=eq_true av;replace aw:=eq_true aw)|(go_at_call 118;(with_reducible refine (slices_Contains_int64_int64.calls k1 _ _ l1 (rd ae aa) false _ ?side1 HC1.out A15.out).mono ?_);(case side1=>exact q9_3);rintro e w' ⟨rfl,⟨nd,rfl⟩⟩))
   go_roundg k1
   case measure=>have:=HK1.out;omega
   case rel=>exact ⟨(ac),(wrap64 (aa+1)),q9_0,H',⟨q9_4⟩,⟨pe ag.out⟩,⟨pe au.out⟩,⟨hq⟩⟩
  subst c16;replace H:(if ac.length<17592186044416 then (impl_nexts.l0 k1 l1 ae (ac++[aa]) (l0.length:Int) (wrap64 (aa+1))) else (none))=some r:=by rw [if_pos rfl] at H;exact H
  replace H:=ifs H;obtain ⟨c17,H⟩:=H;have bG:=ak c17;clear c17;obtain ⟨ba,hY⟩:∃ y_:List Int,y_=(ac++[aa]):=⟨_,rfl⟩;replace H:(impl_nexts.l0 k1 l1 ae ba (l0.length:Int) (wrap64 (aa+1)))=some r:=hh;have bH:=ak hY;clear hY;have H':=ak H;clear H
  go_wp2_with (first|((with_reducible refine gate_callee (f:=118) rfl ?_);refine gl (some 18) Tryz.func118 #[.slice A1 l1.length c1,.int .i64 aa] ?_;(with_reducible refine (slices_Contains_int64_int64.calls k1 _ _ l1 aa false _ (pc (Kd.C_below HR1.out HB.out)) HC1.out A8.out).mono ?_);rintro e w' ⟨rfl,⟨nd,rfl⟩⟩;refine ⟨_,rfl,?_⟩;obtain ⟨cb,bI,bJ⟩:=Kd.R_slice ag.out;subst bJ;have av:0≤(aa:Int):=od q9_1;have aw:aa<(ae.length:Int):=od q9_1;obtain ⟨a9,aK,bF⟩:=Kd.at_int (Kd.R_reads' ag.out).2.2 aa av aw;cases aK;replace av:=eq_true av;replace aw:=eq_true aw)|(go_at_call 118;(with_reducible refine (slices_Contains_int64_int64.calls k1 _ _ l1 (rd ae aa) true _ ?side1 HC1.out A15.out).mono ?_);(case side1=>exact q9_3);rintro e w' ⟨rfl,⟨nd,rfl⟩⟩)|((with_reducible refine gate_builtin (b:=.append) (xs:=#[.tmp 32,.tmp 34]) rfl ?_);at_builtin;refine Kd.R_append (Kd.int .i64) (w0:=w) w.heap.size rfl (.tmp 32) (.tmp 34) 24 2 (.int .i64 0) 8 rfl Tryz.underlying24 info2 rfl dc (by omega) u6 ac aa [.int .i64 aa] (fun k_=>some k_≠(.slice (some a9) ae.length bI:Value).ownBlock) (fun _=>False) rfl rfl ?aP (fun _ hk=>hk.elim) ?aF ?aO ?aB ?aS ?aL ?_;(case aP=>exact rfl);(case aB=>exact hq);(case aF=>exact (fun k_ hk=>Kd.fresh' (Kd.R_lt (pe ag.out)) k_ hk));(case aO=>exact (pe au.out));(case aS=>exact (below_size hq));(case aL=>have:=bG.out;omega);intro cc w19 ho hb hg hat;rw [← bH.out] at ho;replace ag:=ak (Kd.R_after (ok:=(fun _=>True)) (pe (Kd.R_mono ag.out (fun _ hk=>⟨trivial,hk⟩))) hg hat);replace HB:=ak (hb);have bK:=ak (ho);clear au;clear ho hb hg hat))
  go_roundg k1
  case measure=>have:=HK1.out;omega
  case rel=>exact ⟨(ba),(wrap64 (aa+1)),q9_0,H',⟨q9_4⟩,⟨pe (Kd.R_mono ag.out (fun _ hk=>hk.2))⟩,⟨pe bK.out⟩,⟨hq⟩⟩
def impl_ways.l0:Nat→List Int→Int→Int→List Int→Int→Int→Option (Int)
 | 0,_,_,_,_,_,_=>none
 | k+1,x0,x5,x6,x9,x10,x11=>if x11<x10 then (if 0≤x11 then (if x11<(x9.length:Int) then (if 0≤(rd x9 x11) then (if (rd x9 x11)<(x0.length:Int) then (impl_ways.l0 k x0 (wrap64 (x5*(wrap64 (x11+1)))) (wrap64 (x6*(rd x0 (rd x9 x11)))) x9 x10 (wrap64 (x11+1))) else (none)) else (none)) else (none)) else (none)) else (if x6=0 then (none) else (some (wrap64 (Int.tdiv x5 x6))))
def impl_ways.f (k:Nat) (l0:List Int) (l1:List Int):Option (Int):=impl_ways.l0 k l0 1 1 l1 (l1.length:Int) 0
theorem impl_ways.calls (k:Nat) (A0:Option Addr) (c0:Nat) (l0:List Int) (A1:Option Addr) (c1:Nat) (l1:List Int) (r:Int) (w:World) (hr0:Kd.C (Kd.int .i64) w A0 l0.length l0) (hc0:l0.length≤c0) (hr1:Kd.C (Kd.int .i64) w A1 l1.length l1) (hc1:l1.length≤c1) (h:impl_ways.f k l0 l1=some r) :
  Calls Tryz.prog 85 #[.slice A0 l0.length c0,.slice A1 l1.length c1] w fun e w'=>e=.returned (.int .i64 r)∧Drawn0 w w':=by
 have HR0:=ak hr0;have HC0:=ak hc0;clear hr0 hc0;have HR1:=ak hr1;have HC1:=ak hc1;clear hr1 hc1;have H:(impl_ways.l0 k l0 1 1 l1 (l1.length:Int) 0)=some r:=h;clear h;have H':=ak H;clear H
 go_enter Tryz.func85,Tryz.ntmps85
 go_wp2
 go_loopg [5,6,11] k (fun kq v5 v6 v11 w'=>∃ (az:Int) (ac:Int) (ah:Int),v5=.int .i64 az∧v6=.int .i64 ac∧v11=.int .i64 ah∧Aside0 (impl_ways.l0 kq l0 az ac l1 (l1.length:Int) ah=some r)∧Aside0 (kq≤k)∧Drawn0 w w')
 case atStart=>exact ⟨(1),(1),(0),q9_0,q9_0,q9_0,H',⟨Nat.le_refl _⟩,q9_2⟩
 case round =>
  clear H';obtain ⟨az,ac,ah,rfl,rfl,rfl,HA,HK1,⟨m1,rfl⟩⟩:=hrel
  cases gk with|zero=>exact absurd HA.out (by simp [impl_ways.l0])|succ k1=>?_
  have H:=HA.out;clear HA;simp only [impl_ways.l0] at H;obtain c3|c3:=nem (ah<(l1.length:Int))
  ·rw [if_neg c3] at H;have aE:=df c3;clear c3
   by_cases c8:ac=0
   ·rw [if_pos c8] at H
    exact absurd H (by simp)
   rw [if_neg c8] at H;have cd:(ac == 0)=false:=beq_eq_false_iff_ne.mpr c8;have ce:(ac != 0)=true:=bne_iff_ne.mpr c8;obtain rfl:=Option.some.inj H;go_wp2
   go_ret
   exact ⟨q9_0,q9_2⟩
  rw [if_pos c3] at H;have aE:=dt c3;clear c3;replace H:=ifs H;obtain ⟨c4,H⟩:=H;have ao:=dt c4;clear c4;replace H:=ifs H;obtain ⟨c5,H⟩:=H;have bq:=dt c5;clear c5;replace H:=ifs H;obtain ⟨c6,H⟩:=H;have a4:=dt c6;clear c6;replace H:=ifs H;obtain ⟨c7,H⟩:=H;have a7:=dt c7;clear c7;have H':=ak H;clear H;have aM:0≤(ah:Int):=od q9_1;have aN:ah<(l1.length:Int):=od q9_1;obtain ⟨cf,bL,cg⟩:=Kd.at_int HR1.out ah aM aN;cases bL;replace aM:=eq_true aM;replace aN:=eq_true aN;have aQ:0≤((rd l1 ah):Int):=od q9_1;have aR:(rd l1 ah)<(l0.length:Int):=od q9_1;obtain ⟨ch,bM,ci⟩:=Kd.at_int HR0.out (rd l1 ah) aQ aR;cases bM;replace aQ:=eq_true aQ;replace aR:=eq_true aR;go_wp2
  go_roundg k1
  case measure=>have:=HK1.out;omega
  case rel=>exact ⟨(wrap64 (az*(wrap64 (ah+1)))),(wrap64 (ac*(rd l0 (rd l1 ah)))),(wrap64 (ah+1)),q9_0,q9_0,q9_0,H',⟨q9_4⟩,q9_2⟩
def impl_preorder.l0:Nat→List Int→Int→Int→Option (List Int)
 | 0,_,_,_=>none
 | k+1,x3,x7,x8=>if x8<x7 then (if x3.length<17592186044416 then (impl_preorder.l0 k (x3++[x8]) x7 (wrap64 (x8+1))) else (none)) else (some x3)
def impl_preorder.f (k:Nat) (l0:List Int):Option (List Int):=impl_preorder.l0 k ([]:List Int) (l0.length:Int) 0
theorem impl_preorder.calls (k:Nat) (A0:Option Addr) (c0:Nat) (l0:List Int) (r:List Int) (w:World) (hr0:Kd.C (Kd.int .i64) w A0 l0.length l0) (hc0:l0.length≤c0) (h:impl_preorder.f k l0=some r) :
  Calls Tryz.prog 93 #[.slice A0 l0.length c0] w fun e w'=>∃ v0_:Value,e=.returned (v0_)∧Kd.R (Kd.int .i64) 2 w' w.heap.size (fun _=>True) v0_ r∧Below w.heap.size w w':=by
 have HR0:=ak hr0;have HC0:=ak hc0;clear hr0 hc0;have HB:=ak (Below.refl w.heap.size w);have H:(impl_preorder.l0 k ([]:List Int) (l0.length:Int) 0)=some r:=h;clear h;obtain ⟨bd,hY⟩:∃ y_:List Int,y_=([]:List Int):=⟨_,rfl⟩;replace H:(impl_preorder.l0 k bd (l0.length:Int) 0)=some r:=hh;have bf:=ak hY;clear hY;have H':=ak H;clear H
 go_enter Tryz.func93,Tryz.ntmps93
 go_wp2_with (first|((with_reducible refine gate_dst (N:=5) rfl ?_);refine Kd.R_lit (Kd.int .i64) _ 2 ?hg (N:=5) ?hd (xs:=([]:List Int)) (inner:=[]) (ok:=fun _=>True) (okp:=fun _=>True) ?hr ?hp (fun _ hk=>hk) trivial (Below.refl _ _) (Nat.le_refl _) (by simp) ?_;(case hd=>rfl);(case hg=>rfl);(case hr=>exact gs);(case hp=>exact (Reps.none _ _));intro cj w2 ho3 hb hg_ hnew_;clear hg_ hnew_;(first|rw [← bf.out] at ho3|(simp only [Int.reduceToNat] at ho3;rw [← bf.out] at ho3));have bN:=lw ho3;replace HB:=hbs hb;clear hb ho3))
 go_loopg [3,8] k (fun kq v3 v8 w'=>∃ (ai:List Int) (ab:Int),v8=.int .i64 ab∧Aside0 (impl_preorder.l0 kq ai (l0.length:Int) ab=some r)∧Aside0 (kq≤k)∧Aside0 (Kd.R (Kd.int .i64) 2 w' w.heap.size (fun _=>True) v3 ai)∧Aside0 (Below w.heap.size w w'))
 case atStart=>exact ⟨(bd),(0),q9_0,H',⟨Nat.le_refl _⟩,⟨pe bN.out⟩,⟨hq⟩⟩
 case round =>
  clear H'
  try clear p2
  obtain ⟨ai,ab,rfl,HA,HK1,ap,HB⟩:=hrel
  cases gk with|zero=>exact absurd HA.out (by simp [impl_preorder.l0])|succ k1=>?_
  have H:=HA.out;clear HA;simp only [impl_preorder.l0] at H;obtain c4|c4:=nem (ab<(l0.length:Int))
  ·rw [if_neg c4] at H;have ao:=df c4;clear c4;obtain rfl:=Option.some.inj H;go_wp2
   go_ret
   exact ⟨_,ew,pe ap.out,hq⟩
  rw [if_pos c4] at H;have ao:=dt c4;clear c4;replace H:=ifs H;obtain ⟨c5,H⟩:=H;have bO:=ak c5;clear c5;obtain ⟨bg,hY⟩:∃ y_:List Int,y_=(ai++[ab]):=⟨_,rfl⟩;replace H:(impl_preorder.l0 k1 bg (l0.length:Int) (wrap64 (ab+1)))=some r:=hh;have bP:=ak hY;clear hY;have H':=ak H;clear H
  go_wp2_with (first|((with_reducible refine gate_builtin (b:=.append) (xs:=#[.tmp 11,.tmp 13]) rfl ?_);at_builtin;refine Kd.R_append (Kd.int .i64) (w0:=w) w.heap.size rfl (.tmp 11) (.tmp 13) 24 2 (.int .i64 0) 8 rfl Tryz.underlying24 info2 rfl dc (by omega) u3 ai ab [.int .i64 ab] (fun _=>True) (fun _=>False) rfl rfl ?aP (fun _ hk=>hk.elim) ?aF ?aO ?aB ?aS ?aL ?_;(case aP=>exact rfl);(case aB=>exact hq);(case aF=>exact (fun _ _=>trivial));(case aO=>exact (pe ap.out));(case aS=>exact (below_size hq));(case aL=>have:=bO.out;omega);intro ck w6 ho hb hg hat;rw [← bP.out] at ho;replace HB:=ak (hb);have bQ:=ak (ho);clear ap;clear ho hb hg hat))
  go_roundg k1
  case measure=>have:=HK1.out;omega
  case rel=>exact ⟨(bg),(wrap64 (ab+1)),q9_0,H',⟨q9_4⟩,⟨pe bQ.out⟩,⟨hq⟩⟩
end Go.Proofs.YtlppkilencpmeaaGreat.QFnGrowing
/- Functions as Lean functions, with their contracts: written by a program of this claim over the translation; some contracts are proved by hand. -/
namespace Go.Proofs.YtlppkilencpmeaaGreat.QFnGrowing
open Go.RowKit Go.Proofs.YtlppkilencpmeaaGreat.Gl Go.Proofs.YtlppkilencpmeaaGreat.Sz Go.Proofs.YtlppkilencpmeaaGreatW.PrintWords Go.Proofs.YtlppkilencpmeaaGreatW.PrintLast Go.Proofs.YtlppkilencpmeaaGreatW.PrintMore
attribute [local go_sem] max2_int min2_int max_two min_two max_three min_three max_four min_four   -- for this text's walks alone
set_option linter.unusedVariables false
set_option linter.unusedSimpArgs false
theorem q10_0 {P:Prop} (h:P:=by first|(with_reducible assumption)|assumption):P:=h
theorem q10_1 {P:Prop} (h:P:=by first|rfl|(simp;done)|(simp [*];done)):P:=h
theorem q10_2 {P:Prop} (h:P:=by (try simp only [List.map_toArray,List.map_cons,List.map_nil]);first|done|(rw [show (l1.take (ab:Int).toNat).length=ab.toNat from (by rw [List.length_take];have h_:(ab:Int)≤(l1.length:Int):=od q10_0;omega)] <;> rfl)|rfl|(simp only [List.length_drop,List.length_take];rfl)):P:=h
set_option maxHeartbeats 8000000
set_option maxRecDepth 100000
def impl_others.upto (m:Nat):List Int:=(List.range m).map (fun v:Nat=>(v:Int))
def impl_others.f (l0:List Int) (l1:List Int):Option (List Int):=if 1≤l0.length∧l0.length≤1000∧l1.length≤100000000 then some ((impl_others.upto l0.length).filter fun v=>!decide (v∈l1)) else none
theorem impl_others.index (x:Int) (l:List Int) (hb:l.length≤100000000):∀ (n i k:Nat),i+n=l.length→n<k→∃ t,slices_Index_int64_int64.l0 k l x (l.length:Int) (i:Int)=some t∧(0≤t↔x∈l.drop i):=by
 intro n
 induction n with
 | zero =>
  intro i k hi hk
  obtain ⟨k,rfl⟩:∃ m,k=m+1:=⟨k - 1,by omega⟩
  simp only [slices_Index_int64_int64.l0]
  rw [if_neg (by omega)]
  exact ⟨-1,rfl,by rw [List.drop_of_length_le (by omega)];simp⟩
 | succ n ih =>
  intro i k hi hk
  obtain ⟨k,rfl⟩:∃ m,k=m+1:=⟨k - 1,by omega⟩
  have hil:i<l.length:=by omega
  have e:rd l (i:Int)=l[i]:=by unfold rd;rw [Int.toNat_natCast,List.getD_eq_getElem?_getD,List.getElem?_eq_getElem hil];rfl
  have e1:wrap64 ((i:Int)+1)=((i+1:Nat):Int):=by unfold wrap64;omega
  simp only [slices_Index_int64_int64.l0]
  rw [if_pos (by omega),if_pos (by omega),if_pos (by omega),e,e1,List.drop_eq_getElem_cons hil]
  by_cases h:x=l[i]
  ·rw [if_pos h]
   exact ⟨(i:Int),rfl,by rw [h];exact ⟨fun _=>List.mem_cons_self ..,fun _=>by omega⟩⟩
  ·rw [if_neg h]
   obtain ⟨t,h1,h2⟩:=ih (i+1) k (by omega) (by omega)
   refine ⟨t,h1,h2.trans ?_⟩
   rw [List.mem_cons]
   exact ⟨.inr,fun q=>q.resolve_left h⟩
theorem impl_others.contains (x:Int) (l:List Int) (hb:l.length≤100000000):slices_Contains_int64_int64.f (l.length+1) l x=some (decide (x∈l)):=by
 obtain ⟨t,h1,h2⟩:=impl_others.index x l hb l.length 0 (l.length+1) (by omega) (by omega)
 unfold slices_Contains_int64_int64.f slices_Index_int64_int64.f
 rw [show (0:Int)=((0:Nat):Int) from rfl,h1,Option.bind_some]
 rw [List.drop_zero] at h2
 by_cases hx:x∈l
 ·rw [decide_eq_true hx];exact congrArg some (decide_eq_true (h2.2 hx))
 ·rw [decide_eq_false hx];exact congrArg some (decide_eq_false (fun h=>hx (h2.1 h)))
theorem impl_others.pre (n:Nat) (hn:n≤1000):∀ (m v k:Nat),v+m=n→m<k→impl_preorder.l0 k (impl_others.upto v) (n:Int) (v:Int)=some (impl_others.upto n):=by
 intro m
 induction m with
 | zero =>
  intro v k hv hk
  obtain ⟨k,rfl⟩:∃ m,k=m+1:=⟨k - 1,by omega⟩
  simp only [impl_preorder.l0]
  rw [if_neg (by omega),show v=n by omega]
 | succ m ih =>
  intro v k hv hk
  obtain ⟨k,rfl⟩:∃ m,k=m+1:=⟨k - 1,by omega⟩
  have e1:wrap64 ((v:Int)+1)=((v+1:Nat):Int):=by unfold wrap64;omega
  have hl:(impl_others.upto v).length=v:=by simp [impl_others.upto]
  have e2:impl_others.upto v++[(v:Int)]=impl_others.upto (v+1):=by simp [impl_others.upto,List.range_succ]
  simp only [impl_preorder.l0]
  rw [if_pos (by omega),if_pos (by omega),e1,e2]
  exact ih (v+1) k (by omega) (by omega)
theorem impl_others.preorder (l:List Int) (hn:l.length≤1000):impl_preorder.f (l.length+1) l=some (impl_others.upto l.length):=by
 have:=impl_others.pre l.length hn l.length 0 (l.length+1) (by omega) (by omega)
 simpa [impl_preorder.f,impl_others.upto] using this
theorem impl_others.below {g:Nat} {w w1:World} (h:Below w.heap.size w w1) (hg:w.heap.size≤g) (n:Nat) (os:Array Obj) (dk:Array Int):Below w.heap.size w (Go.Proofs.sortWorld (Value.int .i64) w1 g 0 n dk os):=by
 refine ⟨h.os,h.tape,h.output,?_,fun k hk=>?_⟩
 ·have:=h.size
  show w.heap.size≤((Go.Sort.putRow (Value.int .i64) (Go.Sort.ahead w1 n) g 0 dk).heap++os).size
  rw [Array.size_append,Go.Sort.size_putRow]
  have e:(Go.Sort.ahead w1 n).heap.size=w1.heap.size:=rfl
  omega
 ·have hs:=h.size
  show ((Go.Sort.putRow (Value.int .i64) (Go.Sort.ahead w1 n) g 0 dk).heap++os)[k]?=_
  rw [Array.getElem?_append_left (by rw [Go.Sort.size_putRow];show k<w1.heap.size;omega)]
  show (w1.heap.modify g _)[k]?=_
  rw [Array.getElem?_modify,if_neg (by omega)]
  exact h.block k hk
theorem impl_others.gives (x:Int) (A1:Option Addr) (c1:Nat) (l1:List Int) (B:Nat) (W:World) (hl:l1.length≤100000000) (hc:W.cell? ⟨B,0,none⟩=some (.slice A1 l1.length c1)) (hr1:Kd.C (Kd.int .i64) W A1 l1.length l1) (hc1:l1.length≤c1) :
  Go.Proofs.FnGives Tryz.prog 120 #[.pointer (some ⟨B,0,none⟩)] #[.int .i64 x] (.bool (decide (x∈l1))) W:=by
 have hk:=impl_others.contains x l1 hl
 show Calls Tryz.prog 120 #[.int .i64 x,.pointer (some ⟨B,0,none⟩)] W _
 have HK:=ak hk
 have HR1:=ak hr1
 have HC1:=ak hc1
 clear hk hr1 hc1
 go_enter Tryz.func120,Tryz.ntmps120
 go_wp2_with (go_at_call 118;refine (slices_Contains_int64_int64.calls _ _ _ l1 x _ _ HR1.out HC1.out HK.out).mono ?_;rintro e w' ⟨rfl,⟨nd,rfl⟩⟩)
 go_ret
 exact ⟨rfl,_,rfl⟩
theorem impl_others.del (l1:List Int) (A1:Option Addr) (c1 n B base:Nat) (w w1:World) (v:Value) (hn:1≤n) (hn2:n≤1000) (hl:l1.length≤100000000) (hr1:Kd.C (Kd.int .i64) w A1 l1.length l1) (hc1:l1.length≤c1) (hb:Below w.heap.size w w1) (hcell:w1.cell? ⟨B,0,none⟩=some (.slice A1 l1.length c1)) (hB:B<base) (hbase:w.heap.size≤base)
  (hR:Kd.R (Kd.int .i64) 2 w1 base (fun _=>True) v (impl_others.upto n)) :
  Calls Tryz.prog 119 #[v,.func (.func 120) #[] #[.pointer (some ⟨B,0,none⟩)]] w1 fun e w'=>∃ v0_:Value,e=.returned (v0_)∧Kd.R (Kd.int .i64) 2 w' w.heap.size (fun _=>True) v0_ ((impl_others.upto n).filter fun v=>!decide (v∈l1))∧Below w.heap.size w w':=by
 have hxl:(impl_others.upto n).length=n:=by simp [impl_others.upto]
 obtain ⟨g,cap,L,rfl,hg,hblk,hL,hm,hcap,ht⟩:=block_of_R hR hxl hn
 have hBw:B<w1.heap.size:=World.block_lt_of_cell? w1 ⟨B,0,none⟩ hcell
 have eg:∀ args w,(callFunc 120 args).run Tryz.prog w=.ok (.enter 120 args) w:=enters_of Tryz.func120 kr rfl
 have hH:Go.Sort.Holds (Value.int .i64) w1 g 0 (impl_others.upto n).toArray:=holds_blk hblk (by rw [hxl];exact ht)
 have hcon:=Go.Proofs.AnyE.slices_DeleteFunc Go.Proofs.Tryz.lDeleteFunc (Value.int .i64) (fun _=>rfl) (fun x:Int=>decide (x∈l1)) 120 #[.pointer (some ⟨B,0,none⟩)] eg 0 Tryz.zeroValue2 g 0 cap (impl_others.upto n).toArray w1
  (fun W x hW=>impl_others.gives x A1 c1 l1 B W hl ((hW.cell (p:=⟨B,0,none⟩) hBw).trans hcell) (Kd.C_below hr1 (hb.trans (hW.mono hb.size))) hc1)
  (fun m os dk x _=>impl_others.gives x A1 c1 l1 B _ hl (by
   unfold Go.Proofs.sortWorld
   rw [Go.Sort.cell?_grow _ _ _ (by show B<(Go.Sort.putRow _ _ _ _ _).heap.size;rw [Go.Sort.size_putRow];exact hBw),Go.Sort.cell?_putRow_other _ _ g 0 _ _ (Or.inl (by show B≠g;omega))]
   exact hcell) (Kd.C_below hr1 (impl_others.below hb (by omega) m os dk)) hc1)
  hH (by simp [impl_others.upto];omega) (by simpa [impl_others.upto] using hm)
 change Calls Tryz.prog 119 _ _ _ at hcon
 have hsz:(impl_others.upto n).toArray.size=n:=by simp [impl_others.upto]
 rw [hsz] at hcon
 refine hcon.mono ?_
 rintro e w' ⟨he,q,hw⟩
 simp only [] at he hw
 subst hw
 have hfl:((impl_others.upto n).filter fun v=>!decide (v∈l1)).length≤n:=by have:=List.length_filter_le (fun v=>!decide (v∈l1)) (impl_others.upto n);rw [hxl] at this;exact this
 obtain ⟨q1,q2,q3⟩:=put_world (w0:=w) (P0:=fun _=>True) (cap:=cap) (L:=L) (s:=(impl_others.upto n).filter fun v=>!decide (v∈l1)) (rest:=List.replicate (n - ((impl_others.upto n).filter fun v=>!decide (v∈l1)).length) 0) (by simp;omega) (by omega) trivial hblk hL hcap hb q
 exact ⟨_,he,Kd.R_mono q1 (fun _ _=>trivial),q2⟩
theorem impl_others.calls (A0:Option Addr) (c0:Nat) (l0:List Int) (A1:Option Addr) (c1:Nat) (l1:List Int) (r:List Int) (w:World) (hr0:Kd.C (Kd.int .i64) w A0 l0.length l0) (hc0:l0.length≤c0) (hr1:Kd.C (Kd.int .i64) w A1 l1.length l1) (hc1:l1.length≤c1) (h:impl_others.f l0 l1=some r) :
  Calls Tryz.prog 86 #[.slice A0 l0.length c0,.slice A1 l1.length c1] w fun e w'=>∃ v0_:Value,e=.returned (v0_)∧Kd.R (Kd.int .i64) 2 w' w.heap.size (fun _=>True) v0_ r∧Below w.heap.size w w':=by
 unfold impl_others.f at h
 by_cases hc:1≤l0.length∧l0.length≤1000∧l1.length≤100000000
 rotate_left
 ·rw [if_neg hc] at h;cases h
 rw [if_pos hc] at h;obtain rfl:=Option.some.inj h;obtain ⟨hn,hn2,hl⟩:=hc;have HP:=ak (impl_others.preorder l0 hn2);have HR0:=ak hr0;have HC0:=ak hc0;have HD:=ak (fun w1 v base hb hcell hB hbase hR=>impl_others.del l1 A1 c1 l0.length w.heap.size base w w1 v hn hn2 hl hr1 hc1 hb hcell hB hbase hR);clear hr0 hc0 hr1 hc1 hn hn2 hl
 go_enter Tryz.func86,Tryz.ntmps86
 go_wp2_with (first|(go_at_call 93;refine (impl_preorder.calls _ _ _ l0 _ _ (Kd.C_alloc HR0.out _) HC0.out HP.out).mono ?_;rintro e w1 ⟨v,rfl,hR,hb⟩;have HR:=ak hR;have HB:=ak hb;clear hR hb)|(go_at_call 119;refine (HD.out _ _ _ ((below_alloc (Below.refl _ _) _).trans (HB.out.mono (by simp))) ((HB.out.cell (p:=⟨w.heap.size,0,none⟩) (by simp)).trans (by simp)) (by simp) (by simp) HR.out).mono ?_;rintro e w2 ⟨v2,rfl,hR2,hb2⟩))
 go_ret
 exact ⟨_,rfl,hR2,hb2⟩
mutual
def impl_RankOfGrowing.l0:Nat→List Int→List Int→Int→List Int→List Int→Int→Int→Option (Int × Int)
 | 0,_,_,_,_,_,_,_=>none
 | k+1,x1,x8,x9,x10,x30,x31,x32=>if x32<x31 then (if 0≤x32 then (if x32<(x30.length:Int) then (if x32≤(x1.length:Int) then ((impl_nexts.f k x8 (x1.take (x32:Int).toNat)).bind fun t486=>(impl_RankOfGrowing.l1 k x1 x8 x9 x10 x32 (rd x30 x32) x30 x31 x32 t486 (t486.length:Int) 0)) else (none)) else (none)) else (none)) else (some (x9,0))
def impl_RankOfGrowing.l1:Nat→List Int→List Int→Int→List Int→Int→Int→List Int→Int→Int→List Int→Int→Int→Option (Int × Int)
 | 0,_,_,_,_,_,_,_,_,_,_,_,_=>none
 | k+1,x1,x8,x9,x10,x11,x12,x30,x31,x32,x41,x42,x43=>if x43<x42 then (if 0≤x43 then (if x43<(x41.length:Int) then (if (rd x41 x43)<x12 then (if 0≤x11 then (if x11≤(x1.length:Int) then ((slices_Clone.f (x1.take (x11:Int).toNat)).bind fun t491=>(if t491.length<17592186044416 then ((impl_others.f x8 (t491++[rd x41 x43])).bind fun t497=>((impl_ways.f k x10 t497).bind fun t500=>(impl_RankOfGrowing.l1 k x1 x8 (wrap64 (x9+t500)) x10 x11 x12 x30 x31 x32 x41 x42 (wrap64 (x43+1))))) else (none))) else (none)) else (none)) else (impl_RankOfGrowing.l1 k x1 x8 x9 x10 x11 x12 x30 x31 x32 x41 x42 (wrap64 (x43+1)))) else (none)) else (none)) else (impl_RankOfGrowing.l0 k x1 x8 x9 x10 x30 x31 (wrap64 (x32+1)))
end
def impl_RankOfGrowing.f (k:Nat) (l0_0:List Int) (l1:List Int):Option (Int × Int):=(impl_growingCode.f k l0_0 l1).bind fun t479=>(if t479=0 then ((impl_grownCode.f k l0_0).bind fun t480=>(if t480=0 then ((impl_sizesOf.f k l0_0).bind fun t481=>(impl_RankOfGrowing.l0 k l1 l0_0 0 t481 l1 (l1.length:Int) 0)) else (some (0,t480)))) else (some (0,t479)))
theorem impl_RankOfGrowing.calls (k:Nat) (A0_0:Option Addr) (c0_0:Nat) (l0_0:List Int) (A1:Option Addr) (c1:Nat) (l1:List Int) (r1:Int) (r2:Int) (w:World) (hr0_0:Kd.C (Kd.int .i64) w A0_0 l0_0.length l0_0) (hc0_0:l0_0.length≤c0_0) (hr1:Kd.C (Kd.int .i64) w A1 l1.length l1) (hc1:l1.length≤c1) (h:impl_RankOfGrowing.f k l0_0 l1=some (r1,r2)) :
  Calls Tryz.prog 23 #[.agg #[.slice A0_0 l0_0.length c0_0],.slice A1 l1.length c1] w fun e w'=>e=.returned (.tuple #[.int .i64 r1,.int .i64 r2])∧Below w.heap.size w w':=by
 have hu27:=Tryz.underlying27;have ai:=ak hr0_0;have aj:=ak hc0_0;clear hr0_0 hc0_0;have HR1:=ak hr1;have HC1:=ak hc1;clear hr1 hc1;have HB:=ak (Below.refl w.heap.size w);have H:((impl_growingCode.f k l0_0 l1).bind fun an=>(if an=0 then ((impl_grownCode.f k l0_0).bind fun ao=>(if ao=0 then ((impl_sizesOf.f k l0_0).bind fun al=>(impl_RankOfGrowing.l0 k l1 l0_0 0 al l1 (l1.length:Int) 0)) else (some (0,ao)))) else (some (0,an))))=some (r1,r2):=h;clear h;replace H:=bs H;obtain ⟨an,A3,H⟩:=H;(try dsimp only at H);obtain c4|c4:=nem (an=0)
 ·rw [if_neg c4] at H;have aJ:(an == 0)=false:=beq_eq_false_iff_ne.mpr c4;have bi:(an != 0)=true:=bne_iff_ne.mpr c4;simp only [Option.some.injEq,Prod.mk.injEq] at H;obtain ⟨rfl,rfl⟩:=H
  go_enter Tryz.func23,Tryz.ntmps23
  go_wp2_with (first|((with_reducible refine gate_dst (N:=2) rfl ?_);refine bev (N:=2) (cs:=#[.slice A0_0 l0_0.length c0_0]) (t:=27) ?_;intro aA hg w46 hbox hb;have aa:=ak (hbox);have a5:=gbe hg;have a6:=gbe hg;replace HB:=hbs hb;clear hb hbox hg;have bU:=bc aa.out;have bV:=blk_frozen aa.out 0)|((with_reducible refine gate_callee (f:=57) rfl ?_);refine gl (some 17) Tryz.func57 #[.agg #[.slice A0_0 l0_0.length c0_0],.slice A1 l1.length c1] ?_;(with_reducible refine (impl_growingCode.calls k _ _ l0_0 _ _ l1 an _ (pc (Kd.C_below ai.out HB.out)) aj.out (pc (Kd.C_below HR1.out HB.out)) HC1.out A3.out).mono ?_);rintro e w48 ⟨rfl,hb⟩;refine ⟨_,rfl,?_⟩;replace aa:=bb aa hb;replace HB:=hbs hb;(try clear hb)))
  go_ret2
  exact ⟨ew,hq⟩
 rw [if_pos c4] at H;have aJ:=be c4;have bi:=bn c4;clear c4;replace H:=bs H;obtain ⟨ao,A5,H⟩:=H;(try dsimp only at H);obtain c6|c6:=nem (ao=0)
 ·rw [if_neg c6] at H;have bj:(ao == 0)=false:=beq_eq_false_iff_ne.mpr c6;have bk:(ao != 0)=true:=bne_iff_ne.mpr c6;simp only [Option.some.injEq,Prod.mk.injEq] at H;obtain ⟨rfl,rfl⟩:=H
  go_enter Tryz.func23,Tryz.ntmps23
  go_wp2_with (first|((with_reducible refine gate_dst (N:=2) rfl ?_);refine bev (N:=2) (cs:=#[.slice A0_0 l0_0.length c0_0]) (t:=27) ?_;intro aA hg w41 hbox hb;have aa:=ak (hbox);have a5:=gbe hg;have a6:=gbe hg;replace HB:=hbs hb;clear hb hbox hg;have bW:=bc aa.out;have bX:=blk_frozen aa.out 0)|((with_reducible refine gate_callee (f:=57) rfl ?_);refine gl (some 17) Tryz.func57 #[.agg #[.slice A0_0 l0_0.length c0_0],.slice A1 l1.length c1] ?_;(with_reducible refine (impl_growingCode.calls k _ _ l0_0 _ _ l1 an _ (pc (Kd.C_below ai.out HB.out)) aj.out (pc (Kd.C_below HR1.out HB.out)) HC1.out A3.out).mono ?_);rintro e w43 ⟨rfl,hb⟩;refine ⟨_,rfl,?_⟩;replace aa:=bb aa hb;replace HB:=hbs hb;(try clear hb);(try clear hb2);(try clear hk);(try clear hi);have bY:=bc aa.out;have bZ:=blk_frozen aa.out 0)|((with_reducible refine gate_callee (f:=82) rfl ?_);refine gl (some 22) Tryz.func82 #[.agg #[.slice A0_0 l0_0.length c0_0]] ?_;(with_reducible refine (impl_grownCode.calls k _ _ l0_0 ao _ (pc (Kd.C_below ai.out HB.out)) aj.out A5.out).mono ?_);rintro e w45 ⟨rfl,hb⟩;refine ⟨_,rfl,?_⟩;replace aa:=bb aa hb;replace HB:=hbs hb;(try clear hb)))
  go_ret2
  exact ⟨ew,hq⟩
 rw [if_pos c6] at H;have bj:=be c6;have bk:=bn c6;clear c6;replace H:=bs H;obtain ⟨al,A7,H⟩:=H;(try dsimp only at H);have H':=ak H;clear H
 go_enter Tryz.func23,Tryz.ntmps23
 go_wp2_with (first|((with_reducible refine gate_dst (N:=2) rfl ?_);refine bev (N:=2) (cs:=#[.slice A0_0 l0_0.length c0_0]) (t:=27) ?_;intro aA hg w8 hbox hb;have aa:=ak (hbox);have a5:=gbe hg;have a6:=gbe hg;replace HB:=hbs hb;clear hb hbox hg;have b0:=bc aa.out;have b1:=blk_frozen aa.out 0)|((with_reducible refine gate_callee (f:=57) rfl ?_);refine gl (some 17) Tryz.func57 #[.agg #[.slice A0_0 l0_0.length c0_0],.slice A1 l1.length c1] ?_;(with_reducible refine (impl_growingCode.calls k _ _ l0_0 _ _ l1 an _ (pc (Kd.C_below ai.out HB.out)) aj.out (pc (Kd.C_below HR1.out HB.out)) HC1.out A3.out).mono ?_);rintro e w10 ⟨rfl,hb⟩;refine ⟨_,rfl,?_⟩;replace aa:=bb aa hb;replace HB:=hbs hb;(try clear hb);(try clear hb2);(try clear hk);(try clear hi);have b2:=bc aa.out;have b3:=blk_frozen aa.out 0)|((with_reducible refine gate_callee (f:=82) rfl ?_);refine gl (some 22) Tryz.func82 #[.agg #[.slice A0_0 l0_0.length c0_0]] ?_;(with_reducible refine (impl_grownCode.calls k _ _ l0_0 ao _ (pc (Kd.C_below ai.out HB.out)) aj.out A5.out).mono ?_);rintro e w12 ⟨rfl,hb⟩;refine ⟨_,rfl,?_⟩;replace aa:=bb aa hb;replace HB:=hbs hb;(try clear hb);(try clear hb2);(try clear hk);(try clear hi);have b4:=bc aa.out;have b5:=blk_frozen aa.out 0)|((with_reducible refine gate_callee (f:=83) rfl ?_);refine gl (some 29) Tryz.func83 #[.slice A0_0 l0_0.length c0_0] ?_;(with_reducible refine (impl_sizesOf.calls k _ _ l0_0 al _ (pc (Kd.C_below ai.out HB.out)) aj.out A7.out).mono ?_);rintro e w14 ⟨aC,rfl,ho0,hb⟩;refine ⟨_,rfl,?_⟩;have bl:=lw ho0;replace aa:=bb aa hb;replace HB:=hbs hb;(try clear hb ho0)))
 go_loopg [9,32] k (fun kq v9 v32 w'=>∃ (aE:Int) (ab:Int),v9=.int .i64 aE∧v32=.int .i64 ab∧Aside0 (impl_RankOfGrowing.l0 kq l1 l0_0 aE al l1 (l1.length:Int) ab=some (r1,r2))∧Aside0 (kq≤k)∧Aside0 (Kd.R (Kd.int .i64) 2 w' w.heap.size (fun _=>True) aC al)∧Aside0 (w'.heap[aA]?=some (.cells #[(.slice A0_0 l0_0.length c0_0)] 27 (0,0)))∧Aside0 (Below w.heap.size w w'))
 case atStart=>exact ⟨(0),(0),q10_1,q10_1,H',⟨Nat.le_refl _⟩,⟨pe bl.out⟩,⟨pb aa.out⟩,⟨hq⟩⟩
 case round =>
  clear H';obtain ⟨aE,ab,rfl,rfl,HA,HK1,ac,aa,HB⟩:=hrel
  cases gk with|zero=>exact absurd HA.out (by simp [impl_RankOfGrowing.l0])|succ k1=>?_
  have H:=HA.out;clear HA;simp only [impl_RankOfGrowing.l0] at H;obtain c15|c15:=nem (ab<(l1.length:Int))
  ·rw [if_neg c15] at H;have bm:=df c15;clear c15;simp only [Option.some.injEq,Prod.mk.injEq] at H;obtain ⟨rfl,rfl⟩:=H;go_wp2
   go_ret2
   exact ⟨ew,hq⟩
  rw [if_pos c15] at H;have bm:=dt c15;clear c15;replace H:=ifs H;obtain ⟨c16,H⟩:=H;have b6:=dt c16;clear c16;replace H:=ifs H;obtain ⟨c17,H⟩:=H;have b7:=dt c17;clear c17;have b8:=eq_true (od q10_0:0≤ab);replace H:=ifs H;obtain ⟨c19,H⟩:=H;have b9:=eq_true c19;have ca:decide (ab≤(l1.length:Int))=true:=decide_eq_true c19;clear c19;replace H:=bs H;obtain ⟨af,A20,H⟩:=H;(try dsimp only at H);have H':=ak H;clear H;have aK:0≤(ab:Int):=od q10_0;have aM:ab<(l1.length:Int):=od q10_0;obtain ⟨aG,bo,aN⟩:=Kd.at_int HR1.out ab aK aM;cases bo;replace aN:=(HB.out.cell (World.block_lt_of_cell? w _ aN)).trans aN;replace aK:=eq_true aK;replace aM:=eq_true aM;obtain ⟨i021,a7,_,hsz21,_⟩:=info_parts info2;obtain ⟨hcut21,hA21,a8⟩:=print_take_of (P:=Tryz.prog) (Value.int .i64) 0 24 2 .i64 Tryz.underlying24 a7 hsz21 (some aG) c1 l1 ab (od q10_0) (od q10_0) HC1.out;have bp:Aside0 (Kd.C (Kd.int .i64) _ _ _ _):=ak (Kd.C_of_reads (h1:=fun _=>rfl) (hA21 _ (Kd.reads_of_C HR1.out)));have bq:=ak a8;clear hA21 a8 a7 hsz21
  go_wp2_with (first|((with_reducible refine gate_callee (f:=84) rfl ?_);refine goesL_ (some 41) rfl rfl Tryz.func84 kr rfl #[.slice A0_0 l0_0.length c0_0,.slice (some aG) (l1.take (ab:Int).toNat).length c1] rfl q10_2 ?_;(with_reducible refine (impl_nexts.calls k1 _ _ l0_0 _ _ (l1.take (ab:Int).toNat) af _ (pc (Kd.C_below ai.out HB.out)) aj.out (pc (Kd.C_below bp.out HB.out)) bq.out A20.out).mono ?_);rintro e w22 ⟨cb,rfl,ho0,hb⟩;refine ⟨_,rfl,?_⟩;have a9:=lw (nw ho0 ac);replace ac:=rn ac ho0 hb;replace aa:=bb aa hb;replace HB:=hbs hb;(try clear hb);(try clear hb2);(try clear hk);(try clear hi);(try clear ho0);obtain ⟨ba,aH,br⟩:=Kd.R_slice a9.out;subst br))
  go_loopg [9,43] k1 (fun kq v9 v43 w'=>∃ (ar:Int) (ag:Int),v9=.int .i64 ar∧v43=.int .i64 ag∧Aside0 (impl_RankOfGrowing.l1 kq l1 l0_0 ar al ab (rd l1 ab) l1 (l1.length:Int) ab af (af.length:Int) ag=some (r1,r2))∧Aside0 (kq≤k1)∧Aside0 (Kd.R (Kd.int .i64) 2 w' w.heap.size (fun k_=>some k_≠((.slice ba af.length aH):Value).ownBlock) aC al)∧Aside0 (Kd.R (Kd.int .i64) 2 w' w.heap.size (fun k_=>some k_≠(aC:Value).ownBlock) (.slice ba af.length aH) af)∧Aside0 (w'.heap[aA]?=some (.cells #[(.slice A0_0 l0_0.length c0_0)] 27 (0,0)))∧Aside0 (Below w.heap.size w w'))
  case atStart=>exact ⟨(aE),(0),q10_1,q10_1,H',⟨Nat.le_refl _⟩,⟨pe (Kd.R_mono ac.out (fun _ hk=>hk.2))⟩,⟨pe (Kd.R_mono a9.out (fun _ hk=>hk.2))⟩,⟨pb aa.out⟩,⟨hq⟩⟩
  case round =>
   clear H';obtain ⟨ar,ag,rfl,rfl,HA,HK2,ac,ah,aa,HB⟩:=hrel
   cases gk with|zero=>exact absurd HA.out (by simp [impl_RankOfGrowing.l1])|succ k2=>?_
   have H:=HA.out;clear HA;simp only [impl_RankOfGrowing.l1] at H;obtain c24|c24:=nem (ag<(af.length:Int))
   ·rw [if_neg c24] at H;have bu:=df c24;clear c24;have H':=ak H;clear H;go_wp2
    go_roundg k2
    case measure=>have:=HK1.out;have:=HK2.out;omega
    case rel=>exact ⟨(ar),(wrap64 (ab+1)),q10_1,q10_1,H',⟨by have:=HK1.out;have:=HK2.out;omega⟩,⟨pe (Kd.R_mono ac.out (fun _ hk=>trivial))⟩,⟨pb aa.out⟩,⟨hq⟩⟩
   rw [if_pos c24] at H;have bu:=dt c24;clear c24;replace H:=ifs H;obtain ⟨c25,H⟩:=H;have cc:=dt c25;clear c25;replace H:=ifs H;obtain ⟨c26,H⟩:=H;have cd:=dt c26;clear c26;obtain c27|c27:=nem ((rd af ag)<(rd l1 ab))
   ·rw [if_neg c27] at H;have bv:=df c27;clear c27;have H':=ak H;clear H;have au:0≤(ag:Int):=od q10_0;have av:ag<(af.length:Int):=od q10_0;(try (obtain ⟨Aop_,cop_,eop_⟩:=Kd.R_slice ah.out;subst eop_));obtain ⟨aQ,aR,bw⟩:=Kd.at_int (Kd.R_reads' ah.out).2.2 ag au av;cases aR;replace au:=eq_true au;replace av:=eq_true av;go_wp2
    go_roundg k2
    case measure=>have:=HK1.out;have:=HK2.out;omega
    case rel=>exact ⟨(ar),(wrap64 (ag+1)),q10_1,q10_1,H',⟨by have:=HK1.out;have:=HK2.out;omega⟩,⟨pe ac.out⟩,⟨pe ah.out⟩,⟨pb aa.out⟩,⟨hq⟩⟩
   rw [if_pos c27] at H;have bv:=dt c27;clear c27;replace H:=ifs H;obtain ⟨c28,H⟩:=H;have ce:=eq_true c28;have cf:decide (0≤ab)=true:=decide_eq_true c28;clear c28;replace H:=ifs H;obtain ⟨c29,H⟩:=H;have cg:=eq_true c29;have ch:decide (ab≤(l1.length:Int))=true:=decide_eq_true c29;clear c29;replace H:=bs H;obtain ⟨aT,A30,H⟩:=H;(try dsimp only at H);replace H:=ifs H;obtain ⟨c31,H⟩:=H;have bx:=ak c31;clear c31;obtain ⟨aU,hY⟩:∃ y_:List Int,y_=(aT++[rd af ag]):=⟨_,rfl⟩;replace H:((impl_others.f l0_0 aU).bind fun aD=>((impl_ways.f k2 al aD).bind fun aI=>(impl_RankOfGrowing.l1 k2 l1 l0_0 (wrap64 (ar+aI)) al ab (rd l1 ab) l1 (l1.length:Int) ab af (af.length:Int) (wrap64 (ag+1)))))=some (r1,r2):=hh;have bz:=ak hY;clear hY;replace H:=bs H;obtain ⟨aD,A32,H⟩:=H;(try dsimp only at H);replace H:=bs H;obtain ⟨aI,A33,H⟩:=H;(try dsimp only at H);have H':=ak H;clear H;have au:0≤(ag:Int):=od q10_0;have av:ag<(af.length:Int):=od q10_0;(try (obtain ⟨Aop_,cop_,eop_⟩:=Kd.R_slice ah.out;subst eop_));obtain ⟨aQ,aR,bw⟩:=Kd.at_int (Kd.R_reads' ah.out).2.2 ag au av;cases aR;replace au:=eq_true au;replace av:=eq_true av;obtain ⟨i034,bd,_,hsz34,_⟩:=info_parts info2;obtain ⟨hcut34,hA34,bf⟩:=print_take_of (P:=Tryz.prog) (Value.int .i64) 0 24 2 .i64 Tryz.underlying24 bd hsz34 (some aG) c1 l1 ab (od q10_0) (od q10_0) HC1.out;have bA:Aside0 (Kd.C (Kd.int .i64) _ _ _ _):=ak (Kd.C_of_reads (h1:=fun _=>rfl) (hA34 _ (Kd.reads_of_C HR1.out)));have bB:=ak bf;clear hA34 bf bd hsz34
   go_wp2_with (first|((with_reducible refine gate_callee (f:=63) rfl ?_);refine goesL_ (some 56) rfl rfl Tryz.func63 kr rfl #[.slice (some aG) (l1.take (ab:Int).toNat).length c1] rfl q10_2 ?_;(with_reducible refine (slices_Clone.calls _ _ (l1.take (ab:Int).toNat) aT _ (pc (Kd.C_below bA.out HB.out)) bB.out A30.out).mono ?_);rintro e w35 ⟨bC,rfl,ho0,hb⟩;refine ⟨_,rfl,?_⟩;have aV:=lw (nw (nw ho0 ac) ah);replace ac:=rn ac ho0 hb;replace ah:=rn ah ho0 hb;replace aa:=bb aa hb;replace HB:=hbs hb;(try clear hb ho0))|((with_reducible refine gate_builtin (b:=.append) (xs:=#[.tmp 56,.tmp 58]) rfl ?_);at_builtin;refine Kd.R_append (Kd.int .i64) (w0:=w) w.heap.size rfl (.tmp 56) (.tmp 58) 24 2 (.int .i64 0) 8 rfl Tryz.underlying24 info2 rfl dc (by omega) bC aT (rd af ag) [.int .i64 (rd af ag)] (fun k_=>some k_≠(aC:Value).ownBlock∧some k_≠(.slice (some aQ) af.length aH:Value).ownBlock) (fun _=>False) rfl rfl ?aP (fun _ hk=>hk.elim) ?aF ?aO ?aB ?aS ?aL ?_;(case aP=>exact rfl);(case aB=>exact hq);(case aF=>exact (fun k_ hk=>⟨Kd.fresh' (Kd.R_lt (pe ac.out)) k_ hk,Kd.fresh' (Kd.R_lt (pe ah.out)) k_ hk⟩));(case aO=>exact (pe (Kd.R_mono aV.out (fun _ hk=>⟨hk.1.2,hk.2⟩))));(case aS=>exact (below_size hq));(case aL=>have:=bx.out;omega);intro ci w36 ho hb hg hat;rw [← bz.out] at ho;replace ac:=ak (Kd.R_after (ok:=(fun k_=>some k_≠(.slice (some aQ) af.length aH:Value).ownBlock)) (pe ac.out) hg hat);replace ah:=ak (Kd.R_after (ok:=(fun k_=>some k_≠(aC:Value).ownBlock)) (pe ah.out) hg hat);replace aa:=ak (blk_grown (g:=aA) (o:=.cells #[.slice A0_0 l0_0.length c0_0] 27 (0,0)) (pb aa.out) hg (Kd.R_ne aV.out aa.out dc));replace HB:=ak (hb);have az:=ak (ho);clear aV;clear ho hb hg hat;obtain ⟨bD,bE,bF⟩:=Kd.R_slice az.out;subst bF)|((with_reducible refine gate_callee (f:=86) rfl ?_);refine gl (some 60) Tryz.func86 #[.slice A0_0 l0_0.length c0_0,.slice bD aU.length bE] ?_;(with_reducible refine (impl_others.calls _ _ l0_0 _ _ aU aD _ (pc (Kd.C_below ai.out HB.out)) aj.out (pc ((Kd.R_reads' az.out).2.2)) (Kd.R_reads' az.out).2.1 A32.out).mono ?_);rintro e w38 ⟨cj,rfl,ho0,hb⟩;refine ⟨_,rfl,?_⟩;have aW:=lw (nw (nw (nw ho0 ac) ah) az);replace ac:=rn ac ho0 hb;replace ah:=rn ah ho0 hb;replace az:=rn az ho0 hb;replace aa:=bb aa hb;replace HB:=hbs hb;(try clear hb);(try clear hb2);(try clear hk);(try clear hi);(try clear ho0);obtain ⟨bG,bH,bI⟩:=Kd.R_slice ac.out;subst bI;obtain ⟨bJ,bK,bL⟩:=Kd.R_slice aW.out;subst bL)|((with_reducible refine gate_callee (f:=85) rfl ?_);refine gl (some 61) Tryz.func85 #[.slice bG al.length bH,.slice bJ aD.length bK] ?_;(with_reducible refine (impl_ways.calls k2 _ _ al _ _ aD aI _ (pc ((Kd.R_reads' ac.out).2.2)) (Kd.R_reads' ac.out).2.1 (pc ((Kd.R_reads' aW.out).2.2)) (Kd.R_reads' aW.out).2.1 A33.out).mono ?_);rintro e w' ⟨rfl,⟨nd,rfl⟩⟩;refine ⟨_,rfl,?_⟩))
   go_roundg k2
   case measure=>have:=HK1.out;have:=HK2.out;omega
   case rel=>exact ⟨(wrap64 (ar+aI)),(wrap64 (ag+1)),q10_1,q10_1,H',⟨by have:=HK1.out;have:=HK2.out;omega⟩,⟨pe (Kd.R_mono ac.out (fun _ hk=>hk.1.1))⟩,⟨pe (Kd.R_mono ah.out (fun _ hk=>hk.1.1))⟩,⟨pb aa.out⟩,⟨hq⟩⟩
def spec_l01In.f (a0:Int) (a1:Int) (a2:Int):Option (Bool):=if a0≥a1 then (some (decide (a0≤a2))) else (some false)
theorem spec_l01In.calls (a0:Int) (a1:Int) (a2:Int) (r:Bool) (w:World) (h:spec_l01In.f a0 a1 a2=some r) :
  Calls Tryz.prog 53 #[.int .i64 a0,.int .i64 a1,.int .i64 a2] w fun e w'=>e=.returned (.bool r)∧Drawn0 w w':=by
 have H:(if a0≥a1 then (some (decide (a0≤a2))) else (some false))=some r:=h;clear h
 by_cases c4:a0≥a1
 ·rw [if_pos c4] at H;have aJ:decide (a1≤a0)=true:=decide_eq_true c4;clear c4;obtain rfl:=Option.some.inj H
  go_enter Tryz.func53,Tryz.ntmps53
  go_wp2
  go_ret
  exact ⟨q10_1,by repeat (first|exact Drawn0.refl _|apply Drawn0.step)⟩
 rw [if_neg c4] at H;have aJ:decide (a1≤a0)=false:=decide_eq_false c4;clear c4;obtain rfl:=Option.some.inj H
 go_enter Tryz.func53,Tryz.ntmps53
 go_wp2
 go_ret
 exact ⟨q10_1,by repeat (first|exact Drawn0.refl _|apply Drawn0.step)⟩
def spec_l01Is.l0:Nat→Int→Int→List Int→Option (Bool)
 | 0,_,_,_=>none
 | k+1,x3,x4,x502000=>if x4<(x502000.length:Int) then (if x3=0 then (some false) else (if 0≤x4 then ((spec_l01In.f (rd x502000 x4) 0 24).bind fun t505=>(if t505=true then (spec_l01Is.l0 k (wrap64 ((wrap64 (x3 - 1))+(rd x502000 x4))) (wrap64 (x4+1)) x502000) else (some false))) else (none))) else (some (x3 == 0))
def spec_l01Is.f (k:Nat) (l0_0:List Int):Option (Bool):=(spec_l01N.f l0_0).bind fun t502=>((spec_l01In.f t502 1 24).bind fun t503=>(if t503=true then (spec_l01Is.l0 k 1 0 l0_0) else (some false)))
theorem spec_l01Is.calls (k:Nat) (A0_0:Option Addr) (c0_0:Nat) (l0_0:List Int) (r:Bool) (w:World) (hr0_0:Kd.C (Kd.int .i64) w A0_0 l0_0.length l0_0) (hc0_0:l0_0.length≤c0_0) (h:spec_l01Is.f k l0_0=some r) :
  Calls Tryz.prog 95 #[.agg #[.slice A0_0 l0_0.length c0_0]] w fun e w'=>e=.returned (.bool r)∧Below w.heap.size w w':=by
 have hu27:=Tryz.underlying27;have ai:=ak hr0_0;have aj:=ak hc0_0;clear hr0_0 hc0_0;have HB:=ak (Below.refl w.heap.size w);have H:((spec_l01N.f l0_0).bind fun ap=>((spec_l01In.f ap 1 24).bind fun aX=>(if aX=true then (spec_l01Is.l0 k 1 0 l0_0) else (some false))))=some r:=h;clear h;replace H:=bs H;obtain ⟨ap,A2,H⟩:=H;(try dsimp only at H);replace H:=bs H;obtain ⟨aX,A3,H⟩:=H;(try dsimp only at H);obtain c4|c4:=nem (aX=true)
 ·replace c4:=Bool.eq_false_iff.mpr c4;subst c4;have H1:(some false)=some r:=by rw [if_neg (show ¬ (false=true) by decide)] at H;exact H
  clear H;have H:=H1;clear H1;obtain rfl:=Option.some.inj H
  go_enter Tryz.func95,Tryz.ntmps95
  go_wp2_with (first|((with_reducible refine gate_dst (N:=1) rfl ?_);refine bev (N:=1) (cs:=#[.slice A0_0 l0_0.length c0_0]) (t:=27) ?_;intro bg hg w17 hbox hb;have ad:=ak (hbox);have bM:=gbe hg;have bN:=gbe hg;replace HB:=hbs hb;clear hb hbox hg;have ck:=bc ad.out;have cl:=blk_frozen ad.out 0)|((with_reducible refine gate_callee (f:=80) rfl ?_);refine gl (some 6) Tryz.func80 #[.agg #[.slice A0_0 l0_0.length c0_0]] ?_;(with_reducible refine (spec_l01N.calls _ _ l0_0 ap _ (pc (Kd.C_below ai.out HB.out)) aj.out A2.out).mono ?_);rintro e w19 ⟨rfl,hb⟩;refine ⟨_,rfl,?_⟩;replace ad:=bb ad hb;replace HB:=hbs hb;(try clear hb))|((with_reducible refine gate_callee (f:=53) rfl ?_);refine gl (some 7) Tryz.func53 #[.int .i64 ap,.int .i64 1,.int .i64 24] ?_;(with_reducible refine (spec_l01In.calls ap 1 24 false _ A3.out).mono ?_);rintro e w' ⟨rfl,⟨nd,rfl⟩⟩;refine ⟨_,rfl,?_⟩))
  go_ret
  exact ⟨ew,hq⟩
 subst c4;replace H:(spec_l01Is.l0 k 1 0 l0_0)=some r:=by rw [if_pos rfl] at H;exact H
 have H':=ak H;clear H
 go_enter Tryz.func95,Tryz.ntmps95
 go_wp2_with (first|((with_reducible refine gate_dst (N:=1) rfl ?_);refine bev (N:=1) (cs:=#[.slice A0_0 l0_0.length c0_0]) (t:=27) ?_;intro bg hg w5 hbox hb;have ad:=ak (hbox);have bM:=gbe hg;have bN:=gbe hg;replace HB:=hbs hb;clear hb hbox hg;have cm:=bc ad.out;have cn:=blk_frozen ad.out 0)|((with_reducible refine gate_callee (f:=80) rfl ?_);refine gl (some 6) Tryz.func80 #[.agg #[.slice A0_0 l0_0.length c0_0]] ?_;(with_reducible refine (spec_l01N.calls _ _ l0_0 ap _ (pc (Kd.C_below ai.out HB.out)) aj.out A2.out).mono ?_);rintro e w7 ⟨rfl,hb⟩;refine ⟨_,rfl,?_⟩;replace ad:=bb ad hb;replace HB:=hbs hb;(try clear hb))|((with_reducible refine gate_callee (f:=53) rfl ?_);refine gl (some 7) Tryz.func53 #[.int .i64 ap,.int .i64 1,.int .i64 24] ?_;(with_reducible refine (spec_l01In.calls ap 1 24 true _ A3.out).mono ?_);rintro e w' ⟨rfl,⟨nd,rfl⟩⟩;refine ⟨_,rfl,?_⟩))
 go_loopg [3,4] k (fun kq v3 v4 w'=>∃ (aq:Int) (ae:Int),v3=.int .i64 aq∧v4=.int .i64 ae∧Aside0 (spec_l01Is.l0 kq aq ae l0_0=some r)∧Aside0 (kq≤k)∧Aside0 (w'.heap[bg]?=some (.cells #[(.slice A0_0 l0_0.length c0_0)] 27 (0,0)))∧Aside0 (Below w.heap.size w w'))
 case atStart=>exact ⟨(1),(0),q10_1,q10_1,H',⟨Nat.le_refl _⟩,⟨pb ad.out⟩,⟨hq⟩⟩
 case round =>
  clear H';obtain ⟨aq,ae,rfl,rfl,HA,HK1,ad,HB⟩:=hrel
  cases gk with|zero=>exact absurd HA.out (by simp [spec_l01Is.l0])|succ k1=>?_
  have H:=HA.out;clear HA;simp only [spec_l01Is.l0] at H;obtain c8|c8:=nem (ae<(l0_0.length:Int))
  ·rw [if_neg c8] at H;have bO:=df c8;clear c8;obtain rfl:=Option.some.inj H;have co:=bc ad.out;have cp:=blk_frozen ad.out 0;go_wp2
   go_ret
   exact ⟨ew,hq⟩
  rw [if_pos c8] at H;have bO:=dt c8;clear c8
  by_cases c9:aq=0
  ·rw [if_pos c9] at H;have bP:=be c9;have bQ:=bn c9;clear c9;obtain rfl:=Option.some.inj H;have cq:=bc ad.out;have cr:=blk_frozen ad.out 0;go_wp2
   go_ret
   exact ⟨ew,hq⟩
  rw [if_neg c9] at H;have bP:(aq == 0)=false:=beq_eq_false_iff_ne.mpr c9;have bQ:(aq != 0)=true:=bne_iff_ne.mpr c9;replace H:=ifs H;obtain ⟨c11,H⟩:=H;have ct:=dt c11;clear c11;replace H:=bs H;obtain ⟨bR,A12,H⟩:=H;(try dsimp only at H)
  by_cases c13:bR=true
  ·subst c13;replace H:(spec_l01Is.l0 k1 (wrap64 ((wrap64 (aq - 1))+(rd l0_0 ae))) (wrap64 (ae+1)) l0_0)=some r:=by rw [if_pos rfl] at H;exact H
   have H':=ak H;clear H;have cu:=bc ad.out;have cv:=blk_frozen ad.out 0;have aw:0≤(ae:Int):=od q10_0;have ax:ae<(l0_0.length:Int):=od q10_0;obtain ⟨bh,aY,ay⟩:=Kd.at_int ai.out ae aw ax;cases aY;replace ay:=(HB.out.cell (World.block_lt_of_cell? w _ ay)).trans ay;replace aw:=eq_true aw;replace ax:=eq_true ax
   go_wp2_with (first|(go_at_call 53;(with_reducible refine (spec_l01In.calls (rd l0_0 ae) 0 24 true _ A12.out).mono ?_);rintro e w' ⟨rfl,⟨nd,rfl⟩⟩;have aZ:0≤(ae:Int):=od q10_0;have a3:ae<(l0_0.length:Int):=od q10_0;obtain ⟨bS,bT,a4⟩:=Kd.at_int ai.out ae aZ a3;obtain rfl:bh=bS:=(by injection bT);replace a4:=(HB.out.cell (World.block_lt_of_cell? w _ a4)).trans a4;replace aZ:=eq_true aZ;replace a3:=eq_true a3))
   go_roundg k1
   case measure=>have:=HK1.out;omega
   case rel=>exact ⟨(wrap64 ((wrap64 (aq - 1))+(rd l0_0 ae))),(wrap64 (ae+1)),q10_1,q10_1,H',⟨by have:=HK1.out;omega⟩,⟨pb ad.out⟩,⟨hq⟩⟩
  replace c13:=Bool.eq_false_iff.mpr c13;subst c13;have H1:(some false)=some r:=by rw [if_neg (show ¬ (false=true) by decide)] at H;exact H
  clear H;have H:=H1;clear H1;obtain rfl:=Option.some.inj H;have cw:=bc ad.out;have cx:=blk_frozen ad.out 0;have aw:0≤(ae:Int):=od q10_0;have ax:ae<(l0_0.length:Int):=od q10_0;obtain ⟨bh,aY,ay⟩:=Kd.at_int ai.out ae aw ax;cases aY;replace ay:=(HB.out.cell (World.block_lt_of_cell? w _ ay)).trans ay;replace aw:=eq_true aw;replace ax:=eq_true ax
  go_wp2_with (first|(go_at_call 53;(with_reducible refine (spec_l01In.calls (rd l0_0 ae) 0 24 false _ A12.out).mono ?_);rintro e w' ⟨rfl,⟨nd,rfl⟩⟩))
  go_ret
  exact ⟨ew,hq⟩
end Go.Proofs.YtlppkilencpmeaaGreat.QFnGrowing
