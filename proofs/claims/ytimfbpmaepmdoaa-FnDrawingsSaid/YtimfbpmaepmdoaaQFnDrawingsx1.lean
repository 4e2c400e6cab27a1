/- Functions as Lean functions, with their contracts: written by a program of this claim over the translation; some contracts are proved by hand. -/
import Derived.Test.YtimfbpmaepmdoaaQFnDrawingsx0
namespace Go.Proofs.Ytimfbpmaepmdoaa.QFnDrawings
open Go.RowKit Go.Proofs.Ytimfbpmaepmdoaa.Gl Go.Proofs.Ytimfbpmaepmdoaa.Sz Go.Proofs.YtimfbpmaepmdoaaW.PrintWords Go.Proofs.YtimfbpmaepmdoaaW.PrintLast Go.Proofs.YtimfbpmaepmdoaaW.PrintMore
attribute [local go_sem] max2_int min2_int max_two min_two max_three min_three max_four min_four   -- for this text's walks alone
set_option linter.unusedVariables false
set_option linter.unusedSimpArgs false
theorem q1_0 {P:Prop} (h:P:=by first|(with_reducible assumption)|assumption):P:=h
theorem q1_1 {P:Prop} (h:P:=by first|rfl|(simp;done)|(simp [*];done)):P:=h
set_option maxHeartbeats 8000000
set_option maxRecDepth 100000
def spec_l01N.f (l0_0:List Int):Option (Int):=some (l0_0.length:Int)
theorem spec_l01N.calls (A0_0:Option Addr) (c0_0:Nat) (l0_0:List Int) (r:Int) (w:World) (hr0_0:Kd.C (Kd.int .i64) w A0_0 l0_0.length l0_0) (hc0_0:l0_0.length≤c0_0) (h:spec_l01N.f l0_0=some r) :
  Calls Try.prog 39 #[.agg #[.slice A0_0 l0_0.length c0_0]] w fun e w'=>e=.returned (.int .i64 r)∧Below w.heap.size w w':=by
 have hu28:=Try.underlying28;have ae:=ak hr0_0;have ao:=ak hc0_0;clear hr0_0 hc0_0;have HB:=ak (Below.refl w.heap.size w);have H:(some (l0_0.length:Int))=some r:=h;clear h;obtain rfl:=Option.some.inj H
 go_enter Try.func39,Try.ntmps39
 go_wp2_with (first|((with_reducible refine gate_dst (N:=1) rfl ?_);refine bev (N:=1) (cs:=#[.slice A0_0 l0_0.length c0_0]) (t:=28) ?_;intro bU hg w2 hbox hb;have bd:=ak (hbox);have bV:=gbe hg;have bW:=gbe hg;replace HB:=hbs hb;clear hb hbox hg;have bX:=bc bd.out;have bY:=blk_frozen bd.out 0))
 go_ret
 exact ⟨ew,hq⟩
def spec_l01In.f (a0:Int) (a1:Int) (a2:Int):Option (Bool):=if a0≥a1 then (some (decide (a0≤a2))) else (some false)
theorem spec_l01In.calls (a0:Int) (a1:Int) (a2:Int) (r:Bool) (w:World) (h:spec_l01In.f a0 a1 a2=some r) :
  Calls Try.prog 43 #[.int .i64 a0,.int .i64 a1,.int .i64 a2] w fun e w'=>e=.returned (.bool r)∧Drawn0 w w':=by
 have H:(if a0≥a1 then (some (decide (a0≤a2))) else (some false))=some r:=h;clear h
 by_cases c4:a0≥a1
 ·rw [if_pos c4] at H;have aE:decide (a1≤a0)=true:=decide_eq_true c4;clear c4;obtain rfl:=Option.some.inj H
  go_enter Try.func43,Try.ntmps43
  go_wp2
  go_ret
  exact ⟨q1_1,by repeat (first|exact Drawn0.refl _|apply Drawn0.step)⟩
 rw [if_neg c4] at H;have aE:decide (a1≤a0)=false:=decide_eq_false c4;clear c4;obtain rfl:=Option.some.inj H
 go_enter Try.func43,Try.ntmps43
 go_wp2
 go_ret
 exact ⟨q1_1,by repeat (first|exact Drawn0.refl _|apply Drawn0.step)⟩
def spec_l01Is.l0:Nat→Int→Int→List Int→Option (Bool)
 | 0,_,_,_=>none
 | k+1,x3,x4,x103000=>if x4<(x103000.length:Int) then (if x3=0 then (some false) else (if 0≤x4 then ((spec_l01In.f (rd x103000 x4) 0 24).bind fun t106=>(if t106=true then (spec_l01Is.l0 k (wrap64 ((wrap64 (x3 - 1))+(rd x103000 x4))) (wrap64 (x4+1)) x103000) else (some false))) else (none))) else (some (x3 == 0))
def spec_l01Is.f (k:Nat) (l0_0:List Int):Option (Bool):=(spec_l01N.f l0_0).bind fun t103=>((spec_l01In.f t103 1 24).bind fun t104=>(if t104=true then (spec_l01Is.l0 k 1 0 l0_0) else (some false)))
theorem spec_l01Is.calls (k:Nat) (A0_0:Option Addr) (c0_0:Nat) (l0_0:List Int) (r:Bool) (w:World) (hr0_0:Kd.C (Kd.int .i64) w A0_0 l0_0.length l0_0) (hc0_0:l0_0.length≤c0_0) (h:spec_l01Is.f k l0_0=some r) :
  Calls Try.prog 24 #[.agg #[.slice A0_0 l0_0.length c0_0]] w fun e w'=>e=.returned (.bool r)∧Below w.heap.size w w':=by
 have hu28:=Try.underlying28;have ae:=ak hr0_0;have ao:=ak hc0_0;clear hr0_0 hc0_0;have HB:=ak (Below.refl w.heap.size w);have H:((spec_l01N.f l0_0).bind fun aw=>((spec_l01In.f aw 1 24).bind fun aJ=>(if aJ=true then (spec_l01Is.l0 k 1 0 l0_0) else (some false))))=some r:=h;clear h;replace H:=bs H;obtain ⟨aw,A2,H⟩:=H;(try dsimp only at H);replace H:=bs H;obtain ⟨aJ,A3,H⟩:=H;(try dsimp only at H);obtain c4|c4:=nem (aJ=true)
 ·replace c4:=Bool.eq_false_iff.mpr c4;subst c4;have H1:(some false)=some r:=by rw [if_neg (show ¬ (false=true) by decide)] at H;exact H
  clear H;have H:=H1;clear H1;obtain rfl:=Option.some.inj H
  go_enter Try.func24,Try.ntmps24
  go_wp2_with (first|((with_reducible refine gate_dst (N:=1) rfl ?_);refine bev (N:=1) (cs:=#[.slice A0_0 l0_0.length c0_0]) (t:=28) ?_;intro bf hg w17 hbox hb;have ac:=ak (hbox);have bq:=gbe hg;have br:=gbe hg;replace HB:=hbs hb;clear hb hbox hg;have bZ:=bc ac.out;have b0:=blk_frozen ac.out 0)|((with_reducible refine gate_callee (f:=39) rfl ?_);refine gl (some 6) Try.func39 #[.agg #[.slice A0_0 l0_0.length c0_0]] ?_;(with_reducible refine (spec_l01N.calls _ _ l0_0 aw _ (pc (Kd.C_below ae.out HB.out)) ao.out A2.out).mono ?_);rintro e w19 ⟨rfl,hb⟩;refine ⟨_,rfl,?_⟩;replace ac:=bb ac hb;replace HB:=hbs hb;(try clear hb))|((with_reducible refine gate_callee (f:=43) rfl ?_);refine gl (some 7) Try.func43 #[.int .i64 aw,.int .i64 1,.int .i64 24] ?_;(with_reducible refine (spec_l01In.calls aw 1 24 false _ A3.out).mono ?_);rintro e w' ⟨rfl,⟨nd,rfl⟩⟩;refine ⟨_,rfl,?_⟩))
  go_ret
  exact ⟨ew,hq⟩
 subst c4;replace H:(spec_l01Is.l0 k 1 0 l0_0)=some r:=by rw [if_pos rfl] at H;exact H
 have H':=ak H;clear H
 go_enter Try.func24,Try.ntmps24
 go_wp2_with (first|((with_reducible refine gate_dst (N:=1) rfl ?_);refine bev (N:=1) (cs:=#[.slice A0_0 l0_0.length c0_0]) (t:=28) ?_;intro bf hg w5 hbox hb;have ac:=ak (hbox);have bq:=gbe hg;have br:=gbe hg;replace HB:=hbs hb;clear hb hbox hg;have b1:=bc ac.out;have b2:=blk_frozen ac.out 0)|((with_reducible refine gate_callee (f:=39) rfl ?_);refine gl (some 6) Try.func39 #[.agg #[.slice A0_0 l0_0.length c0_0]] ?_;(with_reducible refine (spec_l01N.calls _ _ l0_0 aw _ (pc (Kd.C_below ae.out HB.out)) ao.out A2.out).mono ?_);rintro e w7 ⟨rfl,hb⟩;refine ⟨_,rfl,?_⟩;replace ac:=bb ac hb;replace HB:=hbs hb;(try clear hb))|((with_reducible refine gate_callee (f:=43) rfl ?_);refine gl (some 7) Try.func43 #[.int .i64 aw,.int .i64 1,.int .i64 24] ?_;(with_reducible refine (spec_l01In.calls aw 1 24 true _ A3.out).mono ?_);rintro e w' ⟨rfl,⟨nd,rfl⟩⟩;refine ⟨_,rfl,?_⟩))
 go_loopg [3,4] k (fun kq v3 v4 w'=>∃ (af:Int) (aa:Int),v3=.int .i64 af∧v4=.int .i64 aa∧Aside0 (spec_l01Is.l0 kq af aa l0_0=some r)∧Aside0 (kq≤k)∧Aside0 (w'.heap[bf]?=some (.cells #[(.slice A0_0 l0_0.length c0_0)] 28 (0,0)))∧Aside0 (Below w.heap.size w w'))
 case atStart=>exact ⟨(1),(0),q1_1,q1_1,H',⟨Nat.le_refl _⟩,⟨pb ac.out⟩,⟨hq⟩⟩
 case round =>
  clear H';obtain ⟨af,aa,rfl,rfl,HA,HK1,ac,HB⟩:=hrel
  cases gk with|zero=>exact absurd HA.out (by simp [spec_l01Is.l0])|succ k1=>?_
  have H:=HA.out;clear HA;simp only [spec_l01Is.l0] at H;obtain c8|c8:=nem (aa<(l0_0.length:Int))
  ·rw [if_neg c8] at H;have bu:=df c8;clear c8;obtain rfl:=Option.some.inj H;have b3:=bc ac.out;have b4:=blk_frozen ac.out 0;go_wp2
   go_ret
   exact ⟨ew,hq⟩
  rw [if_pos c8] at H;have bu:=dt c8;clear c8
  by_cases c9:af=0
  ·rw [if_pos c9] at H;have aK:=be c9;have bv:=bn c9;clear c9;obtain rfl:=Option.some.inj H;have b5:=bc ac.out;have b6:=blk_frozen ac.out 0;go_wp2
   go_ret
   exact ⟨ew,hq⟩
  rw [if_neg c9] at H;have aK:(af == 0)=false:=beq_eq_false_iff_ne.mpr c9;have bv:(af != 0)=true:=bne_iff_ne.mpr c9;replace H:=ifs H;obtain ⟨c11,H⟩:=H;have b7:=dt c11;clear c11;replace H:=bs H;obtain ⟨bw,A12,H⟩:=H;(try dsimp only at H)
  by_cases c13:bw=true
  ·subst c13;replace H:(spec_l01Is.l0 k1 (wrap64 ((wrap64 (af - 1))+(rd l0_0 aa))) (wrap64 (aa+1)) l0_0)=some r:=by rw [if_pos rfl] at H;exact H
   have H':=ak H;clear H;have b8:=bc ac.out;have b9:=blk_frozen ac.out 0;have az:0≤(aa:Int):=od q1_0;have aA:aa<(l0_0.length:Int):=od q1_0;obtain ⟨bg,aM,aC⟩:=Kd.at_int ae.out aa az aA;cases aM;replace aC:=(HB.out.cell (World.block_lt_of_cell? w _ aC)).trans aC;replace az:=eq_true az;replace aA:=eq_true aA
   go_wp2_with (first|(go_at_call 43;(with_reducible refine (spec_l01In.calls (rd l0_0 aa) 0 24 true _ A12.out).mono ?_);rintro e w' ⟨rfl,⟨nd,rfl⟩⟩;have aN:0≤(aa:Int):=od q1_0;have aQ:aa<(l0_0.length:Int):=od q1_0;obtain ⟨bx,bz,aR⟩:=Kd.at_int ae.out aa aN aQ;obtain rfl:bg=bx:=(by injection bz);replace aR:=(HB.out.cell (World.block_lt_of_cell? w _ aR)).trans aR;replace aN:=eq_true aN;replace aQ:=eq_true aQ))
   go_roundg k1
   case measure=>have:=HK1.out;omega
   case rel=>exact ⟨(wrap64 ((wrap64 (af - 1))+(rd l0_0 aa))),(wrap64 (aa+1)),q1_1,q1_1,H',⟨by have:=HK1.out;omega⟩,⟨pb ac.out⟩,⟨hq⟩⟩
  replace c13:=Bool.eq_false_iff.mpr c13;subst c13;have H1:(some false)=some r:=by rw [if_neg (show ¬ (false=true) by decide)] at H;exact H
  clear H;have H:=H1;clear H1;obtain rfl:=Option.some.inj H;have ca:=bc ac.out;have cb:=blk_frozen ac.out 0;have az:0≤(aa:Int):=od q1_0;have aA:aa<(l0_0.length:Int):=od q1_0;obtain ⟨bg,aM,aC⟩:=Kd.at_int ae.out aa az aA;cases aM;replace aC:=(HB.out.cell (World.block_lt_of_cell? w _ aC)).trans aC;replace az:=eq_true az;replace aA:=eq_true aA
  go_wp2_with (first|(go_at_call 43;(with_reducible refine (spec_l01In.calls (rd l0_0 aa) 0 24 false _ A12.out).mono ?_);rintro e w' ⟨rfl,⟨nd,rfl⟩⟩))
  go_ret
  exact ⟨ew,hq⟩
def spec_l01End.l0:Nat→Int→Int→List Int→Option (Int)
 | 0,_,_,_=>none
 | k+1,x1,x5,x109000=>if x5>0 then (if 0≤x1 then (if x1<(x109000.length:Int) then (spec_l01End.l0 k (wrap64 (x1+1)) (wrap64 ((wrap64 (x5 - 1))+(rd x109000 x1))) x109000) else (none)) else (none)) else (some x1)
def spec_l01End.f (k:Nat) (l0_0:List Int) (a1:Int):Option (Int):=spec_l01End.l0 k a1 1 l0_0
theorem spec_l01End.calls (k:Nat) (A0_0:Option Addr) (c0_0:Nat) (l0_0:List Int) (a1:Int) (r:Int) (w:World) (hr0_0:Kd.C (Kd.int .i64) w A0_0 l0_0.length l0_0) (hc0_0:l0_0.length≤c0_0) (h:spec_l01End.f k l0_0 a1=some r) :
  Calls Try.prog 59 #[.agg #[.slice A0_0 l0_0.length c0_0],.int .i64 a1] w fun e w'=>e=.returned (.int .i64 r)∧Below w.heap.size w w':=by
 have hu28:=Try.underlying28;have ae:=ak hr0_0;have ao:=ak hc0_0;clear hr0_0 hc0_0;have HB:=ak (Below.refl w.heap.size w);have H:(spec_l01End.l0 k a1 1 l0_0)=some r:=h;clear h;have H':=ak H;clear H
 go_enter Try.func59,Try.ntmps59
 go_wp2_with (first|((with_reducible refine gate_dst (N:=2) rfl ?_);refine bev (N:=2) (cs:=#[.slice A0_0 l0_0.length c0_0]) (t:=28) ?_;intro bA hg w3 hbox hb;have aG:=ak (hbox);have cc:=gbe hg;have cd:=gbe hg;replace HB:=hbs hb;clear hb hbox hg))
 go_loopg [1,5] k (fun kq v1 v5 w'=>∃ (ax:Int) (ai:Int),v1=.int .i64 ax∧v5=.int .i64 ai∧Aside0 (spec_l01End.l0 kq ax ai l0_0=some r)∧Aside0 (kq≤k)∧Aside0 (w'.heap[bA]?=some (.cells #[(.slice A0_0 l0_0.length c0_0)] 28 (0,0)))∧Aside0 (Below w.heap.size w w'))
 case atStart=>exact ⟨(a1),(1),q1_1,q1_1,H',⟨Nat.le_refl _⟩,⟨pb aG.out⟩,⟨hq⟩⟩
 case round =>
  clear H'
  try clear p2
  obtain ⟨ax,ai,rfl,rfl,HA,HK1,aG,HB⟩:=hrel
  cases gk with|zero=>exact absurd HA.out (by simp [spec_l01End.l0])|succ k1=>?_
  have H:=HA.out;clear HA;simp only [spec_l01End.l0] at H;obtain c4|c4:=nem (ai>0)
  ·rw [if_neg c4] at H;have aE:decide (0<ai)=false:=decide_eq_false c4;clear c4;obtain rfl:=Option.some.inj H;go_wp2
   go_ret
   exact ⟨ew,hq⟩
  rw [if_pos c4] at H;have aE:decide (0<ai)=true:=decide_eq_true c4;clear c4;replace H:=ifs H;obtain ⟨c5,H⟩:=H;have bB:=dt c5;clear c5;replace H:=ifs H;obtain ⟨c6,H⟩:=H;have ce:=dt c6;clear c6;have H':=ak H;clear H;have cf:=bc aG.out;have cg:=blk_frozen aG.out 0;have aT:0≤(ax:Int):=od q1_0;have aU:ax<(l0_0.length:Int):=od q1_0;obtain ⟨ch,bC,aV⟩:=Kd.at_int ae.out ax aT aU;cases bC;replace aV:=(HB.out.cell (World.block_lt_of_cell? w _ aV)).trans aV;replace aT:=eq_true aT;replace aU:=eq_true aU;go_wp2
  go_roundg k1
  case measure=>have:=HK1.out;omega
  case rel=>exact ⟨(wrap64 (ax+1)),(wrap64 ((wrap64 (ai - 1))+(rd l0_0 ax))),q1_1,q1_1,H',⟨by have:=HK1.out;omega⟩,⟨pb aG.out⟩,⟨hq⟩⟩
def spec_l01Children.l0:Nat→List Int→Int→Int→List Int→Option (List Int)
 | 0,_,_,_,_=>none
 | k+1,x5,x6,x7,x111000=>if x7>0 then (if x5.length<17592186044416 then ((spec_l01End.f k x111000 x6).bind fun t118=>(spec_l01Children.l0 k (x5++[x6]) t118 (wrap64 (x7 - 1)) x111000)) else (none)) else (some x5)
def spec_l01Children.f (k:Nat) (l0_0:List Int) (a1:Int):Option (List Int):=if 0≤a1 then (if a1<(l0_0.length:Int) then (spec_l01Children.l0 k ([]:List Int) (wrap64 (a1+1)) (rd l0_0 a1) l0_0) else (none)) else (none)
theorem spec_l01Children.calls (k:Nat) (A0_0:Option Addr) (c0_0:Nat) (l0_0:List Int) (a1:Int) (r:List Int) (w:World) (hr0_0:Kd.C (Kd.int .i64) w A0_0 l0_0.length l0_0) (hc0_0:l0_0.length≤c0_0) (h:spec_l01Children.f k l0_0 a1=some r) :
  Calls Try.prog 40 #[.agg #[.slice A0_0 l0_0.length c0_0],.int .i64 a1] w fun e w'=>∃ v0_:Value,e=.returned (v0_)∧Kd.R (Kd.int .i64) 2 w' w.heap.size (fun _=>True) v0_ r∧Below w.heap.size w w':=by
 have hu28:=Try.underlying28;have ae:=ak hr0_0;have ao:=ak hc0_0;clear hr0_0 hc0_0;have HB:=ak (Below.refl w.heap.size w);have H:(if 0≤a1 then (if a1<(l0_0.length:Int) then (spec_l01Children.l0 k ([]:List Int) (wrap64 (a1+1)) (rd l0_0 a1) l0_0) else (none)) else (none))=some r:=h;clear h;obtain ⟨bh,hY⟩:∃ y_:List Int,y_=([]:List Int):=⟨_,rfl⟩;replace H:(if 0≤a1 then (if a1<(l0_0.length:Int) then (spec_l01Children.l0 k bh (wrap64 (a1+1)) (rd l0_0 a1) l0_0) else (none)) else (none))=some r:=hh;have bi:=ak hY;clear hY;replace H:=ifs H;obtain ⟨c3,H⟩:=H;have bD:=dt c3;clear c3;replace H:=ifs H;obtain ⟨c4,H⟩:=H;have aE:=dt c4;clear c4;have H':=ak H;clear H
 go_enter Try.func40,Try.ntmps40
 go_wp2_with (first|((with_reducible refine gate_dst (N:=2) rfl ?_);refine bev (N:=2) (cs:=#[.slice A0_0 l0_0.length c0_0]) (t:=28) ?_;intro bj hg w5 hbox hb;have ah:=ak (hbox);have ci:=gbe hg;have cj:=gbe hg;replace HB:=hbs hb;clear hb hbox hg)|((with_reducible refine gate_dst (N:=8) rfl ?_);refine Kd.R_lit (Kd.int .i64) _ 2 ?hg (N:=8) ?hd (xs:=([]:List Int)) (inner:=[]) (ok:=fun _=>True) (okp:=fun _=>True) ?hr ?hp (fun _ hk=>hk) trivial (Below.refl _ _) (Nat.le_refl _) (by simp) ?_;(case hd=>rfl);(case hg=>rfl);(case hr=>exact gs);(case hp=>exact (Reps.none _ _));intro ck w6 ho7 hb hg_ hnew_;clear hg_ hnew_;(first|rw [← bi.out] at ho7|(simp only [Int.reduceToNat] at ho7;rw [← bi.out] at ho7));have bE:=lw ho7;replace ah:=bb ah hb;replace HB:=hbs hb;clear hb ho7;have bF:=bc ah.out;have bG:=blk_frozen ah.out 0;have aW:0≤(a1:Int):=od q1_0;have aX:a1<(l0_0.length:Int):=od q1_0;obtain ⟨aY,bH,aZ⟩:=Kd.at_int ae.out a1 aW aX;cases bH;replace aZ:=(HB.out.cell (World.block_lt_of_cell? w _ aZ)).trans aZ;replace aW:=eq_true aW;replace aX:=eq_true aX))
 go_loopg [5,6,7] k (fun kq v5 v6 v7 w'=>∃ (ai:List Int) (au:Int) (ay:Int),v6=.int .i64 au∧v7=.int .i64 ay∧Aside0 (spec_l01Children.l0 kq ai au ay l0_0=some r)∧Aside0 (kq≤k)∧Aside0 (Kd.R (Kd.int .i64) 2 w' w.heap.size (fun _=>True) v5 ai)∧Aside0 (w'.heap[bj]?=some (.cells #[(.slice (some aY) l0_0.length c0_0)] 28 (0,0)))∧Aside0 (Below w.heap.size w w'))
 case atStart=>exact ⟨(bh),(wrap64 (a1+1)),(rd l0_0 a1),q1_1,q1_1,H',⟨Nat.le_refl _⟩,⟨pe bE.out⟩,⟨pb ah.out⟩,⟨hq⟩⟩
 case round =>
  clear H';obtain ⟨ai,au,ay,rfl,rfl,HA,HK1,aj,ah,HB⟩:=hrel
  cases gk with|zero=>exact absurd HA.out (by simp [spec_l01Children.l0])|succ k1=>?_
  have H:=HA.out;clear HA;simp only [spec_l01Children.l0] at H;obtain c9|c9:=nem (ay>0)
  ·rw [if_neg c9] at H;have aK:decide (0<ay)=false:=decide_eq_false c9;clear c9;obtain rfl:=Option.some.inj H;go_wp2
   go_ret
   exact ⟨_,ew,pe aj.out,hq⟩
  rw [if_pos c9] at H;have aK:decide (0<ay)=true:=decide_eq_true c9;clear c9;replace H:=ifs H;obtain ⟨c10,H⟩:=H;have bI:=ak c10;clear c10;obtain ⟨bk,hY⟩:∃ y_:List Int,y_=(ai++[au]):=⟨_,rfl⟩;replace H:((spec_l01End.f k1 l0_0 au).bind fun aH=>(spec_l01Children.l0 k1 bk aH (wrap64 (ay - 1)) l0_0))=some r:=hh;have bJ:=ak hY;clear hY;replace H:=bs H;obtain ⟨aH,A11,H⟩:=H;(try dsimp only at H);have H':=ak H;clear H
  go_wp2_with (first|((with_reducible refine gate_builtin (b:=.append) (xs:=#[.tmp 20,.tmp 22]) rfl ?_);at_builtin;refine Kd.R_append (Kd.int .i64) (w0:=w) w.heap.size rfl (.tmp 20) (.tmp 22) 22 2 (.int .i64 0) 8 rfl Try.underlying22 info2 rfl dc (by omega) u5 ai au [.int .i64 au] (fun _=>True) (fun _=>False) rfl rfl ?aP (fun _ hk=>hk.elim) ?aF ?aO ?aB ?aS ?aL ?_;(case aP=>exact rfl);(case aB=>exact hq);(case aF=>exact (fun _ _=>trivial));(case aO=>exact (pe aj.out));(case aS=>exact (below_size hq));(case aL=>have:=bI.out;omega);intro cl w12 ho hb hg hat;rw [← bJ.out] at ho;replace ah:=ak (blk_grown (g:=bj) (o:=.cells #[.slice (some aY) l0_0.length c0_0] 28 (0,0)) (pb ah.out) hg (Kd.R_ne aj.out ah.out dc));replace HB:=ak (hb);have a3:=ak (ho);clear aj;clear ho hb hg hat;have cm:=bc ah.out;have cn:=blk_frozen ah.out 0)|((with_reducible refine gate_callee (f:=59) rfl ?_);refine gl (some 26) Try.func59 #[.agg #[.slice (some aY) l0_0.length c0_0],.int .i64 au] ?_;(with_reducible refine (spec_l01End.calls k1 _ _ l0_0 au aH _ (pc (Kd.C_below ae.out HB.out)) ao.out A11.out).mono ?_);rintro e w14 ⟨rfl,hb⟩;refine ⟨_,rfl,?_⟩;replace a3:=rb a3 hb;replace ah:=bb ah hb;replace HB:=hbs hb;(try clear hb)))
  go_roundg k1
  case measure=>have:=HK1.out;omega
  case rel=>exact ⟨(bk),(aH),(wrap64 (ay - 1)),q1_1,q1_1,H',⟨by have:=HK1.out;omega⟩,⟨pe a3.out⟩,⟨pb ah.out⟩,⟨hq⟩⟩
mutual
def spec_l01Parents.l0:Nat→List Int→Int→List Int→Option (List Int)
 | 0,_,_,_=>none
 | k+1,x3,x4,x120000=>(spec_l01N.f x120000).bind fun t125=>(if x4<t125 then ((spec_l01Children.f k x120000 x4).bind fun t126=>(spec_l01Parents.l1 k x3 x4 t126 0 x120000)) else (some x3))
def spec_l01Parents.l1:Nat→List Int→Int→List Int→Int→List Int→Option (List Int)
 | 0,_,_,_,_,_=>none
 | k+1,x3,x4,x5,x6,x120000=>if x6<(x5.length:Int) then (if 0≤x6 then (if 0≤(rd x5 x6) then (if (rd x5 x6)<(x3.length:Int) then (spec_l01Parents.l1 k (x3.set ((rd x5 x6):Int).toNat x4) x4 x5 (wrap64 (x6+1)) x120000) else (none)) else (none)) else (none)) else (spec_l01Parents.l0 k x3 (wrap64 (x4+1)) x120000)
end
def spec_l01Parents.f (k:Nat) (l0_0:List Int):Option (List Int):=(spec_l01N.f l0_0).bind fun t120=>(if 0≤t120 then (if (t120:Int).toNat≤35184372088832 then ((some (List.replicate (t120:Int).toNat 0:List Int)).bind fun y121=>(if 0<(y121.length:Int) then (spec_l01Parents.l0 k (y121.set (0:Int).toNat (-1)) 0 l0_0) else (none))) else (none)) else (none))
theorem spec_l01Parents.calls (k:Nat) (A0_0:Option Addr) (c0_0:Nat) (l0_0:List Int) (r:List Int) (w:World) (hr0_0:Kd.C (Kd.int .i64) w A0_0 l0_0.length l0_0) (hc0_0:l0_0.length≤c0_0) (h:spec_l01Parents.f k l0_0=some r) :
  Calls Try.prog 45 #[.agg #[.slice A0_0 l0_0.length c0_0]] w fun e w'=>∃ v0_:Value,e=.returned (v0_)∧Kd.R (Kd.int .i64) 2 w' w.heap.size (fun _=>True) v0_ r∧Below w.heap.size w w':=by
 have hu28:=Try.underlying28;have ae:=ak hr0_0;have ao:=ak hc0_0;clear hr0_0 hc0_0;have HB:=ak (Below.refl w.heap.size w);have H:((spec_l01N.f l0_0).bind fun ar=>(if 0≤ar then (if (ar:Int).toNat≤35184372088832 then ((some (List.replicate (ar:Int).toNat 0:List Int)).bind fun ap=>(if 0<(ap.length:Int) then (spec_l01Parents.l0 k (ap.set (0:Int).toNat (-1)) 0 l0_0) else (none))) else (none)) else (none)))=some r:=h;clear h;replace H:=bs H;obtain ⟨ar,A2,H⟩:=H;(try dsimp only at H);replace H:=ifs H;obtain ⟨c3,H⟩:=H;have bD:=eq_true c3;have co:decide (0≤ar)=true:=decide_eq_true c3;clear c3;replace H:=ifs H;obtain ⟨c4,H⟩:=H;have aE:=eq_true c4;have cp:decide ((ar:Int).toNat≤35184372088832)=true:=decide_eq_true c4;clear c4;obtain ⟨ap,hY⟩:∃ y_:List Int,y_=(List.replicate (ar:Int).toNat 0):=⟨_,rfl⟩;replace H:(if 0<(ap.length:Int) then (spec_l01Parents.l0 k (ap.set (0:Int).toNat (-1)) 0 l0_0) else (none))=some r:=hh;have bl:=ak hY;clear hY;replace H:=ifs H;obtain ⟨c5,H⟩:=H;have bB:=dt c5;have cq:decide (0<ap.length)=true:=decide_eq_true (by omega);clear c5;obtain ⟨a4,hY⟩:∃ y_:List Int,y_=(ap.set (0:Int).toNat (-1)):=⟨_,rfl⟩;replace H:(spec_l01Parents.l0 k a4 0 l0_0)=some r:=hh;have bK:=ak hY;clear hY;have H':=ak H;clear H
 go_enter Try.func45,Try.ntmps45
 go_wp2_with (first|((with_reducible refine gate_dst (N:=1) rfl ?_);refine bev (N:=1) (cs:=#[.slice A0_0 l0_0.length c0_0]) (t:=28) ?_;intro aI hg w7 hbox hb;have ab:=ak (hbox);have cr:=gbe hg;have ct:=gbe hg;replace HB:=hbs hb;clear hb hbox hg;have bF:=bc ab.out;have bG:=blk_frozen ab.out 0)|((with_reducible refine gate_callee (f:=39) rfl ?_);refine gl (some 8) Try.func39 #[.agg #[.slice A0_0 l0_0.length c0_0]] ?_;(with_reducible refine (spec_l01N.calls _ _ l0_0 ar _ (pc (Kd.C_below ae.out HB.out)) ao.out A2.out).mono ?_);rintro e w9 ⟨rfl,hb⟩;refine ⟨_,rfl,?_⟩;replace ab:=bb ab hb;replace HB:=hbs hb;(try clear hb))|((with_reducible refine gate_dst (N:=9) rfl ?_);refine Kd.R_make (Kd.int .i64) _ 2 rfl (N:=9) rfl 22 _ _ rfl ar rfl rfl Try.underlying22 (.int .i64 0) 8 info2 rfl dc (by omega) 0 (ok:=fun _=>True) (okp:=fun _=>True) rfl (fun _ hk=>hk) trivial (od q1_0) (Nat.le_trans (Nat.mul_le_mul_right _ (od q1_0:ar.toNat≤35184372088832)) (by omega)) (Below.refl _ _) (Nat.le_refl _) ?_;intro cu w10 ho11 hb hg_ hnew_;clear hg_ hnew_;(first|rw [← bl.out] at ho11|(simp only [Int.reduceToNat] at ho11;rw [← bl.out] at ho11));have aD:=lw ho11;replace ab:=bb ab hb;replace HB:=hbs hb;clear hb ho11;have p6:0≤(0:Int):=(by omega);have q6:(0:Int)<((ap.length:Int):Int):=od q1_0;have qi6:(0<ap.length)=True:=eq_true (by omega);obtain ⟨go6,co6,eo6,gb6,gl6,cl6,HG6⟩:=Kd.R_form aD.out (by omega);(first|cases eo6|(injection eo6 with ea_ en_ ec_;(first|subst ea_|(injection ea_ with ea_;subst ea_));subst ec_;clear en_));have GB6:=ak gb6;have GG6:=ak HG6;clear gb6 gl6 HG6;obtain ⟨bm,bo⟩:=Kd.R_celln 0 aD.out (0:Int) p6 q6;(try rw [show (0:Int).toNat=0 from rfl] at bm);(try simp only [Nat.reduceMul,Nat.zero_mul,Nat.zero_add,Nat.reduceAdd] at bm);(try rw [show (0:Int).toNat=0 from rfl] at bo);(try simp only [Nat.reduceMul,Nat.zero_mul,Nat.zero_add,Nat.reduceAdd] at bo);replace p6:=eq_true p6;replace q6:=eq_true q6;obtain ⟨hy12_,hz12_⟩:=Kd.R_celln 0 aD.out (0:Int) (by omega) (od q1_0);(try simp only [Int.reduceToNat,Int.toNat_zero,Int.toNat_ofNat,Nat.reduceMul,Nat.zero_mul,Nat.zero_add] at hy12_ hz12_);(try rw [show (0:Int).toNat=0 from rfl] at hy12_);(try rw [show (0:Int).toNat=0 from rfl] at hz12_);have a5:=Kd.R_putg aD.out (0:Int) (-1))|((with_reducible refine gate_store (t:=2) (p:=11) rfl ?_);refine store_event (t:=2) (p:=11) (v:=?vo_w13) (w1:=(w10.setCell ⟨go6,(0:Int).toNat,none⟩ (.int .i64 (-1)))) ?hg ?ho ?hn ?hr ?_;(case ho=>rfl);(case hg=>rfl);(case hn=>rfl);(case hr=>exact gs);intro w13 hw;have hg:w10.grownBy w13 (some go6):=(by rw [hw];exact a5.2);have hp_:Kd.R (Kd.int .i64) 2 w13 w.heap.size (fun _=>True) (.slice (some ⟨go6,0,none⟩) ap.length co6) a4:=(by rw [hw,bK.out];exact a5.1);clear a5;replace ab:=ak (blk_grown (g:=aI) (o:=.cells #[.slice A0_0 l0_0.length c0_0] 28 (0,0)) (pb ab.out) hg (Kd.R_ne aD.out ab.out dc));replace aD:=ak (hp_);replace HB:=ak (by rw [hw];exact below_set (HB.out) GB6.out:Below w.heap.size w w13);clear hg hw hp_))
 go_loopg [4] k (fun kq v4 w'=>∃ (af:List Int) (aa:Int),v4=.int .i64 aa∧Aside0 (spec_l01Parents.l0 kq af aa l0_0=some r)∧Aside0 (kq≤k)∧Aside0 (Kd.R (Kd.int .i64) 2 w' w.heap.size (fun _=>True) (.slice (some ⟨go6,0,none⟩) ap.length co6) af)∧Aside0 (w'.heap[aI]?=some (.cells #[(.slice A0_0 l0_0.length c0_0)] 28 (0,0)))∧Aside0 (Below w.heap.size w w'))
 case atStart=>exact ⟨(a4),(0),q1_1,H',⟨Nat.le_refl _⟩,⟨pe aD.out⟩,⟨pb ab.out⟩,⟨hq⟩⟩
 case round =>
  clear H';obtain ⟨af,aa,rfl,HA,HK1,ad,ab,HB⟩:=hrel;have an:=(Kd.R_reads' ad.out).1;rw [an] at ad;(try simp only [an]);(try simp only [an] at ab)
  cases gk with|zero=>exact absurd HA.out (by simp [spec_l01Parents.l0])|succ k1=>?_
  have H:=HA.out;clear HA;simp only [spec_l01Parents.l0] at H;replace H:=bs H;obtain ⟨a6,A14,H⟩:=H;(try dsimp only at H);obtain c15|c15:=nem (aa<a6)
  ·rw [if_neg c15] at H;have bL:=df c15;clear c15;obtain rfl:=Option.some.inj H;have cv:=bc ab.out;have cw:=blk_frozen ab.out 0
   go_wp2_with (first|((with_reducible refine gate_callee (f:=39) rfl ?_);refine gl (some 14) Try.func39 #[.agg #[.slice A0_0 l0_0.length c0_0]] ?_;(with_reducible refine (spec_l01N.calls _ _ l0_0 a6 _ (pc (Kd.C_below ae.out HB.out)) ao.out A14.out).mono ?_);rintro e w31 ⟨rfl,hb⟩;refine ⟨_,rfl,?_⟩;replace ad:=rb ad hb;replace ab:=bb ab hb;replace HB:=hbs hb;(try clear hb)))
   go_ret
   exact ⟨_,ew,pe ad.out,hq⟩
  rw [if_pos c15] at H;have bL:=dt c15;clear c15;replace H:=bs H;obtain ⟨al,A16,H⟩:=H;(try dsimp only at H);have H':=ak H;clear H;have cx:=bc ab.out;have cy:=blk_frozen ab.out 0
  go_wp2_with (first|((with_reducible refine gate_callee (f:=39) rfl ?_);refine gl (some 14) Try.func39 #[.agg #[.slice A0_0 l0_0.length c0_0]] ?_;(with_reducible refine (spec_l01N.calls _ _ l0_0 a6 _ (pc (Kd.C_below ae.out HB.out)) ao.out A14.out).mono ?_);rintro e w18 ⟨rfl,hb⟩;refine ⟨_,rfl,?_⟩;replace ad:=rb ad hb;replace ab:=bb ab hb;replace HB:=hbs hb;(try clear hb);(try clear hb2);(try clear hk);(try clear hi);have cz:=bc ab.out;have cA:=blk_frozen ab.out 0)|((with_reducible refine gate_callee (f:=40) rfl ?_);refine gl (some 20) Try.func40 #[.agg #[.slice A0_0 l0_0.length c0_0],.int .i64 aa] ?_;(with_reducible refine (spec_l01Children.calls k1 _ _ l0_0 aa al _ (pc (Kd.C_below ae.out HB.out)) ao.out A16.out).mono ?_);rintro e w20 ⟨bp,rfl,ho0,hb⟩;refine ⟨_,rfl,?_⟩;have bM:=lw (nw ho0 ad);replace ad:=rn ad ho0 hb;replace ab:=bb ab hb;replace HB:=hbs hb;(try clear hb ho0)))
  go_loopg [6] k1 (fun kq v6 w'=>∃ (av:List Int) (ag:Int),v6=.int .i64 ag∧Aside0 (spec_l01Parents.l1 kq av aa al ag l0_0=some r)∧Aside0 (kq≤k1)∧Aside0 (Kd.R (Kd.int .i64) 2 w' w.heap.size (fun k_=>some k_≠(bp:Value).ownBlock) (.slice (some ⟨go6,0,none⟩) af.length co6) av)∧Aside0 (Kd.R (Kd.int .i64) 2 w' w.heap.size (fun k_=>some k_≠((.slice (some ⟨go6,0,none⟩) af.length co6):Value).ownBlock) bp al)∧Aside0 (w'.heap[aI]?=some (.cells #[(.slice A0_0 l0_0.length c0_0)] 28 (0,0)))∧Aside0 (Below w.heap.size w w'))
  case atStart=>exact ⟨(af),(0),q1_1,H',⟨Nat.le_refl _⟩,⟨by (try simp only [an]);exact pe (Kd.R_mono ad.out (fun _ hk=>hk.2))⟩,⟨by (try simp only [an]);exact pe (Kd.R_mono bM.out (fun _ hk=>hk.2))⟩,⟨by (try simp only [an]);exact pb ab.out⟩,⟨hq⟩⟩
  case round =>
   clear H';obtain ⟨av,ag,rfl,HA,HK2,ad,aj,ab,HB⟩:=hrel;have aq:=(Kd.R_reads' ad.out).1;rw [aq] at ad;(try simp only [aq]);(try simp only [aq] at ab);(try simp only [aq] at aj)
   cases gk with|zero=>exact absurd HA.out (by simp [spec_l01Parents.l1])|succ k2=>?_
   have H:=HA.out;clear HA;simp only [spec_l01Parents.l1] at H;obtain c21|c21:=nem (ag<(al.length:Int))
   ·rw [if_neg c21] at H;have bN:=df c21;clear c21;have H':=ak H;clear H;obtain ⟨cB,cC,bO⟩:=Kd.R_slice aj.out;subst bO;go_wp2;(try simp only [← an,← aq])
    go_roundg k2
    case measure=>have:=HK1.out;have:=HK2.out;omega
    case rel=>exact ⟨(av),(wrap64 (aa+1)),q1_1,H',⟨by have:=HK1.out;have:=HK2.out;omega⟩,⟨by (try simp only [an]);(try simp only [aq]);exact pe (Kd.R_mono ad.out (fun _ hk=>trivial))⟩,⟨by (try simp only [an]);(try simp only [aq]);exact pb ab.out⟩,⟨hq⟩⟩
   rw [if_pos c21] at H;have bN:=dt c21;clear c21;replace H:=ifs H;obtain ⟨c22,H⟩:=H;have cD:=dt c22;clear c22;replace H:=ifs H;obtain ⟨c23,H⟩:=H;have cE:=dt c23;clear c23;replace H:=ifs H;obtain ⟨c24,H⟩:=H;have cF:=dt c24;clear c24;obtain ⟨a7,hY⟩:∃ y_:List Int,y_=(av.set ((rd al ag):Int).toNat aa):=⟨_,rfl⟩;replace H:(spec_l01Parents.l1 k2 a7 aa al (wrap64 (ag+1)) l0_0)=some r:=hh;have bP:=ak hY;clear hY;have H':=ak H;clear H;obtain ⟨cG,bQ,bR⟩:=Kd.R_slice aj.out;subst bR;have a8:0≤(ag:Int):=od q1_0;have a9:ag<(al.length:Int):=od q1_0;(try (obtain ⟨Aop_,cop_,eop_⟩:=Kd.R_slice aj.out;subst eop_));obtain ⟨bS,bT,cH⟩:=Kd.at_int (Kd.R_reads' aj.out).2.2 ag a8 a9;cases bT;replace a8:=eq_true a8;replace a9:=eq_true a9;have p25:0≤((rd al ag):Int):=od q1_0;have q25:((rd al ag):Int)<((av.length:Int):Int):=od q1_0;obtain ⟨cI,cJ⟩:=Kd.R_celln 0 ad.out ((rd al ag):Int) p25 q25;replace p25:=eq_true p25;replace q25:=eq_true q25;have ba:=Kd.R_putg ad.out ((rd al ag):Int) aa
   go_wp2_with (first|((with_reducible refine gate_store (t:=2) (p:=33) rfl ?_);refine store_event (t:=2) (p:=33) (v:=?vo_w28) (w1:=(wr.setCell ⟨go6,((rd al ag):Int).toNat,none⟩ (.int .i64 aa))) ?hg ?ho ?hn ?hr ?_;(case ho=>rfl);(case hg=>rfl);(case hn=>rfl);(case hr=>exact gs);intro w28 hw;have hg:wr.grownBy w28 (some go6):=(by rw [hw];exact ba.2);have hp_:Kd.R (Kd.int .i64) 2 w28 w.heap.size (fun k_=>some k_≠(.slice (some bS) al.length bQ:Value).ownBlock) (.slice (some ⟨go6,0,none⟩) av.length co6) a7:=(by rw [hw,bP.out];exact ba.1);clear ba;replace aj:=ak (Kd.R_after (v:=(.slice (some ⟨go6,0,none⟩) av.length co6)) (v1:=(.slice (some ⟨go6,0,none⟩) av.length co6)) (ok:=(fun _=>True)) (pe (Kd.R_mono aj.out (fun _ hk=>⟨trivial,hk⟩))) hg (.inl rfl));replace ab:=ak (blk_grown (g:=aI) (o:=.cells #[.slice A0_0 l0_0.length c0_0] 28 (0,0)) (pb ab.out) hg (Kd.R_ne ad.out ab.out dc));replace ad:=ak (hp_);replace HB:=ak (by rw [hw];exact below_set (HB.out) GB6.out:Below w.heap.size w w28);clear hg hw hp_))
   (try simp only [← aq])
   go_roundg k2
   case measure=>have:=HK1.out;have:=HK2.out;omega
   case rel=>exact ⟨(a7),(wrap64 (ag+1)),q1_1,H',⟨by have:=HK1.out;have:=HK2.out;omega⟩,⟨by (try simp only [an]);(try simp only [aq]);exact pe ad.out⟩,⟨by (try simp only [an]);(try simp only [aq]);exact pe (Kd.R_mono aj.out (fun _ hk=>hk.2))⟩,⟨by (try simp only [an]);(try simp only [aq]);exact pb ab.out⟩,⟨hq⟩⟩
end Go.Proofs.Ytimfbpmaepmdoaa.QFnDrawings
