/- Functions as Lean functions, with their contracts: written by a program of this claim over the translation; some contracts are proved by hand. -/
import Derived.Test.YtlppkilencpmeaaGreatQFnGrowthx0
import Derived.Test.YtlppkilencpmeaaGreatQFnGrowthx2
import Derived.Test.YtlppkilencpmeaaGreatQFnGrowthx4
import Derived.Test.YtlppkilencpmeaaGreatQFnGrowthx5
namespace Go.Proofs.YtlppkilencpmeaaGreat.QFnGrowth
open Go.RowKit Go.Proofs.YtlppkilencpmeaaGreat.Gl Go.Proofs.YtlppkilencpmeaaGreat.Sz Go.Proofs.YtlppkilencpmeaaGreatW.PrintWords Go.Proofs.YtlppkilencpmeaaGreatW.PrintLast Go.Proofs.YtlppkilencpmeaaGreatW.PrintMore
attribute [local go_sem] max2_int min2_int max_two min_two max_three min_three max_four min_four   -- for this text's walks alone
set_option linter.unusedVariables false
set_option linter.unusedSimpArgs false
theorem q6_0 {P:Prop} (h:P:=by first|(with_reducible assumption)|assumption):P:=h
theorem q6_1 {P:Prop} (h:P:=by repeat (first|exact Drawn0.refl _|apply Drawn0.step)):P:=h
theorem q6_2 {P:Prop} (h:P:=by first|rfl|(simp;done)|(simp [*];done)):P:=h
theorem q6_3 {P:Prop} (h:P:=by (with_reducible repeat (first|refine blk_drewN ?_ _|refine blk_drew ?_|refine blk_alloc ?_ _));refine blk_put (cs:=#[.slice none 0 0]) ?_ 0 _ rfl;exact pb af.out):P:=h
theorem q6_4 {P:Prop} (h:P:=by (with_reducible repeat (first|refine blk_drewN ?_ _|refine blk_drew ?_|refine blk_alloc ?_ _));refine blk_far ?_ aI.out _;exact pb aa.out):P:=h
theorem q6_5 {P:Prop} (h:P:=by first|exact Kd.R_nil _ _ _ _ _|exact Kd.N_nil _ _ _ _ _|exact Kd.V_nil _ _ _ _ _|exact Kd.Q_nil _ _ _ _ _|exact Kd.S_nil _ _ _ _ _):P:=h
theorem q6_6 {P:Prop} (h:P:=by first|exact (Kd.R_elder' (pe (Q_HO255 h0_)) (Kd.R_base ho0) hb)|exact Kd.R_mono (Kd.R_elder' (pe (Q_HO255 h0_)) (Kd.R_base ho0) hb) (fun _ h_=>by first|trivial|exact h_|exact h_.1)):P:=h
set_option maxHeartbeats 8000000
set_option maxRecDepth 100000
def slices_Compare_int64_int64.l0:Nat→List Int→List Int→List Int→Int→Int→Option (Int)
 | 0,_,_,_,_,_=>none
 | k+1,x0,x1,x9,x10,x11=>if x11<x10 then (if 0≤x11 then (if x11<(x9.length:Int) then (if x11≥(x1.length:Int) then (some 1) else (if x11<(x1.length:Int) then ((cmp_Compare_int64.f (rd x9 x11) (rd x1 x11)).bind fun t239=>(if t239=0 then (slices_Compare_int64_int64.l0 k x0 x1 x9 x10 (wrap64 (x11+1))) else (some t239))) else (none))) else (none)) else (none)) else (if (x0.length:Int)<(x1.length:Int) then (some (-1)) else (some 0))
def slices_Compare_int64_int64.f (k:Nat) (l0:List Int) (l1:List Int):Option (Int):=slices_Compare_int64_int64.l0 k l0 l1 l0 (l0.length:Int) 0
theorem slices_Compare_int64_int64.calls (k:Nat) (A0:Option Addr) (c0:Nat) (l0:List Int) (A1:Option Addr) (c1:Nat) (l1:List Int) (r:Int) (w:World) (hr0:Kd.C (Kd.int .i64) w A0 l0.length l0) (hc0:l0.length≤c0) (hr1:Kd.C (Kd.int .i64) w A1 l1.length l1) (hc1:l1.length≤c1) (h:slices_Compare_int64_int64.f k l0 l1=some r) :
  Calls Tryz.prog 104 #[.slice A0 l0.length c0,.slice A1 l1.length c1] w fun e w'=>e=.returned (.int .i64 r)∧Drawn0 w w':=by
 have HR0:=ak hr0;have HC0:=ak hc0;clear hr0 hc0;have HR1:=ak hr1;have HC1:=ak hc1;clear hr1 hc1;have H:(slices_Compare_int64_int64.l0 k l0 l1 l0 (l0.length:Int) 0)=some r:=h;clear h;have H':=ak H;clear H
 go_enter Tryz.func104,Tryz.ntmps104
 go_wp2
 go_loopg [11] k (fun kq v11 w'=>∃ (ag:Int),v11=.int .i64 ag∧Aside0 (slices_Compare_int64_int64.l0 kq l0 l1 l0 (l0.length:Int) ag=some r)∧Aside0 (kq≤k)∧Drawn0 w w')
 case atStart=>exact ⟨(0),q6_2,H',⟨Nat.le_refl _⟩,q6_1⟩
 case round =>
  clear H';obtain ⟨ag,rfl,HA,HK1,⟨m1,rfl⟩⟩:=hrel
  cases gk with|zero=>exact absurd HA.out (by simp [slices_Compare_int64_int64.l0])|succ k1=>?_
  have H:=HA.out;clear HA;simp only [slices_Compare_int64_int64.l0] at H;obtain c3|c3:=nem (ag<(l0.length:Int))
  ·rw [if_neg c3] at H;have a2:=df c3;clear c3
   by_cases c10:(l0.length:Int)<(l1.length:Int)
   ·rw [if_pos c10] at H;have bX:=dt c10;have bY:decide (l0.length<l1.length)=true:=decide_eq_true (Int.ofNat_lt.mp c10);clear c10;obtain rfl:=Option.some.inj H;go_wp2
    go_ret
    exact ⟨q6_2,q6_1⟩
   rw [if_neg c10] at H;have bX:=df c10;have bY:decide (l0.length<l1.length)=false:=decide_eq_false (fun h=>c10 (Int.ofNat_lt.mpr h));clear c10;obtain rfl:=Option.some.inj H;go_wp2
   go_ret
   exact ⟨q6_2,q6_1⟩
  rw [if_pos c3] at H;have a2:=dt c3;clear c3;replace H:=ifs H;obtain ⟨c4,H⟩:=H;have bd:=dt c4;clear c4;replace H:=ifs H;obtain ⟨c5,H⟩:=H;have bZ:=dt c5;clear c5
  by_cases c6:ag≥(l1.length:Int)
  ·rw [if_pos c6] at H;have bz:decide ((l1.length:Int)≤ag)=true:=decide_eq_true c6;clear c6;obtain rfl:=Option.some.inj H;have ax:0≤(ag:Int):=od q6_0;have ay:ag<(l0.length:Int):=od q6_0;obtain ⟨bA,a3,bB⟩:=Kd.at_int HR0.out ag ax ay;cases a3;replace ax:=eq_true ax;replace ay:=eq_true ay;go_wp2
   go_ret
   exact ⟨q6_2,q6_1⟩
  rw [if_neg c6] at H;have bz:decide ((l1.length:Int)≤ag)=false:=decide_eq_false c6;clear c6;replace H:=ifs H;obtain ⟨c7,H⟩:=H;have bC:=dt c7;clear c7;replace H:=bs H;obtain ⟨a4,A8,H⟩:=H;(try dsimp only at H);obtain c9|c9:=nem (a4=0)
  ·rw [if_neg c9] at H;have b0:(a4 == 0)=false:=beq_eq_false_iff_ne.mpr c9;have b1:(a4 != 0)=true:=bne_iff_ne.mpr c9;obtain rfl:=Option.some.inj H;have ax:0≤(ag:Int):=od q6_0;have ay:ag<(l0.length:Int):=od q6_0;obtain ⟨bA,a3,bB⟩:=Kd.at_int HR0.out ag ax ay;cases a3;replace ax:=eq_true ax;replace ay:=eq_true ay;have aN:0≤(ag:Int):=od q6_0;have aQ:ag<(l1.length:Int):=od q6_0;obtain ⟨b2,bg,b3⟩:=Kd.at_int HR1.out ag aN aQ;cases bg;replace aN:=eq_true aN;replace aQ:=eq_true aQ
   go_wp2_with (first|((with_reducible refine gate_callee (f:=125) rfl ?_);refine gl (some 26) Tryz.func125 #[.int .i64 (rd l0 ag),.int .i64 (rd l1 ag)] ?_;(with_reducible refine (cmp_Compare_int64.calls (rd l0 ag) (rd l1 ag) a4 _ A8.out).mono ?_);rintro e w' ⟨rfl,⟨nd,rfl⟩⟩;refine ⟨_,rfl,?_⟩))
   go_ret
   exact ⟨q6_2,q6_1⟩
  rw [if_pos c9] at H;have b0:=be c9;have b1:=bn c9;clear c9;have H':=ak H;clear H;have ax:0≤(ag:Int):=od q6_0;have ay:ag<(l0.length:Int):=od q6_0;obtain ⟨bA,a3,bB⟩:=Kd.at_int HR0.out ag ax ay;cases a3;replace ax:=eq_true ax;replace ay:=eq_true ay;have aN:0≤(ag:Int):=od q6_0;have aQ:ag<(l1.length:Int):=od q6_0;obtain ⟨b2,bg,b3⟩:=Kd.at_int HR1.out ag aN aQ;cases bg;replace aN:=eq_true aN;replace aQ:=eq_true aQ
  go_wp2_with (first|((with_reducible refine gate_callee (f:=125) rfl ?_);refine gl (some 26) Tryz.func125 #[.int .i64 (rd l0 ag),.int .i64 (rd l1 ag)] ?_;(with_reducible refine (cmp_Compare_int64.calls (rd l0 ag) (rd l1 ag) a4 _ A8.out).mono ?_);rintro e w' ⟨rfl,⟨nd,rfl⟩⟩;refine ⟨_,rfl,?_⟩))
  go_roundg k1
  case measure=>have:=HK1.out;omega
  case rel=>exact ⟨(wrap64 (ag+1)),q6_2,H',⟨by have:=HK1.out;omega⟩,q6_1⟩
def impl_compareTrees.f (k:Nat) (l0_0:List Int) (l1_0:List Int):Option (Int):=if (wrap64 ((l0_0.length:Int) - (l1_0.length:Int)))=0 then ((slices_Compare_int64_int64.f k l0_0 l1_0).bind fun t242=>(some t242)) else (some (wrap64 ((l0_0.length:Int) - (l1_0.length:Int))))
theorem impl_compareTrees.calls (k:Nat) (A0_0:Option Addr) (c0_0:Nat) (l0_0:List Int) (A1_0:Option Addr) (c1_0:Nat) (l1_0:List Int) (r:Int) (w:World) (hr0_0:Kd.C (Kd.int .i64) w A0_0 l0_0.length l0_0) (hc0_0:l0_0.length≤c0_0) (hr1_0:Kd.C (Kd.int .i64) w A1_0 l1_0.length l1_0) (hc1_0:l1_0.length≤c1_0) (h:impl_compareTrees.f k l0_0 l1_0=some r) :
  Calls Tryz.prog 60 #[.agg #[.slice A0_0 l0_0.length c0_0],.agg #[.slice A1_0 l1_0.length c1_0]] w fun e w'=>e=.returned (.int .i64 r)∧Below w.heap.size w w':=by
 have hu27:=Tryz.underlying27;have aE:=ak hr0_0;have aG:=ak hc0_0;clear hr0_0 hc0_0;have b4:=ak hr1_0;have b5:=ak hc1_0;clear hr1_0 hc1_0;have HB:=ak (Below.refl w.heap.size w);have H:(if (wrap64 ((l0_0.length:Int) - (l1_0.length:Int)))=0 then ((slices_Compare_int64_int64.f k l0_0 l1_0).bind fun bh=>(some bh)) else (some (wrap64 ((l0_0.length:Int) - (l1_0.length:Int)))))=some r:=h;clear h;obtain c3|c3:=nem ((wrap64 ((l0_0.length:Int) - (l1_0.length:Int)))=0)
 ·rw [if_neg c3] at H;have a2:((wrap64 ((l0_0.length:Int) - (l1_0.length:Int))) == 0)=false:=beq_eq_false_iff_ne.mpr c3;have bi:((wrap64 ((l0_0.length:Int) - (l1_0.length:Int))) != 0)=true:=bne_iff_ne.mpr c3;obtain rfl:=Option.some.inj H
  go_enter Tryz.func60,Tryz.ntmps60
  go_wp2_with (first|((with_reducible refine gate_dst (N:=2) rfl ?_);refine bev (N:=2) (cs:=#[.slice A0_0 l0_0.length c0_0]) (t:=27) ?_;intro b6 hg w10 hbox hb;have av:=ak (hbox);have b7:=gbe hg;have b8:=gbe hg;replace HB:=hbs hb;clear hb hbox hg)|((with_reducible refine gate_dst (N:=3) rfl ?_);refine bev (N:=3) (cs:=#[.slice A1_0 l1_0.length c1_0]) (t:=27) ?_;intro b9 hg w11 hbox hb;have a5:=ak (hbox);have ca:=gbe hg;have cb:=gbe hg;replace HB:=hbs hb;have bj:=nlb hg av;have bk:=ngb hg av;replace av:=bb av hb;clear hb hbox hg;have cP:=bj.out;have cQ:=bk.out;have cR:=bc av.out;have cS:=blk_frozen av.out 0;have cT:=bc a5.out;have cU:=blk_frozen a5.out 0))
  go_ret
  exact ⟨ew,hq⟩
 rw [if_pos c3] at H;have a2:((wrap64 ((l0_0.length:Int) - (l1_0.length:Int))) == 0)=true:=beq_iff_eq.mpr c3;have bi:((wrap64 ((l0_0.length:Int) - (l1_0.length:Int))) != 0)=false:=bne_eq_false_iff_eq.mpr c3;clear c3;replace H:=bs H;obtain ⟨bh,A4,H⟩:=H;(try dsimp only at H);obtain rfl:=Option.some.inj H
 go_enter Tryz.func60,Tryz.ntmps60
 go_wp2_with (first|((with_reducible refine gate_dst (N:=2) rfl ?_);refine bev (N:=2) (cs:=#[.slice A0_0 l0_0.length c0_0]) (t:=27) ?_;intro b6 hg w5 hbox hb;have av:=ak (hbox);have b7:=gbe hg;have b8:=gbe hg;replace HB:=hbs hb;clear hb hbox hg)|((with_reducible refine gate_dst (N:=3) rfl ?_);refine bev (N:=3) (cs:=#[.slice A1_0 l1_0.length c1_0]) (t:=27) ?_;intro b9 hg w6 hbox hb;have a5:=ak (hbox);have ca:=gbe hg;have cb:=gbe hg;replace HB:=hbs hb;have bj:=nlb hg av;have bk:=ngb hg av;replace av:=bb av hb;clear hb hbox hg;have cV:=bj.out;have cW:=bk.out;have cX:=bc av.out;have cY:=blk_frozen av.out 0;have cc:=bc a5.out;have cd:=blk_frozen a5.out 0)|((with_reducible refine gate_callee (f:=104) rfl ?_);refine gl (some 20) Tryz.func104 #[.slice A0_0 l0_0.length c0_0,.slice A1_0 l1_0.length c1_0] ?_;(with_reducible refine (slices_Compare_int64_int64.calls k _ _ l0_0 _ _ l1_0 bh _ (pc (Kd.C_below aE.out HB.out)) aG.out (pc (Kd.C_below b4.out HB.out)) b5.out A4.out).mono ?_);rintro e w' ⟨rfl,⟨nd,rfl⟩⟩;refine ⟨_,rfl,?_⟩))
 go_ret
 exact ⟨ew,hq⟩
def slices_Equal_int64_int64.l0:Nat→List Int→List Int→Int→Int→Option (Bool)
 | 0,_,_,_,_=>none
 | k+1,x0,x1,x12,x13=>if x13<x12 then (if 0≤x13 then (if x13<(x0.length:Int) then (if x13<(x1.length:Int) then (if (rd x0 x13)=(rd x1 x13) then (slices_Equal_int64_int64.l0 k x0 x1 x12 (wrap64 (x13+1))) else (some false)) else (none)) else (none)) else (none)) else (some true)
def slices_Equal_int64_int64.f (k:Nat) (l0:List Int) (l1:List Int):Option (Bool):=if (l0.length:Int)=(l1.length:Int) then (slices_Equal_int64_int64.l0 k l0 l1 (l0.length:Int) 0) else (some false)
theorem slices_Equal_int64_int64.calls (k:Nat) (A0:Option Addr) (c0:Nat) (l0:List Int) (A1:Option Addr) (c1:Nat) (l1:List Int) (r:Bool) (w:World) (hr0:Kd.C (Kd.int .i64) w A0 l0.length l0) (hc0:l0.length≤c0) (hr1:Kd.C (Kd.int .i64) w A1 l1.length l1) (hc1:l1.length≤c1) (h:slices_Equal_int64_int64.f k l0 l1=some r) :
  Calls Tryz.prog 61 #[.slice A0 l0.length c0,.slice A1 l1.length c1] w fun e w'=>e=.returned (.bool r)∧Drawn0 w w':=by
 have HR0:=ak hr0;have HC0:=ak hc0;clear hr0 hc0;have HR1:=ak hr1;have HC1:=ak hc1;clear hr1 hc1;have H:(if (l0.length:Int)=(l1.length:Int) then (slices_Equal_int64_int64.l0 k l0 l1 (l0.length:Int) 0) else (some false))=some r:=h;clear h;obtain c3|c3:=nem ((l0.length:Int)=(l1.length:Int))
 ·rw [if_neg c3] at H;have a2:((l0.length:Int) == (l1.length:Int))=false:=beq_eq_false_iff_ne.mpr c3;have bi:((l0.length:Int) != (l1.length:Int))=true:=bne_iff_ne.mpr c3;have ce:(l0.length == l1.length)=false:=by first|simpa using c3|(simp at c3 ⊢;omega)
  obtain rfl:=Option.some.inj H
  go_enter Tryz.func61,Tryz.ntmps61
  go_wp2
  repeat (go_quiet (fail);try go_wp2)
  go_ret
  exact ⟨q6_2,q6_1⟩
 rw [if_pos c3] at H;have a2:((l0.length:Int) == (l1.length:Int))=true:=beq_iff_eq.mpr c3;have bi:((l0.length:Int) != (l1.length:Int))=false:=bne_eq_false_iff_eq.mpr c3;have ce:(l0.length == l1.length)=true:=by first|simpa using c3|(simp at c3 ⊢;omega)
 clear c3;have H':=ak H;clear H
 go_enter Tryz.func61,Tryz.ntmps61
 go_wp2
 repeat (go_quiet (fail);try go_wp2)
 go_loopg [13] k (fun kq v13 w'=>∃ (aj:Int),v13=.int .i64 aj∧Aside0 (slices_Equal_int64_int64.l0 kq l0 l1 (l0.length:Int) aj=some r)∧Aside0 (kq≤k)∧Drawn0 w w')
 case atStart=>exact ⟨(0),q6_2,H',⟨Nat.le_refl _⟩,q6_1⟩
 case round =>
  clear H';obtain ⟨aj,rfl,HA,HK1,⟨m1,rfl⟩⟩:=hrel
  cases gk with|zero=>exact absurd HA.out (by simp [slices_Equal_int64_int64.l0])|succ k1=>?_
  have H:=HA.out;clear HA;simp only [slices_Equal_int64_int64.l0] at H;obtain c4|c4:=nem (aj<(l0.length:Int))
  ·rw [if_neg c4] at H;have bd:=df c4;clear c4;obtain rfl:=Option.some.inj H;go_wp2
   repeat (go_quiet (fail);try go_wp2)
   go_ret
   exact ⟨q6_2,q6_1⟩
  rw [if_pos c4] at H;have bd:=dt c4;clear c4;replace H:=ifs H;obtain ⟨c5,H⟩:=H;have bZ:=dt c5;clear c5;replace H:=ifs H;obtain ⟨c6,H⟩:=H;have bz:=dt c6;clear c6;replace H:=ifs H;obtain ⟨c7,H⟩:=H;have bC:=dt c7;clear c7;obtain c8|c8:=nem ((rd l0 aj)=(rd l1 aj))
  ·rw [if_neg c8] at H;have cf:((rd l0 aj) == (rd l1 aj))=false:=beq_eq_false_iff_ne.mpr c8;have cg:((rd l0 aj) != (rd l1 aj))=true:=bne_iff_ne.mpr c8;obtain rfl:=Option.some.inj H;have aT:0≤(aj:Int):=od q6_0;have aU:aj<(l0.length:Int):=od q6_0;obtain ⟨ch,bl,ci⟩:=Kd.at_int HR0.out aj aT aU;cases bl;replace aT:=eq_true aT;replace aU:=eq_true aU;have aV:0≤(aj:Int):=od q6_0;have aW:aj<(l1.length:Int):=od q6_0;obtain ⟨cj,bm,ck⟩:=Kd.at_int HR1.out aj aV aW;cases bm;replace aV:=eq_true aV;replace aW:=eq_true aW;go_wp2
   repeat (go_quiet (fail);try go_wp2)
   go_ret
   exact ⟨q6_2,q6_1⟩
  rw [if_pos c8] at H;have cf:((rd l0 aj) == (rd l1 aj))=true:=beq_iff_eq.mpr c8;have cg:((rd l0 aj) != (rd l1 aj))=false:=bne_eq_false_iff_eq.mpr c8;clear c8;have H':=ak H;clear H;have aT:0≤(aj:Int):=od q6_0;have aU:aj<(l0.length:Int):=od q6_0;obtain ⟨ch,bl,ci⟩:=Kd.at_int HR0.out aj aT aU;cases bl;replace aT:=eq_true aT;replace aU:=eq_true aU;have aV:0≤(aj:Int):=od q6_0;have aW:aj<(l1.length:Int):=od q6_0;obtain ⟨cj,bm,ck⟩:=Kd.at_int HR1.out aj aV aW;cases bm;replace aV:=eq_true aV;replace aW:=eq_true aW;go_wp2
  repeat (go_quiet (fail);try go_wp2)
  go_roundg k1
  case measure=>have:=HK1.out;omega
  case rel=>exact ⟨(wrap64 (aj+1)),q6_2,H',⟨by have:=HK1.out;omega⟩,q6_1⟩
def lg_ne (u v:Value):Prop:=∀ k,u.ownBlock=some k→v.ownBlock≠some k
theorem lg_sym {u v:Value} (h:lg_ne u v):lg_ne v u:=fun k h1 h2=>h k h2 h1
theorem lg_new {w1 W:World} {e e' base':Nat} {ok ok':Nat→Prop} {u v:Value} {xs:List Int} {ys:List Int} (h:(Kd.int .i64).R e w1 W.heap.size ok v xs) (h2:(Kd.int .i64).R e' W base' ok' u ys):lg_ne v u:=fun k hv hu=>by
 have h3:=Kd.R_base h k hv
 have h4:=Kd.R_lt h2 k hu
 omega
def impl_ListOfGrowth.l0:Nat→List Int→List Int→List Int→List Int→List Int→Int→Int→List Int→Option (List Int × Int)
 | 0,_,_,_,_,_,_,_,_=>none
 | k+1,x1,x7,x8,x9,x28,x29,x30,x246000=>if x30<x29 then (if 0≤x30 then (if x30<(x28.length:Int) then (if 0≤(rd x28 x30) then (if (rd x28 x30)<(x8.length:Int) then (if 0≤(rd x8 (rd x28 x30)) then (if (rd x8 (rd x28 x30))<(x7.length:Int) then (if x9.length<17592186044416 then (impl_ListOfGrowth.l0 k x1 x7 x8 (x9++[rd x7 (rd x8 (rd x28 x30))]) x28 x29 (wrap64 (x30+1)) x246000) else (none)) else (none)) else (none)) else (none)) else (none)) else (none)) else (none)) else ((impl_GrownTree.f k x9).bind fun bt263=>((impl_compareTrees.f k x246000 bt263.1).bind fun t271=>(if t271=0 then ((slices_Equal_int64_int64.f k bt263.2.1 x1).bind fun t272=>(if t272=true then (some (x9,0)) else (some (([]:List Int),4)))) else (some (([]:List Int),4)))))
def impl_ListOfGrowth.f (k:Nat) (l0_0:List Int) (l1:List Int):Option (List Int × Int):=(impl_growingCode.f k l0_0 l1).bind fun t246=>(if t246=0 then ((impl_labelsOf.f k l1).bind fun t247=>((impl_parentsOf.f k l0_0).bind fun t250=>(if 1≤(l1.length:Int) then (impl_ListOfGrowth.l0 k l1 t247 t250 ([]:List Int) (l1.drop 1) ((l1.drop 1).length:Int) 0 l0_0) else (none)))) else (some (([]:List Int),t246)))
def impl_ListOfGrowth.T4:Bool × List (List Nat × List Nat):=(true,[([],[]),([0],[0]),([],[]),([2],[2]),([3,1],[3]),([],[]),([1,4,0,1],[1]),([4,6,0,1,2,3,4,6],[4]),([5,7,0,1,2,3,4,5,6,7],[5])])
def impl_ListOfGrowth.B4:List Nat:=[0,1,0,4,15,0,31,95,255]
theorem impl_ListOfGrowth.tab4:rtab .any (opsOf Tryz.f12 4)=impl_ListOfGrowth.T4:=by kernel_rfl
theorem impl_ListOfGrowth.bits4:waitsOk impl_ListOfGrowth.T4.2 impl_ListOfGrowth.B4=true:=by kernel_rfl
theorem impl_ListOfGrowth.calls (k:Nat) (A0_0:Option Addr) (c0_0:Nat) (l0_0:List Int) (A1:Option Addr) (c1:Nat) (l1:List Int) (r1:List Int) (r2:Int) (w:World) (hr0_0:Kd.C (Kd.int .i64) w A0_0 l0_0.length l0_0) (hc0_0:l0_0.length≤c0_0) (hr1:Kd.C (Kd.int .i64) w A1 l1.length l1) (hc1:l1.length≤c1) (h:impl_ListOfGrowth.f k l0_0 l1=some (r1,r2)) :
  Calls Tryz.prog 12 #[.agg #[.slice A0_0 l0_0.length c0_0],.slice A1 l1.length c1] w fun e w'=>∃ v0_:Value,e=.returned (.tuple #[v0_,.int .i64 r2])∧Kd.R (Kd.int .i64) 2 w' w.heap.size (fun _=>True) v0_ r1∧Below w.heap.size w w':=by
 have hu27:=Tryz.underlying27;have aE:=ak hr0_0;have aG:=ak hc0_0;clear hr0_0 hc0_0;have HR1:=ak hr1;have HC1:=ak hc1;clear hr1 hc1;have HB:=ak (Below.refl w.heap.size w);have H:((impl_growingCode.f k l0_0 l1).bind fun aH=>(if aH=0 then ((impl_labelsOf.f k l1).bind fun ar=>((impl_parentsOf.f k l0_0).bind fun ap=>(if 1≤(l1.length:Int) then (impl_ListOfGrowth.l0 k l1 ar ap ([]:List Int) (l1.drop 1) ((l1.drop 1).length:Int) 0 l0_0) else (none)))) else (some (([]:List Int),aH))))=some (r1,r2):=h;clear h;replace H:=bs H;obtain ⟨aH,A3,H⟩:=H;(try dsimp only at H);obtain c4|c4:=nem (aH=0)
 ·rw [if_neg c4] at H;have bd:(aH == 0)=false:=beq_eq_false_iff_ne.mpr c4;have cl:(aH != 0)=true:=bne_iff_ne.mpr c4;simp only [Option.some.injEq,Prod.mk.injEq] at H;obtain ⟨rfl,rfl⟩:=H
  go_enter Tryz.func12,Tryz.ntmps12
  go_wp2_with (first|((with_reducible refine gate_dst (N:=2) rfl ?_);refine bev (N:=2) (cs:=#[.slice A0_0 l0_0.length c0_0]) (t:=27) ?_;intro az hg w60 hbox hb;have aa:=ak (hbox);have cm:=gbe hg;have cn:=gbe hg;replace HB:=hbs hb;clear hb hbox hg;have cZ:=bc aa.out;have da:=blk_frozen aa.out 0)|((with_reducible refine gate_callee (f:=57) rfl ?_);refine gl (some 17) Tryz.func57 #[.agg #[.slice A0_0 l0_0.length c0_0],.slice A1 l1.length c1] ?_;(with_reducible refine (impl_growingCode.calls k _ _ l0_0 _ _ l1 aH _ (pc (Kd.C_below aE.out HB.out)) aG.out (pc (Kd.C_below HR1.out HB.out)) HC1.out A3.out).mono ?_);rintro e w62 ⟨rfl,hb⟩;refine ⟨_,rfl,?_⟩;replace aa:=bb aa hb;replace HB:=hbs hb;(try clear hb)))
  go_ret2
  exact ⟨_,ew,q6_5,hq⟩
 rw [if_pos c4] at H;have bd:=be c4;have cl:=bn c4;clear c4;replace H:=bs H;obtain ⟨ar,A5,H⟩:=H;(try dsimp only at H);replace H:=bs H;obtain ⟨ap,A6,H⟩:=H;(try dsimp only at H);obtain ⟨a6,hY⟩:∃ y_:List Int,y_=([]:List Int):=⟨_,rfl⟩;replace H:(if 1≤(l1.length:Int) then (impl_ListOfGrowth.l0 k l1 ar ap a6 (l1.drop 1) ((l1.drop 1).length:Int) 0 l0_0) else (none))=some (r1,r2):=hh;have bD:=ak hY;clear hY;replace H:=ifs H;obtain ⟨c7,H⟩:=H;have bC:=eq_true c7;have db:decide (1≤(l1.length:Int))=true:=decide_eq_true c7;clear c7;have H':=ak H;clear H
 go_enter Tryz.func12,Tryz.ntmps12
 try go_wp2_with (first|((with_reducible refine gate_dst (N:=2) rfl ?_);refine bev (N:=2) (cs:=#[.slice A0_0 l0_0.length c0_0]) (t:=27) ?_;intro az hg w8 hbox hb;have aa:=ak (hbox);have cm:=gbe hg;have cn:=gbe hg;replace HB:=hbs hb;clear hb hbox hg;have cc:=bc aa.out;have cd:=blk_frozen aa.out 0)|((with_reducible refine gate_callee (f:=57) rfl ?_);refine gl (some 17) Tryz.func57 #[.agg #[.slice A0_0 l0_0.length c0_0],.slice A1 l1.length c1] ?_;(with_reducible refine (impl_growingCode.calls k _ _ l0_0 _ _ l1 aH _ (pc (Kd.C_below aE.out HB.out)) aG.out (pc (Kd.C_below HR1.out HB.out)) HC1.out A3.out).mono ?_);rintro e w10 ⟨rfl,hb⟩;refine ⟨_,rfl,?_⟩;replace aa:=bb aa hb;replace HB:=hbs hb;(try clear hb)))
 have n0_:=ak (blk_drew aa.out);have n1_:=ak (below_drew1 HB.out);clear aa HB;have aa:=n0_;have HB:=n1_;clear n0_ n1_
 refine start_ (n:=9) (S:=fun w'=>True) (ds:=[]) #[false,false,false,false,false,false,false,false,false] kr rfl rfl trivial (fun hHeld=>?_);refine with_tabW impl_ListOfGrowth.tab4 impl_ListOfGrowth.bits4 (fun HT_ HW_=>?_)
 generalize w10.drew=w11 at aa HB hHeld ⊢
 refine pur (i:=0) (N:=some 21) (v:=?_) (a':=?_) #[true,false,false,false,false,false,false,false,false] rfl (Or.inl ⟨by rfl,?_⟩) ?_ ?_
 rotate_left
 ·intro w'
  go_simp
  with_reducible rfl
 rotate_left
 ·simp only [Act.put,sIB,sc0,scs,i64_w,i32_w]
  rfl
 refine pur (i:=2) (N:=some 23) (v:=?_) (a':=?_) #[true,false,true,false,false,false,false,false,false] rfl (Or.inl ⟨by rfl,?_⟩) ?_ ?_
 rotate_left
 ·intro w'
  go_simp
  with_reducible rfl
 rotate_left
 ·simp only [Act.put,sIB,sc0,scs,i64_w,i32_w]
  rfl
 refine inv_at [1,3,4,5,6,7,8] (fun a0_ b a w'=>∃ (ad:Value) (ae:Value) (al:Value) (m6_:Value) (m7_:Value) (m8_:Value),a=putSel a0_ b [(1,22,ad),(3,24,.slice A0_0 l0_0.length c0_0),(4,25,ae),(5,26,al),(6,7,m6_),(7,8,m7_),(8,9,m8_)]∧(w'.heap[az]?=some (.cells #[.slice A0_0 l0_0.length c0_0] 27 (0,0)))∧(Below w.heap.size w w')∧(b 1=true→Kd.R (Kd.int .i64) 2 w' w.heap.size (fun _=>True) ad ar)∧(b 4=true→Kd.R (Kd.int .i64) 2 w' w.heap.size (fun _=>True) ae ap)∧(b 5=true→Kd.R (Kd.int .i64) 2 w' w.heap.size (fun _=>True) al a6)∧(b 6=true→(m6_:Value)=ad)∧(b 7=true→(m7_:Value)=ae)∧(b 8=true→(m8_:Value)=al)∧Aside0 ((b 1=true→b 4=true→lg_ne ad ae)∧(b 1=true→b 5=true→lg_ne ad al)∧(b 4=true→b 5=true→lg_ne ae al))) HT_.out HW_.out kr kr ?_ ?_ ?_
 ·exact ⟨.bool false,.bool false,.bool false,.bool false,.bool false,.bool false,by simp only [putSel,Bool.false_eq_true,if_false],aa.out,HB.out,fun h_=>absurd h_ dc,fun h_=>absurd h_ dc,fun h_=>absurd h_ dc,fun h_=>absurd h_ dc,fun h_=>absurd h_ dc,fun h_=>absurd h_ dc,⟨⟨fun h_=>absurd h_ dc,fun h_=>absurd h_ dc,fun h_=>absurd h_ dc⟩⟩⟩
 ·skip
  clear aa HB
  refine steps_cons ?_ ?_
  ·rintro b a w' ⟨ad,ae,al,m6_,m7_,m8_,ha,Q_BK245,Q_HB,Q_HO249,Q_HO252,Q_HO255,Q_X6_,Q_X7_,Q_X8_,Q_N⟩ hb_ hon hoff
   refine ⟨_,rfl,fun K hK=>?_⟩
   have e21:a.tmps[21]?=some (.slice A1 l1.length c1):=by rw [ha];exact (putSel_off rfl).trans rfl
   replace ha:=ak ha;have aa:=ak Q_BK245;have HB:=ak Q_HB
   refine goes_ Tryz.func58 kr rfl #[.slice A1 l1.length c1] (by rfl) rfl rfl (by first|(simp only [List.map_toArray,List.map_cons,List.map_nil,Act.eval,Array.getD_eq_getD_getElem?,Option.getD_some,e21];done)|(simp only [List.map_toArray,List.map_cons,List.map_nil,Act.eval,Array.getD_eq_getD_getElem?,Option.getD_some,e21];rfl)) ?_
   with_reducible refine (impl_labelsOf.calls k _ _ l1 ar _ ?side1 ?side2 A5.out).mono ?_
   (case side1=>exact pc (Kd.C_below HR1.out HB.out))
   (case side2=>exact HC1.out)
   rintro e w12 ⟨ad,rfl,ho0,hb⟩
   refine ⟨_,rfl,?_⟩
   have z_N2:=fun (h0_:b 5=true)=>lg_new ho0 (Q_HO255 h0_)
   have n0_:=lw ho0;have n1_:=bb aa hb;have n2_:=hbs hb;have z_HO255:=fun (h0_:b 5=true)=>(show Kd.R (Kd.int .i64) 2 w12 w.heap.size (fun _=>True) al a6 from q6_6)
   clear aa HB;have aw:=n0_;have aa:=n1_;have HB:=n2_;clear n0_ n1_ n2_;(try clear hb);(try clear hb2);(try clear hk);(try clear hi);(try clear ho0)
   refine hK.out _ _ ⟨ad,ae,al,m6_,m7_,m8_,(by rw [ha.out];exact putSel_upk 0 hb_ rfl rfl rfl),(pb aa.out),hq,fun _=>(pe aw.out),fun h0_=>absurd ((hoff 4 kr).symm.trans h0_) dc,z_HO255,fun h0_=>absurd ((hoff 6 kr).symm.trans h0_) dc,fun h0_=>absurd ((hoff 7 kr).symm.trans h0_) dc,fun h0_=>absurd ((hoff 8 kr).symm.trans h0_) dc,⟨⟨fun _ h_=>absurd ((hoff 4 kr).symm.trans h_) dc,fun _ h_=>z_N2 h_,fun h_=>absurd ((hoff 4 kr).symm.trans h_) dc⟩⟩⟩
  refine steps_cons ?_ ?_
  ·rintro b a w' ⟨ad,ae,al,m6_,m7_,m8_,ha,Q_BK245,Q_HB,Q_HO249,Q_HO252,Q_HO255,Q_X6_,Q_X7_,Q_X8_,Q_N⟩ hb_ hon hoff
   refine ⟨_,rfl,fun K hK=>?_⟩
   have e23:a.tmps[23]?=some (.pointer (some ⟨az,0,none⟩)):=by rw [ha];exact (putSel_off rfl).trans rfl
   replace ha:=ak ha;have aa:=ak Q_BK245;have HB:=ak Q_HB;have hc0_:w'.cell? ⟨az,0,none⟩=some (.slice A0_0 l0_0.length c0_0):=(blk_cell aa.out 0).trans rfl
   refine value_ (w1:=w') (v:=.slice A0_0 l0_0.length c0_0) (by rfl) rfl ?_ ?_
   ·go_simp
    (try simp only [i64_w])
    try rfl
   refine hK.out _ _ ⟨ad,ae,al,m6_,m7_,m8_,(by rw [ha.out];exact putSel_upk 1 hb_ rfl rfl rfl),Q_BK245,Q_HB,Q_HO249,fun h0_=>absurd ((hoff 4 kr).symm.trans h0_) dc,Q_HO255,fun h0_=>absurd ((hoff 6 kr).symm.trans h0_) dc,fun h0_=>absurd ((hoff 7 kr).symm.trans h0_) dc,fun h0_=>absurd ((hoff 8 kr).symm.trans h0_) dc,Q_N⟩
  refine steps_cons ?_ ?_
  ·rintro b a w' ⟨ad,ae,al,m6_,m7_,m8_,ha,Q_BK245,Q_HB,Q_HO249,Q_HO252,Q_HO255,Q_X6_,Q_X7_,Q_X8_,Q_N⟩ hb_ hon hoff
   refine ⟨_,rfl,fun K hK=>?_⟩
   have e24:a.tmps[24]?=some (.slice A0_0 l0_0.length c0_0):=by rw [ha];exact putSel_on (e:=(3,24,.slice A0_0 l0_0.length c0_0)) 1 rfl rfl (hon 3 kr) rfl
   replace ha:=ak ha;have aa:=ak Q_BK245;have HB:=ak Q_HB;have aw:=ak (Q_HO249 (hon 1 kr))
   refine goes_ Tryz.func59 kr rfl #[.slice A0_0 l0_0.length c0_0] (by rfl) rfl rfl (by first|(simp only [List.map_toArray,List.map_cons,List.map_nil,Act.eval,Array.getD_eq_getD_getElem?,Option.getD_some,e24];done)|(simp only [List.map_toArray,List.map_cons,List.map_nil,Act.eval,Array.getD_eq_getD_getElem?,Option.getD_some,e24];rfl)) ?_
   with_reducible refine (impl_parentsOf.calls k _ _ l0_0 ap _ ?side1 ?side2 A6.out).mono ?_
   (case side1=>exact pc (Kd.C_below aE.out HB.out))
   (case side2=>exact aG.out)
   rintro e w14 ⟨ae,rfl,ho0,hb⟩
   refine ⟨_,rfl,?_⟩
   have z_N1:=lg_sym (lg_new ho0 aw.out);have z_N3:=fun (h0_:b 5=true)=>lg_new ho0 (Q_HO255 h0_)
   have n0_:=rn aw ho0 hb;have n1_:=lw (nw ho0 aw);have n2_:=bb aa hb;have n3_:=hbs hb;have z_HO255:=fun (h0_:b 5=true)=>(show Kd.R (Kd.int .i64) 2 w14 w.heap.size (fun _=>True) al a6 from q6_6)
   clear aw aa HB;have aw:=n0_;have aY:=n1_;have aa:=n2_;have HB:=n3_;clear n0_ n1_ n2_ n3_;(try clear hb);(try clear hb2);(try clear hk);(try clear hi);(try clear ho0)
   refine hK.out _ _ ⟨ad,ae,al,m6_,m7_,m8_,(by rw [ha.out];exact putSel_upk 2 hb_ rfl rfl rfl),(pb aa.out),hq,fun _=>(pe (Kd.R_mono aw.out (fun _ hk=>trivial))),fun _=>(pe (Kd.R_mono aY.out (fun _ hk=>trivial))),z_HO255,fun h0_=>absurd ((hoff 6 kr).symm.trans h0_) dc,fun h0_=>absurd ((hoff 7 kr).symm.trans h0_) dc,fun h0_=>absurd ((hoff 8 kr).symm.trans h0_) dc,⟨⟨fun _ _=>z_N1,Q_N.out.2.1,fun _ h_=>z_N3 h_⟩⟩⟩
  refine steps_cons ?_ ?_
  ·rintro b a w' ⟨ad,ae,al,m6_,m7_,m8_,ha,Q_BK245,Q_HB,Q_HO249,Q_HO252,Q_HO255,Q_X6_,Q_X7_,Q_X8_,Q_N⟩ hb_ hon hoff
   refine ⟨_,rfl,fun K hK=>?_⟩
   replace ha:=ak ha;have aa:=ak Q_BK245;have HB:=ak Q_HB
   refine Kd.R_lit_step (Kd.int .i64) _ 2 ?hg (N:=26) ?hd (xs:=([]:List Int)) (inner:=[]) (ok:=fun _=>True) (okp:=fun _=>True) ?hr ?hp (fun _ hk=>hk) trivial (Below.refl _ _) (Nat.le_refl _) (by simp) ?_;(case hd=>rfl);(case hg=>rfl);(case hr=>exact gs);(case hp=>exact (Reps.none _ _))
   intro al w12 ho13 hb hg_ hnew_
   clear hg_ hnew_;(first|rw [← bD.out] at ho13|(simp only [Int.reduceToNat] at ho13;rw [← bD.out] at ho13));have z_N2:=fun (h0_:b 1=true)=>lg_sym (lg_new ho13 (Q_HO249 h0_))
   have z_N3:=fun (h0_:b 4=true)=>lg_sym (lg_new ho13 (Q_HO252 h0_))
   have n0_:=lw ho13;have n1_:=bb aa hb;have n2_:=hbs hb;have z_HO249:=fun (h0_:b 1=true)=>(show Kd.R (Kd.int .i64) 2 w12 w.heap.size (fun _=>True) ad ar from by first|exact (Kd.R_elder' (pe (Q_HO249 h0_)) (Kd.R_base ho13) hb)|exact Kd.R_mono (Kd.R_elder' (pe (Q_HO249 h0_)) (Kd.R_base ho13) hb) (fun _ h_=>by first|trivial|exact h_|exact h_.1))
   have z_HO252:=fun (h0_:b 4=true)=>(show Kd.R (Kd.int .i64) 2 w12 w.heap.size (fun _=>True) ae ap from by first|exact (Kd.R_elder' (pe (Q_HO252 h0_)) (Kd.R_base ho13) hb)|exact Kd.R_mono (Kd.R_elder' (pe (Q_HO252 h0_)) (Kd.R_base ho13) hb) (fun _ h_=>by first|trivial|exact h_|exact h_.1))
   clear aa HB;have bf:=n0_;have aa:=n1_;have HB:=n2_;clear n0_ n1_ n2_ hb ho13
   refine hK.out _ _ ⟨ad,ae,al,m6_,m7_,m8_,(by rw [ha.out];exact putSel_upk 3 hb_ rfl rfl rfl),(pb aa.out),hq,z_HO249,z_HO252,fun _=>(pe bf.out),Q_X6_,Q_X7_,fun h0_=>absurd ((hoff 8 kr).symm.trans h0_) dc,⟨⟨Q_N.out.1,fun h_ _=>z_N2 h_,fun h_ _=>z_N3 h_⟩⟩⟩
  refine steps_cons ?_ ?_
  ·rintro b a w' ⟨ad,ae,al,m6_,m7_,m8_,ha,Q_BK245,Q_HB,Q_HO249,Q_HO252,Q_HO255,Q_X6_,Q_X7_,Q_X8_,Q_N⟩ hb_ hon hoff
   refine ⟨_,rfl,fun K hK=>?_⟩
   have e22:a.tmps[22]?=some (ad):=by rw [ha];exact putSel_on (e:=(1,22,ad)) 0 rfl rfl (hon 1 kr) rfl
   replace ha:=ak ha;have aa:=ak Q_BK245;have HB:=ak Q_HB;have aw:=ak (Q_HO249 (hon 1 kr));have aY:=ak (Q_HO252 (hon 4 kr))
   refine value_ (w1:=w') (v:=ad) (by rfl) rfl ?_ ?_
   ·go_simp
    (try simp only [i64_w])
    try rfl
   refine hK.out _ _ ⟨ad,ae,al,(ad),m7_,m8_,(by rw [ha.out];exact putSel_upk 4 hb_ rfl rfl rfl),Q_BK245,Q_HB,Q_HO249,Q_HO252,Q_HO255,fun _=>rfl,fun h0_=>absurd ((hoff 7 kr).symm.trans h0_) dc,fun h0_=>absurd ((hoff 8 kr).symm.trans h0_) dc,Q_N⟩
  refine steps_cons ?_ ?_
  ·rintro b a w' ⟨ad,ae,al,m6_,m7_,m8_,ha,Q_BK245,Q_HB,Q_HO249,Q_HO252,Q_HO255,Q_X6_,Q_X7_,Q_X8_,Q_N⟩ hb_ hon hoff
   refine ⟨_,rfl,fun K hK=>?_⟩
   have e25:a.tmps[25]?=some (ae):=by rw [ha];exact putSel_on (e:=(4,25,ae)) 2 rfl rfl (hon 4 kr) rfl
   replace ha:=ak ha;have aa:=ak Q_BK245;have HB:=ak Q_HB;have aw:=ak (Q_HO249 (hon 1 kr));have aY:=ak (Q_HO252 (hon 4 kr))
   refine value_ (w1:=w') (v:=ae) (by rfl) rfl ?_ ?_
   ·go_simp
    (try simp only [i64_w])
    try rfl
   refine hK.out _ _ ⟨ad,ae,al,m6_,(ae),m8_,(by rw [ha.out];exact putSel_upk 5 hb_ rfl rfl rfl),Q_BK245,Q_HB,Q_HO249,Q_HO252,Q_HO255,Q_X6_,fun _=>rfl,fun h0_=>absurd ((hoff 8 kr).symm.trans h0_) dc,Q_N⟩
  refine steps_cons ?_ ?_
  ·rintro b a w' ⟨ad,ae,al,m6_,m7_,m8_,ha,Q_BK245,Q_HB,Q_HO249,Q_HO252,Q_HO255,Q_X6_,Q_X7_,Q_X8_,Q_N⟩ hb_ hon hoff
   refine ⟨_,rfl,fun K hK=>?_⟩
   have e26:a.tmps[26]?=some (al):=by rw [ha];exact putSel_on (e:=(5,26,al)) 3 rfl rfl (hon 5 kr) rfl
   replace ha:=ak ha;have aa:=ak Q_BK245;have HB:=ak Q_HB;have aw:=ak (Q_HO249 (hon 1 kr));have aY:=ak (Q_HO252 (hon 4 kr));have bf:=ak (Q_HO255 (hon 5 kr))
   refine value_ (w1:=w') (v:=al) (by rfl) rfl ?_ ?_
   ·go_simp
    (try simp only [i64_w])
    try rfl
   refine hK.out _ _ ⟨ad,ae,al,m6_,m7_,(al),(by rw [ha.out];exact putSel_upk 6 hb_ rfl rfl rfl),Q_BK245,Q_HB,Q_HO249,Q_HO252,Q_HO255,Q_X6_,Q_X7_,fun _=>rfl,Q_N⟩
  exact steps_nil
 rintro b a w16 hall ⟨ad,ae,al,m6_,m7_,m8_,ha,Q_BK245,Q_HB,Q_HO249,Q_HO252,Q_HO255,Q_X6_,Q_X7_,Q_X8_,Q_N⟩
 clear aa HB;have hb1_:=hall 1 kr;have hb3_:=hall 3 kr;have hb4_:=hall 4 kr;have hb5_:=hall 5 kr;have hb6_:=hall 6 kr;have hb7_:=hall 7 kr;have hb8_:=hall 8 kr;subst ha;obtain rfl:=(Q_X6_ hb6_).symm;obtain rfl:=(Q_X7_ hb7_).symm;obtain rfl:=(Q_X8_ hb8_).symm;simp only [putSel,hb1_,hb3_,hb4_,hb5_,hb6_,hb7_,hb8_,if_true,Act.put,List.setIfInBounds_toArray,List.set_cons_zero,List.set_cons_succ];have aa:=ak Q_BK245;clear Q_BK245;have HB:=ak Q_HB;clear Q_HB;have aw:=ak (Q_HO249 hb1_);clear Q_HO249;have aY:=ak (Q_HO252 hb4_);clear Q_HO252;have bf:=ak (Q_HO255 hb5_);clear Q_HO255;have QN:=ak (And.intro (Q_N.out.1 hb1_ hb4_) (And.intro (Q_N.out.2.1 hb1_ hb5_) (Q_N.out.2.2 hb4_ hb5_)));clear Q_N hall hb1_ hb3_ hb4_ hb5_ hb6_ hb7_ hb8_;obtain ⟨i017,bE,_,hsz17,_⟩:=info_parts info2;obtain ⟨A17,hcut17,hA17,bF⟩:=print_drop_of (P:=Tryz.prog) (Value.int .i64) 0 24 2 .i64 Tryz.underlying24 bE hsz17 A1 c1 l1 1 (by omega) (od q6_0) HC1.out;have bG:=ak (Kd.C_of_reads (h1:=fun _=>rfl) (hA17 _ (Kd.reads_of_C HR1.out)));have co:=ak bF;clear hA17 bF bE hsz17
 try go_wp2
 obtain ⟨dr1,hdr1⟩:∃ dr1,l1.tail=dr1:=⟨_,rfl⟩;have hdl1:l1.length - 1=dr1.length:=by rw [← hdr1,List.length_tail]
 rw [show List.drop (Int.toNat 1) l1=l1.tail from List.drop_one,hdr1] at bG;(try rw [show List.drop (Int.toNat 1) l1=l1.tail from List.drop_one,hdr1] at co);rw [List.drop_one,hdr1] at H';simp only [hdl1];clear hdl1 hdr1
 go_loopg [9,30] k (fun kq v9 v30 w'=>∃ (au:List Int) (aq:Int),v30=.int .i64 aq∧Aside0 (impl_ListOfGrowth.l0 kq l1 ar ap au dr1 (dr1.length:Int) aq l0_0=some (r1,r2))∧Aside0 (kq≤k)∧Aside0 (Kd.R (Kd.int .i64) 2 w' w.heap.size (fun k_=>some k_≠(ae:Value).ownBlock∧some k_≠(v9:Value).ownBlock) ad ar)∧Aside0 (Kd.R (Kd.int .i64) 2 w' w.heap.size (fun k_=>some k_≠(ad:Value).ownBlock∧some k_≠(v9:Value).ownBlock) ae ap)∧Aside0 (Kd.R (Kd.int .i64) 2 w' w.heap.size (fun k_=>some k_≠(ad:Value).ownBlock∧some k_≠(ae:Value).ownBlock) v9 au)∧Aside0 (w'.heap[az]?=some (.cells #[(.slice A0_0 l0_0.length c0_0)] 27 (0,0)))∧Aside0 (Below w.heap.size w w'))
 case atStart=>exact ⟨(a6),(0),q6_2,H',⟨Nat.le_refl _⟩,⟨pe (Kd.R_mono (Kd.R_tight rfl aw.out) (fun k_ hk_=>⟨fun e_=>QN.out.1 k_ hk_.symm e_.symm,fun e_=>QN.out.2.1 k_ hk_.symm e_.symm⟩))⟩,⟨pe (Kd.R_mono (Kd.R_tight rfl aY.out) (fun k_ hk_=>⟨fun e_=>(lg_sym QN.out.1) k_ hk_.symm e_.symm,fun e_=>QN.out.2.2 k_ hk_.symm e_.symm⟩))⟩,⟨pe (Kd.R_mono (Kd.R_tight rfl bf.out) (fun k_ hk_=>⟨fun e_=>(lg_sym QN.out.2.1) k_ hk_.symm e_.symm,fun e_=>(lg_sym QN.out.2.2) k_ hk_.symm e_.symm⟩))⟩,⟨pb aa.out⟩,⟨hq⟩⟩
 case round =>
  clear H';obtain ⟨au,aq,rfl,HA,HK1,ah,ai,ab,aa,HB⟩:=hrel
  cases gk with|zero=>exact absurd HA.out (by simp [impl_ListOfGrowth.l0])|succ k1=>?_
  have H:=HA.out;clear HA;simp only [impl_ListOfGrowth.l0] at H;obtain c18|c18:=nem (aq<(dr1.length:Int))
  ·rw [if_neg c18] at H;have cp:=df c18;clear c18;replace H:=bs H;obtain ⟨⟨ac,a7,bo⟩,A29,H⟩:=H;(try dsimp only at H);replace H:=bs H;obtain ⟨aZ,A30,H⟩:=H;(try dsimp only at H);obtain c31|c31:=nem (aZ=0)
   ·rw [if_neg c31] at H;have cq:(aZ == 0)=false:=beq_eq_false_iff_ne.mpr c31;have cr:(aZ != 0)=true:=bne_iff_ne.mpr c31;simp only [Option.some.injEq,Prod.mk.injEq] at H;obtain ⟨rfl,rfl⟩:=H;obtain ⟨bH,bI,ct⟩:=Kd.R_slice ab.out;subst ct
    go_wp2_with (first|((with_reducible refine gate_callee (f:=7) rfl ?_);refine gl (some 47) Tryz.func7 #[.slice bH au.length bI] ?_;(with_reducible refine (impl_GrownTree.calls k1 _ _ au ac a7 bo _ (pc ((Kd.R_reads' ab.out).2.2)) (Kd.R_reads' ab.out).2.1 A29.out).mono ?_);rintro e w53 ⟨bJ,a8,rfl,ho0,ho1,hb⟩;refine ⟨_,rfl,?_⟩;have an:=lw (nw (nw (nw ho0 ah) ai) ab);have ao:=lw (nw (nw (nw ho1 ah) ai) ab);replace ah:=rn2 ah ho0 ho1 hb;replace ai:=rn2 ai ho0 ho1 hb;replace ab:=rn2 ab ho0 ho1 hb;replace aa:=bb aa hb;replace HB:=hbs hb;(try clear hb ho0 ho1))|((with_reducible refine gate_dst (N:=12) rfl ?_);refine bev (N:=12) (cs:=#[.slice none 0 0]) (t:=27) ?_;intro a9 hg w54 hbox hb;replace ah:=rb ah hb;replace ai:=rb ai hb;replace ab:=rb ab hb;replace an:=rb an hb;replace ao:=rb ao hb;have af:=ak (hbox);have bK:=gbe hg;have bL:=gbe hg;replace HB:=hbs hb;have aI:=nlb hg aa;have ba:=ngb hg aa;replace aa:=bb aa hb;clear hb hbox hg;obtain ⟨aJ,aA,cu⟩:=Kd.R_slice an.out;subst cu;have dd:=ba.out;have de:=aI.out;have dg:=bc af.out;have dh:=blk_frozen af.out 0;have di:=bc aa.out;have dj:=blk_frozen aa.out 0)|((with_reducible refine gate_callee (f:=60) rfl ?_);refine gl (some 53) Tryz.func60 #[.agg #[.slice A0_0 l0_0.length c0_0],.agg #[.slice aJ ac.length aA]] ?_;(with_reducible refine (impl_compareTrees.calls k1 _ _ l0_0 _ _ ac aZ _ ?side1 aG.out ?side3 (Kd.R_reads' an.out).2.1 A30.out).mono ?_);(case side1=>exact Kd.C_below aE.out hq);(case side3=>refine (Kd.R_reads' (e:=2) (base:=w.heap.size) (ok:=fun k_=>(((some k_≠(a8:Value).ownBlock∧some k_≠(ad:Value).ownBlock)∧some k_≠(ae:Value).ownBlock)∧some k_≠(.slice bH au.length bI:Value).ownBlock)) (n:=ac.length) (c:=aA) ?_).2.2;exact (pe (rf an af (.slice aJ ac.length aA))));rintro e w59 ⟨rfl,hb⟩;refine ⟨_,rfl,?_⟩;replace ah:=ak (Kd.R_below (pe (rf ah af (.slice aJ ac.length aA))) hb);replace ai:=ak (Kd.R_below (pe (rf ai af (.slice aJ ac.length aA))) hb);replace ab:=ak (Kd.R_below (pe (rf ab af (.slice aJ ac.length aA))) hb);replace an:=ak (Kd.R_below (pe (rf an af (.slice aJ ac.length aA))) hb);replace ao:=ak (Kd.R_below (pe (rf ao af (.slice aJ ac.length aA))) hb);replace aa:=ak (blk_below (g:=az) (o:=.cells #[.slice A0_0 l0_0.length c0_0] 27 (0,0)) q6_4 hb);replace af:=ak (blk_below (g:=a9) (o:=.cells #[.slice aJ ac.length aA] 27 (0,0)) q6_3 hb);replace HB:=hbs hb;(try clear hb)))
    go_ret2
    exact ⟨_,ew,q6_5,hq⟩
   rw [if_pos c31] at H;have cq:=be c31;have cr:=bn c31;clear c31;replace H:=bs H;obtain ⟨cv,A32,H⟩:=H;(try dsimp only at H)
   by_cases c33:cv=true
   ·subst c33;replace H:(some (au,0))=some (r1,r2):=by rw [if_pos rfl] at H;exact H
    simp only [Option.some.injEq,Prod.mk.injEq] at H;obtain ⟨rfl,rfl⟩:=H;obtain ⟨bM,bN,cw⟩:=Kd.R_slice ab.out;subst cw
    go_wp2_with (first|((with_reducible refine gate_callee (f:=7) rfl ?_);refine gl (some 47) Tryz.func7 #[.slice bM au.length bN] ?_;(with_reducible refine (impl_GrownTree.calls k1 _ _ au ac a7 bo _ (pc ((Kd.R_reads' ab.out).2.2)) (Kd.R_reads' ab.out).2.1 A29.out).mono ?_);rintro e w35 ⟨bJ,a8,rfl,ho0,ho1,hb⟩;refine ⟨_,rfl,?_⟩;have an:=lw (nw (nw (nw ho0 ah) ai) ab);have ao:=lw (nw (nw (nw ho1 ah) ai) ab);replace ah:=rn2 ah ho0 ho1 hb;replace ai:=rn2 ai ho0 ho1 hb;replace ab:=rn2 ab ho0 ho1 hb;replace aa:=bb aa hb;replace HB:=hbs hb;(try clear hb ho0 ho1))|((with_reducible refine gate_dst (N:=12) rfl ?_);refine bev (N:=12) (cs:=#[.slice none 0 0]) (t:=27) ?_;intro a9 hg w36 hbox hb;replace ah:=rb ah hb;replace ai:=rb ai hb;replace ab:=rb ab hb;replace an:=rb an hb;replace ao:=rb ao hb;have af:=ak (hbox);have bK:=gbe hg;have bL:=gbe hg;replace HB:=hbs hb;have aI:=nlb hg aa;have ba:=ngb hg aa;replace aa:=bb aa hb;clear hb hbox hg;obtain ⟨aK,aC,cx⟩:=Kd.R_slice an.out;subst cx;have dk:=ba.out;have dl:=aI.out;have dm:=bc af.out;have dp:=blk_frozen af.out 0;have dq:=bc aa.out;have dr:=blk_frozen aa.out 0)|((with_reducible refine gate_callee (f:=60) rfl ?_);refine gl (some 53) Tryz.func60 #[.agg #[.slice A0_0 l0_0.length c0_0],.agg #[.slice aK ac.length aC]] ?_;(with_reducible refine (impl_compareTrees.calls k1 _ _ l0_0 _ _ ac aZ _ ?side1 aG.out ?side3 (Kd.R_reads' an.out).2.1 A30.out).mono ?_);(case side1=>exact Kd.C_below aE.out hq);(case side3=>refine (Kd.R_reads' (e:=2) (base:=w.heap.size) (ok:=fun k_=>(((some k_≠(a8:Value).ownBlock∧some k_≠(ad:Value).ownBlock)∧some k_≠(ae:Value).ownBlock)∧some k_≠(.slice bM au.length bN:Value).ownBlock)) (n:=ac.length) (c:=aC) ?_).2.2;exact (pe (rf an af (.slice aK ac.length aC))));rintro e w41 ⟨rfl,hb⟩;refine ⟨_,rfl,?_⟩;replace ah:=ak (Kd.R_below (pe (rf ah af (.slice aK ac.length aC))) hb);replace ai:=ak (Kd.R_below (pe (rf ai af (.slice aK ac.length aC))) hb);replace ab:=ak (Kd.R_below (pe (rf ab af (.slice aK ac.length aC))) hb);replace an:=ak (Kd.R_below (pe (rf an af (.slice aK ac.length aC))) hb);replace ao:=ak (Kd.R_below (pe (rf ao af (.slice aK ac.length aC))) hb);replace aa:=ak (blk_below (g:=az) (o:=.cells #[.slice A0_0 l0_0.length c0_0] 27 (0,0)) q6_4 hb);replace af:=ak (blk_below (g:=a9) (o:=.cells #[.slice aK ac.length aC] 27 (0,0)) q6_3 hb);replace HB:=hbs hb;(try clear hb);(try clear hb2);(try clear hk);(try clear hi);obtain ⟨du,dv,cy⟩:=Kd.R_slice ao.out;subst cy)|(go_at_call 61;(with_reducible refine (slices_Equal_int64_int64.calls k1 _ _ a7 _ _ l1 true _ (pc ((Kd.R_reads' ao.out).2.2)) (Kd.R_reads' ao.out).2.1 (pc (Kd.C_below HR1.out HB.out)) HC1.out A32.out).mono ?_);rintro e w' ⟨rfl,⟨nd,rfl⟩⟩))
    go_ret2
    exact ⟨_,ew,pe (Kd.R_mono ab.out (fun _ hk=>trivial)),hq⟩
   replace c33:=Bool.eq_false_iff.mpr c33;subst c33;have H1:(some (([]:List Int),4))=some (r1,r2):=by rw [if_neg (show ¬ (false=true) by decide)] at H;exact H
   clear H;have H:=H1;clear H1;simp only [Option.some.injEq,Prod.mk.injEq] at H;obtain ⟨rfl,rfl⟩:=H;obtain ⟨bO,bP,cz⟩:=Kd.R_slice ab.out;subst cz
   go_wp2_with (first|((with_reducible refine gate_callee (f:=7) rfl ?_);refine gl (some 47) Tryz.func7 #[.slice bO au.length bP] ?_;(with_reducible refine (impl_GrownTree.calls k1 _ _ au ac a7 bo _ (pc ((Kd.R_reads' ab.out).2.2)) (Kd.R_reads' ab.out).2.1 A29.out).mono ?_);rintro e w44 ⟨bJ,a8,rfl,ho0,ho1,hb⟩;refine ⟨_,rfl,?_⟩;have an:=lw (nw (nw (nw ho0 ah) ai) ab);have ao:=lw (nw (nw (nw ho1 ah) ai) ab);replace ah:=rn2 ah ho0 ho1 hb;replace ai:=rn2 ai ho0 ho1 hb;replace ab:=rn2 ab ho0 ho1 hb;replace aa:=bb aa hb;replace HB:=hbs hb;(try clear hb ho0 ho1))|((with_reducible refine gate_dst (N:=12) rfl ?_);refine bev (N:=12) (cs:=#[.slice none 0 0]) (t:=27) ?_;intro a9 hg w45 hbox hb;replace ah:=rb ah hb;replace ai:=rb ai hb;replace ab:=rb ab hb;replace an:=rb an hb;replace ao:=rb ao hb;have af:=ak (hbox);have bK:=gbe hg;have bL:=gbe hg;replace HB:=hbs hb;have aI:=nlb hg aa;have ba:=ngb hg aa;replace aa:=bb aa hb;clear hb hbox hg;obtain ⟨aM,aD,cA⟩:=Kd.R_slice an.out;subst cA;have dw:=ba.out;have dx:=aI.out;have dy:=bc af.out;have dz:=blk_frozen af.out 0;have dA:=bc aa.out;have dB:=blk_frozen aa.out 0)|((with_reducible refine gate_callee (f:=60) rfl ?_);refine gl (some 53) Tryz.func60 #[.agg #[.slice A0_0 l0_0.length c0_0],.agg #[.slice aM ac.length aD]] ?_;(with_reducible refine (impl_compareTrees.calls k1 _ _ l0_0 _ _ ac aZ _ ?side1 aG.out ?side3 (Kd.R_reads' an.out).2.1 A30.out).mono ?_);(case side1=>exact Kd.C_below aE.out hq);(case side3=>refine (Kd.R_reads' (e:=2) (base:=w.heap.size) (ok:=fun k_=>(((some k_≠(a8:Value).ownBlock∧some k_≠(ad:Value).ownBlock)∧some k_≠(ae:Value).ownBlock)∧some k_≠(.slice bO au.length bP:Value).ownBlock)) (n:=ac.length) (c:=aD) ?_).2.2;exact (pe (rf an af (.slice aM ac.length aD))));rintro e w50 ⟨rfl,hb⟩;refine ⟨_,rfl,?_⟩;replace ah:=ak (Kd.R_below (pe (rf ah af (.slice aM ac.length aD))) hb);replace ai:=ak (Kd.R_below (pe (rf ai af (.slice aM ac.length aD))) hb);replace ab:=ak (Kd.R_below (pe (rf ab af (.slice aM ac.length aD))) hb);replace an:=ak (Kd.R_below (pe (rf an af (.slice aM ac.length aD))) hb);replace ao:=ak (Kd.R_below (pe (rf ao af (.slice aM ac.length aD))) hb);replace aa:=ak (blk_below (g:=az) (o:=.cells #[.slice A0_0 l0_0.length c0_0] 27 (0,0)) q6_4 hb);replace af:=ak (blk_below (g:=a9) (o:=.cells #[.slice aM ac.length aD] 27 (0,0)) q6_3 hb);replace HB:=hbs hb;(try clear hb);(try clear hb2);(try clear hk);(try clear hi);obtain ⟨dC,dD,cB⟩:=Kd.R_slice ao.out;subst cB)|(go_at_call 61;(with_reducible refine (slices_Equal_int64_int64.calls k1 _ _ a7 _ _ l1 false _ (pc ((Kd.R_reads' ao.out).2.2)) (Kd.R_reads' ao.out).2.1 (pc (Kd.C_below HR1.out HB.out)) HC1.out A32.out).mono ?_);rintro e w' ⟨rfl,⟨nd,rfl⟩⟩))
   go_ret2
   exact ⟨_,ew,q6_5,hq⟩
  rw [if_pos c18] at H;have cp:=dt c18;clear c18;replace H:=ifs H;obtain ⟨c19,H⟩:=H;have dE:=dt c19;clear c19;replace H:=ifs H;obtain ⟨c20,H⟩:=H;have dF:=dt c20;clear c20;replace H:=ifs H;obtain ⟨c21,H⟩:=H;have dG:=dt c21;clear c21;replace H:=ifs H;obtain ⟨c22,H⟩:=H;have dH:=dt c22;clear c22;replace H:=ifs H;obtain ⟨c23,H⟩:=H;have dI:=dt c23;clear c23;replace H:=ifs H;obtain ⟨c24,H⟩:=H;have dJ:=dt c24;clear c24;replace H:=ifs H;obtain ⟨c25,H⟩:=H;have cC:=ak c25;clear c25;obtain ⟨bQ,hY⟩:∃ y_:List Int,y_=(au++[rd ar (rd ap (rd dr1 aq))]):=⟨_,rfl⟩;replace H:(impl_ListOfGrowth.l0 k1 l1 ar ap bQ dr1 (dr1.length:Int) (wrap64 (aq+1)) l0_0)=some (r1,r2):=hh;have cD:=ak hY;clear hY;have H':=ak H;clear H;have bp:0≤(aq:Int):=od q6_0;have bq:aq<(dr1.length:Int):=od q6_0;obtain ⟨dK,cE,br⟩:=Kd.at_int bG.out aq bp bq;cases cE;replace br:=(HB.out.cell (World.block_lt_of_cell? w _ br)).trans br;replace bp:=eq_true bp;replace bq:=eq_true bq;obtain ⟨dL,bR,cF⟩:=Kd.R_slice ai.out;subst cF;have bu:0≤((rd dr1 aq):Int):=od q6_0;have bv:(rd dr1 aq)<(ap.length:Int):=od q6_0;(try (obtain ⟨Aop_,cop_,eop_⟩:=Kd.R_slice ai.out;subst eop_));obtain ⟨bS,cG,dM⟩:=Kd.at_int (Kd.R_reads' ai.out).2.2 (rd dr1 aq) bu bv;cases cG;replace bu:=eq_true bu;replace bv:=eq_true bv;obtain ⟨dN,bT,cH⟩:=Kd.R_slice ah.out;subst cH;have bw:0≤((rd ap (rd dr1 aq)):Int):=od q6_0;have bx:(rd ap (rd dr1 aq))<(ar.length:Int):=od q6_0;(try (obtain ⟨Aop_,cop_,eop_⟩:=Kd.R_slice ah.out;subst eop_));obtain ⟨bU,cI,dO⟩:=Kd.at_int (Kd.R_reads' ah.out).2.2 (rd ap (rd dr1 aq)) bw bx;cases cI;replace bw:=eq_true bw;replace bx:=eq_true bx
  go_wp2_with (first|((with_reducible refine gate_builtin (b:=.append) (xs:=#[.tmp 34,.tmp 42]) rfl ?_);at_builtin;refine Kd.R_append (Kd.int .i64) (w0:=w) w.heap.size rfl (.tmp 34) (.tmp 42) 24 2 (.int .i64 0) 8 rfl Tryz.underlying24 info2 rfl dc (by omega) u9 au (rd ar (rd ap (rd dr1 aq))) [.int .i64 (rd ar (rd ap (rd dr1 aq)))] (fun k_=>some k_≠(.slice (some bU) ar.length bT:Value).ownBlock∧some k_≠(.slice (some bS) ap.length bR:Value).ownBlock) (fun _=>False) rfl rfl ?aP (fun _ hk=>hk.elim) ?aF ?aO ?aB ?aS ?aL ?_;(case aP=>exact rfl);(case aB=>exact hq);(case aF=>exact (fun k_ hk=>⟨Kd.fresh' (Kd.R_lt (pe ah.out)) k_ hk,Kd.fresh' (Kd.R_lt (pe ai.out)) k_ hk⟩));(case aO=>exact (pe ab.out));(case aS=>exact (below_size hq));(case aL=>have:=cC.out;omega);intro dP w28 ho hb hg hat;rw [← cD.out] at ho;replace ah:=ak (Kd.R_after (ok:=(fun k_=>some k_≠(.slice (some bS) ap.length bR:Value).ownBlock)) (pe ah.out) hg hat);replace ai:=ak (Kd.R_after (ok:=(fun k_=>some k_≠(.slice (some bU) ar.length bT:Value).ownBlock)) (pe ai.out) hg hat);replace aa:=ak (blk_grown (g:=az) (o:=.cells #[.slice A0_0 l0_0.length c0_0] 27 (0,0)) (pb aa.out) hg (Kd.R_ne ab.out aa.out dc));replace HB:=ak (hb);have cJ:=ak (ho);clear ab;clear ho hb hg hat))
  go_roundg k1
  case measure=>have:=HK1.out;omega
  case rel=>exact ⟨(bQ),(wrap64 (aq+1)),q6_2,H',⟨by have:=HK1.out;omega⟩,⟨pe ah.out⟩,⟨pe ai.out⟩,⟨pe cJ.out⟩,⟨pb aa.out⟩,⟨hq⟩⟩
def spec_l01Own.f (l0:List Int):Option (List Int):=(some (([]:List Int):List Int)).bind fun y273=>(if y273.length+l0.length<17592186044416 then (some (y273++l0)) else (none))
theorem spec_l01Own.calls (A0:Option Addr) (c0:Nat) (l0:List Int) (r:List Int) (w:World) (hr0:Kd.C (Kd.int .i64) w A0 l0.length l0) (hc0:l0.length≤c0) (h:spec_l01Own.f l0=some r) :
  Calls Tryz.prog 90 #[.slice A0 l0.length c0] w fun e w'=>∃ v0_:Value,e=.returned (v0_)∧Kd.R (Kd.int .i64) 2 w' w.heap.size (fun _=>True) v0_ r∧Below w.heap.size w w':=by
 have HR0:=ak hr0;have HC0:=ak hc0;clear hr0 hc0;have HB:=ak (Below.refl w.heap.size w);have H:((some (([]:List Int):List Int)).bind fun aX=>(if aX.length+l0.length<17592186044416 then (some (aX++l0)) else (none)))=some r:=h;clear h;obtain ⟨aX,hY⟩:∃ y_:List Int,y_=([]:List Int):=⟨_,rfl⟩;replace H:(if aX.length+l0.length<17592186044416 then (some (aX++l0)) else (none))=some r:=hh;have bV:=ak hY;clear hY;replace H:=ifs H;obtain ⟨c2,H⟩:=H;have cK:=ak c2;clear c2;obtain ⟨cL,hY⟩:∃ y_:List Int,y_=(aX++l0):=⟨_,rfl⟩;replace H:(some cL)=some r:=hh;have cM:=ak hY;clear hY;obtain rfl:=Option.some.inj H
 go_enter Tryz.func90,Tryz.ntmps90
 go_wp2_with (first|((with_reducible refine gate_dst (N:=3) rfl ?_);refine Kd.R_lit (Kd.int .i64) _ 2 ?hg (N:=3) ?hd (xs:=([]:List Int)) (inner:=[]) (ok:=fun _=>True) (okp:=fun _=>True) ?hr ?hp (fun _ hk=>hk) trivial (Below.refl _ _) (Nat.le_refl _) (by simp) ?_;(case hd=>rfl);(case hg=>rfl);(case hr=>exact gs);(case hp=>exact (Reps.none _ _));intro cN w3 ho4 hb hg_ hnew_;clear hg_ hnew_;(first|rw [← bV.out] at ho4|(simp only [Int.reduceToNat] at ho4;rw [← bV.out] at ho4));have bW:=lw ho4;replace HB:=hbs hb;clear hb ho4)|((with_reducible refine gate_builtin (b:=.append) (xs:=#[.tmp 3,.tmp 4]) rfl ?_);at_builtin;refine Kd.R_append_rows (Kd.int .i64) (w0:=w) w.heap.size rfl (.tmp 3) (.tmp 4) 24 2 (.int .i64 0) 8 rfl Tryz.underlying24 info2 rfl dc (by omega) cN aX l0 _ _ _ (fun _=>True) (fun _=>False) rfl rfl ?aO ?aR (fun _ _ h=>h) (fun _ h=>h.elim) ?aF ?aB ?aS ?aL ?_;(case aR=>exact pc (Kd.C_below HR0.out HB.out));(case aB=>exact hq);(case aF=>exact (fun _ _=>trivial));(case aO=>exact (pe bW.out));(case aS=>exact (below_size hq));(case aL=>have:=cK.out;omega);intro dQ w5 ho hb hg hat;rw [← cM.out] at ho;replace HB:=ak (hb);have cO:=ak (ho);clear bW;clear ho hb hg hat))
 go_ret
 exact ⟨_,ew,pe cO.out,hq⟩
end Go.Proofs.YtlppkilencpmeaaGreat.QFnGrowth
