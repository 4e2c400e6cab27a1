import Derived.Test.YtlppkilencpmeaaGreatQFnGrowingx0
import Derived.Test.YtlppkilencpmeaaGreatQFnGrowingx3
/- Functions as Lean functions, with their contracts: written by a program of this claim over the translation; some contracts are proved by hand. -/
namespace Go.Proofs.YtlppkilencpmeaaGreat.QFnGrowing
open Go.RowKit Go.Proofs.YtlppkilencpmeaaGreat.Gl Go.Proofs.YtlppkilencpmeaaGreat.Sz Go.Proofs.YtlppkilencpmeaaGreatW.PrintWords Go.Proofs.YtlppkilencpmeaaGreatW.PrintLast Go.Proofs.YtlppkilencpmeaaGreatW.PrintMore
attribute [local go_sem] max2_int min2_int max_two min_two max_three min_three max_four min_four   -- for this text's walks alone
set_option linter.unusedVariables false
set_option linter.unusedSimpArgs false
theorem q5_0 {P:Prop} (h:P:=by first|(with_reducible assumption)|assumption):P:=h
theorem q5_1 {P:Prop} (h:P:=by first|rfl|(simp;done)|(simp [*];done)):P:=h
set_option maxHeartbeats 8000000
set_option maxRecDepth 100000
mutual
def spec_l01Parents.l0:Nat→List Int→Int→List Int→Option (List Int)
 | 0,_,_,_=>none
 | k+1,x3,x4,x204000=>(spec_l01N.f x204000).bind fun t209=>(if x4<t209 then ((spec_l01Children.f k x204000 x4).bind fun t210=>(spec_l01Parents.l1 k x3 x4 t210 0 x204000)) else (some x3))
def spec_l01Parents.l1:Nat→List Int→Int→List Int→Int→List Int→Option (List Int)
 | 0,_,_,_,_,_=>none
 | k+1,x3,x4,x5,x6,x204000=>if x6<(x5.length:Int) then (if 0≤x6 then (if 0≤(rd x5 x6) then (if (rd x5 x6)<(x3.length:Int) then (spec_l01Parents.l1 k (x3.set ((rd x5 x6):Int).toNat x4) x4 x5 (wrap64 (x6+1)) x204000) else (none)) else (none)) else (none)) else (spec_l01Parents.l0 k x3 (wrap64 (x4+1)) x204000)
end
def spec_l01Parents.f (k:Nat) (l0_0:List Int):Option (List Int):=(spec_l01N.f l0_0).bind fun t204=>(if 0≤t204 then (if (t204:Int).toNat≤35184372088832 then ((some (List.replicate (t204:Int).toNat 0:List Int)).bind fun y205=>(if 0<(y205.length:Int) then (spec_l01Parents.l0 k (y205.set (0:Int).toNat (-1)) 0 l0_0) else (none))) else (none)) else (none))
theorem spec_l01Parents.calls (k:Nat) (A0_0:Option Addr) (c0_0:Nat) (l0_0:List Int) (r:List Int) (w:World) (hr0_0:Kd.C (Kd.int .i64) w A0_0 l0_0.length l0_0) (hc0_0:l0_0.length≤c0_0) (h:spec_l01Parents.f k l0_0=some r) :
  Calls Tryz.prog 79 #[.agg #[.slice A0_0 l0_0.length c0_0]] w fun e w'=>∃ v0_:Value,e=.returned (v0_)∧Kd.R (Kd.int .i64) 2 w' w.heap.size (fun _=>True) v0_ r∧Below w.heap.size w w':=by
 have hu27:=Tryz.underlying27;have ap:=ak hr0_0;have aq:=ak hc0_0;clear hr0_0 hc0_0;have HB:=ak (Below.refl w.heap.size w);have H:((spec_l01N.f l0_0).bind fun ai=>(if 0≤ai then (if (ai:Int).toNat≤35184372088832 then ((some (List.replicate (ai:Int).toNat 0:List Int)).bind fun ag=>(if 0<(ag.length:Int) then (spec_l01Parents.l0 k (ag.set (0:Int).toNat (-1)) 0 l0_0) else (none))) else (none)) else (none)))=some r:=h;clear h;replace H:=bs H;obtain ⟨ai,A2,H⟩:=H;(try dsimp only at H);replace H:=ifs H;obtain ⟨c3,H⟩:=H;have aP:=eq_true c3;have aQ:decide (0≤ai)=true:=decide_eq_true c3;clear c3;replace H:=ifs H;obtain ⟨c4,H⟩:=H;have aR:=eq_true c4;have aS:decide ((ai:Int).toNat≤35184372088832)=true:=decide_eq_true c4;clear c4;obtain ⟨ag,hY⟩:∃ y_:List Int,y_=(List.replicate (ai:Int).toNat 0):=⟨_,rfl⟩;replace H:(if 0<(ag.length:Int) then (spec_l01Parents.l0 k (ag.set (0:Int).toNat (-1)) 0 l0_0) else (none))=some r:=hh;have aB:=ak hY;clear hY;replace H:=ifs H;obtain ⟨c5,H⟩:=H;have aT:=dt c5;have aU:decide (0<ag.length)=true:=decide_eq_true (by omega);clear c5;obtain ⟨au,hY⟩:∃ y_:List Int,y_=(ag.set (0:Int).toNat (-1)):=⟨_,rfl⟩;replace H:(spec_l01Parents.l0 k au 0 l0_0)=some r:=hh;have aF:=ak hY;clear hY;have H':=ak H;clear H
 go_enter Tryz.func79,Tryz.ntmps79
 go_wp2_with (first|((with_reducible refine gate_dst (N:=1) rfl ?_);refine bev (N:=1) (cs:=#[.slice A0_0 l0_0.length c0_0]) (t:=27) ?_;intro ar hg w7 hbox hb;have aa:=ak (hbox);have aV:=gbe hg;have aW:=gbe hg;replace HB:=hbs hb;clear hb hbox hg;have aX:=bc aa.out;have aY:=blk_frozen aa.out 0)|((with_reducible refine gate_callee (f:=80) rfl ?_);refine gl (some 8) Tryz.func80 #[.agg #[.slice A0_0 l0_0.length c0_0]] ?_;(with_reducible refine (spec_l01N.calls _ _ l0_0 ai _ (pc (Kd.C_below ap.out HB.out)) aq.out A2.out).mono ?_);rintro e w9 ⟨rfl,hb⟩;refine ⟨_,rfl,?_⟩;replace aa:=bb aa hb;replace HB:=hbs hb;(try clear hb))|((with_reducible refine gate_dst (N:=9) rfl ?_);refine Kd.R_make (Kd.int .i64) _ 2 rfl (N:=9) rfl 24 _ _ rfl ai rfl rfl Tryz.underlying24 (.int .i64 0) 8 info2 rfl dc (by omega) 0 (ok:=fun _=>True) (okp:=fun _=>True) rfl (fun _ hk=>hk) trivial (od q5_0) (Nat.le_trans (Nat.mul_le_mul_right _ (od q5_0:ai.toNat≤35184372088832)) (by omega)) (Below.refl _ _) (Nat.le_refl _) ?_;intro aZ w10 ho11 hb hg_ hnew_;clear hg_ hnew_;(first|rw [← aB.out] at ho11|(simp only [Int.reduceToNat] at ho11;rw [← aB.out] at ho11));have an:=lw ho11;replace aa:=bb aa hb;replace HB:=hbs hb;clear hb ho11;have p6:0≤(0:Int):=(by omega);have q6:(0:Int)<((ag.length:Int):Int):=od q5_0;have qi6:(0<ag.length)=True:=eq_true (by omega);obtain ⟨go6,co6,eo6,gb6,gl6,cl6,HG6⟩:=Kd.R_form an.out (by omega);(first|cases eo6|(injection eo6 with ea_ en_ ec_;(first|subst ea_|(injection ea_ with ea_;subst ea_));subst ec_;clear en_));have GB6:=ak gb6;have GG6:=ak HG6;clear gb6 gl6 HG6;obtain ⟨aC,aD⟩:=Kd.R_celln 0 an.out (0:Int) p6 q6;(try rw [show (0:Int).toNat=0 from rfl] at aC);(try simp only [Nat.reduceMul,Nat.zero_mul,Nat.zero_add,Nat.reduceAdd] at aC);(try rw [show (0:Int).toNat=0 from rfl] at aD);(try simp only [Nat.reduceMul,Nat.zero_mul,Nat.zero_add,Nat.reduceAdd] at aD);replace p6:=eq_true p6;replace q6:=eq_true q6;obtain ⟨hy12_,hz12_⟩:=Kd.R_celln 0 an.out (0:Int) (by omega) (od q5_0);(try simp only [Int.reduceToNat,Int.toNat_zero,Int.toNat_ofNat,Nat.reduceMul,Nat.zero_mul,Nat.zero_add] at hy12_ hz12_);(try rw [show (0:Int).toNat=0 from rfl] at hy12_);(try rw [show (0:Int).toNat=0 from rfl] at hz12_);have av:=Kd.R_putg an.out (0:Int) (-1))|((with_reducible refine gate_store (t:=2) (p:=11) rfl ?_);refine store_event (t:=2) (p:=11) (v:=?vo_w13) (w1:=(w10.setCell ⟨go6,(0:Int).toNat,none⟩ (.int .i64 (-1)))) ?hg ?ho ?hn ?hr ?_;(case ho=>rfl);(case hg=>rfl);(case hn=>rfl);(case hr=>exact gs);intro w13 hw;have hg:w10.grownBy w13 (some go6):=(by rw [hw];exact av.2);have hp_:Kd.R (Kd.int .i64) 2 w13 w.heap.size (fun _=>True) (.slice (some ⟨go6,0,none⟩) ag.length co6) au:=(by rw [hw,aF.out];exact av.1);clear av;replace aa:=ak (blk_grown (g:=ar) (o:=.cells #[.slice A0_0 l0_0.length c0_0] 27 (0,0)) (pb aa.out) hg (Kd.R_ne an.out aa.out dc));replace an:=ak (hp_);replace HB:=ak (by rw [hw];exact below_set (HB.out) GB6.out:Below w.heap.size w w13);clear hg hw hp_))
 go_loopg [4] k (fun kq v4 w'=>∃ (ao:List Int) (ae:Int),v4=.int .i64 ae∧Aside0 (spec_l01Parents.l0 kq ao ae l0_0=some r)∧Aside0 (kq≤k)∧Aside0 (Kd.R (Kd.int .i64) 2 w' w.heap.size (fun _=>True) (.slice (some ⟨go6,0,none⟩) ag.length co6) ao)∧Aside0 (w'.heap[ar]?=some (.cells #[(.slice A0_0 l0_0.length c0_0)] 27 (0,0)))∧Aside0 (Below w.heap.size w w'))
 case atStart=>exact ⟨(au),(0),q5_1,H',⟨Nat.le_refl _⟩,⟨pe an.out⟩,⟨pb aa.out⟩,⟨hq⟩⟩
 case round =>
  clear H';obtain ⟨ao,ae,rfl,HA,HK1,ab,aa,HB⟩:=hrel;have af:=(Kd.R_reads' ab.out).1;rw [af] at ab;(try simp only [af]);(try simp only [af] at aa)
  cases gk with|zero=>exact absurd HA.out (by simp [spec_l01Parents.l0])|succ k1=>?_
  have H:=HA.out;clear HA;simp only [spec_l01Parents.l0] at H;replace H:=bs H;obtain ⟨aw,A14,H⟩:=H;(try dsimp only at H);obtain c15|c15:=nem (ae<aw)
  ·rw [if_neg c15] at H;have aG:=df c15;clear c15;obtain rfl:=Option.some.inj H;have a1:=bc aa.out;have a2:=blk_frozen aa.out 0
   go_wp2_with (first|((with_reducible refine gate_callee (f:=80) rfl ?_);refine gl (some 14) Tryz.func80 #[.agg #[.slice A0_0 l0_0.length c0_0]] ?_;(with_reducible refine (spec_l01N.calls _ _ l0_0 aw _ (pc (Kd.C_below ap.out HB.out)) aq.out A14.out).mono ?_);rintro e w31 ⟨rfl,hb⟩;refine ⟨_,rfl,?_⟩;replace ab:=rb ab hb;replace aa:=bb aa hb;replace HB:=hbs hb;(try clear hb)))
   go_ret
   exact ⟨_,ew,pe ab.out,hq⟩
  rw [if_pos c15] at H;have aG:=dt c15;clear c15;replace H:=bs H;obtain ⟨ad,A16,H⟩:=H;(try dsimp only at H);have H':=ak H;clear H;have a3:=bc aa.out;have a4:=blk_frozen aa.out 0
  go_wp2_with (first|((with_reducible refine gate_callee (f:=80) rfl ?_);refine gl (some 14) Tryz.func80 #[.agg #[.slice A0_0 l0_0.length c0_0]] ?_;(with_reducible refine (spec_l01N.calls _ _ l0_0 aw _ (pc (Kd.C_below ap.out HB.out)) aq.out A14.out).mono ?_);rintro e w18 ⟨rfl,hb⟩;refine ⟨_,rfl,?_⟩;replace ab:=rb ab hb;replace aa:=bb aa hb;replace HB:=hbs hb;(try clear hb);(try clear hb2);(try clear hk);(try clear hi);have a5:=bc aa.out;have a6:=blk_frozen aa.out 0)|((with_reducible refine gate_callee (f:=81) rfl ?_);refine gl (some 20) Tryz.func81 #[.agg #[.slice A0_0 l0_0.length c0_0],.int .i64 ae] ?_;(with_reducible refine (spec_l01Children.calls k1 _ _ l0_0 ae ad _ (pc (Kd.C_below ap.out HB.out)) aq.out A16.out).mono ?_);rintro e w20 ⟨aE,rfl,ho0,hb⟩;refine ⟨_,rfl,?_⟩;have aH:=lw (nw ho0 ab);replace ab:=rn ab ho0 hb;replace aa:=bb aa hb;replace HB:=hbs hb;(try clear hb ho0)))
  go_loopg [6] k1 (fun kq v6 w'=>∃ (aj:List Int) (ac:Int),v6=.int .i64 ac∧Aside0 (spec_l01Parents.l1 kq aj ae ad ac l0_0=some r)∧Aside0 (kq≤k1)∧Aside0 (Kd.R (Kd.int .i64) 2 w' w.heap.size (fun k_=>some k_≠(aE:Value).ownBlock) (.slice (some ⟨go6,0,none⟩) ao.length co6) aj)∧Aside0 (Kd.R (Kd.int .i64) 2 w' w.heap.size (fun k_=>some k_≠((.slice (some ⟨go6,0,none⟩) ao.length co6):Value).ownBlock) aE ad)∧Aside0 (w'.heap[ar]?=some (.cells #[(.slice A0_0 l0_0.length c0_0)] 27 (0,0)))∧Aside0 (Below w.heap.size w w'))
  case atStart=>exact ⟨(ao),(0),q5_1,H',⟨Nat.le_refl _⟩,⟨by (try simp only [af]);exact pe (Kd.R_mono ab.out (fun _ hk=>hk.2))⟩,⟨by (try simp only [af]);exact pe (Kd.R_mono aH.out (fun _ hk=>hk.2))⟩,⟨by (try simp only [af]);exact pb aa.out⟩,⟨hq⟩⟩
  case round =>
   clear H';obtain ⟨aj,ac,rfl,HA,HK2,ab,al,aa,HB⟩:=hrel;have ah:=(Kd.R_reads' ab.out).1;rw [ah] at ab;(try simp only [ah]);(try simp only [ah] at aa);(try simp only [ah] at al)
   cases gk with|zero=>exact absurd HA.out (by simp [spec_l01Parents.l1])|succ k2=>?_
   have H:=HA.out;clear HA;simp only [spec_l01Parents.l1] at H;obtain c21|c21:=nem (ac<(ad.length:Int))
   ·rw [if_neg c21] at H;have aI:=df c21;clear c21;have H':=ak H;clear H;obtain ⟨a7,a8,aJ⟩:=Kd.R_slice al.out;subst aJ;go_wp2;(try simp only [← af,← ah])
    go_roundg k2
    case measure=>have:=HK1.out;have:=HK2.out;omega
    case rel=>exact ⟨(aj),(wrap64 (ae+1)),q5_1,H',⟨by have:=HK1.out;have:=HK2.out;omega⟩,⟨by (try simp only [af]);(try simp only [ah]);exact pe (Kd.R_mono ab.out (fun _ hk=>trivial))⟩,⟨by (try simp only [af]);(try simp only [ah]);exact pb aa.out⟩,⟨hq⟩⟩
   rw [if_pos c21] at H;have aI:=dt c21;clear c21;replace H:=ifs H;obtain ⟨c22,H⟩:=H;have a9:=dt c22;clear c22;replace H:=ifs H;obtain ⟨c23,H⟩:=H;have ba:=dt c23;clear c23;replace H:=ifs H;obtain ⟨c24,H⟩:=H;have bd:=dt c24;clear c24;obtain ⟨ax,hY⟩:∃ y_:List Int,y_=(aj.set ((rd ad ac):Int).toNat ae):=⟨_,rfl⟩;replace H:(spec_l01Parents.l1 k2 ax ae ad (wrap64 (ac+1)) l0_0)=some r:=hh;have aK:=ak hY;clear hY;have H':=ak H;clear H;obtain ⟨bf,aL,aM⟩:=Kd.R_slice al.out;subst aM;have ay:0≤(ac:Int):=od q5_0;have az:ac<(ad.length:Int):=od q5_0;(try (obtain ⟨Aop_,cop_,eop_⟩:=Kd.R_slice al.out;subst eop_));obtain ⟨aN,aO,bg⟩:=Kd.at_int (Kd.R_reads' al.out).2.2 ac ay az;cases aO;replace ay:=eq_true ay;replace az:=eq_true az;have p25:0≤((rd ad ac):Int):=od q5_0;have q25:((rd ad ac):Int)<((aj.length:Int):Int):=od q5_0;obtain ⟨bh,bi⟩:=Kd.R_celln 0 ab.out ((rd ad ac):Int) p25 q25;replace p25:=eq_true p25;replace q25:=eq_true q25;have aA:=Kd.R_putg ab.out ((rd ad ac):Int) ae
   go_wp2_with (first|((with_reducible refine gate_store (t:=2) (p:=33) rfl ?_);refine store_event (t:=2) (p:=33) (v:=?vo_w28) (w1:=(wr.setCell ⟨go6,((rd ad ac):Int).toNat,none⟩ (.int .i64 ae))) ?hg ?ho ?hn ?hr ?_;(case ho=>rfl);(case hg=>rfl);(case hn=>rfl);(case hr=>exact gs);intro w28 hw;have hg:wr.grownBy w28 (some go6):=(by rw [hw];exact aA.2);have hp_:Kd.R (Kd.int .i64) 2 w28 w.heap.size (fun k_=>some k_≠(.slice (some aN) ad.length aL:Value).ownBlock) (.slice (some ⟨go6,0,none⟩) aj.length co6) ax:=(by rw [hw,aK.out];exact aA.1);clear aA;replace al:=ak (Kd.R_after (v:=(.slice (some ⟨go6,0,none⟩) aj.length co6)) (v1:=(.slice (some ⟨go6,0,none⟩) aj.length co6)) (ok:=(fun _=>True)) (pe (Kd.R_mono al.out (fun _ hk=>⟨trivial,hk⟩))) hg (.inl rfl));replace aa:=ak (blk_grown (g:=ar) (o:=.cells #[.slice A0_0 l0_0.length c0_0] 27 (0,0)) (pb aa.out) hg (Kd.R_ne ab.out aa.out dc));replace ab:=ak (hp_);replace HB:=ak (by rw [hw];exact below_set (HB.out) GB6.out:Below w.heap.size w w28);clear hg hw hp_))
   (try simp only [← ah])
   go_roundg k2
   case measure=>have:=HK1.out;have:=HK2.out;omega
   case rel=>exact ⟨(ax),(wrap64 (ac+1)),q5_1,H',⟨by have:=HK1.out;have:=HK2.out;omega⟩,⟨by (try simp only [af]);(try simp only [ah]);exact pe ab.out⟩,⟨by (try simp only [af]);(try simp only [ah]);exact pe (Kd.R_mono al.out (fun _ hk=>hk.2))⟩,⟨by (try simp only [af]);(try simp only [ah]);exact pb aa.out⟩,⟨hq⟩⟩
end Go.Proofs.YtlppkilencpmeaaGreat.QFnGrowing
/- Functions as Lean functions, with their contracts: written by a program of this claim over the translation; some contracts are proved by hand. -/
namespace Go.Proofs.YtlppkilencpmeaaGreat.QFnGrowing
open Go.RowKit Go.Proofs.YtlppkilencpmeaaGreat.Gl Go.Proofs.YtlppkilencpmeaaGreat.Sz Go.Proofs.YtlppkilencpmeaaGreatW.PrintWords Go.Proofs.YtlppkilencpmeaaGreatW.PrintLast Go.Proofs.YtlppkilencpmeaaGreatW.PrintMore
attribute [local go_sem] max2_int min2_int max_two min_two max_three min_three max_four min_four   -- for this text's walks alone
set_option linter.unusedVariables false
set_option linter.unusedSimpArgs false
theorem q6_0 {P:Prop} (h:P:=by first|(with_reducible assumption)|assumption):P:=h
theorem q6_1 {P:Prop} (h:P:=by simp only [putAll,Act.put,List.setIfInBounds_toArray,List.set_cons_zero,List.set_cons_succ]):P:=h
theorem q6_2 {P:Prop} (h:P:=by first|rfl|(simp;done)|(simp [*];done)):P:=h
theorem q6_3 {P:Prop} (h:P:=by have:=HK1.out;have:=HK2.out;omega):P:=h
set_option maxHeartbeats 8000000
set_option maxRecDepth 100000
mutual
def spec_l09Next.l0:Nat→List Int→List Int→List Bool→List Int→Int→List Int→Option (List Int)
 | 0,_,_,_,_,_,_=>none
 | k+1,x1,x5,x6,x7,x8,x216000=>if x8<(x1.length:Int) then (if 0≤x8 then (if 0≤(rd x1 x8) then (if (rd x1 x8)<(x6.length:Int) then (spec_l09Next.l0 k x1 x5 (x6.set ((rd x1 x8):Int).toNat true) x7 (wrap64 (x8+1)) x216000) else (none)) else (none)) else (none)) else (spec_l09Next.l1 k x5 x6 x7 0 x216000)
def spec_l09Next.l1:Nat→List Int→List Bool→List Int→Int→List Int→Option (List Int)
 | 0,_,_,_,_,_=>none
 | k+1,x5,x6,x7,x9,x216000=>(spec_l01N.f x216000).bind fun t228=>(if x9<t228 then (if 0≤x9 then (if x9<(x6.length:Int) then (if rdOf false x6 x9=true then (spec_l09Next.l1 k x5 x6 x7 (wrap64 (x9+1)) x216000) else (if x9=0 then (if x7.length<17592186044416 then (spec_l09Next.l1 k x5 x6 (x7++[x9]) (wrap64 (x9+1)) x216000) else (none)) else (if x9<(x5.length:Int) then (if 0≤(rd x5 x9) then (if (rd x5 x9)<(x6.length:Int) then (if rdOf false x6 (rd x5 x9)=true then (if x7.length<17592186044416 then (spec_l09Next.l1 k x5 x6 (x7++[x9]) (wrap64 (x9+1)) x216000) else (none)) else (spec_l09Next.l1 k x5 x6 x7 (wrap64 (x9+1)) x216000)) else (none)) else (none)) else (none)))) else (none)) else (none)) else (some x7))
end
def spec_l09Next.f (k:Nat) (l0_0:List Int) (l1:List Int):Option (List Int):=(spec_l01Parents.f k l0_0).bind fun t216=>((spec_l01N.f l0_0).bind fun t219=>(if 0≤t219 then (if (t219:Int).toNat≤281474976710656 then (spec_l09Next.l0 k l1 t216 (List.replicate (t219:Int).toNat false) ([]:List Int) 0 l0_0) else (none)) else (none)))
def spec_l09Next.T1:Bool × List (List Nat × List Nat):=(true,[([],[]),([0],[0]),([],[]),([2,1],[2]),([3,3],[3]),([],[]),([1,3,0,1],[1]),([4,6,0,1,2,3,4,6],[4]),([5,7,0,1,2,3,4,5,6,7],[5])])
def spec_l09Next.B1:List Nat:=[0,1,0,7,15,0,15,95,255]
theorem spec_l09Next.tab1:rtab .any (opsOf Tryz.f88 1)=spec_l09Next.T1:=by kernel_rfl
theorem spec_l09Next.bits1:waitsOk spec_l09Next.T1.2 spec_l09Next.B1=true:=by kernel_rfl
theorem spec_l09Next.calls (k:Nat) (A0_0:Option Addr) (c0_0:Nat) (l0_0:List Int) (A1:Option Addr) (c1:Nat) (l1:List Int) (r:List Int) (w:World) (hr0_0:Kd.C (Kd.int .i64) w A0_0 l0_0.length l0_0) (hc0_0:l0_0.length≤c0_0) (hr1:Kd.C (Kd.int .i64) w A1 l1.length l1) (hc1:l1.length≤c1) (h:spec_l09Next.f k l0_0 l1=some r) :
  Calls Tryz.prog 88 #[.agg #[.slice A0_0 l0_0.length c0_0],.slice A1 l1.length c1] w fun e w'=>∃ v0_:Value,e=.returned (v0_)∧Kd.R (Kd.int .i64) 2 w' w.heap.size (fun _=>True) v0_ r∧Below w.heap.size w w':=by
 have hu27:=Tryz.underlying27;have aw:=ak hr0_0;have ax:=ak hc0_0;clear hr0_0 hc0_0;have HR1:=ak hr1;have HC1:=ak hc1;clear hr1 hc1;have HB:=ak (Below.refl w.heap.size w);have H:((spec_l01Parents.f k l0_0).bind fun ac=>((spec_l01N.f l0_0).bind fun al=>(if 0≤al then (if (al:Int).toNat≤281474976710656 then (spec_l09Next.l0 k l1 ac (List.replicate (al:Int).toNat false) ([]:List Int) 0 l0_0) else (none)) else (none))))=some r:=h;clear h;replace H:=bs H;obtain ⟨ac,A3,H⟩:=H;(try dsimp only at H);replace H:=bs H;obtain ⟨al,A4,H⟩:=H;(try dsimp only at H);replace H:=ifs H;obtain ⟨c5,H⟩:=H;have bH:=eq_true c5;have bI:decide (0≤al)=true:=decide_eq_true c5;clear c5;replace H:=ifs H;obtain ⟨c6,H⟩:=H;have bJ:=eq_true c6;have bK:decide ((al:Int).toNat≤281474976710656)=true:=decide_eq_true c6;clear c6;obtain ⟨aN,hY⟩:∃ y_:List Bool,y_=(List.replicate (al:Int).toNat false):=⟨_,rfl⟩;replace H:(spec_l09Next.l0 k l1 ac aN ([]:List Int) 0 l0_0)=some r:=hh;have aA:=ak hY;clear hY;obtain ⟨aD,hY⟩:∃ y_:List Int,y_=([]:List Int):=⟨_,rfl⟩;replace H:(spec_l09Next.l0 k l1 ac aN aD 0 l0_0)=some r:=hh;have aC:=ak hY;clear hY;have H':=ak H;clear H
 go_enter Tryz.func88,Tryz.ntmps88
 try go_wp2_with (first|((with_reducible refine gate_dst (N:=2) rfl ?_);refine bev (N:=2) (cs:=#[.slice A0_0 l0_0.length c0_0]) (t:=27) ?_;intro ay hg w7 hbox hb;have aa:=ak (hbox);have bL:=gbe hg;have bM:=gbe hg;replace HB:=hbs hb;clear hb hbox hg))
 have n0_:=ak (blk_drew aa.out);have n1_:=ak (below_drew1 HB.out);clear aa HB;have aa:=n0_;have HB:=n1_;clear n0_ n1_
 refine start_ (n:=9) (S:=fun w'=>w'.cell? ⟨ay,0,none⟩=some (.slice A0_0 l0_0.length c0_0)) (ds:=[]) #[false,false,false,false,false,false,false,false,false] kr rfl rfl ((blk_cell aa.out 0).trans rfl) (fun hHeld=>?_);refine with_tabW spec_l09Next.tab1 spec_l09Next.bits1 (fun HT_ HW_=>?_)
 generalize w7.drew=w8 at aa HB hHeld ⊢
 refine take_ (i:=0) (N:=some 10) (v:=?_) (a':=?_) #[true,false,false,false,false,false,false,false,false] rfl rfl (take_ofW HT_.out HW_.out kr) (fun _ _ _ h=>h) (Or.inl ⟨by rfl,?_⟩) hHeld ?_ ?_
 rotate_left
 ·intro w' s0
  go_simp
  with_reducible rfl
 rotate_left
 ·simp only [Act.put,sIB,sc0,scs,i64_w,i32_w]
  rfl
 refine take_ (i:=2) (N:=some 12) (v:=?_) (a':=?_) #[true,false,true,false,false,false,false,false,false] rfl rfl (take_ofW HT_.out HW_.out kr) (fun _ _ _ h=>h) (Or.inl ⟨by rfl,?_⟩) hHeld ?_ ?_
 rotate_left
 ·intro w' s0
  go_simp
  with_reducible rfl
 rotate_left
 ·simp only [Act.put,sIB,sc0,scs,i64_w,i32_w]
  rfl
 refine join_ (σ:=Value × Value × Value) 1 #[true,true,true,true,true,true,true,true,false] (fun s_=>[(11,s_.1),(13,.int .i64 al),(14,s_.2.1),(15,s_.2.2),(5,s_.1),(6,s_.2.1)]) (fun s_ w'=>(w'.cell? ⟨ay,0,none⟩=some (.slice A0_0 l0_0.length c0_0))∧(Kd.R (Kd.int .i64) 2 w' w.heap.size (fun k_=>some k_≠(s_.2.2:Value).ownBlock) s_.1 ac)∧(Kd.R Kd.bool 4 w' w.heap.size (fun _=>True) s_.2.1 aN)∧(Kd.R (Kd.int .i64) 2 w' w.heap.size (fun k_=>some k_≠(s_.1:Value).ownBlock) s_.2.2 aD)∧(w'.heap[ay]?=some (.cells #[.slice A0_0 l0_0.length c0_0] 27 (0,0)))∧(Below w.heap.size w w')) ?_ ?_
 rotate_left
 ·intro hCont
  refine two_ (i:=1) (j:=5) (Ni:=some 11) (Nj:=some 15) #[true,true,true,false,false,false,false,false,false] #[true,false,true,false,false,true,false,false,false] rfl rfl rfl rfl (two_of HT_.out kr) dc dc (fun K hK=>?_) (fun K hK=>?_)
  ·skip
   refine goes_ Tryz.func79 kr rfl #[.agg #[.slice A0_0 l0_0.length c0_0]] (by rfl) rfl rfl am ?_
   with_reducible refine (spec_l01Parents.calls k _ _ l0_0 ac _ ?side1 ?side2 A3.out).mono ?_
   (case side1=>exact pc (Kd.C_below aw.out HB.out))
   (case side2=>exact ax.out)
   rintro e w9 ⟨aq,rfl,ho0,hb⟩
   refine ⟨_,rfl,?_⟩
   have n0_:=lw ho0;have n1_:=bb aa hb;have n2_:=hbs hb;clear aa HB;have ad:=n0_;have aa:=n1_;have HB:=n2_;clear n0_ n1_ n2_;(try clear hb);(try clear hb2);(try clear hk);(try clear hi);(try clear ho0)
   refine hK.out _ _ ((blk_cell aa.out 0).trans rfl) (fun hHeld=>?_)
   clear hK K
   refine norm_ (a':=?_) ?_ ?_
   rotate_left
   ·show Act.put _ (some 11) _=_;simp only [Act.put,sIB,sc0,scs,i64_w,i32_w]
    rfl
   refine two_ (i:=3) (j:=5) (Ni:=some 13) (Nj:=some 15) #[true,true,true,true,false,false,false,false,false] #[true,true,true,false,false,true,false,false,false] rfl rfl rfl rfl (two_of HT_.out kr) dc dc (fun K hK=>?_) (fun K hK=>?_)
   ·skip
    refine goes_ Tryz.func80 kr rfl #[.agg #[.slice A0_0 l0_0.length c0_0]] (by rfl) rfl rfl am ?_
    with_reducible refine (spec_l01N.calls _ _ l0_0 al _ ?side1 ?side2 A4.out).mono ?_
    (case side1=>exact pc (Kd.C_below aw.out HB.out))
    (case side2=>exact ax.out)
    rintro e w10 ⟨rfl,hb⟩
    refine ⟨_,rfl,?_⟩
    have n0_:=rb ad hb;have n1_:=bb aa hb;have n2_:=hbs hb;clear ad aa HB;have ad:=n0_;have aa:=n1_;have HB:=n2_;clear n0_ n1_ n2_;(try clear hb);(try clear hb2);(try clear hk);(try clear hi)
    refine hK.out _ _ ((blk_cell aa.out 0).trans rfl) (fun hHeld=>?_)
    clear hK K
    refine norm_ (a':=?_) ?_ ?_
    rotate_left
    ·show Act.put _ (some 13) _=_;simp only [Act.put,sIB,sc0,scs,i64_w,i32_w]
     rfl
    refine pur (i:=6) (N:=some 5) (v:=?_) (a':=?_) #[true,true,true,true,false,false,true,false,false] rfl (Or.inl ⟨by rfl,?_⟩) ?_ ?_
    rotate_left
    ·intro w'
     go_simp
     with_reducible rfl
    rotate_left
    ·simp only [Act.put,sIB,sc0,scs,i64_w,i32_w]
     rfl
    refine two_ (i:=4) (j:=5) (Ni:=some 14) (Nj:=some 15) #[true,true,true,true,true,false,true,false,false] #[true,true,true,true,false,true,true,false,false] rfl rfl rfl rfl (two_of HT_.out kr) dc dc (fun K hK=>?_) (fun K hK=>?_)
    ·skip
     refine Kd.R_make_step Kd.bool _ 4 (by rfl) (N:=14) rfl 109 _ _ rfl al rfl rfl Tryz.underlying109 (.bool false) 1 info4 rfl dc (by omega) false (ok:=fun _=>True) (okp:=fun _=>True) rfl (fun _ hk=>hk) trivial (od q6_0) (Nat.le_trans (Nat.mul_le_mul_right _ (od q6_0:al.toNat≤281474976710656)) (by omega)) (Below.refl _ _) (Nat.le_refl _) ?_
     intro av w11 ho12 hb hg_ hnew_
     clear hg_ hnew_;(first|rw [← aA.out] at ho12|(simp only [Int.reduceToNat] at ho12;rw [← aA.out] at ho12));have n0_:=rb ad hb;have n1_:=lw ho12;have n2_:=bb aa hb;have n3_:=hbs hb;clear ad aa HB;have ad:=n0_;have ar:=n1_;have aa:=n2_;have HB:=n3_;clear n0_ n1_ n2_ n3_ hb ho12
     refine hK.out _ _ ((blk_cell aa.out 0).trans rfl) (fun hHeld=>?_)
     clear hK K
     refine norm_ (a':=?_) ?_ ?_
     rotate_left
     ·show Act.put _ (some 14) _=_;simp only [Act.put,sIB,sc0,scs,i64_w,i32_w]
      rfl
     refine pur (i:=7) (N:=some 6) (v:=?_) (a':=?_) #[true,true,true,true,true,false,true,true,false] rfl (Or.inl ⟨by rfl,?_⟩) ?_ ?_
     rotate_left
     ·intro w'
      go_simp
      with_reducible rfl
     rotate_left
     ·simp only [Act.put,sIB,sc0,scs,i64_w,i32_w]
      rfl
     refine one_ (i:=5) (N:=some 15) #[true,true,true,true,true,true,true,true,false] rfl rfl (one_of HT_.out kr) dc (fun K hK=>?_)
     refine Kd.R_lit_step (Kd.int .i64) _ 2 ?hg (N:=15) ?hd (xs:=([]:List Int)) (inner:=[]) (ok:=fun _=>True) (okp:=fun _=>True) ?hr ?hp (fun _ hk=>hk) trivial (Below.refl _ _) (Nat.le_refl _) (by simp) ?_;(case hd=>rfl);(case hg=>rfl);(case hr=>exact gs);(case hp=>exact (Reps.none _ _))
     intro au w13 ho14 hb hg_ hnew_
     clear hg_ hnew_;(first|rw [← aC.out] at ho14|(simp only [Int.reduceToNat] at ho14;rw [← aC.out] at ho14));have n0_:=rn ad ho14 hb;have n1_:=rb ar hb;have n2_:=lw (nw ho14 ad);have n3_:=bb aa hb;have n4_:=hbs hb;clear ad ar aa HB;have ad:=n0_;have ar:=n1_;have ah:=n2_;have aa:=n3_;have HB:=n4_;clear n0_ n1_ n2_ n3_ n4_ hb ho14
     refine hK.out _ _ ((blk_cell aa.out 0).trans rfl) (fun hHeld=>?_)
     clear hK K
     refine norm_ (a':=?_) ?_ ?_
     rotate_left
     ·show Act.put _ (some 15) _=_;simp only [Act.put,sIB,sc0,scs,i64_w,i32_w]
      rfl
     exact norm_ q6_1 (hCont (aq,av,au) _ ⟨hHeld,(pe (Kd.R_mono ad.out (fun _ hk=>hk.2))),(pe ar.out),(pe (Kd.R_mono ah.out (fun _ hk=>hk.2))),(pb aa.out),hq⟩)
    ·skip
     refine Kd.R_lit_step (Kd.int .i64) _ 2 ?hg (N:=15) ?hd (xs:=([]:List Int)) (inner:=[]) (ok:=fun _=>True) (okp:=fun _=>True) ?hr ?hp (fun _ hk=>hk) trivial (Below.refl _ _) (Nat.le_refl _) (by simp) ?_;(case hd=>rfl);(case hg=>rfl);(case hr=>exact gs);(case hp=>exact (Reps.none _ _))
     intro au w11 ho12 hb hg_ hnew_
     clear hg_ hnew_;(first|rw [← aC.out] at ho12|(simp only [Int.reduceToNat] at ho12;rw [← aC.out] at ho12));have n0_:=rn ad ho12 hb;have n1_:=lw (nw ho12 ad);have n2_:=bb aa hb;have n3_:=hbs hb;clear ad aa HB;have ad:=n0_;have ah:=n1_;have aa:=n2_;have HB:=n3_;clear n0_ n1_ n2_ n3_ hb ho12
     refine hK.out _ _ ((blk_cell aa.out 0).trans rfl) (fun hHeld=>?_)
     clear hK K
     refine norm_ (a':=?_) ?_ ?_
     rotate_left
     ·show Act.put _ (some 15) _=_;simp only [Act.put,sIB,sc0,scs,i64_w,i32_w]
      rfl
     refine one_ (i:=4) (N:=some 14) #[true,true,true,true,true,true,true,false,false] rfl rfl (one_of HT_.out kr) dc (fun K hK=>?_)
     refine Kd.R_make_step Kd.bool _ 4 (by rfl) (N:=14) rfl 109 _ _ rfl al rfl rfl Tryz.underlying109 (.bool false) 1 info4 rfl dc (by omega) false (ok:=fun _=>True) (okp:=fun _=>True) rfl (fun _ hk=>hk) trivial (od q6_0) (Nat.le_trans (Nat.mul_le_mul_right _ (od q6_0:al.toNat≤281474976710656)) (by omega)) (Below.refl _ _) (Nat.le_refl _) ?_
     intro av w13 ho14 hb hg_ hnew_
     clear hg_ hnew_;(first|rw [← aA.out] at ho14|(simp only [Int.reduceToNat] at ho14;rw [← aA.out] at ho14));have n0_:=rb ad hb;have n1_:=rb ah hb;have n2_:=lw ho14;have n3_:=bb aa hb;have n4_:=hbs hb;clear ad ah aa HB;have ad:=n0_;have ah:=n1_;have ar:=n2_;have aa:=n3_;have HB:=n4_;clear n0_ n1_ n2_ n3_ n4_ hb ho14
     refine hK.out _ _ ((blk_cell aa.out 0).trans rfl) (fun hHeld=>?_)
     clear hK K
     refine norm_ (a':=?_) ?_ ?_
     rotate_left
     ·show Act.put _ (some 14) _=_;simp only [Act.put,sIB,sc0,scs,i64_w,i32_w]
      rfl
     refine pur (i:=7) (N:=some 6) (v:=?_) (a':=?_) #[true,true,true,true,true,true,true,true,false] rfl (Or.inl ⟨by rfl,?_⟩) ?_ ?_
     rotate_left
     ·intro w'
      go_simp
      with_reducible rfl
     rotate_left
     ·simp only [Act.put,sIB,sc0,scs,i64_w,i32_w]
      rfl
     exact norm_ q6_1 (hCont (aq,av,au) _ ⟨hHeld,(pe (Kd.R_mono ad.out (fun _ hk=>hk.2))),(pe ar.out),(pe (Kd.R_mono ah.out (fun _ hk=>hk.2))),(pb aa.out),hq⟩)
   ·skip
    refine Kd.R_lit_step (Kd.int .i64) _ 2 ?hg (N:=15) ?hd (xs:=([]:List Int)) (inner:=[]) (ok:=fun _=>True) (okp:=fun _=>True) ?hr ?hp (fun _ hk=>hk) trivial (Below.refl _ _) (Nat.le_refl _) (by simp) ?_;(case hd=>rfl);(case hg=>rfl);(case hr=>exact gs);(case hp=>exact (Reps.none _ _))
    intro au w10 ho11 hb hg_ hnew_
    clear hg_ hnew_;(first|rw [← aC.out] at ho11|(simp only [Int.reduceToNat] at ho11;rw [← aC.out] at ho11));have n0_:=rn ad ho11 hb;have n1_:=lw (nw ho11 ad);have n2_:=bb aa hb;have n3_:=hbs hb;clear ad aa HB;have ad:=n0_;have ah:=n1_;have aa:=n2_;have HB:=n3_;clear n0_ n1_ n2_ n3_ hb ho11
    refine hK.out _ _ ((blk_cell aa.out 0).trans rfl) (fun hHeld=>?_)
    clear hK K
    refine norm_ (a':=?_) ?_ ?_
    rotate_left
    ·show Act.put _ (some 15) _=_;simp only [Act.put,sIB,sc0,scs,i64_w,i32_w]
     rfl
    refine one_ (i:=3) (N:=some 13) #[true,true,true,true,false,true,false,false,false] rfl rfl (one_of HT_.out kr) dc (fun K hK=>?_)
    refine goes_ Tryz.func80 kr rfl #[.agg #[.slice A0_0 l0_0.length c0_0]] (by rfl) rfl rfl am ?_
    with_reducible refine (spec_l01N.calls _ _ l0_0 al _ ?side1 ?side2 A4.out).mono ?_
    (case side1=>exact pc (Kd.C_below aw.out HB.out))
    (case side2=>exact ax.out)
    rintro e w12 ⟨rfl,hb⟩
    refine ⟨_,rfl,?_⟩
    have n0_:=rb ad hb;have n1_:=rb ah hb;have n2_:=bb aa hb;have n3_:=hbs hb;clear ad ah aa HB;have ad:=n0_;have ah:=n1_;have aa:=n2_;have HB:=n3_;clear n0_ n1_ n2_ n3_;(try clear hb);(try clear hb2);(try clear hk);(try clear hi)
    refine hK.out _ _ ((blk_cell aa.out 0).trans rfl) (fun hHeld=>?_)
    clear hK K
    refine norm_ (a':=?_) ?_ ?_
    rotate_left
    ·show Act.put _ (some 13) _=_;simp only [Act.put,sIB,sc0,scs,i64_w,i32_w]
     rfl
    refine pur (i:=6) (N:=some 5) (v:=?_) (a':=?_) #[true,true,true,true,false,true,true,false,false] rfl (Or.inl ⟨by rfl,?_⟩) ?_ ?_
    rotate_left
    ·intro w'
     go_simp
     with_reducible rfl
    rotate_left
    ·simp only [Act.put,sIB,sc0,scs,i64_w,i32_w]
     rfl
    refine one_ (i:=4) (N:=some 14) #[true,true,true,true,true,true,true,false,false] rfl rfl (one_of HT_.out kr) dc (fun K hK=>?_)
    refine Kd.R_make_step Kd.bool _ 4 (by rfl) (N:=14) rfl 109 _ _ rfl al rfl rfl Tryz.underlying109 (.bool false) 1 info4 rfl dc (by omega) false (ok:=fun _=>True) (okp:=fun _=>True) rfl (fun _ hk=>hk) trivial (od q6_0) (Nat.le_trans (Nat.mul_le_mul_right _ (od q6_0:al.toNat≤281474976710656)) (by omega)) (Below.refl _ _) (Nat.le_refl _) ?_
    intro av w13 ho14 hb hg_ hnew_
    clear hg_ hnew_;(first|rw [← aA.out] at ho14|(simp only [Int.reduceToNat] at ho14;rw [← aA.out] at ho14));have n0_:=rb ad hb;have n1_:=rb ah hb;have n2_:=lw ho14;have n3_:=bb aa hb;have n4_:=hbs hb;clear ad ah aa HB;have ad:=n0_;have ah:=n1_;have ar:=n2_;have aa:=n3_;have HB:=n4_;clear n0_ n1_ n2_ n3_ n4_ hb ho14
    refine hK.out _ _ ((blk_cell aa.out 0).trans rfl) (fun hHeld=>?_)
    clear hK K
    refine norm_ (a':=?_) ?_ ?_
    rotate_left
    ·show Act.put _ (some 14) _=_;simp only [Act.put,sIB,sc0,scs,i64_w,i32_w]
     rfl
    refine pur (i:=7) (N:=some 6) (v:=?_) (a':=?_) #[true,true,true,true,true,true,true,true,false] rfl (Or.inl ⟨by rfl,?_⟩) ?_ ?_
    rotate_left
    ·intro w'
     go_simp
     with_reducible rfl
    rotate_left
    ·simp only [Act.put,sIB,sc0,scs,i64_w,i32_w]
     rfl
    exact norm_ q6_1 (hCont (aq,av,au) _ ⟨hHeld,(pe (Kd.R_mono ad.out (fun _ hk=>hk.2))),(pe ar.out),(pe (Kd.R_mono ah.out (fun _ hk=>hk.2))),(pb aa.out),hq⟩)
  ·skip
   refine Kd.R_lit_step (Kd.int .i64) _ 2 ?hg (N:=15) ?hd (xs:=([]:List Int)) (inner:=[]) (ok:=fun _=>True) (okp:=fun _=>True) ?hr ?hp (fun _ hk=>hk) trivial (Below.refl _ _) (Nat.le_refl _) (by simp) ?_;(case hd=>rfl);(case hg=>rfl);(case hr=>exact gs);(case hp=>exact (Reps.none _ _))
   intro au w9 ho10 hb hg_ hnew_
   clear hg_ hnew_;(first|rw [← aC.out] at ho10|(simp only [Int.reduceToNat] at ho10;rw [← aC.out] at ho10));have n0_:=lw ho10;have n1_:=bb aa hb;have n2_:=hbs hb;clear aa HB;have ah:=n0_;have aa:=n1_;have HB:=n2_;clear n0_ n1_ n2_ hb ho10
   refine hK.out _ _ ((blk_cell aa.out 0).trans rfl) (fun hHeld=>?_)
   clear hK K
   refine norm_ (a':=?_) ?_ ?_
   rotate_left
   ·show Act.put _ (some 15) _=_;simp only [Act.put,sIB,sc0,scs,i64_w,i32_w]
    rfl
   refine one_ (i:=1) (N:=some 11) #[true,true,true,false,false,true,false,false,false] rfl rfl (one_of HT_.out kr) dc (fun K hK=>?_)
   refine goes_ Tryz.func79 kr rfl #[.agg #[.slice A0_0 l0_0.length c0_0]] (by rfl) rfl rfl am ?_
   with_reducible refine (spec_l01Parents.calls k _ _ l0_0 ac _ ?side1 ?side2 A3.out).mono ?_
   (case side1=>exact pc (Kd.C_below aw.out HB.out))
   (case side2=>exact ax.out)
   rintro e w11 ⟨aq,rfl,ho0,hb⟩
   refine ⟨_,rfl,?_⟩
   have n0_:=rn ah ho0 hb;have n1_:=lw (nw ho0 ah);have n2_:=bb aa hb;have n3_:=hbs hb;clear ah aa HB;have ah:=n0_;have ad:=n1_;have aa:=n2_;have HB:=n3_;clear n0_ n1_ n2_ n3_;(try clear hb);(try clear hb2);(try clear hk);(try clear hi);(try clear ho0)
   refine hK.out _ _ ((blk_cell aa.out 0).trans rfl) (fun hHeld=>?_)
   clear hK K
   refine norm_ (a':=?_) ?_ ?_
   rotate_left
   ·show Act.put _ (some 11) _=_;simp only [Act.put,sIB,sc0,scs,i64_w,i32_w]
    rfl
   refine one_ (i:=3) (N:=some 13) #[true,true,true,true,false,true,false,false,false] rfl rfl (one_of HT_.out kr) dc (fun K hK=>?_)
   refine goes_ Tryz.func80 kr rfl #[.agg #[.slice A0_0 l0_0.length c0_0]] (by rfl) rfl rfl am ?_
   with_reducible refine (spec_l01N.calls _ _ l0_0 al _ ?side1 ?side2 A4.out).mono ?_
   (case side1=>exact pc (Kd.C_below aw.out HB.out))
   (case side2=>exact ax.out)
   rintro e w12 ⟨rfl,hb⟩
   refine ⟨_,rfl,?_⟩
   have n0_:=rb ah hb;have n1_:=rb ad hb;have n2_:=bb aa hb;have n3_:=hbs hb;clear ah ad aa HB;have ah:=n0_;have ad:=n1_;have aa:=n2_;have HB:=n3_;clear n0_ n1_ n2_ n3_;(try clear hb);(try clear hb2);(try clear hk);(try clear hi)
   refine hK.out _ _ ((blk_cell aa.out 0).trans rfl) (fun hHeld=>?_)
   clear hK K
   refine norm_ (a':=?_) ?_ ?_
   rotate_left
   ·show Act.put _ (some 13) _=_;simp only [Act.put,sIB,sc0,scs,i64_w,i32_w]
    rfl
   refine pur (i:=6) (N:=some 5) (v:=?_) (a':=?_) #[true,true,true,true,false,true,true,false,false] rfl (Or.inl ⟨by rfl,?_⟩) ?_ ?_
   rotate_left
   ·intro w'
    go_simp
    with_reducible rfl
   rotate_left
   ·simp only [Act.put,sIB,sc0,scs,i64_w,i32_w]
    rfl
   refine one_ (i:=4) (N:=some 14) #[true,true,true,true,true,true,true,false,false] rfl rfl (one_of HT_.out kr) dc (fun K hK=>?_)
   refine Kd.R_make_step Kd.bool _ 4 (by rfl) (N:=14) rfl 109 _ _ rfl al rfl rfl Tryz.underlying109 (.bool false) 1 info4 rfl dc (by omega) false (ok:=fun _=>True) (okp:=fun _=>True) rfl (fun _ hk=>hk) trivial (od q6_0) (Nat.le_trans (Nat.mul_le_mul_right _ (od q6_0:al.toNat≤281474976710656)) (by omega)) (Below.refl _ _) (Nat.le_refl _) ?_
   intro av w13 ho14 hb hg_ hnew_
   clear hg_ hnew_;(first|rw [← aA.out] at ho14|(simp only [Int.reduceToNat] at ho14;rw [← aA.out] at ho14));have n0_:=rb ah hb;have n1_:=rb ad hb;have n2_:=lw ho14;have n3_:=bb aa hb;have n4_:=hbs hb;clear ah ad aa HB;have ah:=n0_;have ad:=n1_;have ar:=n2_;have aa:=n3_;have HB:=n4_;clear n0_ n1_ n2_ n3_ n4_ hb ho14
   refine hK.out _ _ ((blk_cell aa.out 0).trans rfl) (fun hHeld=>?_)
   clear hK K
   refine norm_ (a':=?_) ?_ ?_
   rotate_left
   ·show Act.put _ (some 14) _=_;simp only [Act.put,sIB,sc0,scs,i64_w,i32_w]
    rfl
   refine pur (i:=7) (N:=some 6) (v:=?_) (a':=?_) #[true,true,true,true,true,true,true,true,false] rfl (Or.inl ⟨by rfl,?_⟩) ?_ ?_
   rotate_left
   ·intro w'
    go_simp
    with_reducible rfl
   rotate_left
   ·simp only [Act.put,sIB,sc0,scs,i64_w,i32_w]
    rfl
   exact norm_ q6_1 (hCont (aq,av,au) _ ⟨hHeld,(pe (Kd.R_mono ad.out (fun _ hk=>hk.2))),(pe ar.out),(pe (Kd.R_mono ah.out (fun _ hk=>hk.2))),(pb aa.out),hq⟩)
 rintro ⟨aq,av,au⟩ w15 ⟨hS_,h0_,h1_,h2_,h3_,h4_⟩
 have n0_:Aside0 (Kd.R (Kd.int .i64) 2 w15 w.heap.size (fun k_=>some k_≠(au:Value).ownBlock) aq ac):=⟨h0_⟩;have n1_:Aside0 (Kd.R Kd.bool 4 w15 w.heap.size (fun _=>True) av aN):=⟨h1_⟩;have n2_:Aside0 (Kd.R (Kd.int .i64) 2 w15 w.heap.size (fun k_=>some k_≠(aq:Value).ownBlock) au aD):=⟨h2_⟩;have n3_:Aside0 (w15.heap[ay]?=some (.cells #[.slice A0_0 l0_0.length c0_0] 27 (0,0))):=⟨h3_⟩;have n4_:Aside0 (Below w.heap.size w w15):=⟨h4_⟩;clear aa HB h0_ h1_ h2_ h3_ h4_;have ad:=n0_;have ar:=n1_;have ah:=n2_;have aa:=n3_;have HB:=n4_;clear n0_ n1_ n2_ n3_ n4_;have hHeld:w15.cell? ⟨ay,0,none⟩=some (.slice A0_0 l0_0.length c0_0):=hS_
 refine norm_ (a':=?_) ?_ ?_
 rotate_left
 ·simp only [putAll,Act.put,List.setIfInBounds_toArray,List.set_cons_zero,List.set_cons_succ]
  rfl
 refine pur (i:=8) (N:=some 7) (v:=?_) (a':=?_) #[true,true,true,true,true,true,true,true,true] rfl (Or.inl ⟨by rfl,?_⟩) ?_ ?_
 rotate_left
 ·intro w'
  go_simp
  with_reducible rfl
 rotate_left
 ·simp only [Act.put,sIB,sc0,scs,i64_w,i32_w]
  rfl
 refine done_ (done_of HT_.out kr) ?_
 try go_wp2
 go_loopg [8] k (fun kq v8 w'=>∃ (af:List Bool) (an:Int),v8=.int .i64 an∧Aside0 (spec_l09Next.l0 kq l1 ac af aD an l0_0=some r)∧Aside0 (kq≤k)∧Aside0 (Kd.R (Kd.int .i64) 2 w' w.heap.size (fun k_=>some k_≠(au:Value).ownBlock) aq ac)∧Aside0 (Kd.R Kd.bool 4 w' w.heap.size (fun _=>True) av af)∧Aside0 (Kd.R (Kd.int .i64) 2 w' w.heap.size (fun k_=>some k_≠(aq:Value).ownBlock) au aD)∧Aside0 (w'.heap[ay]?=some (.cells #[(.slice A0_0 l0_0.length c0_0)] 27 (0,0)))∧Aside0 (Below w.heap.size w w'))
 case atStart=>exact ⟨(aN),(0),q6_2,H',⟨Nat.le_refl _⟩,⟨pe ad.out⟩,⟨pe ar.out⟩,⟨pe ah.out⟩,⟨pb aa.out⟩,⟨hq⟩⟩
 case round =>
  clear H';obtain ⟨af,an,rfl,HA,HK1,ag,ae,aj,aa,HB⟩:=hrel
  cases gk with|zero=>exact absurd HA.out (by simp [spec_l09Next.l0])|succ k1=>?_
  have H:=HA.out;clear HA;simp only [spec_l09Next.l0] at H
  by_cases c16:an<(l1.length:Int)
  ·rw [if_pos c16] at H;have bj:=dt c16;clear c16;replace H:=ifs H;obtain ⟨c17,H⟩:=H;have bN:=dt c17;clear c17;replace H:=ifs H;obtain ⟨c18,H⟩:=H;have bO:=dt c18;clear c18;replace H:=ifs H;obtain ⟨c19,H⟩:=H;have bP:=dt c19;clear c19;obtain ⟨aV,hY⟩:∃ y_:List Bool,y_=(af.set ((rd l1 an):Int).toNat true):=⟨_,rfl⟩;replace H:(spec_l09Next.l0 k1 l1 ac aV aD (wrap64 (an+1)) l0_0)=some r:=hh;have bk:=ak hY;clear hY;have H':=ak H;clear H;have aW:0≤(an:Int):=od q6_0;have aX:an<(l1.length:Int):=od q6_0;obtain ⟨bQ,bl,aY⟩:=Kd.at_int HR1.out an aW aX;cases bl;replace aY:=(HB.out.cell (World.block_lt_of_cell? w _ aY)).trans aY;replace aW:=eq_true aW;replace aX:=eq_true aX;have p20:0≤((rd l1 an):Int):=od q6_0;have q20:((rd l1 an):Int)<((af.length:Int):Int):=od q6_0;obtain ⟨aQ,aZ,a8,a9,gl20,cl20,ba⟩:=Kd.R_form ae.out (by omega);(first|cases a8|(injection a8 with ea_ en_ ec_;(first|subst ea_|(injection ea_ with ea_;subst ea_));subst ec_;clear en_));have GB20:=ak a9;have bR:=ak ba;clear a9 gl20 ba;obtain ⟨bS,bT⟩:=Kd.R_celln false ae.out ((rd l1 an):Int) p20 q20;replace p20:=eq_true p20;replace q20:=eq_true q20;have a2:=Kd.R_putg ae.out ((rd l1 an):Int) true
   go_wp2_with (first|((with_reducible refine gate_store (t:=4) (p:=27) rfl ?_);refine store_event (t:=4) (p:=27) (v:=?vo_w22) (w1:=(wr.setCell ⟨aQ,((rd l1 an):Int).toNat,none⟩ (.bool true))) ?hg ?ho ?hn ?hr ?_;(case ho=>rfl);(case hg=>rfl);(case hn=>rfl);(case hr=>exact gs);intro w22 hw;have hg:wr.grownBy w22 (some aQ):=(by rw [hw];exact a2.2);have hp_:Kd.R Kd.bool 4 w22 w.heap.size (fun _=>True) (.slice (some ⟨aQ,0,none⟩) af.length aZ) aV:=(by rw [hw,bk.out];exact a2.1);clear a2;replace ag:=ak (Kd.R_over' (v:=(.slice (some ⟨aQ,0,none⟩) af.length aZ)) (pe ag.out) (Kd.R_typed ae.out) dc hg);replace aj:=ak (Kd.R_over' (v:=(.slice (some ⟨aQ,0,none⟩) af.length aZ)) (pe aj.out) (Kd.R_typed ae.out) dc hg);replace aa:=ak (blk_grown (g:=ay) (o:=.cells #[.slice A0_0 l0_0.length c0_0] 27 (0,0)) (pb aa.out) hg (Kd.R_ne ae.out aa.out dc));replace ae:=ak (hp_);replace HB:=ak (by rw [hw];exact below_set (HB.out) GB20.out:Below w.heap.size w w22);clear hg hw hp_))
   go_roundg k1
   case measure=>have:=HK1.out;omega
   case rel=>exact ⟨(aV),(wrap64 (an+1)),q6_2,H',⟨by have:=HK1.out;omega⟩,⟨pe ag.out⟩,⟨pe ae.out⟩,⟨pe aj.out⟩,⟨pb aa.out⟩,⟨hq⟩⟩
  rw [if_neg c16] at H;have bj:=df c16;clear c16;have H':=ak H;clear H;go_wp2
  go_loopg [7,9] k1 (fun kq v7 v9 w'=>∃ (ai:List Int) (ab:Int),v9=.int .i64 ab∧Aside0 (spec_l09Next.l1 kq ac af ai ab l0_0=some r)∧Aside0 (kq≤k1)∧Aside0 (Kd.R (Kd.int .i64) 2 w' w.heap.size (fun k_=>some k_≠(v7:Value).ownBlock) aq ac)∧Aside0 (Kd.R Kd.bool 4 w' w.heap.size (fun _=>True) av af)∧Aside0 (Kd.R (Kd.int .i64) 2 w' w.heap.size (fun k_=>some k_≠(aq:Value).ownBlock) v7 ai)∧Aside0 (w'.heap[ay]?=some (.cells #[(.slice A0_0 l0_0.length c0_0)] 27 (0,0)))∧Aside0 (Below w.heap.size w w'))
  case atStart=>exact ⟨(aD),(0),q6_2,H',⟨Nat.le_refl _⟩,⟨pe ag.out⟩,⟨pe ae.out⟩,⟨pe aj.out⟩,⟨pb aa.out⟩,⟨hq⟩⟩
  case round =>
   clear H';obtain ⟨ai,ab,rfl,HA,HK2,ag,ae,aj,aa,HB⟩:=hrel
   cases gk with|zero=>exact absurd HA.out (by simp [spec_l09Next.l1])|succ k2=>?_
   have H:=HA.out;clear HA;simp only [spec_l09Next.l1] at H;replace H:=bs H;obtain ⟨aK,A23,H⟩:=H;(try dsimp only at H);obtain c24|c24:=nem (ab<aK)
   ·rw [if_neg c24] at H;have bm:=df c24;clear c24;obtain rfl:=Option.some.inj H;have bU:=bc aa.out;have bV:=blk_frozen aa.out 0
    go_wp2_with (first|((with_reducible refine gate_callee (f:=80) rfl ?_);refine gl (some 30) Tryz.func80 #[.agg #[.slice A0_0 l0_0.length c0_0]] ?_;(with_reducible refine (spec_l01N.calls _ _ l0_0 aK _ (pc (Kd.C_below aw.out HB.out)) ax.out A23.out).mono ?_);rintro e w54 ⟨rfl,hb⟩;refine ⟨_,rfl,?_⟩;replace ag:=rb ag hb;replace ae:=rb ae hb;replace aj:=rb aj hb;replace aa:=bb aa hb;replace HB:=hbs hb;(try clear hb)))
    go_ret
    exact ⟨_,ew,pe (Kd.R_mono aj.out (fun _ hk=>trivial)),hq⟩
   rw [if_pos c24] at H;have bm:=dt c24;clear c24;replace H:=ifs H;obtain ⟨c25,H⟩:=H;have bW:=dt c25;clear c25;replace H:=ifs H;obtain ⟨c26,H⟩:=H;have bX:=dt c26;clear c26;obtain ⟨bd,a3⟩:∃ b_:Bool,b_=(rdOf false af ab):=⟨_,rfl⟩;replace H:(if bd=true then (spec_l09Next.l1 k2 ac af ai (wrap64 (ab+1)) l0_0) else (if ab=0 then (if ai.length<17592186044416 then (spec_l09Next.l1 k2 ac af (ai++[ab]) (wrap64 (ab+1)) l0_0) else (none)) else (if ab<(ac.length:Int) then (if 0≤(rd ac ab) then (if (rd ac ab)<(af.length:Int) then (if rdOf false af (rd ac ab)=true then (if ai.length<17592186044416 then (spec_l09Next.l1 k2 ac af (ai++[ab]) (wrap64 (ab+1)) l0_0) else (none)) else (spec_l09Next.l1 k2 ac af ai (wrap64 (ab+1)) l0_0)) else (none)) else (none)) else (none))))=some r:=by rw [← a3] at H;exact H
   have aM:=ak a3;clear a3
   by_cases c28:bd=true
   ·subst c28;replace H:(spec_l09Next.l1 k2 ac af ai (wrap64 (ab+1)) l0_0)=some r:=by rw [if_pos rfl] at H;exact H
    have H':=ak H;clear H;have bY:=bc aa.out;have bZ:=blk_frozen aa.out 0
    go_wp2_with (first|((with_reducible refine gate_callee (f:=80) rfl ?_);refine gl (some 30) Tryz.func80 #[.agg #[.slice A0_0 l0_0.length c0_0]] ?_;(with_reducible refine (spec_l01N.calls _ _ l0_0 aK _ (pc (Kd.C_below aw.out HB.out)) ax.out A23.out).mono ?_);rintro e w30 ⟨rfl,hb⟩;refine ⟨_,rfl,?_⟩;replace ag:=rb ag hb;replace ae:=rb ae hb;replace aj:=rb aj hb;replace aa:=bb aa hb;replace HB:=hbs hb;(try clear hb);(try clear hb2);(try clear hk);(try clear hi);obtain ⟨b0,b1,bo⟩:=Kd.R_slice ae.out;subst bo;have ao:0≤(ab:Int):=od q6_0;have ap:ab<(af.length:Int):=od q6_0;obtain ⟨aR,aE,az⟩:=Kd.at_bool (Kd.R_reads' ae.out).2.2 ab ao ap;(try rw [← aM.out] at az);cases aE;replace ao:=eq_true ao;replace ap:=eq_true ap))
    go_roundg k2
    case measure=>have:=HK1.out;have:=HK2.out;omega
    case rel=>exact ⟨(ai),(wrap64 (ab+1)),q6_2,H',⟨q6_3⟩,⟨pe ag.out⟩,⟨pe ae.out⟩,⟨pe aj.out⟩,⟨pb aa.out⟩,⟨hq⟩⟩
   replace c28:=Bool.eq_false_iff.mpr c28;subst c28;have H1:(if ab=0 then (if ai.length<17592186044416 then (spec_l09Next.l1 k2 ac af (ai++[ab]) (wrap64 (ab+1)) l0_0) else (none)) else (if ab<(ac.length:Int) then (if 0≤(rd ac ab) then (if (rd ac ab)<(af.length:Int) then (if rdOf false af (rd ac ab)=true then (if ai.length<17592186044416 then (spec_l09Next.l1 k2 ac af (ai++[ab]) (wrap64 (ab+1)) l0_0) else (none)) else (spec_l09Next.l1 k2 ac af ai (wrap64 (ab+1)) l0_0)) else (none)) else (none)) else (none)))=some r:=by rw [if_neg (show ¬ (false=true) by decide)] at H;exact H
   clear H;have H:=H1;clear H1
   by_cases c32:ab=0
   ·rw [if_pos c32] at H;have bp:=be c32;have bq:=bn c32;clear c32;replace H:=ifs H;obtain ⟨c33,H⟩:=H;have br:=ak c33;clear c33;obtain ⟨bf,hY⟩:∃ y_:List Int,y_=(ai++[ab]):=⟨_,rfl⟩;replace H:(spec_l09Next.l1 k2 ac af bf (wrap64 (ab+1)) l0_0)=some r:=hh;have bu:=ak hY;clear hY;have H':=ak H;clear H;have b2:=bc aa.out;have b3:=blk_frozen aa.out 0
    go_wp2_with (first|((with_reducible refine gate_callee (f:=80) rfl ?_);refine gl (some 30) Tryz.func80 #[.agg #[.slice A0_0 l0_0.length c0_0]] ?_;(with_reducible refine (spec_l01N.calls _ _ l0_0 aK _ (pc (Kd.C_below aw.out HB.out)) ax.out A23.out).mono ?_);rintro e w35 ⟨rfl,hb⟩;refine ⟨_,rfl,?_⟩;replace ag:=rb ag hb;replace ae:=rb ae hb;replace aj:=rb aj hb;replace aa:=bb aa hb;replace HB:=hbs hb;(try clear hb);(try clear hb2);(try clear hk);(try clear hi);obtain ⟨b4,b5,bv⟩:=Kd.R_slice ae.out;subst bv;have ao:0≤(ab:Int):=od q6_0;have ap:ab<(af.length:Int):=od q6_0;obtain ⟨aR,aE,az⟩:=Kd.at_bool (Kd.R_reads' ae.out).2.2 ab ao ap;(try rw [← aM.out] at az);cases aE;replace ao:=eq_true ao;replace ap:=eq_true ap)|((with_reducible refine gate_builtin (b:=.append) (xs:=#[.tmp 52,.tmp 54]) rfl ?_);at_builtin;refine Kd.R_append (Kd.int .i64) (w0:=w) w.heap.size rfl (.tmp 52) (.tmp 54) 24 2 (.int .i64 0) 8 rfl Tryz.underlying24 info2 rfl dc (by omega) u7 ai ab [.int .i64 ab] (fun k_=>some k_≠(aq:Value).ownBlock) (fun _=>False) rfl rfl ?aP (fun _ hk=>hk.elim) ?aF ?aO ?aB ?aS ?aL ?_;(case aP=>exact rfl);(case aB=>exact hq);(case aF=>exact (fun k_ hk=>Kd.fresh' (Kd.R_lt (pe ag.out)) k_ hk));(case aO=>exact (pe aj.out));(case aS=>exact (below_size hq));(case aL=>have:=br.out;omega);intro b6 w37 ho hb hg hat;rw [← bu.out] at ho;replace ag:=ak (Kd.R_after (ok:=(fun _=>True)) (pe (Kd.R_mono ag.out (fun _ hk=>⟨trivial,hk⟩))) hg hat);replace ae:=ak (Kd.R_over' (pe ae.out) (Kd.R_typed (pe aj.out)) dc hg);replace aa:=ak (blk_grown (g:=ay) (o:=.cells #[.slice A0_0 l0_0.length c0_0] 27 (0,0)) (pb aa.out) hg (Kd.R_ne aj.out aa.out dc));replace HB:=ak (hb);have bw:=ak (ho);clear aj;clear ho hb hg hat))
    go_roundg k2
    case measure=>have:=HK1.out;have:=HK2.out;omega
    case rel=>exact ⟨(bf),(wrap64 (ab+1)),q6_2,H',⟨q6_3⟩,⟨pe (Kd.R_mono ag.out (fun _ hk=>hk.2))⟩,⟨pe ae.out⟩,⟨pe bw.out⟩,⟨pb aa.out⟩,⟨hq⟩⟩
   rw [if_neg c32] at H;have bp:(ab == 0)=false:=beq_eq_false_iff_ne.mpr c32;have bq:(ab != 0)=true:=bne_iff_ne.mpr c32;replace H:=ifs H;obtain ⟨c38,H⟩:=H;have b7:=dt c38;clear c38;replace H:=ifs H;obtain ⟨c39,H⟩:=H;have b8:=dt c39;clear c39;replace H:=ifs H;obtain ⟨c40,H⟩:=H;have b9:=dt c40;clear c40;obtain ⟨bg,a4⟩:∃ b_:Bool,b_=(rdOf false af (rd ac ab)):=⟨_,rfl⟩;replace H:(if bg=true then (if ai.length<17592186044416 then (spec_l09Next.l1 k2 ac af (ai++[ab]) (wrap64 (ab+1)) l0_0) else (none)) else (spec_l09Next.l1 k2 ac af ai (wrap64 (ab+1)) l0_0))=some r:=by rw [← a4] at H;exact H
   have aU:=ak a4;clear a4;obtain c42|c42:=nem (bg=true)
   ·replace c42:=Bool.eq_false_iff.mpr c42;subst c42;have H1:(spec_l09Next.l1 k2 ac af ai (wrap64 (ab+1)) l0_0)=some r:=by rw [if_neg (show ¬ (false=true) by decide)] at H;exact H
    clear H;have H:=H1;clear H1;have H':=ak H;clear H;have ca:=bc aa.out;have cb:=blk_frozen aa.out 0
    go_wp2_with (first|((with_reducible refine gate_callee (f:=80) rfl ?_);refine gl (some 30) Tryz.func80 #[.agg #[.slice A0_0 l0_0.length c0_0]] ?_;(with_reducible refine (spec_l01N.calls _ _ l0_0 aK _ (pc (Kd.C_below aw.out HB.out)) ax.out A23.out).mono ?_);rintro e w50 ⟨rfl,hb⟩;refine ⟨_,rfl,?_⟩;replace ag:=rb ag hb;replace ae:=rb ae hb;replace aj:=rb aj hb;replace aa:=bb aa hb;replace HB:=hbs hb;(try clear hb);(try clear hb2);(try clear hk);(try clear hi);obtain ⟨cc,cd,bx⟩:=Kd.R_slice ae.out;subst bx;have ao:0≤(ab:Int):=od q6_0;have ap:ab<(af.length:Int):=od q6_0;obtain ⟨aR,aE,az⟩:=Kd.at_bool (Kd.R_reads' ae.out).2.2 ab ao ap;(try rw [← aM.out] at az);(try rw [← aU.out] at az);cases aE;replace ao:=eq_true ao;replace ap:=eq_true ap;obtain ⟨ce,cf,bz⟩:=Kd.R_slice ag.out;subst bz;have aG:0≤(ab:Int):=od q6_0;have aH:ab<(ac.length:Int):=od q6_0;obtain ⟨bh,a5,bA⟩:=Kd.at_int (Kd.R_reads' ag.out).2.2 ab aG aH;cases a5;replace aG:=eq_true aG;replace aH:=eq_true aH;have aI:0≤((rd ac ab):Int):=od q6_0;have aJ:(rd ac ab)<(af.length:Int):=od q6_0;obtain ⟨a6,a7,aT⟩:=Kd.at_bool (Kd.R_reads' ae.out).2.2 (rd ac ab) aI aJ;(try rw [← aM.out] at aT);(try rw [← aU.out] at aT);obtain rfl:aR=a6:=(by injection a7);replace aI:=eq_true aI;replace aJ:=eq_true aJ))
    go_roundg k2
    case measure=>have:=HK1.out;have:=HK2.out;omega
    case rel=>exact ⟨(ai),(wrap64 (ab+1)),q6_2,H',⟨q6_3⟩,⟨pe ag.out⟩,⟨pe ae.out⟩,⟨pe aj.out⟩,⟨pb aa.out⟩,⟨hq⟩⟩
   subst c42;replace H:(if ai.length<17592186044416 then (spec_l09Next.l1 k2 ac af (ai++[ab]) (wrap64 (ab+1)) l0_0) else (none))=some r:=by rw [if_pos rfl] at H;exact H
   replace H:=ifs H;obtain ⟨c43,H⟩:=H;have bB:=ak c43;clear c43;obtain ⟨bi,hY⟩:∃ y_:List Int,y_=(ai++[ab]):=⟨_,rfl⟩;replace H:(spec_l09Next.l1 k2 ac af bi (wrap64 (ab+1)) l0_0)=some r:=hh;have bC:=ak hY;clear hY;have H':=ak H;clear H;have cg:=bc aa.out;have ch:=blk_frozen aa.out 0
   go_wp2_with (first|((with_reducible refine gate_callee (f:=80) rfl ?_);refine gl (some 30) Tryz.func80 #[.agg #[.slice A0_0 l0_0.length c0_0]] ?_;(with_reducible refine (spec_l01N.calls _ _ l0_0 aK _ (pc (Kd.C_below aw.out HB.out)) ax.out A23.out).mono ?_);rintro e w45 ⟨rfl,hb⟩;refine ⟨_,rfl,?_⟩;replace ag:=rb ag hb;replace ae:=rb ae hb;replace aj:=rb aj hb;replace aa:=bb aa hb;replace HB:=hbs hb;(try clear hb);(try clear hb2);(try clear hk);(try clear hi);obtain ⟨ci,cj,bD⟩:=Kd.R_slice ae.out;subst bD;have ao:0≤(ab:Int):=od q6_0;have ap:ab<(af.length:Int):=od q6_0;obtain ⟨aR,aE,az⟩:=Kd.at_bool (Kd.R_reads' ae.out).2.2 ab ao ap;(try rw [← aM.out] at az);(try rw [← aU.out] at az);cases aE;replace ao:=eq_true ao;replace ap:=eq_true ap;obtain ⟨ck,bE,bF⟩:=Kd.R_slice ag.out;subst bF;have aG:0≤(ab:Int):=od q6_0;have aH:ab<(ac.length:Int):=od q6_0;obtain ⟨bh,a5,bA⟩:=Kd.at_int (Kd.R_reads' ag.out).2.2 ab aG aH;cases a5;replace aG:=eq_true aG;replace aH:=eq_true aH;have aI:0≤((rd ac ab):Int):=od q6_0;have aJ:(rd ac ab)<(af.length:Int):=od q6_0;obtain ⟨a6,a7,aT⟩:=Kd.at_bool (Kd.R_reads' ae.out).2.2 (rd ac ab) aI aJ;(try rw [← aM.out] at aT);(try rw [← aU.out] at aT);obtain rfl:aR=a6:=(by injection a7);replace aI:=eq_true aI;replace aJ:=eq_true aJ)|((with_reducible refine gate_builtin (b:=.append) (xs:=#[.tmp 52,.tmp 54]) rfl ?_);at_builtin;refine Kd.R_append (Kd.int .i64) (w0:=w) w.heap.size rfl (.tmp 52) (.tmp 54) 24 2 (.int .i64 0) 8 rfl Tryz.underlying24 info2 rfl dc (by omega) u7 ai ab [.int .i64 ab] (fun k_=>some k_≠(.slice (some bh) ac.length bE:Value).ownBlock) (fun _=>False) rfl rfl ?aP (fun _ hk=>hk.elim) ?aF ?aO ?aB ?aS ?aL ?_;(case aP=>exact rfl);(case aB=>exact hq);(case aF=>exact (fun k_ hk=>Kd.fresh' (Kd.R_lt (pe ag.out)) k_ hk));(case aO=>exact (pe aj.out));(case aS=>exact (below_size hq));(case aL=>have:=bB.out;omega);intro cl w48 ho hb hg hat;rw [← bC.out] at ho;replace ag:=ak (Kd.R_after (ok:=(fun _=>True)) (pe (Kd.R_mono ag.out (fun _ hk=>⟨trivial,hk⟩))) hg hat);replace ae:=ak (Kd.R_over' (pe ae.out) (Kd.R_typed (pe aj.out)) dc hg);replace aa:=ak (blk_grown (g:=ay) (o:=.cells #[.slice A0_0 l0_0.length c0_0] 27 (0,0)) (pb aa.out) hg (Kd.R_ne aj.out aa.out dc));replace HB:=ak (hb);have bG:=ak (ho);clear aj;clear ho hb hg hat))
   go_roundg k2
   case measure=>have:=HK1.out;have:=HK2.out;omega
   case rel=>exact ⟨(bi),(wrap64 (ab+1)),q6_2,H',⟨q6_3⟩,⟨pe (Kd.R_mono ag.out (fun _ hk=>hk.2))⟩,⟨pe ae.out⟩,⟨pe bG.out⟩,⟨pb aa.out⟩,⟨hq⟩⟩
end Go.Proofs.YtlppkilencpmeaaGreat.QFnGrowing
