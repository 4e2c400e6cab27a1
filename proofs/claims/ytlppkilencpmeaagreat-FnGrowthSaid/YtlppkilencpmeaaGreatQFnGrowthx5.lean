/- Functions as Lean functions, with their contracts: written by a program of this claim over the translation; some contracts are proved by hand. -/
import Derived.Test.YtlppkilencpmeaaGreatQFnGrowthx0
import Derived.Test.YtlppkilencpmeaaGreatQFnGrowthx4
namespace Go.Proofs.YtlppkilencpmeaaGreat.QFnGrowth
open Go.RowKit Go.Proofs.YtlppkilencpmeaaGreat.Gl Go.Proofs.YtlppkilencpmeaaGreat.Sz Go.Proofs.YtlppkilencpmeaaGreatW.PrintWords Go.Proofs.YtlppkilencpmeaaGreatW.PrintLast Go.Proofs.YtlppkilencpmeaaGreatW.PrintMore
attribute [local go_sem] max2_int min2_int max_two min_two max_three min_three max_four min_four   -- for this text's walks alone
set_option linter.unusedVariables false
set_option linter.unusedSimpArgs false
theorem q5_0 {P:Prop} (h:P:=by first|(with_reducible assumption)|assumption):P:=h
theorem q5_1 {P:Prop} (h:P:=by first|rfl|(simp;done)|(simp [*];done)):P:=h
theorem q5_2 {P:Prop} (h:P:=by repeat (first|exact Drawn0.refl _|apply Drawn0.step)):P:=h
set_option maxHeartbeats 8000000
set_option maxRecDepth 100000
def impl_kidsOf.l0:Nat→List Int→List Int→Int→Int→Int→Option (List Int)
 | 0,_,_,_,_,_=>none
 | k+1,x0,x5,x6,x13,x14=>if x14<x13 then (if x5.length<17592186044416 then ((impl_endOf.f k x0 x6).bind fun t208=>(impl_kidsOf.l0 k x0 (x5++[x6]) t208 x13 (wrap64 (x14+1)))) else (none)) else (some x5)
def impl_kidsOf.f (k:Nat) (l0:List Int) (a1:Int):Option (List Int):=if 0≤a1 then (if a1<(l0.length:Int) then (impl_kidsOf.l0 k l0 ([]:List Int) (wrap64 (a1+1)) (rd l0 a1) 0) else (none)) else (none)
theorem impl_kidsOf.calls (k:Nat) (A0:Option Addr) (c0:Nat) (l0:List Int) (a1:Int) (r:List Int) (w:World) (hr0:Kd.C (Kd.int .i64) w A0 l0.length l0) (hc0:l0.length≤c0) (h:impl_kidsOf.f k l0 a1=some r) :
  Calls Tryz.prog 103 #[.slice A0 l0.length c0,.int .i64 a1] w fun e w'=>∃ v0_:Value,e=.returned (v0_)∧Kd.R (Kd.int .i64) 2 w' w.heap.size (fun _=>True) v0_ r∧Below w.heap.size w w':=by
 have HR0:=ak hr0;have HC0:=ak hc0;clear hr0 hc0;have HB:=ak (Below.refl w.heap.size w);have H:(if 0≤a1 then (if a1<(l0.length:Int) then (impl_kidsOf.l0 k l0 ([]:List Int) (wrap64 (a1+1)) (rd l0 a1) 0) else (none)) else (none))=some r:=h;clear h;obtain ⟨bj,hY⟩:∃ y_:List Int,y_=([]:List Int):=⟨_,rfl⟩;replace H:(if 0≤a1 then (if a1<(l0.length:Int) then (impl_kidsOf.l0 k l0 bj (wrap64 (a1+1)) (rd l0 a1) 0) else (none)) else (none))=some r:=hh;have bk:=ak hY;clear hY;replace H:=ifs H;obtain ⟨c3,H⟩:=H;have b1:=dt c3;clear c3;replace H:=ifs H;obtain ⟨c4,H⟩:=H;have aM:=dt c4;clear c4;have H':=ak H;clear H
 go_enter Tryz.func103,Tryz.ntmps103
 go_wp2_with (first|((with_reducible refine gate_dst (N:=7) rfl ?_);refine Kd.R_lit (Kd.int .i64) _ 2 ?hg (N:=7) ?hd (xs:=([]:List Int)) (inner:=[]) (ok:=fun _=>True) (okp:=fun _=>True) ?hr ?hp (fun _ hk=>hk) trivial (Below.refl _ _) (Nat.le_refl _) (by simp) ?_;(case hd=>rfl);(case hg=>rfl);(case hr=>exact gs);(case hp=>exact (Reps.none _ _));intro b2 w5 ho6 hb hg_ hnew_;clear hg_ hnew_;(first|rw [← bk.out] at ho6|(simp only [Int.reduceToNat] at ho6;rw [← bk.out] at ho6));have bE:=lw ho6;replace HB:=hbs hb;clear hb ho6;have aV:0≤(a1:Int):=od q5_0;have aW:a1<(l0.length:Int):=od q5_0;obtain ⟨bF,bG,aX⟩:=Kd.at_int HR0.out a1 aV aW;cases bG;replace aX:=(HB.out.cell (World.block_lt_of_cell? w _ aX)).trans aX;replace aV:=eq_true aV;replace aW:=eq_true aW))
 go_loopg [5,6,14] k (fun kq v5 v6 v14 w'=>∃ (aH:List Int) (al:Int) (aD:Int),v6=.int .i64 al∧v14=.int .i64 aD∧Aside0 (impl_kidsOf.l0 kq l0 aH al (rd l0 a1) aD=some r)∧Aside0 (kq≤k)∧Aside0 (Kd.R (Kd.int .i64) 2 w' w.heap.size (fun _=>True) v5 aH)∧Aside0 (Below w.heap.size w w'))
 case atStart=>exact ⟨(bj),(wrap64 (a1+1)),(0),q5_1,q5_1,H',⟨Nat.le_refl _⟩,⟨pe bE.out⟩,⟨hq⟩⟩
 case round =>
  clear H';obtain ⟨aH,al,aD,rfl,rfl,HA,HK1,ad,HB⟩:=hrel
  cases gk with|zero=>exact absurd HA.out (by simp [impl_kidsOf.l0])|succ k1=>?_
  have H:=HA.out;clear HA;simp only [impl_kidsOf.l0] at H;obtain c7|c7:=nem (aD<(rd l0 a1))
  ·rw [if_neg c7] at H;have aI:=df c7;clear c7;obtain rfl:=Option.some.inj H;go_wp2
   go_ret
   exact ⟨_,ew,pe ad.out,hq⟩
  rw [if_pos c7] at H;have aI:=dt c7;clear c7;replace H:=ifs H;obtain ⟨c8,H⟩:=H;have bH:=ak c8;clear c8;obtain ⟨bl,hY⟩:∃ y_:List Int,y_=(aH++[al]):=⟨_,rfl⟩;replace H:((impl_endOf.f k1 l0 al).bind fun aN=>(impl_kidsOf.l0 k1 l0 bl aN (rd l0 a1) (wrap64 (aD+1))))=some r:=hh;have bI:=ak hY;clear hY;replace H:=bs H;obtain ⟨aN,A9,H⟩:=H;(try dsimp only at H);have H':=ak H;clear H
  go_wp2_with (first|((with_reducible refine gate_builtin (b:=.append) (xs:=#[.tmp 16,.tmp 18]) rfl ?_);at_builtin;refine Kd.R_append (Kd.int .i64) (w0:=w) w.heap.size rfl (.tmp 16) (.tmp 18) 24 2 (.int .i64 0) 8 rfl Tryz.underlying24 info2 rfl dc (by omega) u5 aH al [.int .i64 al] (fun _=>True) (fun _=>False) rfl rfl ?aP (fun _ hk=>hk.elim) ?aF ?aO ?aB ?aS ?aL ?_;(case aP=>exact rfl);(case aB=>exact hq);(case aF=>exact (fun _ _=>trivial));(case aO=>exact (pe ad.out));(case aS=>exact (below_size hq));(case aL=>have:=bH.out;omega);intro b3 w10 ho hb hg hat;rw [← bI.out] at ho;replace HB:=ak (hb);have bJ:=ak (ho);clear ad;clear ho hb hg hat)|((with_reducible refine gate_callee (f:=117) rfl ?_);refine gl (some 22) Tryz.func117 #[.slice (some bF) l0.length c0,.int .i64 al] ?_;(with_reducible refine (impl_endOf.calls k1 _ _ l0 al aN _ (pc (Kd.C_below HR0.out HB.out)) HC0.out A9.out).mono ?_);rintro e w' ⟨rfl,⟨nd,rfl⟩⟩;refine ⟨_,rfl,?_⟩))
  go_roundg k1
  case measure=>have:=HK1.out;omega
  case rel=>exact ⟨(bl),(aN),(wrap64 (aD+1)),q5_1,q5_1,H',⟨by have:=HK1.out;omega⟩,⟨pe bJ.out⟩,⟨hq⟩⟩
mutual
def impl_parentsOf.l0:Nat→List Int→List Int→Int→Int→Option (List Int)
 | 0,_,_,_,_=>none
 | k+1,x0,x3,x12,x13=>if x13<x12 then ((impl_kidsOf.f k x0 x13).bind fun t215=>(impl_parentsOf.l1 k x0 x3 x13 x12 x13 t215 (t215.length:Int) 0)) else (some x3)
def impl_parentsOf.l1:Nat→List Int→List Int→Int→Int→Int→List Int→Int→Int→Option (List Int)
 | 0,_,_,_,_,_,_,_,_=>none
 | k+1,x0,x3,x4,x12,x13,x18,x19,x20=>if x20<x19 then (if 0≤x20 then (if x20<(x18.length:Int) then (if 0≤(rd x18 x20) then (if (rd x18 x20)<(x3.length:Int) then (impl_parentsOf.l1 k x0 (x3.set ((rd x18 x20):Int).toNat x4) x4 x12 x13 x18 x19 (wrap64 (x20+1))) else (none)) else (none)) else (none)) else (none)) else (impl_parentsOf.l0 k x0 x3 x12 (wrap64 (x13+1)))
end
def impl_parentsOf.f (k:Nat) (l0:List Int):Option (List Int):=(slices_Repeat.f ([(-1)]:List Int) (l0.length:Int)).bind fun t212=>(impl_parentsOf.l0 k l0 t212 (l0.length:Int) 0)
theorem impl_parentsOf.calls (k:Nat) (A0:Option Addr) (c0:Nat) (l0:List Int) (r:List Int) (w:World) (hr0:Kd.C (Kd.int .i64) w A0 l0.length l0) (hc0:l0.length≤c0) (h:impl_parentsOf.f k l0=some r) :
  Calls Tryz.prog 59 #[.slice A0 l0.length c0] w fun e w'=>∃ v0_:Value,e=.returned (v0_)∧Kd.R (Kd.int .i64) 2 w' w.heap.size (fun _=>True) v0_ r∧Below w.heap.size w w':=by
 have HR0:=ak hr0;have HC0:=ak hc0;clear hr0 hc0;have HB:=ak (Below.refl w.heap.size w);have H:((slices_Repeat.f ([(-1)]:List Int) (l0.length:Int)).bind fun aE=>(impl_parentsOf.l0 k l0 aE (l0.length:Int) 0))=some r:=h;clear h;obtain ⟨aY,hY⟩:∃ y_:List Int,y_=([(-1)]:List Int):=⟨_,rfl⟩;replace H:((slices_Repeat.f aY (l0.length:Int)).bind fun aE=>(impl_parentsOf.l0 k l0 aE (l0.length:Int) 0))=some r:=hh;have bm:=ak hY;clear hY;replace H:=bs H;obtain ⟨aE,A2,H⟩:=H;(try dsimp only at H);have H':=ak H;clear H
 go_enter Tryz.func59,Tryz.ntmps59
 go_wp2_with (first|((with_reducible refine gate_dst (N:=7) rfl ?_);refine Kd.R_lit (Kd.int .i64) _ 2 ?hg (N:=7) ?hd (xs:=([(-1)]:List Int)) (inner:=[.int .i64 (-1)]) (ok:=fun _=>True) (okp:=fun _=>True) ?hr ?hp (fun _ hk=>hk) trivial (Below.refl _ _) (Nat.le_refl _) (by simp) ?_;(case hd=>rfl);(case hg=>rfl);(case hr=>exact gs);(case hp=>exact (Reps.one (show Kd.M (Kd.int .i64) _ _ _ (-1) [.int .i64 (-1)] from rfl) (Reps.none _ _)));intro b4 w3 ho4 hb hg_ hnew_;clear hg_ hnew_;(first|rw [← bm.out] at ho4|(simp only [Int.reduceToNat] at ho4;rw [← bm.out] at ho4));have aG:=lw ho4;replace HB:=hbs hb;clear hb ho4;obtain ⟨Ao5,co5,eo5⟩:=Kd.R_slice aG.out;subst eo5)|((with_reducible refine gate_callee (f:=102) rfl ?_);refine gl (some 10) Tryz.func102 #[.slice Ao5 aY.length co5,.int .i64 (l0.length:Int)] ?_;(with_reducible refine (slices_Repeat.calls _ _ aY (l0.length:Int) aE _ (pc ((Kd.R_reads' aG.out).2.2)) (Kd.R_reads' aG.out).2.1 A2.out).mono ?_);rintro e w6 ⟨aZ,rfl,ho0,hb⟩;refine ⟨_,rfl,?_⟩;have bK:=lw (nw ho0 aG);replace aG:=rn aG ho0 hb;replace HB:=hbs hb;(try clear hb ho0)))
 go_loopg [13] k (fun kq v13 w'=>∃ (aQ:List Int) (af:Int),v13=.int .i64 af∧Aside0 (impl_parentsOf.l0 kq l0 aQ (l0.length:Int) af=some r)∧Aside0 (kq≤k)∧Aside0 (Kd.R (Kd.int .i64) 2 w' w.heap.size (fun _=>True) aZ aQ)∧Aside0 (Below w.heap.size w w'))
 case atStart=>exact ⟨(aE),(0),q5_1,H',⟨Nat.le_refl _⟩,⟨pe (Kd.R_mono bK.out (fun _ hk=>trivial))⟩,⟨hq⟩⟩
 case round =>
  clear H';obtain ⟨aQ,af,rfl,HA,HK1,ai,HB⟩:=hrel
  cases gk with|zero=>exact absurd HA.out (by simp [impl_parentsOf.l0])|succ k1=>?_
  have H:=HA.out;clear HA;simp only [impl_parentsOf.l0] at H;obtain c7|c7:=nem (af<(l0.length:Int))
  ·rw [if_neg c7] at H;have aI:=df c7;clear c7;obtain rfl:=Option.some.inj H;go_wp2
   go_ret
   exact ⟨_,ew,pe ai.out,hq⟩
  rw [if_pos c7] at H;have aI:=dt c7;clear c7;replace H:=bs H;obtain ⟨ac,A8,H⟩:=H;(try dsimp only at H);have H':=ak H;clear H
  go_wp2_with (first|((with_reducible refine gate_callee (f:=103) rfl ?_);refine gl (some 18) Tryz.func103 #[.slice A0 l0.length c0,.int .i64 af] ?_;(with_reducible refine (impl_kidsOf.calls k1 _ _ l0 af ac _ (pc (Kd.C_below HR0.out HB.out)) HC0.out A8.out).mono ?_);rintro e w9 ⟨b5,rfl,ho0,hb⟩;refine ⟨_,rfl,?_⟩;have bo:=lw (nw ho0 ai);replace ai:=rn ai ho0 hb;replace HB:=hbs hb;(try clear hb);(try clear hb2);(try clear hk);(try clear hi);(try clear ho0);obtain ⟨bp,a2,bL⟩:=Kd.R_slice bo.out;subst bL))
  go_loopg [20] k1 (fun kq v20 w'=>∃ (an:List Int) (ae:Int),v20=.int .i64 ae∧Aside0 (impl_parentsOf.l1 kq l0 an af (l0.length:Int) af ac (ac.length:Int) ae=some r)∧Aside0 (kq≤k1)∧Aside0 (Kd.R (Kd.int .i64) 2 w' w.heap.size (fun k_=>some k_≠((.slice bp ac.length a2):Value).ownBlock) aZ an)∧Aside0 (Kd.R (Kd.int .i64) 2 w' w.heap.size (fun k_=>some k_≠(aZ:Value).ownBlock) (.slice bp ac.length a2) ac)∧Aside0 (Below w.heap.size w w'))
  case atStart=>exact ⟨(aQ),(0),q5_1,H',⟨Nat.le_refl _⟩,⟨pe (Kd.R_mono ai.out (fun _ hk=>hk.2))⟩,⟨pe (Kd.R_mono bo.out (fun _ hk=>hk.2))⟩,⟨hq⟩⟩
  case round =>
   clear H';obtain ⟨an,ae,rfl,HA,HK2,ai,aJ,HB⟩:=hrel
   cases gk with|zero=>exact absurd HA.out (by simp [impl_parentsOf.l1])|succ k2=>?_
   have H:=HA.out;clear HA;simp only [impl_parentsOf.l1] at H;obtain c11|c11:=nem (ae<(ac.length:Int))
   ·rw [if_neg c11] at H;have bq:=df c11;clear c11;have H':=ak H;clear H;go_wp2
    go_roundg k2
    case measure=>have:=HK1.out;have:=HK2.out;omega
    case rel=>exact ⟨(an),(wrap64 (af+1)),q5_1,H',⟨by have:=HK1.out;have:=HK2.out;omega⟩,⟨pe (Kd.R_mono ai.out (fun _ hk=>trivial))⟩,⟨hq⟩⟩
   rw [if_pos c11] at H;have bq:=dt c11;clear c11;replace H:=ifs H;obtain ⟨c12,H⟩:=H;have bM:=dt c12;clear c12;replace H:=ifs H;obtain ⟨c13,H⟩:=H;have br:=dt c13;clear c13;replace H:=ifs H;obtain ⟨c14,H⟩:=H;have b6:=dt c14;clear c14;replace H:=ifs H;obtain ⟨c15,H⟩:=H;have b7:=dt c15;clear c15;obtain ⟨a3,hY⟩:∃ y_:List Int,y_=(an.set ((rd ac ae):Int).toNat af):=⟨_,rfl⟩;replace H:(impl_parentsOf.l1 k2 l0 a3 af (l0.length:Int) af ac (ac.length:Int) (wrap64 (ae+1)))=some r:=hh;have bN:=ak hY;clear hY;have H':=ak H;clear H;have a4:0≤(ae:Int):=od q5_0;have a5:ae<(ac.length:Int):=od q5_0;(try (obtain ⟨Aop_,cop_,eop_⟩:=Kd.R_slice aJ.out;subst eop_));obtain ⟨bO,bP,b8⟩:=Kd.at_int (Kd.R_reads' aJ.out).2.2 ae a4 a5;cases bP;replace a4:=eq_true a4;replace a5:=eq_true a5;have p16:0≤((rd ac ae):Int):=od q5_0;have q16:((rd ac ae):Int)<((an.length:Int):Int):=od q5_0;obtain ⟨aK,aR,aT,bu,gl16,cl16,bv⟩:=Kd.R_form ai.out (by omega);(first|cases aT|(injection aT with ea_ en_ ec_;(first|subst ea_|(injection ea_ with ea_;subst ea_));subst ec_;clear en_));have GB16:=ak bu;have b9:=ak bv;clear bu gl16 bv;obtain ⟨ca,cb⟩:=Kd.R_celln 0 ai.out ((rd ac ae):Int) p16 q16;replace p16:=eq_true p16;replace q16:=eq_true q16;have a6:=Kd.R_putg ai.out ((rd ac ae):Int) af
   go_wp2_with (first|((with_reducible refine gate_store (t:=2) (p:=27) rfl ?_);refine store_event (t:=2) (p:=27) (v:=?vo_w18) (w1:=(wr.setCell ⟨aK,((rd ac ae):Int).toNat,none⟩ (.int .i64 af))) ?hg ?ho ?hn ?hr ?_;(case ho=>rfl);(case hg=>rfl);(case hn=>rfl);(case hr=>exact gs);intro w18 hw;have hg:wr.grownBy w18 (some aK):=(by rw [hw];exact a6.2);have hp_:Kd.R (Kd.int .i64) 2 w18 w.heap.size (fun k_=>some k_≠(.slice (some bO) ac.length a2:Value).ownBlock) (.slice (some ⟨aK,0,none⟩) an.length aR) a3:=(by rw [hw,bN.out];exact a6.1);clear a6;replace ai:=ak (hp_);replace aJ:=ak (Kd.R_after (v:=(.slice (some ⟨aK,0,none⟩) an.length aR)) (v1:=(.slice (some ⟨aK,0,none⟩) an.length aR)) (ok:=(fun _=>True)) (pe (Kd.R_mono aJ.out (fun _ hk=>⟨trivial,hk⟩))) hg (.inl rfl));replace HB:=ak (by rw [hw];exact below_set (HB.out) GB16.out:Below w.heap.size w w18);clear hg hw hp_))
   go_roundg k2
   case measure=>have:=HK1.out;have:=HK2.out;omega
   case rel=>exact ⟨(a3),(wrap64 (ae+1)),q5_1,H',⟨by have:=HK1.out;have:=HK2.out;omega⟩,⟨pe ai.out⟩,⟨pe (Kd.R_mono aJ.out (fun _ hk=>hk.2))⟩,⟨hq⟩⟩
def impl_isGrowing.l0:Nat→List Int→List Int→List Int→Int→Option (Bool)
 | 0,_,_,_,_=>none
 | k+1,x0,x5,x6,x7=>if x7<(x0.length:Int) then (if 0≤x7 then (if x7<(x5.length:Int) then (if x7<(x6.length:Int) then (if 0≤(rd x6 x7) then (if (rd x6 x7)<(x5.length:Int) then (if (rd x5 x7)<(rd x5 (rd x6 x7)) then (some false) else (impl_isGrowing.l0 k x0 x5 x6 (wrap64 (x7+1)))) else (none)) else (none)) else (none)) else (none)) else (none)) else (some true)
def impl_isGrowing.f (k:Nat) (l0:List Int) (l1:List Int):Option (Bool):=(impl_labelsOf.f k l1).bind fun t220=>((impl_parentsOf.f k l0).bind fun t223=>(impl_isGrowing.l0 k l0 t220 t223 1))
theorem impl_isGrowing.calls (k:Nat) (A0:Option Addr) (c0:Nat) (l0:List Int) (A1:Option Addr) (c1:Nat) (l1:List Int) (r:Bool) (w:World) (hr0:Kd.C (Kd.int .i64) w A0 l0.length l0) (hc0:l0.length≤c0) (hr1:Kd.C (Kd.int .i64) w A1 l1.length l1) (hc1:l1.length≤c1) (h:impl_isGrowing.f k l0 l1=some r) :
  Calls Tryz.prog 56 #[.slice A0 l0.length c0,.slice A1 l1.length c1] w fun e w'=>e=.returned (.bool r)∧Below w.heap.size w w':=by
 have HR0:=ak hr0;have HC0:=ak hc0;clear hr0 hc0;have HR1:=ak hr1;have HC1:=ak hc1;clear hr1 hc1;have HB:=ak (Below.refl w.heap.size w);have H:((impl_labelsOf.f k l1).bind fun aj=>((impl_parentsOf.f k l0).bind fun ag=>(impl_isGrowing.l0 k l0 aj ag 1)))=some r:=h;clear h;replace H:=bs H;obtain ⟨aj,A3,H⟩:=H;(try dsimp only at H);replace H:=bs H;obtain ⟨ag,A4,H⟩:=H;(try dsimp only at H);have H':=ak H;clear H
 go_enter Tryz.func56,Tryz.ntmps56
 iterate 4 ((try go_wp2_with (first|(go_at_call 58;(with_reducible refine (impl_labelsOf.calls k _ _ l1 aj _ (pc (HR1.out)) HC1.out A3.out).mono ?_);rintro e w5 ⟨bw,rfl,ho0,hb⟩;have aU:=lw ho0;replace HB:=hbs hb;(try clear hb ho0))|(go_at_call 59;(with_reducible refine (impl_parentsOf.calls k _ _ l0 ag _ (pc (Kd.C_below HR0.out HB.out)) HC0.out A4.out).mono ?_);rintro e w6 ⟨bx,rfl,ho0,hb⟩;have bQ:=lw (nw ho0 aU);replace aU:=rn aU ho0 hb;replace HB:=hbs hb;(try clear hb ho0))));(try go_quiet (fail)))
 go_loopg [7] k (fun kq v7 w'=>∃ (aa:Int),v7=.int .i64 aa∧Aside0 (impl_isGrowing.l0 kq l0 aj ag aa=some r)∧Aside0 (kq≤k)∧Aside0 (Kd.R (Kd.int .i64) 2 w' w.heap.size (fun k_=>some k_≠(bx:Value).ownBlock) bw aj)∧Aside0 (Kd.R (Kd.int .i64) 2 w' w.heap.size (fun k_=>some k_≠(bw:Value).ownBlock) bx ag)∧Aside0 (Below w.heap.size w w'))
 case atStart=>exact ⟨(1),q5_1,H',⟨Nat.le_refl _⟩,⟨pe (Kd.R_mono aU.out (fun _ hk=>hk.2))⟩,⟨pe (Kd.R_mono bQ.out (fun _ hk=>hk.2))⟩,⟨hq⟩⟩
 case round =>
  clear H';obtain ⟨aa,rfl,HA,HK1,ad,au,HB⟩:=hrel
  cases gk with|zero=>exact absurd HA.out (by simp [impl_isGrowing.l0])|succ k1=>?_
  have H:=HA.out;clear HA;simp only [impl_isGrowing.l0] at H;obtain c7|c7:=nem (aa<(l0.length:Int))
  ·rw [if_neg c7] at H;have aI:=df c7;clear c7;obtain rfl:=Option.some.inj H;go_wp2
   repeat (go_quiet (fail);try go_wp2)
   go_ret
   exact ⟨ew,hq⟩
  rw [if_pos c7] at H;have aI:=dt c7;clear c7;replace H:=ifs H;obtain ⟨c8,H⟩:=H;have bz:=dt c8;clear c8;replace H:=ifs H;obtain ⟨c9,H⟩:=H;have bA:=dt c9;clear c9;replace H:=ifs H;obtain ⟨c10,H⟩:=H;have cc:=dt c10;clear c10;replace H:=ifs H;obtain ⟨c11,H⟩:=H;have bq:=dt c11;clear c11;replace H:=ifs H;obtain ⟨c12,H⟩:=H;have bM:=dt c12;clear c12
  by_cases c13:(rd aj aa)<(rd aj (rd ag aa))
  ·rw [if_pos c13] at H;have br:=dt c13;clear c13;obtain rfl:=Option.some.inj H;obtain ⟨cd,ce,bR⟩:=Kd.R_slice ad.out;subst bR;have av:0≤(aa:Int):=od q5_0;have aw:aa<(aj.length:Int):=od q5_0;(try (obtain ⟨Aop_,cop_,eop_⟩:=Kd.R_slice ad.out;subst eop_));obtain ⟨a7,a8,bS⟩:=Kd.at_int (Kd.R_reads' ad.out).2.2 aa av aw;cases a8;replace av:=eq_true av;replace aw:=eq_true aw;obtain ⟨cf,cg,bT⟩:=Kd.R_slice au.out;subst bT;have ax:0≤(aa:Int):=od q5_0;have ay:aa<(ag.length:Int):=od q5_0;(try (obtain ⟨Aop_,cop_,eop_⟩:=Kd.R_slice au.out;subst eop_));obtain ⟨bU,a9,bV⟩:=Kd.at_int (Kd.R_reads' au.out).2.2 aa ax ay;cases a9;replace ax:=eq_true ax;replace ay:=eq_true ay;have az:0≤((rd ag aa):Int):=od q5_0;have aA:(rd ag aa)<(aj.length:Int):=od q5_0;(try (obtain ⟨Aop_,cop_,eop_⟩:=Kd.R_slice ad.out;subst eop_));obtain ⟨ba,bd,bW⟩:=Kd.at_int (Kd.R_reads' ad.out).2.2 (rd ag aa) az aA;obtain rfl:a7=ba:=(by injection bd);replace az:=eq_true az;replace aA:=eq_true aA;go_wp2
   repeat (go_quiet (fail);try go_wp2)
   go_ret
   exact ⟨ew,hq⟩
  rw [if_neg c13] at H;have br:=df c13;clear c13;have H':=ak H;clear H;obtain ⟨ch,aR,aT⟩:=Kd.R_slice ad.out;subst aT;have av:0≤(aa:Int):=od q5_0;have aw:aa<(aj.length:Int):=od q5_0;(try (obtain ⟨Aop_,cop_,eop_⟩:=Kd.R_slice ad.out;subst eop_));obtain ⟨a7,a8,bS⟩:=Kd.at_int (Kd.R_reads' ad.out).2.2 aa av aw;cases a8;replace av:=eq_true av;replace aw:=eq_true aw;obtain ⟨ci,cj,bX⟩:=Kd.R_slice au.out;subst bX;have ax:0≤(aa:Int):=od q5_0;have ay:aa<(ag.length:Int):=od q5_0;(try (obtain ⟨Aop_,cop_,eop_⟩:=Kd.R_slice au.out;subst eop_));obtain ⟨bU,a9,bV⟩:=Kd.at_int (Kd.R_reads' au.out).2.2 aa ax ay;cases a9;replace ax:=eq_true ax;replace ay:=eq_true ay;have az:0≤((rd ag aa):Int):=od q5_0;have aA:(rd ag aa)<(aj.length:Int):=od q5_0;(try (obtain ⟨Aop_,cop_,eop_⟩:=Kd.R_slice ad.out;subst eop_));obtain ⟨ba,bd,bW⟩:=Kd.at_int (Kd.R_reads' ad.out).2.2 (rd ag aa) az aA;obtain rfl:a7=ba:=(by injection bd);replace az:=eq_true az;replace aA:=eq_true aA;go_wp2
  repeat (go_quiet (fail);try go_wp2)
  go_roundg k1
  case measure=>have:=HK1.out;omega
  case rel=>exact ⟨(wrap64 (aa+1)),q5_1,H',⟨by have:=HK1.out;omega⟩,⟨pe ad.out⟩,⟨pe au.out⟩,⟨hq⟩⟩
def impl_IsGrowing.f (k:Nat) (l0_0:List Int) (l1:List Int):Option (Bool × Int):=(impl_orderCode.f k l0_0 l1).bind fun t230=>(if t230=0 then ((impl_isGrowing.f k l0_0 l1).bind fun t231=>(some (t231,0))) else (some (false,t230)))
theorem impl_IsGrowing.calls (k:Nat) (A0_0:Option Addr) (c0_0:Nat) (l0_0:List Int) (A1:Option Addr) (c1:Nat) (l1:List Int) (r1:Bool) (r2:Int) (w:World) (hr0_0:Kd.C (Kd.int .i64) w A0_0 l0_0.length l0_0) (hc0_0:l0_0.length≤c0_0) (hr1:Kd.C (Kd.int .i64) w A1 l1.length l1) (hc1:l1.length≤c1) (h:impl_IsGrowing.f k l0_0 l1=some (r1,r2)) :
  Calls Tryz.prog 11 #[.agg #[.slice A0_0 l0_0.length c0_0],.slice A1 l1.length c1] w fun e w'=>e=.returned (.tuple #[.bool r1,.int .i64 r2])∧Below w.heap.size w w':=by
 have hu27:=Tryz.underlying27;have ao:=ak hr0_0;have ap:=ak hc0_0;clear hr0_0 hc0_0;have HR1:=ak hr1;have HC1:=ak hc1;clear hr1 hc1;have HB:=ak (Below.refl w.heap.size w);have H:((impl_orderCode.f k l0_0 l1).bind fun ar=>(if ar=0 then ((impl_isGrowing.f k l0_0 l1).bind fun bf=>(some (bf,0))) else (some (false,ar))))=some (r1,r2):=h;clear h;replace H:=bs H;obtain ⟨ar,A3,H⟩:=H;(try dsimp only at H);obtain c4|c4:=nem (ar=0)
 ·rw [if_neg c4] at H;have aM:(ar == 0)=false:=beq_eq_false_iff_ne.mpr c4;have bg:(ar != 0)=true:=bne_iff_ne.mpr c4;simp only [Option.some.injEq,Prod.mk.injEq] at H;obtain ⟨rfl,rfl⟩:=H
  go_enter Tryz.func11,Tryz.ntmps11
  go_wp2_with (first|((with_reducible refine gate_dst (N:=2) rfl ?_);refine bev (N:=2) (cs:=#[.slice A0_0 l0_0.length c0_0]) (t:=27) ?_;intro bY hg w11 hbox hb;have ah:=ak (hbox);have bZ:=gbe hg;have b0:=gbe hg;replace HB:=hbs hb;clear hb hbox hg;have ck:=bc ah.out;have cl:=blk_frozen ah.out 0)|((with_reducible refine gate_callee (f:=55) rfl ?_);refine gl (some 9) Tryz.func55 #[.agg #[.slice A0_0 l0_0.length c0_0],.slice A1 l1.length c1] ?_;(with_reducible refine (impl_orderCode.calls k _ _ l0_0 _ _ l1 ar _ (pc (Kd.C_below ao.out HB.out)) ap.out (pc (Kd.C_below HR1.out HB.out)) HC1.out A3.out).mono ?_);rintro e w13 ⟨rfl,hb⟩;refine ⟨_,rfl,?_⟩;replace ah:=bb ah hb;replace HB:=hbs hb;(try clear hb)))
  go_ret2
  exact ⟨ew,hq⟩
 rw [if_pos c4] at H;have aM:=be c4;have bg:=bn c4;clear c4;replace H:=bs H;obtain ⟨bf,A5,H⟩:=H;(try dsimp only at H);simp only [Option.some.injEq,Prod.mk.injEq] at H;obtain ⟨rfl,rfl⟩:=H
 go_enter Tryz.func11,Tryz.ntmps11
 go_wp2_with (first|((with_reducible refine gate_dst (N:=2) rfl ?_);refine bev (N:=2) (cs:=#[.slice A0_0 l0_0.length c0_0]) (t:=27) ?_;intro bY hg w6 hbox hb;have ah:=ak (hbox);have bZ:=gbe hg;have b0:=gbe hg;replace HB:=hbs hb;clear hb hbox hg;have cm:=bc ah.out;have cn:=blk_frozen ah.out 0)|((with_reducible refine gate_callee (f:=55) rfl ?_);refine gl (some 9) Tryz.func55 #[.agg #[.slice A0_0 l0_0.length c0_0],.slice A1 l1.length c1] ?_;(with_reducible refine (impl_orderCode.calls k _ _ l0_0 _ _ l1 ar _ (pc (Kd.C_below ao.out HB.out)) ap.out (pc (Kd.C_below HR1.out HB.out)) HC1.out A3.out).mono ?_);rintro e w8 ⟨rfl,hb⟩;refine ⟨_,rfl,?_⟩;replace ah:=bb ah hb;replace HB:=hbs hb;(try clear hb);(try clear hb2);(try clear hk);(try clear hi);have co:=bc ah.out;have cp:=blk_frozen ah.out 0)|((with_reducible refine gate_callee (f:=56) rfl ?_);refine gl (some 16) Tryz.func56 #[.slice A0_0 l0_0.length c0_0,.slice A1 l1.length c1] ?_;(with_reducible refine (impl_isGrowing.calls k _ _ l0_0 _ _ l1 bf _ (pc (Kd.C_below ao.out HB.out)) ap.out (pc (Kd.C_below HR1.out HB.out)) HC1.out A5.out).mono ?_);rintro e w10 ⟨rfl,hb⟩;refine ⟨_,rfl,?_⟩;replace ah:=bb ah hb;replace HB:=hbs hb;(try clear hb)))
 go_ret2
 exact ⟨ew,hq⟩
def impl_growingCode.f (k:Nat) (l0_0:List Int) (l1:List Int):Option (Int):=(impl_orderCode.f k l0_0 l1).bind fun t233=>(if t233=0 then ((impl_isGrowing.f k l0_0 l1).bind fun t234=>(if t234=true then (some 0) else (some 5))) else (some t233))
theorem impl_growingCode.calls (k:Nat) (A0_0:Option Addr) (c0_0:Nat) (l0_0:List Int) (A1:Option Addr) (c1:Nat) (l1:List Int) (r:Int) (w:World) (hr0_0:Kd.C (Kd.int .i64) w A0_0 l0_0.length l0_0) (hc0_0:l0_0.length≤c0_0) (hr1:Kd.C (Kd.int .i64) w A1 l1.length l1) (hc1:l1.length≤c1) (h:impl_growingCode.f k l0_0 l1=some r) :
  Calls Tryz.prog 57 #[.agg #[.slice A0_0 l0_0.length c0_0],.slice A1 l1.length c1] w fun e w'=>e=.returned (.int .i64 r)∧Below w.heap.size w w':=by
 have hu27:=Tryz.underlying27;have ao:=ak hr0_0;have ap:=ak hc0_0;clear hr0_0 hc0_0;have HR1:=ak hr1;have HC1:=ak hc1;clear hr1 hc1;have HB:=ak (Below.refl w.heap.size w);have H:((impl_orderCode.f k l0_0 l1).bind fun aq=>(if aq=0 then ((impl_isGrowing.f k l0_0 l1).bind fun bh=>(if bh=true then (some 0) else (some 5))) else (some aq)))=some r:=h;clear h;replace H:=bs H;obtain ⟨aq,A3,H⟩:=H;(try dsimp only at H);obtain c4|c4:=nem (aq=0)
 ·rw [if_neg c4] at H;have aM:(aq == 0)=false:=beq_eq_false_iff_ne.mpr c4;have bg:(aq != 0)=true:=bne_iff_ne.mpr c4;obtain rfl:=Option.some.inj H
  go_enter Tryz.func57,Tryz.ntmps57
  go_wp2_with (first|((with_reducible refine gate_dst (N:=2) rfl ?_);refine bev (N:=2) (cs:=#[.slice A0_0 l0_0.length c0_0]) (t:=27) ?_;intro bB hg w17 hbox hb;have ab:=ak (hbox);have bC:=gbe hg;have bD:=gbe hg;replace HB:=hbs hb;clear hb hbox hg;have cq:=bc ab.out;have cr:=blk_frozen ab.out 0)|((with_reducible refine gate_callee (f:=55) rfl ?_);refine gl (some 8) Tryz.func55 #[.agg #[.slice A0_0 l0_0.length c0_0],.slice A1 l1.length c1] ?_;(with_reducible refine (impl_orderCode.calls k _ _ l0_0 _ _ l1 aq _ (pc (Kd.C_below ao.out HB.out)) ap.out (pc (Kd.C_below HR1.out HB.out)) HC1.out A3.out).mono ?_);rintro e w19 ⟨rfl,hb⟩;refine ⟨_,rfl,?_⟩;replace ab:=bb ab hb;replace HB:=hbs hb;(try clear hb)))
  go_ret
  exact ⟨ew,hq⟩
 rw [if_pos c4] at H;have aM:=be c4;have bg:=bn c4;clear c4;replace H:=bs H;obtain ⟨bh,A5,H⟩:=H;(try dsimp only at H)
 by_cases c6:bh=true
 ·subst c6;replace H:(some 0)=some r:=by rw [if_pos rfl] at H;exact H
  obtain rfl:=Option.some.inj H
  go_enter Tryz.func57,Tryz.ntmps57
  go_wp2_with (first|((with_reducible refine gate_dst (N:=2) rfl ?_);refine bev (N:=2) (cs:=#[.slice A0_0 l0_0.length c0_0]) (t:=27) ?_;intro bB hg w7 hbox hb;have ab:=ak (hbox);have bC:=gbe hg;have bD:=gbe hg;replace HB:=hbs hb;clear hb hbox hg;have ct:=bc ab.out;have cu:=blk_frozen ab.out 0)|((with_reducible refine gate_callee (f:=55) rfl ?_);refine gl (some 8) Tryz.func55 #[.agg #[.slice A0_0 l0_0.length c0_0],.slice A1 l1.length c1] ?_;(with_reducible refine (impl_orderCode.calls k _ _ l0_0 _ _ l1 aq _ (pc (Kd.C_below ao.out HB.out)) ap.out (pc (Kd.C_below HR1.out HB.out)) HC1.out A3.out).mono ?_);rintro e w9 ⟨rfl,hb⟩;refine ⟨_,rfl,?_⟩;replace ab:=bb ab hb;replace HB:=hbs hb;(try clear hb);(try clear hb2);(try clear hk);(try clear hi);have cv:=bc ab.out;have cw:=blk_frozen ab.out 0)|((with_reducible refine gate_callee (f:=56) rfl ?_);refine gl (some 15) Tryz.func56 #[.slice A0_0 l0_0.length c0_0,.slice A1 l1.length c1] ?_;(with_reducible refine (impl_isGrowing.calls k _ _ l0_0 _ _ l1 true _ (pc (Kd.C_below ao.out HB.out)) ap.out (pc (Kd.C_below HR1.out HB.out)) HC1.out A5.out).mono ?_);rintro e w11 ⟨rfl,hb⟩;refine ⟨_,rfl,?_⟩;replace ab:=bb ab hb;replace HB:=hbs hb;(try clear hb)))
  go_ret
  exact ⟨ew,hq⟩
 replace c6:=Bool.eq_false_iff.mpr c6;subst c6;have H1:(some 5)=some r:=by rw [if_neg (show ¬ (false=true) by decide)] at H;exact H
 clear H;have H:=H1;clear H1;obtain rfl:=Option.some.inj H
 go_enter Tryz.func57,Tryz.ntmps57
 go_wp2_with (first|((with_reducible refine gate_dst (N:=2) rfl ?_);refine bev (N:=2) (cs:=#[.slice A0_0 l0_0.length c0_0]) (t:=27) ?_;intro bB hg w12 hbox hb;have ab:=ak (hbox);have bC:=gbe hg;have bD:=gbe hg;replace HB:=hbs hb;clear hb hbox hg;have cx:=bc ab.out;have cy:=blk_frozen ab.out 0)|((with_reducible refine gate_callee (f:=55) rfl ?_);refine gl (some 8) Tryz.func55 #[.agg #[.slice A0_0 l0_0.length c0_0],.slice A1 l1.length c1] ?_;(with_reducible refine (impl_orderCode.calls k _ _ l0_0 _ _ l1 aq _ (pc (Kd.C_below ao.out HB.out)) ap.out (pc (Kd.C_below HR1.out HB.out)) HC1.out A3.out).mono ?_);rintro e w14 ⟨rfl,hb⟩;refine ⟨_,rfl,?_⟩;replace ab:=bb ab hb;replace HB:=hbs hb;(try clear hb);(try clear hb2);(try clear hk);(try clear hi);have cz:=bc ab.out;have cA:=blk_frozen ab.out 0)|((with_reducible refine gate_callee (f:=56) rfl ?_);refine gl (some 15) Tryz.func56 #[.slice A0_0 l0_0.length c0_0,.slice A1 l1.length c1] ?_;(with_reducible refine (impl_isGrowing.calls k _ _ l0_0 _ _ l1 false _ (pc (Kd.C_below ao.out HB.out)) ap.out (pc (Kd.C_below HR1.out HB.out)) HC1.out A5.out).mono ?_);rintro e w16 ⟨rfl,hb⟩;refine ⟨_,rfl,?_⟩;replace ab:=bb ab hb;replace HB:=hbs hb;(try clear hb)))
 go_ret
 exact ⟨ew,hq⟩
def cmp_isNaN_int64.f (a0:Int):Option (Bool):=some (a0 != a0)
theorem cmp_isNaN_int64.calls (a0:Int) (r:Bool) (w:World) (h:cmp_isNaN_int64.f a0=some r) :
  Calls Tryz.prog 145 #[.int .i64 a0] w fun e w'=>e=.returned (.bool r)∧Drawn0 w w':=by
 have H:(some (a0 != a0))=some r:=h;clear h;obtain rfl:=Option.some.inj H
 go_enter Tryz.func145,Tryz.ntmps145
 go_wp2
 go_ret
 exact ⟨q5_1,q5_2⟩
def cmp_Compare_int64.f (a0:Int) (a1:Int):Option (Int):=(cmp_isNaN_int64.f a0).bind fun t235=>((cmp_isNaN_int64.f a1).bind fun t236=>(if t235=true then (if t236=true then (some 0) else (some (-1))) else (if t236=true then (some 1) else (if a0<a1 then (some (-1)) else (if a0>a1 then (some 1) else (some 0))))))
theorem cmp_Compare_int64.calls (a0:Int) (a1:Int) (r:Int) (w:World) (h:cmp_Compare_int64.f a0 a1=some r) :
  Calls Tryz.prog 125 #[.int .i64 a0,.int .i64 a1] w fun e w'=>e=.returned (.int .i64 r)∧Drawn0 w w':=by
 have H:((cmp_isNaN_int64.f a0).bind fun bi=>((cmp_isNaN_int64.f a1).bind fun aC=>(if bi=true then (if aC=true then (some 0) else (some (-1))) else (if aC=true then (some 1) else (if a0<a1 then (some (-1)) else (if a0>a1 then (some 1) else (some 0)))))))=some r:=h;clear h;replace H:=bs H;obtain ⟨bi,A3,H⟩:=H;(try dsimp only at H);replace H:=bs H;obtain ⟨aC,A4,H⟩:=H;(try dsimp only at H)
 by_cases c5:bi=true
 ·subst c5;replace H:(if aC=true then (some 0) else (some (-1)))=some r:=by rw [if_pos rfl] at H;exact H
  by_cases c6:aC=true
  ·subst c6;replace H:(some 0)=some r:=by rw [if_pos rfl] at H;exact H
   obtain rfl:=Option.some.inj H
   go_enter Tryz.func125,Tryz.ntmps125
   go_wp2_with (first|((with_reducible refine gate_callee (f:=145) rfl ?_);refine gl (some 8) Tryz.func145 #[.int .i64 a0] ?_;(with_reducible refine (cmp_isNaN_int64.calls a0 true _ A3.out).mono ?_);rintro e w' ⟨rfl,⟨nd,rfl⟩⟩;refine ⟨_,rfl,?_⟩)|((with_reducible refine gate_callee (f:=145) rfl ?_);refine gl (some 10) Tryz.func145 #[.int .i64 a1] ?_;(with_reducible refine (cmp_isNaN_int64.calls a1 true _ A4.out).mono ?_);rintro e w' ⟨rfl,⟨nd,rfl⟩⟩;refine ⟨_,rfl,?_⟩))
   go_ret
   exact ⟨q5_1,q5_2⟩
  replace c6:=Bool.eq_false_iff.mpr c6;subst c6;have H1:(some (-1))=some r:=by rw [if_neg (show ¬ (false=true) by decide)] at H;exact H
  clear H;have H:=H1;clear H1;obtain rfl:=Option.some.inj H
  go_enter Tryz.func125,Tryz.ntmps125
  go_wp2_with (first|((with_reducible refine gate_callee (f:=145) rfl ?_);refine gl (some 8) Tryz.func145 #[.int .i64 a0] ?_;(with_reducible refine (cmp_isNaN_int64.calls a0 true _ A3.out).mono ?_);rintro e w' ⟨rfl,⟨nd,rfl⟩⟩;refine ⟨_,rfl,?_⟩)|((with_reducible refine gate_callee (f:=145) rfl ?_);refine gl (some 10) Tryz.func145 #[.int .i64 a1] ?_;(with_reducible refine (cmp_isNaN_int64.calls a1 false _ A4.out).mono ?_);rintro e w' ⟨rfl,⟨nd,rfl⟩⟩;refine ⟨_,rfl,?_⟩))
  go_ret
  exact ⟨q5_1,q5_2⟩
 replace c5:=Bool.eq_false_iff.mpr c5;subst c5;have H1:(if aC=true then (some 1) else (if a0<a1 then (some (-1)) else (if a0>a1 then (some 1) else (some 0))))=some r:=by rw [if_neg (show ¬ (false=true) by decide)] at H;exact H
 clear H;have H:=H1;clear H1
 by_cases c7:aC=true
 ·subst c7;replace H:(some 1)=some r:=by rw [if_pos rfl] at H;exact H
  obtain rfl:=Option.some.inj H
  go_enter Tryz.func125,Tryz.ntmps125
  go_wp2_with (first|((with_reducible refine gate_callee (f:=145) rfl ?_);refine gl (some 8) Tryz.func145 #[.int .i64 a0] ?_;(with_reducible refine (cmp_isNaN_int64.calls a0 false _ A3.out).mono ?_);rintro e w' ⟨rfl,⟨nd,rfl⟩⟩;refine ⟨_,rfl,?_⟩)|((with_reducible refine gate_callee (f:=145) rfl ?_);refine gl (some 10) Tryz.func145 #[.int .i64 a1] ?_;(with_reducible refine (cmp_isNaN_int64.calls a1 true _ A4.out).mono ?_);rintro e w' ⟨rfl,⟨nd,rfl⟩⟩;refine ⟨_,rfl,?_⟩))
  go_ret
  exact ⟨q5_1,q5_2⟩
 replace c7:=Bool.eq_false_iff.mpr c7;subst c7;have H1:(if a0<a1 then (some (-1)) else (if a0>a1 then (some 1) else (some 0)))=some r:=by rw [if_neg (show ¬ (false=true) by decide)] at H;exact H
 clear H;have H:=H1;clear H1
 by_cases c8:a0<a1
 ·rw [if_pos c8] at H;have bz:=dt c8;clear c8;obtain rfl:=Option.some.inj H
  go_enter Tryz.func125,Tryz.ntmps125
  go_wp2_with (first|((with_reducible refine gate_callee (f:=145) rfl ?_);refine gl (some 8) Tryz.func145 #[.int .i64 a0] ?_;(with_reducible refine (cmp_isNaN_int64.calls a0 false _ A3.out).mono ?_);rintro e w' ⟨rfl,⟨nd,rfl⟩⟩;refine ⟨_,rfl,?_⟩)|((with_reducible refine gate_callee (f:=145) rfl ?_);refine gl (some 10) Tryz.func145 #[.int .i64 a1] ?_;(with_reducible refine (cmp_isNaN_int64.calls a1 false _ A4.out).mono ?_);rintro e w' ⟨rfl,⟨nd,rfl⟩⟩;refine ⟨_,rfl,?_⟩))
  go_ret
  exact ⟨q5_1,q5_2⟩
 rw [if_neg c8] at H;have bz:=df c8;clear c8
 by_cases c9:a0>a1
 ·rw [if_pos c9] at H;have bA:decide (a1<a0)=true:=decide_eq_true c9;clear c9;obtain rfl:=Option.some.inj H
  go_enter Tryz.func125,Tryz.ntmps125
  go_wp2_with (first|((with_reducible refine gate_callee (f:=145) rfl ?_);refine gl (some 8) Tryz.func145 #[.int .i64 a0] ?_;(with_reducible refine (cmp_isNaN_int64.calls a0 false _ A3.out).mono ?_);rintro e w' ⟨rfl,⟨nd,rfl⟩⟩;refine ⟨_,rfl,?_⟩)|((with_reducible refine gate_callee (f:=145) rfl ?_);refine gl (some 10) Tryz.func145 #[.int .i64 a1] ?_;(with_reducible refine (cmp_isNaN_int64.calls a1 false _ A4.out).mono ?_);rintro e w' ⟨rfl,⟨nd,rfl⟩⟩;refine ⟨_,rfl,?_⟩))
  go_ret
  exact ⟨q5_1,q5_2⟩
 rw [if_neg c9] at H;have bA:decide (a1<a0)=false:=decide_eq_false c9;clear c9;obtain rfl:=Option.some.inj H
 go_enter Tryz.func125,Tryz.ntmps125
 go_wp2_with (first|((with_reducible refine gate_callee (f:=145) rfl ?_);refine gl (some 8) Tryz.func145 #[.int .i64 a0] ?_;(with_reducible refine (cmp_isNaN_int64.calls a0 false _ A3.out).mono ?_);rintro e w' ⟨rfl,⟨nd,rfl⟩⟩;refine ⟨_,rfl,?_⟩)|((with_reducible refine gate_callee (f:=145) rfl ?_);refine gl (some 10) Tryz.func145 #[.int .i64 a1] ?_;(with_reducible refine (cmp_isNaN_int64.calls a1 false _ A4.out).mono ?_);rintro e w' ⟨rfl,⟨nd,rfl⟩⟩;refine ⟨_,rfl,?_⟩))
 go_ret
 exact ⟨q5_1,q5_2⟩
end Go.Proofs.YtlppkilencpmeaaGreat.QFnGrowth
