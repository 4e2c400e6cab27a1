/- Functions as Lean functions, with their contracts: written by a program of this claim over the translation; some contracts are proved by hand. -/
import Derived.Test.YtlppkilencpmeaaGreatQFnGrowingx0
import Derived.Test.YtlppkilencpmeaaGreatQFnGrowingx3
import Derived.Test.YtlppkilencpmeaaGreatQFnGrowingx5
import Derived.Test.YtlppkilencpmeaaGreatQFnGrowingx9
import Derived.Test.YtlppkilencpmeaaGreatQFnGrowingx13
namespace Go.Proofs.YtlppkilencpmeaaGreat.QFnGrowing
open Go.RowKit Go.Proofs.YtlppkilencpmeaaGreat.Gl Go.Proofs.YtlppkilencpmeaaGreat.Sz Go.Proofs.YtlppkilencpmeaaGreatW.PrintWords Go.Proofs.YtlppkilencpmeaaGreatW.PrintLast Go.Proofs.YtlppkilencpmeaaGreatW.PrintMore
attribute [local go_sem] max2_int min2_int max_two min_two max_three min_three max_four min_four   -- for this text's walks alone
set_option linter.unusedVariables false
set_option linter.unusedSimpArgs false
theorem q24_0 {P:Prop} (h:P:=by first|(rw [add_block];exact (fun e_=>((ag.out.1 _ e_.symm).2.2) rfl))|(show some (Addr.add _ _).block≠_;rw [add_block];exact (fun e_=>((ag.out.1 _ e_.symm).2.2) rfl))|exact (fun e_=>((ag.out.1 _ e_.symm).2.2) rfl)):P:=h
theorem q24_1 {P:Prop} (h:P:=by first|exact Kd.R_nil _ _ _ _ _|exact Kd.N_nil _ _ _ _ _|exact Kd.V_nil _ _ _ _ _|exact Kd.Q_nil _ _ _ _ _|exact Kd.S_nil _ _ _ _ _):P:=h
theorem q24_2 {P:Prop} (h:P:=by simp only [putAll,Act.put,List.setIfInBounds_toArray,List.set_cons_zero,List.set_cons_succ]):P:=h
theorem q24_3 {P:Prop} (h:P:=by first|rfl|(simp;done)|(simp [*];done)):P:=h
theorem q24_5 {P:Prop} (h:P:=by first|(with_reducible assumption)|assumption):P:=h
set_option maxHeartbeats 8000000
set_option maxRecDepth 100000
mutual
def spec_GrowingOfRank.l0:Nat→Int→List Int→List Int→Option (List Int × Int)
 | 0,_,_,_=>none
 | k+1,x1,x6,x998000=>(spec_l01N.f x998000).bind fun t1007=>(if (x6.length:Int)<t1007 then ((spec_l09Next.f k x998000 x6).bind fun t1008=>(spec_GrowingOfRank.l1 k x1 x6 t1008 0 x998000)) else (some (x6,0)))
def spec_GrowingOfRank.l1:Nat→Int→List Int→List Int→Int→List Int→Option (List Int × Int)
 | 0,_,_,_,_,_=>none
 | k+1,x1,x6,x7,x8,x998000=>if x8<(x7.length:Int) then ((spec_l01Own.f x6).bind fun t1011=>(if 0≤x8 then ((some (([rd x7 x8]:List Int):List Int)).bind fun y1015=>(if t1011.length+y1015.length<17592186044416 then ((some (t1011++y1015:List Int)).bind fun y1018=>((spec_l09Count.f k x998000 y1018).bind fun t1021=>(if x1<t1021 then (spec_GrowingOfRank.l0 k x1 y1018 x998000) else (spec_GrowingOfRank.l1 k (wrap64 (x1 - t1021)) x6 x7 (wrap64 (x8+1)) x998000)))) else (none))) else (none))) else (spec_GrowingOfRank.l0 k x1 x6 x998000)
end
def spec_GrowingOfRank.f (k:Nat) (l0_0:List Int) (a1:Int):Option (List Int × Int):=(spec_l01Is.f k l0_0).bind fun t998=>(if t998=true then (if a1<0 then (some (([]:List Int),2)) else ((spec_l01N.f l0_0).bind fun t999=>(if t999>20 then (some (([]:List Int),3)) else ((spec_l09Count.f k l0_0 ([]:List Int)).bind fun t1003=>(if a1≥t1003 then (some (([]:List Int),4)) else (spec_GrowingOfRank.l0 k a1 ([]:List Int) l0_0)))))) else (some (([]:List Int),1)))
def spec_GrowingOfRank.T15:Bool × List (List Nat × List Nat):=(true,[([],[]),([0],[0]),([],[]),([],[]),([2,3],[2,3]),([4],[4]),([5],[5]),([1,6,1],[1,6]),([7,7,0,1,2,3,4,5,6,7],[7])])
def spec_GrowingOfRank.B15:List Nat:=[0,1,0,0,12,28,60,127,255]
theorem spec_GrowingOfRank.tab15:rtab .any (opsOf Tryz.f48 15)=spec_GrowingOfRank.T15:=by kernel_rfl
theorem spec_GrowingOfRank.bits15:waitsOk spec_GrowingOfRank.T15.2 spec_GrowingOfRank.B15=true:=by kernel_rfl
theorem spec_GrowingOfRank.calls (k:Nat) (A0_0:Option Addr) (c0_0:Nat) (l0_0:List Int) (a1:Int) (r1:List Int) (r2:Int) (w:World) (hr0_0:Kd.C (Kd.int .i64) w A0_0 l0_0.length l0_0) (hc0_0:l0_0.length≤c0_0) (h:spec_GrowingOfRank.f k l0_0 a1=some (r1,r2)) :
  Calls Tryz.prog 48 #[.agg #[.slice A0_0 l0_0.length c0_0],.int .i64 a1] w fun e w'=>∃ v0_:Value,e=.returned (.tuple #[v0_,.int .i64 r2])∧Kd.R (Kd.int .i64) 2 w' w.heap.size (fun _=>True) v0_ r1∧Below w.heap.size w w':=by
 have hu27:=Tryz.underlying27;have an:=ak hr0_0;have ao:=ak hc0_0;clear hr0_0 hc0_0;have HB:=ak (Below.refl w.heap.size w);have H:((spec_l01Is.f k l0_0).bind fun aX=>(if aX=true then (if a1<0 then (some (([]:List Int),2)) else ((spec_l01N.f l0_0).bind fun aG=>(if aG>20 then (some (([]:List Int),3)) else ((spec_l09Count.f k l0_0 ([]:List Int)).bind fun aC=>(if a1≥aC then (some (([]:List Int),4)) else (spec_GrowingOfRank.l0 k a1 ([]:List Int) l0_0)))))) else (some (([]:List Int),1))))=some (r1,r2):=h;clear h;replace H:=bs H;obtain ⟨aX,A3,H⟩:=H;(try dsimp only at H);obtain c4|c4:=nem (aX=true)
 ·replace c4:=Bool.eq_false_iff.mpr c4;subst c4;have H1:(some (([]:List Int),1))=some (r1,r2):=by rw [if_neg (show ¬ (false=true) by decide)] at H;exact H
  clear H;have H:=H1;clear H1;simp only [Option.some.injEq,Prod.mk.injEq] at H;obtain ⟨rfl,rfl⟩:=H
  go_enter Tryz.func48,Tryz.ntmps48
  go_wp2_with (first|((with_reducible refine gate_dst (N:=2) rfl ?_);refine bev (N:=2) (cs:=#[.slice A0_0 l0_0.length c0_0]) (t:=27) ?_;intro az hg w82 hbox hb;have aa:=ak (hbox);have aT:=gbe hg;have aU:=gbe hg;replace HB:=hbs hb;clear hb hbox hg;have bP:=bc aa.out;have bQ:=blk_frozen aa.out 0)|((with_reducible refine gate_callee (f:=95) rfl ?_);refine gl (some 13) Tryz.func95 #[.agg #[.slice A0_0 l0_0.length c0_0]] ?_;(with_reducible refine (spec_l01Is.calls k _ _ l0_0 false _ (pc (Kd.C_below an.out HB.out)) ao.out A3.out).mono ?_);rintro e w84 ⟨rfl,hb⟩;refine ⟨_,rfl,?_⟩;replace aa:=bb aa hb;replace HB:=hbs hb;(try clear hb)))
  go_ret2
  exact ⟨_,ew,q24_1,hq⟩
 subst c4;replace H:(if a1<0 then (some (([]:List Int),2)) else ((spec_l01N.f l0_0).bind fun aG=>(if aG>20 then (some (([]:List Int),3)) else ((spec_l09Count.f k l0_0 ([]:List Int)).bind fun aC=>(if a1≥aC then (some (([]:List Int),4)) else (spec_GrowingOfRank.l0 k a1 ([]:List Int) l0_0))))))=some (r1,r2):=by rw [if_pos rfl] at H;exact H
 by_cases c5:a1<0
 ·rw [if_pos c5] at H;have bg:=dt c5;clear c5;simp only [Option.some.injEq,Prod.mk.injEq] at H;obtain ⟨rfl,rfl⟩:=H
  go_enter Tryz.func48,Tryz.ntmps48
  go_wp2_with (first|((with_reducible refine gate_dst (N:=2) rfl ?_);refine bev (N:=2) (cs:=#[.slice A0_0 l0_0.length c0_0]) (t:=27) ?_;intro az hg w6 hbox hb;have aa:=ak (hbox);have aT:=gbe hg;have aU:=gbe hg;replace HB:=hbs hb;clear hb hbox hg;have bR:=bc aa.out;have bS:=blk_frozen aa.out 0)|((with_reducible refine gate_callee (f:=95) rfl ?_);refine gl (some 13) Tryz.func95 #[.agg #[.slice A0_0 l0_0.length c0_0]] ?_;(with_reducible refine (spec_l01Is.calls k _ _ l0_0 true _ (pc (Kd.C_below an.out HB.out)) ao.out A3.out).mono ?_);rintro e w8 ⟨rfl,hb⟩;refine ⟨_,rfl,?_⟩;replace aa:=bb aa hb;replace HB:=hbs hb;(try clear hb)))
  go_ret2
  exact ⟨_,ew,q24_1,hq⟩
 rw [if_neg c5] at H;have bg:=df c5;clear c5;replace H:=bs H;obtain ⟨aG,A9,H⟩:=H;(try dsimp only at H)
 by_cases c10:aG>20
 ·rw [if_pos c10] at H;have bh:decide (20<aG)=true:=decide_eq_true c10;clear c10;simp only [Option.some.injEq,Prod.mk.injEq] at H;obtain ⟨rfl,rfl⟩:=H
  go_enter Tryz.func48,Tryz.ntmps48
  go_wp2_with (first|((with_reducible refine gate_dst (N:=2) rfl ?_);refine bev (N:=2) (cs:=#[.slice A0_0 l0_0.length c0_0]) (t:=27) ?_;intro az hg w11 hbox hb;have aa:=ak (hbox);have aT:=gbe hg;have aU:=gbe hg;replace HB:=hbs hb;clear hb hbox hg;have bT:=bc aa.out;have bU:=blk_frozen aa.out 0)|((with_reducible refine gate_callee (f:=95) rfl ?_);refine gl (some 13) Tryz.func95 #[.agg #[.slice A0_0 l0_0.length c0_0]] ?_;(with_reducible refine (spec_l01Is.calls k _ _ l0_0 true _ (pc (Kd.C_below an.out HB.out)) ao.out A3.out).mono ?_);rintro e w13 ⟨rfl,hb⟩;refine ⟨_,rfl,?_⟩;replace aa:=bb aa hb;replace HB:=hbs hb;(try clear hb);(try clear hb2);(try clear hk);(try clear hi);have bV:=bc aa.out;have bW:=blk_frozen aa.out 0)|((with_reducible refine gate_callee (f:=80) rfl ?_);refine gl (some 20) Tryz.func80 #[.agg #[.slice A0_0 l0_0.length c0_0]] ?_;(with_reducible refine (spec_l01N.calls _ _ l0_0 aG _ (pc (Kd.C_below an.out HB.out)) ao.out A9.out).mono ?_);rintro e w15 ⟨rfl,hb⟩;refine ⟨_,rfl,?_⟩;replace aa:=bb aa hb;replace HB:=hbs hb;(try clear hb)))
  go_ret2
  exact ⟨_,ew,q24_1,hq⟩
 rw [if_neg c10] at H;have bh:decide (20<aG)=false:=decide_eq_false c10;clear c10;obtain ⟨aP,hY⟩:∃ y_:List Int,y_=([]:List Int):=⟨_,rfl⟩;replace H:((spec_l09Count.f k l0_0 aP).bind fun aC=>(if a1≥aC then (some (([]:List Int),4)) else (spec_GrowingOfRank.l0 k a1 ([]:List Int) l0_0)))=some (r1,r2):=hh;have aV:=ak hY;clear hY;replace H:=bs H;obtain ⟨aC,A16,H⟩:=H;(try dsimp only at H)
 by_cases c17:a1≥aC
 ·rw [if_pos c17] at H;have bi:decide (aC≤a1)=true:=decide_eq_true c17;clear c17;simp only [Option.some.injEq,Prod.mk.injEq] at H;obtain ⟨rfl,rfl⟩:=H
  go_enter Tryz.func48,Tryz.ntmps48
  go_wp2_with (first|((with_reducible refine gate_dst (N:=2) rfl ?_);refine bev (N:=2) (cs:=#[.slice A0_0 l0_0.length c0_0]) (t:=27) ?_;intro az hg w18 hbox hb;have aa:=ak (hbox);have aT:=gbe hg;have aU:=gbe hg;replace HB:=hbs hb;clear hb hbox hg;have bX:=bc aa.out;have bY:=blk_frozen aa.out 0)|((with_reducible refine gate_callee (f:=95) rfl ?_);refine gl (some 13) Tryz.func95 #[.agg #[.slice A0_0 l0_0.length c0_0]] ?_;(with_reducible refine (spec_l01Is.calls k _ _ l0_0 true _ (pc (Kd.C_below an.out HB.out)) ao.out A3.out).mono ?_);rintro e w20 ⟨rfl,hb⟩;refine ⟨_,rfl,?_⟩;replace aa:=bb aa hb;replace HB:=hbs hb;(try clear hb);(try clear hb2);(try clear hk);(try clear hi);have bZ:=bc aa.out;have b0:=blk_frozen aa.out 0)|((with_reducible refine gate_callee (f:=80) rfl ?_);refine gl (some 20) Tryz.func80 #[.agg #[.slice A0_0 l0_0.length c0_0]] ?_;(with_reducible refine (spec_l01N.calls _ _ l0_0 aG _ (pc (Kd.C_below an.out HB.out)) ao.out A9.out).mono ?_);rintro e w22 ⟨rfl,hb⟩;refine ⟨_,rfl,?_⟩;replace aa:=bb aa hb;replace HB:=hbs hb;(try clear hb);(try clear hb2);(try clear hk);(try clear hi);have b1:=bc aa.out;have b2:=blk_frozen aa.out 0)|((with_reducible refine gate_dst (N:=25) rfl ?_);refine Kd.R_lit (Kd.int .i64) _ 2 ?hg (N:=25) ?hd (xs:=([]:List Int)) (inner:=[]) (ok:=fun _=>True) (okp:=fun _=>True) ?hr ?hp (fun _ hk=>hk) trivial (Below.refl _ _) (Nat.le_refl _) (by simp) ?_;(case hd=>rfl);(case hg=>rfl);(case hr=>exact gs);(case hp=>exact (Reps.none _ _));intro bj w24 ho25 hb hg_ hnew_;clear hg_ hnew_;(first|rw [← aV.out] at ho25|(simp only [Int.reduceToNat] at ho25;rw [← aV.out] at ho25));have aq:=lw ho25;replace aa:=bb aa hb;replace HB:=hbs hb;clear hb ho25;obtain ⟨bk,bl,bm⟩:=Kd.R_slice aq.out;subst bm)|((with_reducible refine gate_callee (f:=89) rfl ?_);refine gl (some 26) Tryz.func89 #[.agg #[.slice A0_0 l0_0.length c0_0],.slice bk aP.length bl] ?_;(with_reducible refine (spec_l09Count.calls k _ _ l0_0 _ _ aP aC _ (pc (Kd.C_below an.out HB.out)) ao.out (pc ((Kd.R_reads' aq.out).2.2)) (Kd.R_reads' aq.out).2.1 A16.out).mono ?_);rintro e w27 ⟨rfl,hb⟩;refine ⟨_,rfl,?_⟩;replace aq:=rb aq hb;replace aa:=bb aa hb;replace HB:=hbs hb;(try clear hb)))
  go_ret2
  exact ⟨_,ew,q24_1,hq⟩
 rw [if_neg c17] at H;have bi:decide (aC≤a1)=false:=decide_eq_false c17;clear c17;obtain ⟨a6,hY⟩:∃ y_:List Int,y_=([]:List Int):=⟨_,rfl⟩;replace H:(spec_GrowingOfRank.l0 k a1 a6 l0_0)=some (r1,r2):=hh;have a7:=ak hY;clear hY;have H':=ak H;clear H
 go_enter Tryz.func48,Tryz.ntmps48
 go_wp2_with (first|((with_reducible refine gate_dst (N:=2) rfl ?_);refine bev (N:=2) (cs:=#[.slice A0_0 l0_0.length c0_0]) (t:=27) ?_;intro az hg w28 hbox hb;have aa:=ak (hbox);have aT:=gbe hg;have aU:=gbe hg;replace HB:=hbs hb;clear hb hbox hg;have b3:=bc aa.out;have b4:=blk_frozen aa.out 0)|((with_reducible refine gate_callee (f:=95) rfl ?_);refine gl (some 13) Tryz.func95 #[.agg #[.slice A0_0 l0_0.length c0_0]] ?_;(with_reducible refine (spec_l01Is.calls k _ _ l0_0 true _ (pc (Kd.C_below an.out HB.out)) ao.out A3.out).mono ?_);rintro e w30 ⟨rfl,hb⟩;refine ⟨_,rfl,?_⟩;replace aa:=bb aa hb;replace HB:=hbs hb;(try clear hb);(try clear hb2);(try clear hk);(try clear hi);have b5:=bc aa.out;have b6:=blk_frozen aa.out 0)|((with_reducible refine gate_callee (f:=80) rfl ?_);refine gl (some 20) Tryz.func80 #[.agg #[.slice A0_0 l0_0.length c0_0]] ?_;(with_reducible refine (spec_l01N.calls _ _ l0_0 aG _ (pc (Kd.C_below an.out HB.out)) ao.out A9.out).mono ?_);rintro e w32 ⟨rfl,hb⟩;refine ⟨_,rfl,?_⟩;replace aa:=bb aa hb;replace HB:=hbs hb;(try clear hb);(try clear hb2);(try clear hk);(try clear hi);have b7:=bc aa.out;have b8:=blk_frozen aa.out 0)|((with_reducible refine gate_dst (N:=25) rfl ?_);refine Kd.R_lit (Kd.int .i64) _ 2 ?hg (N:=25) ?hd (xs:=([]:List Int)) (inner:=[]) (ok:=fun _=>True) (okp:=fun _=>True) ?hr ?hp (fun _ hk=>hk) trivial (Below.refl _ _) (Nat.le_refl _) (by simp) ?_;(case hd=>rfl);(case hg=>rfl);(case hr=>exact gs);(case hp=>exact (Reps.none _ _));intro bj w34 ho35 hb hg_ hnew_;clear hg_ hnew_;(first|rw [← aV.out] at ho35|(simp only [Int.reduceToNat] at ho35;rw [← aV.out] at ho35));have aq:=lw ho35;replace aa:=bb aa hb;replace HB:=hbs hb;clear hb ho35;obtain ⟨bo,bp,bq⟩:=Kd.R_slice aq.out;subst bq)|((with_reducible refine gate_callee (f:=89) rfl ?_);refine gl (some 26) Tryz.func89 #[.agg #[.slice A0_0 l0_0.length c0_0],.slice bo aP.length bp] ?_;(with_reducible refine (spec_l09Count.calls k _ _ l0_0 _ _ aP aC _ (pc (Kd.C_below an.out HB.out)) ao.out (pc ((Kd.R_reads' aq.out).2.2)) (Kd.R_reads' aq.out).2.1 A16.out).mono ?_);rintro e w37 ⟨rfl,hb⟩;refine ⟨_,rfl,?_⟩;replace aq:=rb aq hb;replace aa:=bb aa hb;replace HB:=hbs hb;(try clear hb))|((with_reducible refine gate_dst (N:=28) rfl ?_);refine Kd.R_lit (Kd.int .i64) _ 2 ?hg (N:=28) ?hd (xs:=([]:List Int)) (inner:=[]) (ok:=fun _=>True) (okp:=fun _=>True) ?hr ?hp (fun _ hk=>hk) trivial (Below.refl _ _) (Nat.le_refl _) (by simp) ?_;(case hd=>rfl);(case hg=>rfl);(case hr=>exact gs);(case hp=>exact (Reps.none _ _));intro b9 w38 ho39 hb hg_ hnew_;clear hg_ hnew_;(first|rw [← a7.out] at ho39|(simp only [Int.reduceToNat] at ho39;rw [← a7.out] at ho39));have br:=lw (nw ho39 aq);replace aq:=rn aq ho39 hb;replace aa:=bb aa hb;replace HB:=hbs hb;clear hb ho39))
 go_loopg [1,6] k (fun kq v1 v6 w'=>∃ (aW:Int) (aK:List Int),v1=.int .i64 aW∧Aside0 (spec_GrowingOfRank.l0 kq aW aK l0_0=some (r1,r2))∧Aside0 (kq≤k)∧Aside0 (Kd.R (Kd.int .i64) 2 w' w.heap.size (fun _=>True) v6 aK)∧Aside0 (w'.heap[az]?=some (.cells #[(.slice A0_0 l0_0.length c0_0)] 27 (0,0)))∧Aside0 (Below w.heap.size w w'))
 case atStart=>exact ⟨(a1),(a6),q24_3,H',⟨Nat.le_refl _⟩,⟨pe (Kd.R_mono br.out (fun _ hk=>trivial))⟩,⟨pb aa.out⟩,⟨hq⟩⟩
 case round =>
  clear H';obtain ⟨aW,aK,rfl,HA,HK1,ab,aa,HB⟩:=hrel
  cases gk with|zero=>exact absurd HA.out (by simp [spec_GrowingOfRank.l0])|succ k1=>?_
  have H:=HA.out;clear HA;simp only [spec_GrowingOfRank.l0] at H;replace H:=bs H;obtain ⟨aY,A40,H⟩:=H;(try dsimp only at H);obtain c41|c41:=nem ((aK.length:Int)<aY)
  ·rw [if_neg c41] at H;have bu:=df c41;clear c41;simp only [Option.some.injEq,Prod.mk.injEq] at H;obtain ⟨rfl,rfl⟩:=H;obtain ⟨ca,cb,bv⟩:=Kd.R_slice ab.out;subst bv;have cc:=bc aa.out;have cd:=blk_frozen aa.out 0
   go_wp2_with (first|((with_reducible refine gate_callee (f:=80) rfl ?_);refine gl (some 32) Tryz.func80 #[.agg #[.slice A0_0 l0_0.length c0_0]] ?_;(with_reducible refine (spec_l01N.calls _ _ l0_0 aY _ (pc (Kd.C_below an.out HB.out)) ao.out A40.out).mono ?_);rintro e w81 ⟨rfl,hb⟩;refine ⟨_,rfl,?_⟩;replace ab:=rb ab hb;replace aa:=bb aa hb;replace HB:=hbs hb;(try clear hb)))
   go_ret2
   exact ⟨_,ew,pe ab.out,hq⟩
  rw [if_pos c41] at H;have bu:=dt c41;clear c41;replace H:=bs H;obtain ⟨ad,A42,H⟩:=H;(try dsimp only at H);have H':=ak H;clear H;obtain ⟨bw,bx,bz⟩:=Kd.R_slice ab.out;subst bz;have ce:=bc aa.out;have cf:=blk_frozen aa.out 0
  go_wp2_with (first|((with_reducible refine gate_callee (f:=80) rfl ?_);refine gl (some 32) Tryz.func80 #[.agg #[.slice A0_0 l0_0.length c0_0]] ?_;(with_reducible refine (spec_l01N.calls _ _ l0_0 aY _ (pc (Kd.C_below an.out HB.out)) ao.out A40.out).mono ?_);rintro e w45 ⟨rfl,hb⟩;refine ⟨_,rfl,?_⟩;replace ab:=rb ab hb;replace aa:=bb aa hb;replace HB:=hbs hb;(try clear hb);(try clear hb2);(try clear hk);(try clear hi);have cg:=bc aa.out;have ch:=blk_frozen aa.out 0)|((with_reducible refine gate_callee (f:=88) rfl ?_);refine gl (some 36) Tryz.func88 #[.agg #[.slice A0_0 l0_0.length c0_0],.slice bw aK.length bx] ?_;(with_reducible refine (spec_l09Next.calls k1 _ _ l0_0 _ _ aK ad _ (pc (Kd.C_below an.out HB.out)) ao.out (pc ((Kd.R_reads' ab.out).2.2)) (Kd.R_reads' ab.out).2.1 A42.out).mono ?_);rintro e w47 ⟨a8,rfl,ho0,hb⟩;refine ⟨_,rfl,?_⟩;have bA:=lw (nw ho0 ab);replace ab:=rn ab ho0 hb;replace aa:=bb aa hb;replace HB:=hbs hb;(try clear hb ho0)))
  go_loopg [1,6,8] k1 (fun kq v1 v6 v8 w'=>∃ (ar:Int) (af:List Int) (ae:Int),v1=.int .i64 ar∧v8=.int .i64 ae∧Aside0 (spec_GrowingOfRank.l1 kq ar af ad ae l0_0=some (r1,r2))∧Aside0 (kq≤k1)∧Aside0 (Kd.R (Kd.int .i64) 2 w' w.heap.size (fun k_=>some k_≠(a8:Value).ownBlock) v6 af)∧Aside0 (Kd.R (Kd.int .i64) 2 w' w.heap.size (fun k_=>some k_≠(v6:Value).ownBlock) a8 ad)∧Aside0 (w'.heap[az]?=some (.cells #[(.slice A0_0 l0_0.length c0_0)] 27 (0,0)))∧Aside0 (Below w.heap.size w w'))
  case atStart=>exact ⟨(aW),(aK),(0),q24_3,q24_3,H',⟨Nat.le_refl _⟩,⟨pe (Kd.R_mono ab.out (fun _ hk=>hk.2))⟩,⟨pe (Kd.R_mono bA.out (fun _ hk=>hk.2))⟩,⟨pb aa.out⟩,⟨hq⟩⟩
  case round =>
   clear H';obtain ⟨ar,af,ae,rfl,rfl,HA,HK2,ab,ac,aa,HB⟩:=hrel
   cases gk with|zero=>exact absurd HA.out (by simp [spec_GrowingOfRank.l1])|succ k2=>?_
   have H:=HA.out;clear HA;simp only [spec_GrowingOfRank.l1] at H;obtain c48|c48:=nem (ae<(ad.length:Int))
   ·rw [if_neg c48] at H;have bB:=df c48;clear c48;have H':=ak H;clear H;obtain ⟨ci,cj,bC⟩:=Kd.R_slice ac.out;subst bC;go_wp2
    go_roundg k2
    case measure=>have:=HK1.out;have:=HK2.out;omega
    case rel=>exact ⟨(ar),(af),q24_3,H',⟨by have:=HK1.out;have:=HK2.out;omega⟩,⟨pe (Kd.R_mono ab.out (fun _ hk=>trivial))⟩,⟨pb aa.out⟩,⟨hq⟩⟩
   rw [if_pos c48] at H;have bB:=dt c48;clear c48;replace H:=bs H;obtain ⟨au,A49,H⟩:=H;(try dsimp only at H);replace H:=ifs H;obtain ⟨c50,H⟩:=H;have ck:=dt c50;clear c50;obtain ⟨ap,hY⟩:∃ y_:List Int,y_=([rd ad ae]:List Int):=⟨_,rfl⟩;replace H:(if au.length+ap.length<17592186044416 then ((some (au++ap:List Int)).bind fun aH=>((spec_l09Count.f k2 l0_0 aH).bind fun aI=>(if ar<aI then (spec_GrowingOfRank.l0 k2 ar aH l0_0) else (spec_GrowingOfRank.l1 k2 (wrap64 (ar - aI)) af ad (wrap64 (ae+1)) l0_0)))) else (none))=some (r1,r2):=hh;have aJ:=ak hY;clear hY;replace H:=ifs H;obtain ⟨c51,H⟩:=H;have a9:=ak c51;clear c51;obtain ⟨aH,hY⟩:∃ y_:List Int,y_=(au++ap):=⟨_,rfl⟩;replace H:((spec_l09Count.f k2 l0_0 aH).bind fun aI=>(if ar<aI then (spec_GrowingOfRank.l0 k2 ar aH l0_0) else (spec_GrowingOfRank.l1 k2 (wrap64 (ar - aI)) af ad (wrap64 (ae+1)) l0_0)))=some (r1,r2):=hh;have ba:=ak hY;clear hY;replace H:=bs H;obtain ⟨aI,A52,H⟩:=H;(try dsimp only at H)
   by_cases c53:ar<aI
   ·rw [if_pos c53] at H;have bD:=dt c53;clear c53;have H':=ak H;clear H;obtain ⟨cl,aD,bE⟩:=Kd.R_slice ac.out;subst bE;obtain ⟨av,aw,bF⟩:=Kd.R_slice ab.out;subst bF
    try go_wp2
    have n0_:=ak (Kd.R_drew ab.out);have n1_:=ak (Kd.R_drew ac.out);have n2_:=ak (blk_drew aa.out);have n3_:=ak (below_drew1 HB.out);clear ab ac aa HB;have ab:=n0_;have ac:=n1_;have aa:=n2_;have HB:=n3_;clear n0_ n1_ n2_ n3_;have aM:0≤(ae:Int):=od q24_5;have aN:ae<(ad.length:Int):=od q24_5;(try (obtain ⟨Aop_,cop_,eop_⟩:=Kd.R_slice ac.out;subst eop_));obtain ⟨ai,aZ,aQ⟩:=Kd.at_int (Kd.R_reads' ac.out).2.2 ae aM aN;cases aZ;replace aM:=eq_true aM;replace aN:=eq_true aN
    refine start_ (n:=9) (S:=fun w'=>w'.cell? (ai.add (ae).toNat)=some (.int .i64 (rd ad ae))) (ds:=[]) #[false,false,false,false,false,false,false,false,false] kr rfl rfl (aQ) (fun hHeld=>?_);refine with_tabW spec_GrowingOfRank.tab15 spec_GrowingOfRank.bits15 (fun HT_ HW_=>?_)
    generalize wr.drew=w56 at ab ac aa HB aQ hHeld ⊢
    refine pur (i:=0) (N:=some 43) (v:=?_) (a':=?_) #[true,false,false,false,false,false,false,false,false] rfl (Or.inl ⟨by rfl,?_⟩) ?_ ?_
    rotate_left
    ·intro w'
     go_simp
     with_reducible rfl
    rotate_left
    ·simp only [Act.put,sIB,sc0,scs,i64_w,i32_w]
     rfl
    refine pur (i:=2) (N:=some 45) (v:=?_) (a':=?_) #[true,false,true,false,false,false,false,false,false] rfl (Or.inl ⟨by rfl,?_⟩) ?_ ?_
    rotate_left
    ·intro w'
     go_simp
     with_reducible rfl
    rotate_left
    ·simp only [Act.put,sIB,sc0,scs,i64_w,i32_w]
     rfl
    refine pur (i:=3) (N:=some 46) (v:=?_) (a':=?_) #[true,false,true,true,false,false,false,false,false] rfl (Or.inl ⟨by rfl,?_⟩) ?_ ?_
    rotate_left
    ·intro w'
     go_simp
     with_reducible rfl
    rotate_left
    ·simp only [Act.put,sIB,sc0,scs,i64_w,i32_w]
     rfl
    refine pur (i:=4) (N:=some 47) (v:=?_) (a':=?_) #[true,false,true,true,true,false,false,false,false] rfl (Or.inl ⟨by rfl,?_⟩) ?_ ?_
    rotate_left
    ·intro w'
     go_simp
     with_reducible rfl
    rotate_left
    ·simp only [Act.put,sIB,sc0,scs,i64_w,i32_w]
     rfl
    refine take_ (i:=5) (N:=some 48) (v:=?_) (a':=?_) #[true,false,true,true,true,true,false,false,false] rfl rfl (take_ofW HT_.out HW_.out kr) (fun _ _ _ h=>h) (Or.inl ⟨by rfl,?_⟩) hHeld ?_ ?_
    rotate_left
    ·intro w' s0
     go_simp
     with_reducible rfl
    rotate_left
    ·simp only [Act.put,sIB,sc0,scs,i64_w,i32_w]
     rfl
    refine join_ (σ:=Value × Value) 2 #[true,true,true,true,true,true,true,false,false] (fun s_=>[(44,s_.1),(49,s_.2)]) (fun s_ w'=>(w'.cell? (ai.add (ae).toNat)=some (.int .i64 (rd ad ae)))∧(Kd.R (Kd.int .i64) 2 w' w.heap.size (fun k_=>some k_≠(s_.2:Value).ownBlock∧some k_≠(.slice av af.length aw:Value).ownBlock∧some k_≠(.slice (some ai) ad.length aD:Value).ownBlock) s_.1 au)∧(Kd.R (Kd.int .i64) 2 w' w.heap.size (fun k_=>some k_≠(s_.1:Value).ownBlock∧some k_≠(.slice av af.length aw:Value).ownBlock∧some k_≠(.slice (some ai) ad.length aD:Value).ownBlock) s_.2 ap)∧(Kd.R (Kd.int .i64) 2 w' w.heap.size (fun k_=>some k_≠(s_.1:Value).ownBlock∧some k_≠(s_.2:Value).ownBlock∧some k_≠(.slice (some ai) ad.length aD:Value).ownBlock) (.slice av af.length aw) af)∧(Kd.R (Kd.int .i64) 2 w' w.heap.size (fun k_=>some k_≠(s_.1:Value).ownBlock∧some k_≠(s_.2:Value).ownBlock∧some k_≠(.slice av af.length aw:Value).ownBlock) (.slice (some ai) ad.length aD) ad)∧(w'.heap[az]?=some (.cells #[.slice A0_0 l0_0.length c0_0] 27 (0,0)))∧(Below w.heap.size w w')) ?_ ?_
    rotate_left
    ·intro hCont
     refine two_ (i:=1) (j:=6) (Ni:=some 44) (Nj:=some 49) #[true,true,true,true,true,true,false,false,false] #[true,false,true,true,true,true,true,false,false] rfl rfl rfl rfl (two_of HT_.out kr) dc dc (fun K hK=>?_) (fun K hK=>?_)
     ·skip
      refine goes_ Tryz.func90 kr rfl #[.slice av af.length aw] (by rfl) rfl rfl am ?_
      with_reducible refine (spec_l01Own.calls _ _ af au _ ?side1 ?side2 A49.out).mono ?_
      (case side1=>exact pc ((Kd.R_reads' ab.out).2.2))
      (case side2=>exact (Kd.R_reads' ab.out).2.1)
      rintro e w57 ⟨aj,rfl,ho0,hb⟩
      have HS0_:=(hb.cell (World.block_lt_of_cell? _ _ (hHeld))).trans (hHeld)
      refine ⟨_,rfl,?_⟩
      have n0_:=rn ab ho0 hb;have n1_:=rn ac ho0 hb;have n2_:=lw (nw (nw ho0 ab) ac);have n3_:=bb aa hb;have n4_:=hbs hb;clear ab ac aa HB;have ab:=n0_;have ac:=n1_;have ag:=n2_;have aa:=n3_;have HB:=n4_;clear n0_ n1_ n2_ n3_ n4_;(try clear hb);(try clear hb2);(try clear hk);(try clear hi);(try clear ho0)
      refine hK.out _ _ (HS0_) (fun hHeld=>?_)
      clear hK K
      refine norm_ (a':=?_) ?_ ?_
      rotate_left
      ·show Act.put _ (some 44) _=_;simp only [Act.put,sIB,sc0,scs,i64_w,i32_w]
       rfl
      refine one_ (i:=6) (N:=some 49) #[true,true,true,true,true,true,true,false,false] rfl rfl (one_of HT_.out kr) dc (fun K hK=>?_)
      refine Kd.R_lit_step (Kd.int .i64) _ 2 ?hg (N:=49) ?hd (xs:=([rd ad ae]:List Int)) (inner:=[.int .i64 (rd ad ae)]) (ok:=fun _=>True) (okp:=fun _=>True) ?hr ?hp (fun _ hk=>hk) trivial (Below.refl _ _) (Nat.le_refl _) (by simp) ?_;(case hd=>rfl);(case hg=>rfl);(case hr=>exact gs);(case hp=>exact (Reps.one (show Kd.M (Kd.int .i64) _ _ _ (rd ad ae) [.int .i64 (rd ad ae)] from rfl) (Reps.none _ _)))
      intro al w58 ho59 hb hg_ hnew_
      have HS0_:=(hb.cell (World.block_lt_of_cell? _ _ (hHeld))).trans (hHeld);clear hg_ hnew_;(first|rw [← aJ.out] at ho59|(simp only [Int.reduceToNat] at ho59;rw [← aJ.out] at ho59));have n0_:=rn ab ho59 hb;have n1_:=rn ac ho59 hb;have n2_:=rn ag ho59 hb;have n3_:=lw (nw (nw (nw ho59 ab) ac) ag);have n4_:=bb aa hb;have n5_:=hbs hb;clear ab ac ag aa HB;have ab:=n0_;have ac:=n1_;have ag:=n2_;have ah:=n3_;have aa:=n4_;have HB:=n5_;clear n0_ n1_ n2_ n3_ n4_ n5_ hb ho59
      refine hK.out _ _ (HS0_) (fun hHeld=>?_)
      clear hK K
      refine norm_ (a':=?_) ?_ ?_
      rotate_left
      ·show Act.put _ (some 49) _=_;simp only [Act.put,sIB,sc0,scs,i64_w,i32_w]
       rfl
      exact norm_ q24_2 (hCont (aj,al) _ ⟨hHeld,(pe (Kd.R_mono ag.out (fun _ hk=>⟨hk.2,⟨hk.1.1.2,hk.1.2⟩⟩))),(pe (Kd.R_mono ah.out (fun _ hk=>⟨hk.2,⟨hk.1.1.2,hk.1.2⟩⟩))),(pe (Kd.R_mono ab.out (fun _ hk=>⟨hk.1.2,⟨hk.2,hk.1.1⟩⟩))),(pe (Kd.R_mono ac.out (fun _ hk=>⟨hk.1.2,⟨hk.2,hk.1.1⟩⟩))),(pb aa.out),hq⟩)
     ·skip
      refine Kd.R_lit_step (Kd.int .i64) _ 2 ?hg (N:=49) ?hd (xs:=([rd ad ae]:List Int)) (inner:=[.int .i64 (rd ad ae)]) (ok:=fun _=>True) (okp:=fun _=>True) ?hr ?hp (fun _ hk=>hk) trivial (Below.refl _ _) (Nat.le_refl _) (by simp) ?_;(case hd=>rfl);(case hg=>rfl);(case hr=>exact gs);(case hp=>exact (Reps.one (show Kd.M (Kd.int .i64) _ _ _ (rd ad ae) [.int .i64 (rd ad ae)] from rfl) (Reps.none _ _)))
      intro al w57 ho58 hb hg_ hnew_
      have HS0_:=(hb.cell (World.block_lt_of_cell? _ _ (hHeld))).trans (hHeld);clear hg_ hnew_;(first|rw [← aJ.out] at ho58|(simp only [Int.reduceToNat] at ho58;rw [← aJ.out] at ho58));have n0_:=rn ab ho58 hb;have n1_:=rn ac ho58 hb;have n2_:=lw (nw (nw ho58 ab) ac);have n3_:=bb aa hb;have n4_:=hbs hb;clear ab ac aa HB;have ab:=n0_;have ac:=n1_;have ah:=n2_;have aa:=n3_;have HB:=n4_;clear n0_ n1_ n2_ n3_ n4_ hb ho58
      refine hK.out _ _ (HS0_) (fun hHeld=>?_)
      clear hK K
      refine norm_ (a':=?_) ?_ ?_
      rotate_left
      ·show Act.put _ (some 49) _=_;simp only [Act.put,sIB,sc0,scs,i64_w,i32_w]
       rfl
      refine one_ (i:=1) (N:=some 44) #[true,true,true,true,true,true,true,false,false] rfl rfl (one_of HT_.out kr) dc (fun K hK=>?_)
      refine goes_ Tryz.func90 kr rfl #[.slice av af.length aw] (by rfl) rfl rfl am ?_
      with_reducible refine (spec_l01Own.calls _ _ af au _ ?side1 ?side2 A49.out).mono ?_
      (case side1=>exact pc ((Kd.R_reads' ab.out).2.2))
      (case side2=>exact (Kd.R_reads' ab.out).2.1)
      rintro e w59 ⟨aj,rfl,ho0,hb⟩
      have HS0_:=(hb.cell (World.block_lt_of_cell? _ _ (hHeld))).trans (hHeld)
      refine ⟨_,rfl,?_⟩
      have n0_:=rn ab ho0 hb;have n1_:=rn ac ho0 hb;have n2_:=rn ah ho0 hb;have n3_:=lw (nw (nw (nw ho0 ab) ac) ah);have n4_:=bb aa hb;have n5_:=hbs hb;clear ab ac ah aa HB;have ab:=n0_;have ac:=n1_;have ah:=n2_;have ag:=n3_;have aa:=n4_;have HB:=n5_;clear n0_ n1_ n2_ n3_ n4_ n5_;(try clear hb);(try clear hb2);(try clear hk);(try clear hi);(try clear ho0)
      refine hK.out _ _ (HS0_) (fun hHeld=>?_)
      clear hK K
      refine norm_ (a':=?_) ?_ ?_
      rotate_left
      ·show Act.put _ (some 44) _=_;simp only [Act.put,sIB,sc0,scs,i64_w,i32_w]
       rfl
      exact norm_ q24_2 (hCont (aj,al) _ ⟨hHeld,(pe (Kd.R_mono ag.out (fun _ hk=>⟨hk.2,⟨hk.1.1.2,hk.1.2⟩⟩))),(pe (Kd.R_mono ah.out (fun _ hk=>⟨hk.2,⟨hk.1.1.2,hk.1.2⟩⟩))),(pe (Kd.R_mono ab.out (fun _ hk=>⟨hk.2,⟨hk.1.2,hk.1.1⟩⟩))),(pe (Kd.R_mono ac.out (fun _ hk=>⟨hk.2,⟨hk.1.2,hk.1.1⟩⟩))),(pb aa.out),hq⟩)
    rintro ⟨aj,al⟩ w60 ⟨hS_,h0_,h1_,h2_,h3_,h4_,h5_⟩
    have n0_:Aside0 (Kd.R (Kd.int .i64) 2 w60 w.heap.size (fun k_=>some k_≠(al:Value).ownBlock∧some k_≠(.slice av af.length aw:Value).ownBlock∧some k_≠(.slice (some ai) ad.length aD:Value).ownBlock) aj au):=⟨h0_⟩;have n1_:Aside0 (Kd.R (Kd.int .i64) 2 w60 w.heap.size (fun k_=>some k_≠(aj:Value).ownBlock∧some k_≠(.slice av af.length aw:Value).ownBlock∧some k_≠(.slice (some ai) ad.length aD:Value).ownBlock) al ap):=⟨h1_⟩;have n2_:Aside0 (Kd.R (Kd.int .i64) 2 w60 w.heap.size (fun k_=>some k_≠(aj:Value).ownBlock∧some k_≠(al:Value).ownBlock∧some k_≠(.slice (some ai) ad.length aD:Value).ownBlock) (.slice av af.length aw) af):=⟨h2_⟩;have n3_:Aside0 (Kd.R (Kd.int .i64) 2 w60 w.heap.size (fun k_=>some k_≠(aj:Value).ownBlock∧some k_≠(al:Value).ownBlock∧some k_≠(.slice av af.length aw:Value).ownBlock) (.slice (some ai) ad.length aD) ad):=⟨h3_⟩;have n4_:Aside0 (w60.heap[az]?=some (.cells #[.slice A0_0 l0_0.length c0_0] 27 (0,0))):=⟨h4_⟩;have n5_:Aside0 (Below w.heap.size w w60):=⟨h5_⟩;clear ab ac aa HB h0_ h1_ h2_ h3_ h4_ h5_;have ag:=n0_;have ah:=n1_;have ab:=n2_;have ac:=n3_;have aa:=n4_;have HB:=n5_;clear n0_ n1_ n2_ n3_ n4_ n5_;have hHeld:w60.cell? (ai.add (ae).toNat)=some (.int .i64 (rd ad ae)):=hS_;obtain ⟨a2,a3,bd⟩:=Kd.R_slice ah.out;(first|subst bd|(injection bd with f1_ f2_ f3_;have f4_:=f1_.symm;have f5_:=f3_.symm;clear f1_ f2_ f3_;subst f4_;subst f5_))
    refine norm_ (a':=?_) ?_ ?_
    rotate_left
    ·simp only [putAll,Act.put,List.setIfInBounds_toArray,List.set_cons_zero,List.set_cons_succ]
     rfl
    refine one_ (i:=7) (N:=some 50) #[true,true,true,true,true,true,true,true,false] rfl rfl (one_of HT_.out kr) dc (fun K hK=>?_)
    refine Kd.R_append_rows_step (Kd.int .i64) (w0:=w) w.heap.size (by rfl) (.tmp 44) (.tmp 49) 24 2 (.int .i64 0) 8 rfl Tryz.underlying24 info2 rfl dc (by omega) aj au ap _ _ _ (fun k_=>some k_≠(.slice av af.length aw:Value).ownBlock∧some k_≠(.slice (some ai) ad.length aD:Value).ownBlock∧some k_≠(.slice a2 ap.length a3:Value).ownBlock) (fun _=>False) rfl rfl ?aO ?aR (fun _ _ h=>h) (fun _ h=>h.elim) ?aF ?aB ?aS ?aL ?_
    (case aR=>exact pc ((Kd.R_reads' ah.out).2.2))
    (case aB=>exact hq)
    (case aF=>exact (fun k_ hk=>⟨Kd.fresh' (Kd.R_lt (pe ab.out)) k_ hk,Kd.fresh' (Kd.R_lt (pe ac.out)) k_ hk,Kd.fresh' (Kd.R_lt (pe ah.out)) k_ hk⟩))
    (case aO=>exact (pe (Kd.R_mono ag.out (fun _ hk=>⟨hk.2.1,⟨hk.2.2,hk.1⟩⟩))))
    (case aS=>exact (below_size hq))
    (case aL=>have:=a9.out;omega)
    intro bG w61 ho hb hg hat
    (first|have HS0_:=cell_grown hg (hHeld) q24_0|have HS0_:=cell_grown hg (cell_unalloc (hHeld) q24_4) q24_0);rw [← ba.out] at ho;have n0_:=ak (Kd.R_after (ok:=(fun k_=>some k_≠(.slice (some ai) ad.length aD:Value).ownBlock∧some k_≠(.slice a2 ap.length a3:Value).ownBlock)) (pe (Kd.R_mono ab.out (fun _ hk=>⟨⟨hk.2.2,hk.2.1⟩,hk.1⟩))) hg hat);have n1_:=ak (Kd.R_after (ok:=(fun k_=>some k_≠(.slice av af.length aw:Value).ownBlock∧some k_≠(.slice a2 ap.length a3:Value).ownBlock)) (pe (Kd.R_mono ac.out (fun _ hk=>⟨⟨hk.2.2,hk.2.1⟩,hk.1⟩))) hg hat);have n2_:=ak (blk_grown (g:=az) (o:=.cells #[.slice A0_0 l0_0.length c0_0] 27 (0,0)) (pb aa.out) hg (Kd.R_ne ag.out aa.out dc));have n3_:=ak (Kd.R_after (ok:=(fun k_=>some k_≠(.slice av af.length aw:Value).ownBlock∧some k_≠(.slice (some ai) ad.length aD:Value).ownBlock)) (pe (Kd.R_mono ah.out (fun _ hk=>⟨⟨hk.2.1,hk.2.2⟩,hk.1⟩))) hg hat);have n4_:=ak (hb);have n5_:=ak (ho);clear ab ac aa ah HB ag;have ab:=n0_;have ac:=n1_;have aa:=n2_;have ah:=n3_;have HB:=n4_;have aA:=n5_;clear n0_ n1_ n2_ n3_ n4_ n5_ ho hb hg hat
    refine hK.out _ _ (HS0_) (fun hHeld=>?_)
    clear hK K
    refine norm_ (a':=?_) ?_ ?_
    rotate_left
    ·show Act.put _ (some 50) _=_;simp only [Act.put,sIB,sc0,scs,i64_w,i32_w]
     rfl
    refine pur (i:=8) (N:=some 9) (v:=?_) (a':=?_) #[true,true,true,true,true,true,true,true,true] rfl (Or.inl ⟨by rfl,?_⟩) ?_ ?_
    rotate_left
    ·intro w'
     go_simp
     with_reducible rfl
    rotate_left
    ·simp only [Act.put,sIB,sc0,scs,i64_w,i32_w]
     rfl
    refine done_ (done_of HT_.out kr) ?_
    have cm:=bc aa.out;have cn:=blk_frozen aa.out 0;obtain ⟨bH,bI,bJ⟩:=Kd.R_slice aA.out;subst bJ
    try go_wp2_with (first|((with_reducible refine gate_callee (f:=89) rfl ?_);refine gl (some 53) Tryz.func89 #[.agg #[.slice A0_0 l0_0.length c0_0],.slice bH aH.length bI] ?_;(with_reducible refine (spec_l09Count.calls k2 _ _ l0_0 _ _ aH aI _ (pc (Kd.C_below an.out HB.out)) ao.out (pc ((Kd.R_reads' aA.out).2.2)) (Kd.R_reads' aA.out).2.1 A52.out).mono ?_);rintro e w65 ⟨rfl,hb⟩;refine ⟨_,rfl,?_⟩;replace ab:=rb ab hb;replace ac:=rb ac hb;replace ah:=rb ah hb;replace aA:=rb aA hb;replace aa:=bb aa hb;replace HB:=hbs hb;(try clear hb)))
    go_roundg k2
    case measure=>have:=HK1.out;have:=HK2.out;omega
    case rel=>exact ⟨(ar),(aH),q24_3,H',⟨by have:=HK1.out;have:=HK2.out;omega⟩,⟨pe (Kd.R_mono aA.out (fun _ hk=>trivial))⟩,⟨pb aa.out⟩,⟨hq⟩⟩
   rw [if_neg c53] at H;have bD:=df c53;clear c53;have H':=ak H;clear H;obtain ⟨co,aE,bK⟩:=Kd.R_slice ac.out;subst bK;obtain ⟨ax,ay,bL⟩:=Kd.R_slice ab.out;subst bL
   try go_wp2
   have n0_:=ak (Kd.R_drew ab.out);have n1_:=ak (Kd.R_drew ac.out);have n2_:=ak (blk_drew aa.out);have n3_:=ak (below_drew1 HB.out);clear ab ac aa HB;have ab:=n0_;have ac:=n1_;have aa:=n2_;have HB:=n3_;clear n0_ n1_ n2_ n3_;have aM:0≤(ae:Int):=od q24_5;have aN:ae<(ad.length:Int):=od q24_5;(try (obtain ⟨Aop_,cop_,eop_⟩:=Kd.R_slice ac.out;subst eop_));obtain ⟨ai,aZ,aQ⟩:=Kd.at_int (Kd.R_reads' ac.out).2.2 ae aM aN;cases aZ;replace aM:=eq_true aM;replace aN:=eq_true aN
   refine start_ (n:=9) (S:=fun w'=>w'.cell? (ai.add (ae).toNat)=some (.int .i64 (rd ad ae))) (ds:=[]) #[false,false,false,false,false,false,false,false,false] kr rfl rfl (aQ) (fun hHeld=>?_);refine with_tabW spec_GrowingOfRank.tab15 spec_GrowingOfRank.bits15 (fun HT_ HW_=>?_)
   generalize wr.drew=w68 at ab ac aa HB aQ hHeld ⊢
   refine pur (i:=0) (N:=some 43) (v:=?_) (a':=?_) #[true,false,false,false,false,false,false,false,false] rfl (Or.inl ⟨by rfl,?_⟩) ?_ ?_
   rotate_left
   ·intro w'
    go_simp
    with_reducible rfl
   rotate_left
   ·simp only [Act.put,sIB,sc0,scs,i64_w,i32_w]
    rfl
   refine pur (i:=2) (N:=some 45) (v:=?_) (a':=?_) #[true,false,true,false,false,false,false,false,false] rfl (Or.inl ⟨by rfl,?_⟩) ?_ ?_
   rotate_left
   ·intro w'
    go_simp
    with_reducible rfl
   rotate_left
   ·simp only [Act.put,sIB,sc0,scs,i64_w,i32_w]
    rfl
   refine pur (i:=3) (N:=some 46) (v:=?_) (a':=?_) #[true,false,true,true,false,false,false,false,false] rfl (Or.inl ⟨by rfl,?_⟩) ?_ ?_
   rotate_left
   ·intro w'
    go_simp
    with_reducible rfl
   rotate_left
   ·simp only [Act.put,sIB,sc0,scs,i64_w,i32_w]
    rfl
   refine pur (i:=4) (N:=some 47) (v:=?_) (a':=?_) #[true,false,true,true,true,false,false,false,false] rfl (Or.inl ⟨by rfl,?_⟩) ?_ ?_
   rotate_left
   ·intro w'
    go_simp
    with_reducible rfl
   rotate_left
   ·simp only [Act.put,sIB,sc0,scs,i64_w,i32_w]
    rfl
   refine take_ (i:=5) (N:=some 48) (v:=?_) (a':=?_) #[true,false,true,true,true,true,false,false,false] rfl rfl (take_ofW HT_.out HW_.out kr) (fun _ _ _ h=>h) (Or.inl ⟨by rfl,?_⟩) hHeld ?_ ?_
   rotate_left
   ·intro w' s0
    go_simp
    with_reducible rfl
   rotate_left
   ·simp only [Act.put,sIB,sc0,scs,i64_w,i32_w]
    rfl
   refine join_ (σ:=Value × Value) 2 #[true,true,true,true,true,true,true,false,false] (fun s_=>[(44,s_.1),(49,s_.2)]) (fun s_ w'=>(w'.cell? (ai.add (ae).toNat)=some (.int .i64 (rd ad ae)))∧(Kd.R (Kd.int .i64) 2 w' w.heap.size (fun k_=>some k_≠(s_.2:Value).ownBlock∧some k_≠(.slice ax af.length ay:Value).ownBlock∧some k_≠(.slice (some ai) ad.length aE:Value).ownBlock) s_.1 au)∧(Kd.R (Kd.int .i64) 2 w' w.heap.size (fun k_=>some k_≠(s_.1:Value).ownBlock∧some k_≠(.slice ax af.length ay:Value).ownBlock∧some k_≠(.slice (some ai) ad.length aE:Value).ownBlock) s_.2 ap)∧(Kd.R (Kd.int .i64) 2 w' w.heap.size (fun k_=>some k_≠(s_.1:Value).ownBlock∧some k_≠(s_.2:Value).ownBlock∧some k_≠(.slice (some ai) ad.length aE:Value).ownBlock) (.slice ax af.length ay) af)∧(Kd.R (Kd.int .i64) 2 w' w.heap.size (fun k_=>some k_≠(s_.1:Value).ownBlock∧some k_≠(s_.2:Value).ownBlock∧some k_≠(.slice ax af.length ay:Value).ownBlock) (.slice (some ai) ad.length aE) ad)∧(w'.heap[az]?=some (.cells #[.slice A0_0 l0_0.length c0_0] 27 (0,0)))∧(Below w.heap.size w w')) ?_ ?_
   rotate_left
   ·intro hCont
    refine two_ (i:=1) (j:=6) (Ni:=some 44) (Nj:=some 49) #[true,true,true,true,true,true,false,false,false] #[true,false,true,true,true,true,true,false,false] rfl rfl rfl rfl (two_of HT_.out kr) dc dc (fun K hK=>?_) (fun K hK=>?_)
    ·skip
     refine goes_ Tryz.func90 kr rfl #[.slice ax af.length ay] (by rfl) rfl rfl am ?_
     with_reducible refine (spec_l01Own.calls _ _ af au _ ?side1 ?side2 A49.out).mono ?_
     (case side1=>exact pc ((Kd.R_reads' ab.out).2.2))
     (case side2=>exact (Kd.R_reads' ab.out).2.1)
     rintro e w69 ⟨aj,rfl,ho0,hb⟩
     have HS0_:=(hb.cell (World.block_lt_of_cell? _ _ (hHeld))).trans (hHeld)
     refine ⟨_,rfl,?_⟩
     have n0_:=rn ab ho0 hb;have n1_:=rn ac ho0 hb;have n2_:=lw (nw (nw ho0 ab) ac);have n3_:=bb aa hb;have n4_:=hbs hb;clear ab ac aa HB;have ab:=n0_;have ac:=n1_;have ag:=n2_;have aa:=n3_;have HB:=n4_;clear n0_ n1_ n2_ n3_ n4_;(try clear hb);(try clear hb2);(try clear hk);(try clear hi);(try clear ho0)
     refine hK.out _ _ (HS0_) (fun hHeld=>?_)
     clear hK K
     refine norm_ (a':=?_) ?_ ?_
     rotate_left
     ·show Act.put _ (some 44) _=_;simp only [Act.put,sIB,sc0,scs,i64_w,i32_w]
      rfl
     refine one_ (i:=6) (N:=some 49) #[true,true,true,true,true,true,true,false,false] rfl rfl (one_of HT_.out kr) dc (fun K hK=>?_)
     refine Kd.R_lit_step (Kd.int .i64) _ 2 ?hg (N:=49) ?hd (xs:=([rd ad ae]:List Int)) (inner:=[.int .i64 (rd ad ae)]) (ok:=fun _=>True) (okp:=fun _=>True) ?hr ?hp (fun _ hk=>hk) trivial (Below.refl _ _) (Nat.le_refl _) (by simp) ?_;(case hd=>rfl);(case hg=>rfl);(case hr=>exact gs);(case hp=>exact (Reps.one (show Kd.M (Kd.int .i64) _ _ _ (rd ad ae) [.int .i64 (rd ad ae)] from rfl) (Reps.none _ _)))
     intro al w70 ho71 hb hg_ hnew_
     have HS0_:=(hb.cell (World.block_lt_of_cell? _ _ (hHeld))).trans (hHeld);clear hg_ hnew_;(first|rw [← aJ.out] at ho71|(simp only [Int.reduceToNat] at ho71;rw [← aJ.out] at ho71));have n0_:=rn ab ho71 hb;have n1_:=rn ac ho71 hb;have n2_:=rn ag ho71 hb;have n3_:=lw (nw (nw (nw ho71 ab) ac) ag);have n4_:=bb aa hb;have n5_:=hbs hb;clear ab ac ag aa HB;have ab:=n0_;have ac:=n1_;have ag:=n2_;have ah:=n3_;have aa:=n4_;have HB:=n5_;clear n0_ n1_ n2_ n3_ n4_ n5_ hb ho71
     refine hK.out _ _ (HS0_) (fun hHeld=>?_)
     clear hK K
     refine norm_ (a':=?_) ?_ ?_
     rotate_left
     ·show Act.put _ (some 49) _=_;simp only [Act.put,sIB,sc0,scs,i64_w,i32_w]
      rfl
     exact norm_ q24_2 (hCont (aj,al) _ ⟨hHeld,(pe (Kd.R_mono ag.out (fun _ hk=>⟨hk.2,⟨hk.1.1.2,hk.1.2⟩⟩))),(pe (Kd.R_mono ah.out (fun _ hk=>⟨hk.2,⟨hk.1.1.2,hk.1.2⟩⟩))),(pe (Kd.R_mono ab.out (fun _ hk=>⟨hk.1.2,⟨hk.2,hk.1.1⟩⟩))),(pe (Kd.R_mono ac.out (fun _ hk=>⟨hk.1.2,⟨hk.2,hk.1.1⟩⟩))),(pb aa.out),hq⟩)
    ·skip
     refine Kd.R_lit_step (Kd.int .i64) _ 2 ?hg (N:=49) ?hd (xs:=([rd ad ae]:List Int)) (inner:=[.int .i64 (rd ad ae)]) (ok:=fun _=>True) (okp:=fun _=>True) ?hr ?hp (fun _ hk=>hk) trivial (Below.refl _ _) (Nat.le_refl _) (by simp) ?_;(case hd=>rfl);(case hg=>rfl);(case hr=>exact gs);(case hp=>exact (Reps.one (show Kd.M (Kd.int .i64) _ _ _ (rd ad ae) [.int .i64 (rd ad ae)] from rfl) (Reps.none _ _)))
     intro al w69 ho70 hb hg_ hnew_
     have HS0_:=(hb.cell (World.block_lt_of_cell? _ _ (hHeld))).trans (hHeld);clear hg_ hnew_;(first|rw [← aJ.out] at ho70|(simp only [Int.reduceToNat] at ho70;rw [← aJ.out] at ho70));have n0_:=rn ab ho70 hb;have n1_:=rn ac ho70 hb;have n2_:=lw (nw (nw ho70 ab) ac);have n3_:=bb aa hb;have n4_:=hbs hb;clear ab ac aa HB;have ab:=n0_;have ac:=n1_;have ah:=n2_;have aa:=n3_;have HB:=n4_;clear n0_ n1_ n2_ n3_ n4_ hb ho70
     refine hK.out _ _ (HS0_) (fun hHeld=>?_)
     clear hK K
     refine norm_ (a':=?_) ?_ ?_
     rotate_left
     ·show Act.put _ (some 49) _=_;simp only [Act.put,sIB,sc0,scs,i64_w,i32_w]
      rfl
     refine one_ (i:=1) (N:=some 44) #[true,true,true,true,true,true,true,false,false] rfl rfl (one_of HT_.out kr) dc (fun K hK=>?_)
     refine goes_ Tryz.func90 kr rfl #[.slice ax af.length ay] (by rfl) rfl rfl am ?_
     with_reducible refine (spec_l01Own.calls _ _ af au _ ?side1 ?side2 A49.out).mono ?_
     (case side1=>exact pc ((Kd.R_reads' ab.out).2.2))
     (case side2=>exact (Kd.R_reads' ab.out).2.1)
     rintro e w71 ⟨aj,rfl,ho0,hb⟩
     have HS0_:=(hb.cell (World.block_lt_of_cell? _ _ (hHeld))).trans (hHeld)
     refine ⟨_,rfl,?_⟩
     have n0_:=rn ab ho0 hb;have n1_:=rn ac ho0 hb;have n2_:=rn ah ho0 hb;have n3_:=lw (nw (nw (nw ho0 ab) ac) ah);have n4_:=bb aa hb;have n5_:=hbs hb;clear ab ac ah aa HB;have ab:=n0_;have ac:=n1_;have ah:=n2_;have ag:=n3_;have aa:=n4_;have HB:=n5_;clear n0_ n1_ n2_ n3_ n4_ n5_;(try clear hb);(try clear hb2);(try clear hk);(try clear hi);(try clear ho0)
     refine hK.out _ _ (HS0_) (fun hHeld=>?_)
     clear hK K
     refine norm_ (a':=?_) ?_ ?_
     rotate_left
     ·show Act.put _ (some 44) _=_;simp only [Act.put,sIB,sc0,scs,i64_w,i32_w]
      rfl
     exact norm_ q24_2 (hCont (aj,al) _ ⟨hHeld,(pe (Kd.R_mono ag.out (fun _ hk=>⟨hk.2,⟨hk.1.1.2,hk.1.2⟩⟩))),(pe (Kd.R_mono ah.out (fun _ hk=>⟨hk.2,⟨hk.1.1.2,hk.1.2⟩⟩))),(pe (Kd.R_mono ab.out (fun _ hk=>⟨hk.2,⟨hk.1.2,hk.1.1⟩⟩))),(pe (Kd.R_mono ac.out (fun _ hk=>⟨hk.2,⟨hk.1.2,hk.1.1⟩⟩))),(pb aa.out),hq⟩)
   rintro ⟨aj,al⟩ w72 ⟨hS_,h0_,h1_,h2_,h3_,h4_,h5_⟩
   have n0_:Aside0 (Kd.R (Kd.int .i64) 2 w72 w.heap.size (fun k_=>some k_≠(al:Value).ownBlock∧some k_≠(.slice ax af.length ay:Value).ownBlock∧some k_≠(.slice (some ai) ad.length aE:Value).ownBlock) aj au):=⟨h0_⟩;have n1_:Aside0 (Kd.R (Kd.int .i64) 2 w72 w.heap.size (fun k_=>some k_≠(aj:Value).ownBlock∧some k_≠(.slice ax af.length ay:Value).ownBlock∧some k_≠(.slice (some ai) ad.length aE:Value).ownBlock) al ap):=⟨h1_⟩;have n2_:Aside0 (Kd.R (Kd.int .i64) 2 w72 w.heap.size (fun k_=>some k_≠(aj:Value).ownBlock∧some k_≠(al:Value).ownBlock∧some k_≠(.slice (some ai) ad.length aE:Value).ownBlock) (.slice ax af.length ay) af):=⟨h2_⟩;have n3_:Aside0 (Kd.R (Kd.int .i64) 2 w72 w.heap.size (fun k_=>some k_≠(aj:Value).ownBlock∧some k_≠(al:Value).ownBlock∧some k_≠(.slice ax af.length ay:Value).ownBlock) (.slice (some ai) ad.length aE) ad):=⟨h3_⟩;have n4_:Aside0 (w72.heap[az]?=some (.cells #[.slice A0_0 l0_0.length c0_0] 27 (0,0))):=⟨h4_⟩;have n5_:Aside0 (Below w.heap.size w w72):=⟨h5_⟩;clear ab ac aa HB h0_ h1_ h2_ h3_ h4_ h5_;have ag:=n0_;have ah:=n1_;have ab:=n2_;have ac:=n3_;have aa:=n4_;have HB:=n5_;clear n0_ n1_ n2_ n3_ n4_ n5_;have hHeld:w72.cell? (ai.add (ae).toNat)=some (.int .i64 (rd ad ae)):=hS_;obtain ⟨a4,a5,bf⟩:=Kd.R_slice ah.out;(first|subst bf|(injection bf with f1_ f2_ f3_;have f4_:=f1_.symm;have f5_:=f3_.symm;clear f1_ f2_ f3_;subst f4_;subst f5_))
   refine norm_ (a':=?_) ?_ ?_
   rotate_left
   ·simp only [putAll,Act.put,List.setIfInBounds_toArray,List.set_cons_zero,List.set_cons_succ]
    rfl
   refine one_ (i:=7) (N:=some 50) #[true,true,true,true,true,true,true,true,false] rfl rfl (one_of HT_.out kr) dc (fun K hK=>?_)
   refine Kd.R_append_rows_step (Kd.int .i64) (w0:=w) w.heap.size (by rfl) (.tmp 44) (.tmp 49) 24 2 (.int .i64 0) 8 rfl Tryz.underlying24 info2 rfl dc (by omega) aj au ap _ _ _ (fun k_=>some k_≠(.slice ax af.length ay:Value).ownBlock∧some k_≠(.slice (some ai) ad.length aE:Value).ownBlock∧some k_≠(.slice a4 ap.length a5:Value).ownBlock) (fun _=>False) rfl rfl ?aO ?aR (fun _ _ h=>h) (fun _ h=>h.elim) ?aF ?aB ?aS ?aL ?_
   (case aR=>exact pc ((Kd.R_reads' ah.out).2.2))
   (case aB=>exact hq)
   (case aF=>exact (fun k_ hk=>⟨Kd.fresh' (Kd.R_lt (pe ab.out)) k_ hk,Kd.fresh' (Kd.R_lt (pe ac.out)) k_ hk,Kd.fresh' (Kd.R_lt (pe ah.out)) k_ hk⟩))
   (case aO=>exact (pe (Kd.R_mono ag.out (fun _ hk=>⟨hk.2.1,⟨hk.2.2,hk.1⟩⟩))))
   (case aS=>exact (below_size hq))
   (case aL=>have:=a9.out;omega)
   intro bG w73 ho hb hg hat
   (first|have HS0_:=cell_grown hg (hHeld) q24_0|have HS0_:=cell_grown hg (cell_unalloc (hHeld) q24_4) q24_0);rw [← ba.out] at ho;have n0_:=ak (Kd.R_after (ok:=(fun k_=>some k_≠(.slice (some ai) ad.length aE:Value).ownBlock∧some k_≠(.slice a4 ap.length a5:Value).ownBlock)) (pe (Kd.R_mono ab.out (fun _ hk=>⟨⟨hk.2.2,hk.2.1⟩,hk.1⟩))) hg hat);have n1_:=ak (Kd.R_after (ok:=(fun k_=>some k_≠(.slice ax af.length ay:Value).ownBlock∧some k_≠(.slice a4 ap.length a5:Value).ownBlock)) (pe (Kd.R_mono ac.out (fun _ hk=>⟨⟨hk.2.2,hk.2.1⟩,hk.1⟩))) hg hat);have n2_:=ak (blk_grown (g:=az) (o:=.cells #[.slice A0_0 l0_0.length c0_0] 27 (0,0)) (pb aa.out) hg (Kd.R_ne ag.out aa.out dc));have n3_:=ak (Kd.R_after (ok:=(fun k_=>some k_≠(.slice ax af.length ay:Value).ownBlock∧some k_≠(.slice (some ai) ad.length aE:Value).ownBlock)) (pe (Kd.R_mono ah.out (fun _ hk=>⟨⟨hk.2.1,hk.2.2⟩,hk.1⟩))) hg hat);have n4_:=ak (hb);have n5_:=ak (ho);clear ab ac aa ah HB ag;have ab:=n0_;have ac:=n1_;have aa:=n2_;have ah:=n3_;have HB:=n4_;have aA:=n5_;clear n0_ n1_ n2_ n3_ n4_ n5_ ho hb hg hat
   refine hK.out _ _ (HS0_) (fun hHeld=>?_)
   clear hK K
   refine norm_ (a':=?_) ?_ ?_
   rotate_left
   ·show Act.put _ (some 50) _=_;simp only [Act.put,sIB,sc0,scs,i64_w,i32_w]
    rfl
   refine pur (i:=8) (N:=some 9) (v:=?_) (a':=?_) #[true,true,true,true,true,true,true,true,true] rfl (Or.inl ⟨by rfl,?_⟩) ?_ ?_
   rotate_left
   ·intro w'
    go_simp
    with_reducible rfl
   rotate_left
   ·simp only [Act.put,sIB,sc0,scs,i64_w,i32_w]
    rfl
   refine done_ (done_of HT_.out kr) ?_
   have cp:=bc aa.out;have cq:=blk_frozen aa.out 0;obtain ⟨bM,bN,bO⟩:=Kd.R_slice aA.out;subst bO
   try go_wp2_with (first|((with_reducible refine gate_callee (f:=89) rfl ?_);refine gl (some 53) Tryz.func89 #[.agg #[.slice A0_0 l0_0.length c0_0],.slice bM aH.length bN] ?_;(with_reducible refine (spec_l09Count.calls k2 _ _ l0_0 _ _ aH aI _ (pc (Kd.C_below an.out HB.out)) ao.out (pc ((Kd.R_reads' aA.out).2.2)) (Kd.R_reads' aA.out).2.1 A52.out).mono ?_);rintro e w77 ⟨rfl,hb⟩;refine ⟨_,rfl,?_⟩;replace ab:=rb ab hb;replace ac:=rb ac hb;replace ah:=rb ah hb;replace aA:=rb aA hb;replace aa:=bb aa hb;replace HB:=hbs hb;(try clear hb)))
   go_roundg k2
   case measure=>have:=HK1.out;have:=HK2.out;omega
   case rel=>exact ⟨(wrap64 (ar - aI)),(af),(wrap64 (ae+1)),q24_3,q24_3,H',⟨by have:=HK1.out;have:=HK2.out;omega⟩,⟨pe (Kd.R_mono ab.out (fun _ hk=>hk.1.1))⟩,⟨pe (Kd.R_mono ac.out (fun _ hk=>hk.1.1))⟩,⟨pb aa.out⟩,⟨hq⟩⟩
end Go.Proofs.YtlppkilencpmeaaGreat.QFnGrowing
