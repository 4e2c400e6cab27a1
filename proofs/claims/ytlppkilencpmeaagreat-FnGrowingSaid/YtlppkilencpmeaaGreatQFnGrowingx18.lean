/- Functions as Lean functions, with their contracts: written by a program of this claim over the translation; some contracts are proved by hand. -/
import Derived.Test.YtlppkilencpmeaaGreatQFnGrowingx0
import Derived.Test.YtlppkilencpmeaaGreatQFnGrowingx1
import Derived.Test.YtlppkilencpmeaaGreatQFnGrowingx3
import Derived.Test.YtlppkilencpmeaaGreatQFnGrowingx9
namespace Go.Proofs.YtlppkilencpmeaaGreat.QFnGrowing
open Go.RowKit Go.Proofs.YtlppkilencpmeaaGreat.Gl Go.Proofs.YtlppkilencpmeaaGreat.Sz Go.Proofs.YtlppkilencpmeaaGreatW.PrintWords Go.Proofs.YtlppkilencpmeaaGreatW.PrintLast Go.Proofs.YtlppkilencpmeaaGreatW.PrintMore
attribute [local go_sem] max2_int min2_int max_two min_two max_three min_three max_four min_four   -- for this text's walks alone
set_option linter.unusedVariables false
set_option linter.unusedSimpArgs false
theorem q18_0 {P:Prop} (h:P:=by repeat (first|(with_reducible first|exact HI0.out|apply IsS90.alloc|apply IsS90.drewN|apply IsS90.drew|apply IsS90.set_1|apply IsS90.set_2)|exact HI0.out)):P:=h
theorem q18_1 {P:Prop} (h:P:=by repeat (first|(with_reducible first|exact HB.out|apply below_alloc|apply pw_below_drewN|apply below_drew1|refine below_set ?_ (IsS90.ge HI0.out))|exact HB.out)):P:=h
theorem q18_2 {P:Prop} (h:P:=by repeat (first|(with_reducible first|exact HK.out|apply KeepBut.set_|apply keep_drewN|apply keep_drew|apply keep_alloc)|exact HK.out)):P:=h
theorem q18_3 {P:Prop} (h:P:=by first|exact Kd.R_nil _ _ _ _ _|exact Kd.N_nil _ _ _ _ _|exact Kd.V_nil _ _ _ _ _|exact Kd.Q_nil _ _ _ _ _|exact Kd.S_nil _ _ _ _ _):P:=h
theorem q18_4 {P:Prop} (h:P:=by first|rfl|(simp;done)|(simp [*];done)):P:=h
theorem q18_5 {P:Prop} (h:P:=by first|(with_reducible assumption)|assumption):P:=h
set_option maxHeartbeats 8000000
set_option maxRecDepth 100000
mutual
def impl_GrowingOfRank.l0:Nat→Int→List Int→List Int→List Int→Int→Int→Option (List Int × Int)
 | 0,_,_,_,_,_,_=>none
 | k+1,x1,x6,x7,x8,x37,x38=>if x38<x37 then ((impl_nexts.f k x6 x7).bind fun t681=>(impl_GrowingOfRank.l1 k x1 x6 x7 x8 x37 x38 t681 (t681.length:Int) 0)) else (some (x7,0))
def impl_GrowingOfRank.l1:Nat→Int→List Int→List Int→List Int→Int→Int→List Int→Int→Int→Option (List Int × Int)
 | 0,_,_,_,_,_,_,_,_,_=>none
 | k+1,x1,x6,x7,x8,x37,x38,x42,x43,x44=>if x44<x43 then (if 0≤x44 then (if x44<(x42.length:Int) then ((slices_Clone.f x7).bind fun t685=>(if t685.length<17592186044416 then ((some (t685++[rd x42 x44]:List Int)).bind fun y688=>((impl_others.f x6 y688).bind fun t691=>((impl_ways.f k x8 t691).bind fun t694=>(if x1<t694 then (impl_GrowingOfRank.l0 k x1 x6 y688 x8 x37 (wrap64 (x38+1))) else (impl_GrowingOfRank.l1 k (wrap64 (x1 - t694)) x6 x7 x8 x37 x38 x42 x43 (wrap64 (x44+1))))))) else (none))) else (none)) else (none)) else (impl_GrowingOfRank.l0 k x1 x6 x7 x8 x37 (wrap64 (x38+1)))
end
def impl_GrowingOfRank.f (k:Nat) (l0_0:List Int) (a1:Int):Option (List Int × Int):=(impl_IsTree.f k l0_0).bind fun t670=>(if t670=true then (if a1<0 then (some (([]:List Int),2)) else (if (l0_0.length:Int)>20 then (some (([]:List Int),3)) else ((impl_sizesOf.f k l0_0).bind fun t674=>((impl_preorder.f k l0_0).bind fun t677=>((impl_ways.f k t674 t677).bind fun t680=>(if a1≥t680 then (some (([]:List Int),4)) else (impl_GrowingOfRank.l0 k a1 l0_0 ([]:List Int) t674 (l0_0.length:Int) 0))))))) else (some (([]:List Int),1)))
theorem impl_GrowingOfRank.calls (k:Nat) (A0_0:Option Addr) (c0_0:Nat) (l0_0:List Int) (a1:Int) (r1:List Int) (r2:Int) (w:World) (hr0_0:Kd.C (Kd.int .i64) w A0_0 l0_0.length l0_0) (hc0_0:l0_0.length≤c0_0) (h:impl_GrowingOfRank.f k l0_0 a1=some (r1,r2)) :
  Calls Tryz.prog 31 #[.agg #[.slice A0_0 l0_0.length c0_0],.int .i64 a1] w fun e w'=>∃ v0_:Value,e=.returned (.tuple #[v0_,.int .i64 r2])∧Kd.R (Kd.int .i64) 2 w' w.heap.size (fun _=>True) v0_ r1∧Below w.heap.size w w':=by
 have hu27:=Tryz.underlying27;have ah:=ak hr0_0;have ai:=ak hc0_0;clear hr0_0 hc0_0;have HB:=ak (Below.refl w.heap.size w);have H:((impl_IsTree.f k l0_0).bind fun bd=>(if bd=true then (if a1<0 then (some (([]:List Int),2)) else (if (l0_0.length:Int)>20 then (some (([]:List Int),3)) else ((impl_sizesOf.f k l0_0).bind fun ab=>((impl_preorder.f k l0_0).bind fun au=>((impl_ways.f k ab au).bind fun av=>(if a1≥av then (some (([]:List Int),4)) else (impl_GrowingOfRank.l0 k a1 l0_0 ([]:List Int) ab (l0_0.length:Int) 0))))))) else (some (([]:List Int),1))))=some (r1,r2):=h;clear h;replace H:=bs H;obtain ⟨bd,A3,H⟩:=H;(try dsimp only at H);obtain c4|c4:=nem (bd=true)
 ·replace c4:=Bool.eq_false_iff.mpr c4;subst c4;have H1:(some (([]:List Int),1))=some (r1,r2):=by rw [if_neg (show ¬ (false=true) by decide)] at H;exact H
  clear H;have H:=H1;clear H1;simp only [Option.some.injEq,Prod.mk.injEq] at H;obtain ⟨rfl,rfl⟩:=H
  go_enter Tryz.func31,Tryz.ntmps31
  go_wp2_with (first|((with_reducible refine gate_dst (N:=2) rfl ?_);refine bev (N:=2) (cs:=#[.slice A0_0 l0_0.length c0_0]) (t:=27) ?_;intro az hg w63 hbox hb;have aa:=ak (hbox);have a3:=gbe hg;have a4:=gbe hg;replace HB:=hbs hb;clear hb hbox hg;have cu:=bc aa.out;have cv:=blk_frozen aa.out 0)|((with_reducible refine gate_callee (f:=92) rfl ?_);refine gl (some 15) Tryz.func92 #[.agg #[.slice A0_0 l0_0.length c0_0]] ?_;(with_reducible refine (impl_IsTree.calls k _ _ l0_0 false _ (pc (Kd.C_below ah.out HB.out)) ai.out A3.out).mono ?_);rintro e w65 ⟨rfl,hb⟩;refine ⟨_,rfl,?_⟩;replace aa:=bb aa hb;replace HB:=hbs hb;(try clear hb)))
  go_ret2
  exact ⟨_,ew,q18_3,hq⟩
 subst c4;replace H:(if a1<0 then (some (([]:List Int),2)) else (if (l0_0.length:Int)>20 then (some (([]:List Int),3)) else ((impl_sizesOf.f k l0_0).bind fun ab=>((impl_preorder.f k l0_0).bind fun au=>((impl_ways.f k ab au).bind fun av=>(if a1≥av then (some (([]:List Int),4)) else (impl_GrowingOfRank.l0 k a1 l0_0 ([]:List Int) ab (l0_0.length:Int) 0)))))))=some (r1,r2):=by rw [if_pos rfl] at H;exact H
 by_cases c5:a1<0
 ·rw [if_pos c5] at H;have bx:=dt c5;clear c5;simp only [Option.some.injEq,Prod.mk.injEq] at H;obtain ⟨rfl,rfl⟩:=H
  go_enter Tryz.func31,Tryz.ntmps31
  go_wp2_with (first|((with_reducible refine gate_dst (N:=2) rfl ?_);refine bev (N:=2) (cs:=#[.slice A0_0 l0_0.length c0_0]) (t:=27) ?_;intro az hg w6 hbox hb;have aa:=ak (hbox);have a3:=gbe hg;have a4:=gbe hg;replace HB:=hbs hb;clear hb hbox hg;have cw:=bc aa.out;have cx:=blk_frozen aa.out 0)|((with_reducible refine gate_callee (f:=92) rfl ?_);refine gl (some 15) Tryz.func92 #[.agg #[.slice A0_0 l0_0.length c0_0]] ?_;(with_reducible refine (impl_IsTree.calls k _ _ l0_0 true _ (pc (Kd.C_below ah.out HB.out)) ai.out A3.out).mono ?_);rintro e w8 ⟨rfl,hb⟩;refine ⟨_,rfl,?_⟩;replace aa:=bb aa hb;replace HB:=hbs hb;(try clear hb)))
  go_ret2
  exact ⟨_,ew,q18_3,hq⟩
 rw [if_neg c5] at H;have bx:=df c5;clear c5
 by_cases c9:(l0_0.length:Int)>20
 ·rw [if_pos c9] at H;have bz:decide (20<(l0_0.length:Int))=true:=decide_eq_true c9;have bA:decide (20<l0_0.length)=true:=decide_eq_true (by omega);clear c9;simp only [Option.some.injEq,Prod.mk.injEq] at H;obtain ⟨rfl,rfl⟩:=H
  go_enter Tryz.func31,Tryz.ntmps31
  go_wp2_with (first|((with_reducible refine gate_dst (N:=2) rfl ?_);refine bev (N:=2) (cs:=#[.slice A0_0 l0_0.length c0_0]) (t:=27) ?_;intro az hg w10 hbox hb;have aa:=ak (hbox);have a3:=gbe hg;have a4:=gbe hg;replace HB:=hbs hb;clear hb hbox hg;have cy:=bc aa.out;have cz:=blk_frozen aa.out 0)|((with_reducible refine gate_callee (f:=92) rfl ?_);refine gl (some 15) Tryz.func92 #[.agg #[.slice A0_0 l0_0.length c0_0]] ?_;(with_reducible refine (impl_IsTree.calls k _ _ l0_0 true _ (pc (Kd.C_below ah.out HB.out)) ai.out A3.out).mono ?_);rintro e w12 ⟨rfl,hb⟩;refine ⟨_,rfl,?_⟩;replace aa:=bb aa hb;replace HB:=hbs hb;(try clear hb);(try clear hb2);(try clear hk);(try clear hi);have cA:=bc aa.out;have cB:=blk_frozen aa.out 0))
  go_ret2
  exact ⟨_,ew,q18_3,hq⟩
 rw [if_neg c9] at H;have bz:decide (20<(l0_0.length:Int))=false:=decide_eq_false c9;have bA:decide (20<l0_0.length)=false:=decide_eq_false (by omega);clear c9;obtain ⟨bm,hY⟩:∃ y_:List Int,y_=([]:List Int):=⟨_,rfl⟩;replace H:((impl_sizesOf.f k l0_0).bind fun ab=>((impl_preorder.f k l0_0).bind fun au=>((impl_ways.f k ab au).bind fun av=>(if a1≥av then (some (([]:List Int),4)) else (impl_GrowingOfRank.l0 k a1 l0_0 bm ab (l0_0.length:Int) 0)))))=some (r1,r2):=hh;have a5:=ak hY;clear hY;replace H:=bs H;obtain ⟨ab,A14,H⟩:=H;(try dsimp only at H);replace H:=bs H;obtain ⟨au,A15,H⟩:=H;(try dsimp only at H);replace H:=bs H;obtain ⟨av,A16,H⟩:=H;(try dsimp only at H)
 by_cases c17:a1≥av
 ·rw [if_pos c17] at H;have bB:decide (av≤a1)=true:=decide_eq_true c17;clear c17;simp only [Option.some.injEq,Prod.mk.injEq] at H;obtain ⟨rfl,rfl⟩:=H
  go_enter Tryz.func31,Tryz.ntmps31
  go_wp2_with (first|((with_reducible refine gate_dst (N:=2) rfl ?_);refine bev (N:=2) (cs:=#[.slice A0_0 l0_0.length c0_0]) (t:=27) ?_;intro az hg w18 hbox hb;have aa:=ak (hbox);have a3:=gbe hg;have a4:=gbe hg;replace HB:=hbs hb;clear hb hbox hg;have cC:=bc aa.out;have cD:=blk_frozen aa.out 0)|((with_reducible refine gate_callee (f:=92) rfl ?_);refine gl (some 15) Tryz.func92 #[.agg #[.slice A0_0 l0_0.length c0_0]] ?_;(with_reducible refine (impl_IsTree.calls k _ _ l0_0 true _ (pc (Kd.C_below ah.out HB.out)) ai.out A3.out).mono ?_);rintro e w20 ⟨rfl,hb⟩;refine ⟨_,rfl,?_⟩;replace aa:=bb aa hb;replace HB:=hbs hb;(try clear hb);(try clear hb2);(try clear hk);(try clear hi);have cE:=bc aa.out;have cF:=blk_frozen aa.out 0)|((with_reducible refine gate_dst (N:=27) rfl ?_);refine Kd.R_lit (Kd.int .i64) _ 2 ?hg (N:=27) ?hd (xs:=([]:List Int)) (inner:=[]) (ok:=fun _=>True) (okp:=fun _=>True) ?hr ?hp (fun _ hk=>hk) trivial (Below.refl _ _) (Nat.le_refl _) (by simp) ?_;(case hd=>rfl);(case hg=>rfl);(case hr=>exact gs);(case hp=>exact (Reps.none _ _));intro bC w22 ho23 hb hg_ hnew_;clear hg_ hnew_;(first|rw [← a5.out] at ho23|(simp only [Int.reduceToNat] at ho23;rw [← a5.out] at ho23));have an:=lw ho23;replace aa:=bb aa hb;replace HB:=hbs hb;clear hb ho23)|((with_reducible refine gate_callee (f:=83) rfl ?_);refine gl (some 29) Tryz.func83 #[.slice A0_0 l0_0.length c0_0] ?_;(with_reducible refine (impl_sizesOf.calls k _ _ l0_0 ab _ (pc (Kd.C_below ah.out HB.out)) ai.out A14.out).mono ?_);rintro e w24 ⟨bD,rfl,ho0,hb⟩;refine ⟨_,rfl,?_⟩;have ao:=lw (nw ho0 an);replace an:=rn an ho0 hb;replace aa:=bb aa hb;replace HB:=hbs hb;(try clear hb ho0))|((with_reducible refine gate_callee (f:=93) rfl ?_);refine gl (some 33) Tryz.func93 #[.slice A0_0 l0_0.length c0_0] ?_;(with_reducible refine (impl_preorder.calls k _ _ l0_0 au _ (pc (Kd.C_below ah.out HB.out)) ai.out A15.out).mono ?_);rintro e w25 ⟨bE,rfl,ho0,hb⟩;refine ⟨_,rfl,?_⟩;have aD:=lw (nw (nw ho0 an) ao);replace an:=rn an ho0 hb;replace ao:=rn ao ho0 hb;replace aa:=bb aa hb;replace HB:=hbs hb;(try clear hb);(try clear hb2);(try clear hk);(try clear hi);(try clear ho0);obtain ⟨bF,bG,bH⟩:=Kd.R_slice ao.out;subst bH;obtain ⟨bI,bJ,bK⟩:=Kd.R_slice aD.out;subst bK)|((with_reducible refine gate_callee (f:=85) rfl ?_);refine gl (some 34) Tryz.func85 #[.slice bF ab.length bG,.slice bI au.length bJ] ?_;(with_reducible refine (impl_ways.calls k _ _ ab _ _ au av _ (pc ((Kd.R_reads' ao.out).2.2)) (Kd.R_reads' ao.out).2.1 (pc ((Kd.R_reads' aD.out).2.2)) (Kd.R_reads' aD.out).2.1 A16.out).mono ?_);rintro e w' ⟨rfl,⟨nd,rfl⟩⟩;refine ⟨_,rfl,?_⟩))
  go_ret2
  exact ⟨_,ew,q18_3,hq⟩
 rw [if_neg c17] at H;have bB:decide (av≤a1)=false:=decide_eq_false c17;clear c17;have H':=ak H;clear H
 go_enter Tryz.func31,Tryz.ntmps31
 go_wp2_with (first|((with_reducible refine gate_dst (N:=2) rfl ?_);refine bev (N:=2) (cs:=#[.slice A0_0 l0_0.length c0_0]) (t:=27) ?_;intro az hg w28 hbox hb;have aa:=ak (hbox);have a3:=gbe hg;have a4:=gbe hg;replace HB:=hbs hb;clear hb hbox hg;have cG:=bc aa.out;have cH:=blk_frozen aa.out 0)|((with_reducible refine gate_callee (f:=92) rfl ?_);refine gl (some 15) Tryz.func92 #[.agg #[.slice A0_0 l0_0.length c0_0]] ?_;(with_reducible refine (impl_IsTree.calls k _ _ l0_0 true _ (pc (Kd.C_below ah.out HB.out)) ai.out A3.out).mono ?_);rintro e w30 ⟨rfl,hb⟩;refine ⟨_,rfl,?_⟩;replace aa:=bb aa hb;replace HB:=hbs hb;(try clear hb);(try clear hb2);(try clear hk);(try clear hi);have cI:=bc aa.out;have cJ:=blk_frozen aa.out 0)|((with_reducible refine gate_dst (N:=27) rfl ?_);refine Kd.R_lit (Kd.int .i64) _ 2 ?hg (N:=27) ?hd (xs:=([]:List Int)) (inner:=[]) (ok:=fun _=>True) (okp:=fun _=>True) ?hr ?hp (fun _ hk=>hk) trivial (Below.refl _ _) (Nat.le_refl _) (by simp) ?_;(case hd=>rfl);(case hg=>rfl);(case hr=>exact gs);(case hp=>exact (Reps.none _ _));intro bC w32 ho33 hb hg_ hnew_;clear hg_ hnew_;(first|rw [← a5.out] at ho33|(simp only [Int.reduceToNat] at ho33;rw [← a5.out] at ho33));have an:=lw ho33;replace aa:=bb aa hb;replace HB:=hbs hb;clear hb ho33)|((with_reducible refine gate_callee (f:=83) rfl ?_);refine gl (some 29) Tryz.func83 #[.slice A0_0 l0_0.length c0_0] ?_;(with_reducible refine (impl_sizesOf.calls k _ _ l0_0 ab _ (pc (Kd.C_below ah.out HB.out)) ai.out A14.out).mono ?_);rintro e w34 ⟨bD,rfl,ho0,hb⟩;refine ⟨_,rfl,?_⟩;have ao:=lw (nw ho0 an);replace an:=rn an ho0 hb;replace aa:=bb aa hb;replace HB:=hbs hb;(try clear hb ho0))|((with_reducible refine gate_callee (f:=93) rfl ?_);refine gl (some 33) Tryz.func93 #[.slice A0_0 l0_0.length c0_0] ?_;(with_reducible refine (impl_preorder.calls k _ _ l0_0 au _ (pc (Kd.C_below ah.out HB.out)) ai.out A15.out).mono ?_);rintro e w35 ⟨bE,rfl,ho0,hb⟩;refine ⟨_,rfl,?_⟩;have aD:=lw (nw (nw ho0 an) ao);replace an:=rn an ho0 hb;replace ao:=rn ao ho0 hb;replace aa:=bb aa hb;replace HB:=hbs hb;(try clear hb);(try clear hb2);(try clear hk);(try clear hi);(try clear ho0);obtain ⟨ap,aq,bL⟩:=Kd.R_slice ao.out;subst bL;obtain ⟨bM,bN,bO⟩:=Kd.R_slice aD.out;subst bO)|((with_reducible refine gate_callee (f:=85) rfl ?_);refine gl (some 34) Tryz.func85 #[.slice ap ab.length aq,.slice bM au.length bN] ?_;(with_reducible refine (impl_ways.calls k _ _ ab _ _ au av _ (pc ((Kd.R_reads' ao.out).2.2)) (Kd.R_reads' ao.out).2.1 (pc ((Kd.R_reads' aD.out).2.2)) (Kd.R_reads' aD.out).2.1 A16.out).mono ?_);rintro e w' ⟨rfl,⟨nd,rfl⟩⟩;refine ⟨_,rfl,?_⟩))
 go_loopg [1,7,38] k (fun kq v1 v7 v38 w'=>∃ (a6:Int) (aR:List Int) (ax:Int),v1=.int .i64 a6∧v38=.int .i64 ax∧Aside0 (impl_GrowingOfRank.l0 kq a6 l0_0 aR ab (l0_0.length:Int) ax=some (r1,r2))∧Aside0 (kq≤k)∧Aside0 (Kd.R (Kd.int .i64) 2 w' w.heap.size (fun k_=>some k_≠((.slice ap ab.length aq):Value).ownBlock) v7 aR)∧Aside0 (Kd.R (Kd.int .i64) 2 w' w.heap.size (fun k_=>some k_≠(v7:Value).ownBlock) (.slice ap ab.length aq) ab)∧Aside0 (w'.heap[az]?=some (.cells #[(.slice A0_0 l0_0.length c0_0)] 27 (0,0)))∧Aside0 (Below w.heap.size w w'))
 case atStart=>exact ⟨(a1),(bm),(0),q18_4,q18_4,H',⟨Nat.le_refl _⟩,⟨pe (Kd.R_mono an.out (fun _ hk=>hk.1.2))⟩,⟨pe (Kd.R_mono ao.out (fun _ hk=>hk.1.2))⟩,⟨pb aa.out⟩,⟨hq⟩⟩
 case round =>
  clear H';obtain ⟨a6,aR,ax,rfl,rfl,HA,HK1,ac,ad,aa,HB⟩:=hrel
  cases gk with|zero=>exact absurd HA.out (by simp [impl_GrowingOfRank.l0])|succ k1=>?_
  have H:=HA.out;clear HA;simp only [impl_GrowingOfRank.l0] at H;obtain c38|c38:=nem (ax<(l0_0.length:Int))
  ·rw [if_neg c38] at H;have bP:=df c38;clear c38;simp only [Option.some.injEq,Prod.mk.injEq] at H;obtain ⟨rfl,rfl⟩:=H;go_wp2
   go_ret2
   exact ⟨_,ew,pe (Kd.R_mono ac.out (fun _ hk=>trivial)),hq⟩
  rw [if_pos c38] at H;have bP:=dt c38;clear c38;replace H:=bs H;obtain ⟨ae,A39,H⟩:=H;(try dsimp only at H);have H':=ak H;clear H;obtain ⟨bQ,bR,bS⟩:=Kd.R_slice ac.out;subst bS
  go_wp2_with (first|((with_reducible refine gate_callee (f:=84) rfl ?_);refine gl (some 42) Tryz.func84 #[.slice A0_0 l0_0.length c0_0,.slice bQ aR.length bR] ?_;(with_reducible refine (impl_nexts.calls k1 _ _ l0_0 _ _ aR ae _ (pc (Kd.C_below ah.out HB.out)) ai.out (pc ((Kd.R_reads' ac.out).2.2)) (Kd.R_reads' ac.out).2.1 A39.out).mono ?_);rintro e w41 ⟨cK,rfl,ho0,hb⟩;refine ⟨_,rfl,?_⟩;have bo:=lw (nw (nw ho0 ac) ad);replace ac:=rn ac ho0 hb;replace ad:=rn ad ho0 hb;replace aa:=bb aa hb;replace HB:=hbs hb;(try clear hb);(try clear hb2);(try clear hk);(try clear hi);(try clear ho0);obtain ⟨bf,ay,bT⟩:=Kd.R_slice bo.out;subst bT))
  go_loopg [1,7,44] k1 (fun kq v1 v7 v44 w'=>∃ (aw:Int) (al:List Int) (aj:Int),v1=.int .i64 aw∧v44=.int .i64 aj∧Aside0 (impl_GrowingOfRank.l1 kq aw l0_0 al ab (l0_0.length:Int) ax ae (ae.length:Int) aj=some (r1,r2))∧Aside0 (kq≤k1)∧Aside0 (Kd.R (Kd.int .i64) 2 w' w.heap.size (fun k_=>some k_≠((.slice ap ab.length aq):Value).ownBlock∧some k_≠((.slice bf ae.length ay):Value).ownBlock) v7 al)∧Aside0 (Kd.R (Kd.int .i64) 2 w' w.heap.size (fun k_=>some k_≠(v7:Value).ownBlock∧some k_≠((.slice bf ae.length ay):Value).ownBlock) (.slice ap ab.length aq) ab)∧Aside0 (Kd.R (Kd.int .i64) 2 w' w.heap.size (fun k_=>some k_≠(v7:Value).ownBlock∧some k_≠((.slice ap ab.length aq):Value).ownBlock) (.slice bf ae.length ay) ae)∧Aside0 (w'.heap[az]?=some (.cells #[(.slice A0_0 l0_0.length c0_0)] 27 (0,0)))∧Aside0 (Below w.heap.size w w'))
  case atStart=>exact ⟨(a6),(aR),(0),q18_4,q18_4,H',⟨Nat.le_refl _⟩,⟨pe ac.out⟩,⟨pe ad.out⟩,⟨pe (Kd.R_mono bo.out (fun _ hk=>⟨hk.1.2,hk.2⟩))⟩,⟨pb aa.out⟩,⟨hq⟩⟩
  case round =>
   clear H';obtain ⟨aw,al,aj,rfl,rfl,HA,HK2,ac,ad,af,aa,HB⟩:=hrel
   cases gk with|zero=>exact absurd HA.out (by simp [impl_GrowingOfRank.l1])|succ k2=>?_
   have H:=HA.out;clear HA;simp only [impl_GrowingOfRank.l1] at H;obtain c43|c43:=nem (aj<(ae.length:Int))
   ·rw [if_neg c43] at H;have bU:=df c43;clear c43;have H':=ak H;clear H;go_wp2
    go_roundg k2
    case measure=>have:=HK1.out;have:=HK2.out;omega
    case rel=>exact ⟨(aw),(al),(wrap64 (ax+1)),q18_4,q18_4,H',⟨by have:=HK1.out;have:=HK2.out;omega⟩,⟨pe (Kd.R_mono ac.out (fun _ hk=>hk.1))⟩,⟨pe (Kd.R_mono ad.out (fun _ hk=>hk.1))⟩,⟨pb aa.out⟩,⟨hq⟩⟩
   rw [if_pos c43] at H;have bU:=dt c43;clear c43;replace H:=ifs H;obtain ⟨c44,H⟩:=H;have cL:=dt c44;clear c44;replace H:=ifs H;obtain ⟨c45,H⟩:=H;have cM:=dt c45;clear c45;replace H:=bs H;obtain ⟨aW,A46,H⟩:=H;(try dsimp only at H);replace H:=ifs H;obtain ⟨c47,H⟩:=H;have bp:=ak c47;clear c47;obtain ⟨aE,hY⟩:∃ y_:List Int,y_=(aW++[rd ae aj]):=⟨_,rfl⟩;replace H:((impl_others.f l0_0 aE).bind fun aA=>((impl_ways.f k2 ab aA).bind fun aG=>(if aw<aG then (impl_GrowingOfRank.l0 k2 aw l0_0 aE ab (l0_0.length:Int) (wrap64 (ax+1))) else (impl_GrowingOfRank.l1 k2 (wrap64 (aw - aG)) l0_0 al ab (l0_0.length:Int) ax ae (ae.length:Int) (wrap64 (aj+1))))))=some (r1,r2):=hh;have bq:=ak hY;clear hY;replace H:=bs H;obtain ⟨aA,A48,H⟩:=H;(try dsimp only at H);replace H:=bs H;obtain ⟨aG,A49,H⟩:=H;(try dsimp only at H)
   by_cases c50:aw<aG
   ·rw [if_pos c50] at H;have bV:=dt c50;clear c50;have H':=ak H;clear H;have aH:0≤(aj:Int):=od q18_5;have aI:aj<(ae.length:Int):=od q18_5;(try (obtain ⟨Aop_,cop_,eop_⟩:=Kd.R_slice af.out;subst eop_));obtain ⟨aJ,bg,bW⟩:=Kd.at_int (Kd.R_reads' af.out).2.2 aj aH aI;cases bg;replace aH:=eq_true aH;replace aI:=eq_true aI;obtain ⟨a7,a8,bX⟩:=Kd.R_slice ac.out;subst bX
    go_wp2_with (first|((with_reducible refine gate_callee (f:=63) rfl ?_);refine gl (some 49) Tryz.func63 #[.slice a7 al.length a8] ?_;(with_reducible refine (slices_Clone.calls _ _ al aW _ (pc ((Kd.R_reads' ac.out).2.2)) (Kd.R_reads' ac.out).2.1 A46.out).mono ?_);rintro e w52 ⟨bh,rfl,ho0,hb⟩;refine ⟨_,rfl,?_⟩;have aK:=lw (nw (nw (nw ho0 ac) ad) af);replace ac:=rn ac ho0 hb;replace ad:=rn ad ho0 hb;replace af:=rn af ho0 hb;replace aa:=bb aa hb;replace HB:=hbs hb;(try clear hb ho0))|((with_reducible refine gate_builtin (b:=.append) (xs:=#[.tmp 49,.tmp 51]) rfl ?_);at_builtin;refine Kd.R_append (Kd.int .i64) (w0:=w) w.heap.size rfl (.tmp 49) (.tmp 51) 24 2 (.int .i64 0) 8 rfl Tryz.underlying24 info2 rfl dc (by omega) bh aW (rd ae aj) [.int .i64 (rd ae aj)] (fun k_=>some k_≠(.slice a7 al.length a8:Value).ownBlock∧some k_≠(.slice ap ab.length aq:Value).ownBlock∧some k_≠(.slice (some aJ) ae.length ay:Value).ownBlock) (fun _=>False) rfl rfl ?aP (fun _ hk=>hk.elim) ?aF ?aO ?aB ?aS ?aL ?_;(case aP=>exact rfl);(case aB=>exact hq);(case aF=>exact (fun k_ hk=>⟨Kd.fresh' (Kd.R_lt (pe ac.out)) k_ hk,Kd.fresh' (Kd.R_lt (pe ad.out)) k_ hk,Kd.fresh' (Kd.R_lt (pe af.out)) k_ hk⟩));(case aO=>exact (pe (Kd.R_mono aK.out (fun _ hk=>⟨hk.1.1.2,⟨hk.1.2,hk.2⟩⟩))));(case aS=>exact (below_size hq));(case aL=>have:=bp.out;omega);intro bY w53 ho hb hg hat;rw [← bq.out] at ho;replace ac:=ak (Kd.R_after (ok:=(fun k_=>some k_≠(.slice ap ab.length aq:Value).ownBlock∧some k_≠(.slice (some aJ) ae.length ay:Value).ownBlock)) (pe ac.out) hg hat);replace ad:=ak (Kd.R_after (ok:=(fun k_=>some k_≠(.slice a7 al.length a8:Value).ownBlock∧some k_≠(.slice (some aJ) ae.length ay:Value).ownBlock)) (pe ad.out) hg hat);replace af:=ak (Kd.R_after (ok:=(fun k_=>some k_≠(.slice a7 al.length a8:Value).ownBlock∧some k_≠(.slice ap ab.length aq:Value).ownBlock)) (pe af.out) hg hat);replace aa:=ak (blk_grown (g:=az) (o:=.cells #[.slice A0_0 l0_0.length c0_0] 27 (0,0)) (pb aa.out) hg (Kd.R_ne aK.out aa.out dc));replace HB:=ak (hb);have ar:=ak (ho);clear aK;clear ho hb hg hat;obtain ⟨bZ,b0,b1⟩:=Kd.R_slice ar.out;subst b1)|((with_reducible refine gate_callee (f:=86) rfl ?_);refine gl (some 56) Tryz.func86 #[.slice A0_0 l0_0.length c0_0,.slice bZ aE.length b0] ?_;(with_reducible refine (impl_others.calls _ _ l0_0 _ _ aE aA _ (pc (Kd.C_below ah.out HB.out)) ai.out (pc ((Kd.R_reads' ar.out).2.2)) (Kd.R_reads' ar.out).2.1 A48.out).mono ?_);rintro e w55 ⟨b2,rfl,ho0,hb⟩;refine ⟨_,rfl,?_⟩;have aM:=lw (nw (nw (nw (nw ho0 ac) ad) af) ar);replace ac:=rn ac ho0 hb;replace ad:=rn ad ho0 hb;replace af:=rn af ho0 hb;replace ar:=rn ar ho0 hb;replace aa:=bb aa hb;replace HB:=hbs hb;(try clear hb);(try clear hb2);(try clear hk);(try clear hi);(try clear ho0);obtain ⟨b3,b4,b5⟩:=Kd.R_slice aM.out;subst b5)|((with_reducible refine gate_callee (f:=85) rfl ?_);refine gl (some 57) Tryz.func85 #[.slice ap ab.length aq,.slice b3 aA.length b4] ?_;(with_reducible refine (impl_ways.calls k2 _ _ ab _ _ aA aG _ (pc ((Kd.R_reads' ad.out).2.2)) (Kd.R_reads' ad.out).2.1 (pc ((Kd.R_reads' aM.out).2.2)) (Kd.R_reads' aM.out).2.1 A49.out).mono ?_);rintro e w' ⟨rfl,⟨nd,rfl⟩⟩;refine ⟨_,rfl,?_⟩))
    go_roundg k2
    case measure=>have:=HK1.out;have:=HK2.out;omega
    case rel=>exact ⟨(aw),(aE),(wrap64 (ax+1)),q18_4,q18_4,H',⟨by have:=HK1.out;have:=HK2.out;omega⟩,⟨pe (Kd.R_mono ar.out (fun _ hk=>hk.1.2.1))⟩,⟨pe (Kd.R_mono ad.out (fun _ hk=>hk.1.2))⟩,⟨pb aa.out⟩,⟨hq⟩⟩
   rw [if_neg c50] at H;have bV:=df c50;clear c50;have H':=ak H;clear H;have aH:0≤(aj:Int):=od q18_5;have aI:aj<(ae.length:Int):=od q18_5;(try (obtain ⟨Aop_,cop_,eop_⟩:=Kd.R_slice af.out;subst eop_));obtain ⟨aJ,bg,bW⟩:=Kd.at_int (Kd.R_reads' af.out).2.2 aj aH aI;cases bg;replace aH:=eq_true aH;replace aI:=eq_true aI;obtain ⟨a9,ba,b6⟩:=Kd.R_slice ac.out;subst b6
   go_wp2_with (first|((with_reducible refine gate_callee (f:=63) rfl ?_);refine gl (some 49) Tryz.func63 #[.slice a9 al.length ba] ?_;(with_reducible refine (slices_Clone.calls _ _ al aW _ (pc ((Kd.R_reads' ac.out).2.2)) (Kd.R_reads' ac.out).2.1 A46.out).mono ?_);rintro e w58 ⟨bh,rfl,ho0,hb⟩;refine ⟨_,rfl,?_⟩;have aK:=lw (nw (nw (nw ho0 ac) ad) af);replace ac:=rn ac ho0 hb;replace ad:=rn ad ho0 hb;replace af:=rn af ho0 hb;replace aa:=bb aa hb;replace HB:=hbs hb;(try clear hb ho0))|((with_reducible refine gate_builtin (b:=.append) (xs:=#[.tmp 49,.tmp 51]) rfl ?_);at_builtin;refine Kd.R_append (Kd.int .i64) (w0:=w) w.heap.size rfl (.tmp 49) (.tmp 51) 24 2 (.int .i64 0) 8 rfl Tryz.underlying24 info2 rfl dc (by omega) bh aW (rd ae aj) [.int .i64 (rd ae aj)] (fun k_=>some k_≠(.slice a9 al.length ba:Value).ownBlock∧some k_≠(.slice ap ab.length aq:Value).ownBlock∧some k_≠(.slice (some aJ) ae.length ay:Value).ownBlock) (fun _=>False) rfl rfl ?aP (fun _ hk=>hk.elim) ?aF ?aO ?aB ?aS ?aL ?_;(case aP=>exact rfl);(case aB=>exact hq);(case aF=>exact (fun k_ hk=>⟨Kd.fresh' (Kd.R_lt (pe ac.out)) k_ hk,Kd.fresh' (Kd.R_lt (pe ad.out)) k_ hk,Kd.fresh' (Kd.R_lt (pe af.out)) k_ hk⟩));(case aO=>exact (pe (Kd.R_mono aK.out (fun _ hk=>⟨hk.1.1.2,⟨hk.1.2,hk.2⟩⟩))));(case aS=>exact (below_size hq));(case aL=>have:=bp.out;omega);intro bY w59 ho hb hg hat;rw [← bq.out] at ho;replace ac:=ak (Kd.R_after (ok:=(fun k_=>some k_≠(.slice ap ab.length aq:Value).ownBlock∧some k_≠(.slice (some aJ) ae.length ay:Value).ownBlock)) (pe ac.out) hg hat);replace ad:=ak (Kd.R_after (ok:=(fun k_=>some k_≠(.slice a9 al.length ba:Value).ownBlock∧some k_≠(.slice (some aJ) ae.length ay:Value).ownBlock)) (pe ad.out) hg hat);replace af:=ak (Kd.R_after (ok:=(fun k_=>some k_≠(.slice a9 al.length ba:Value).ownBlock∧some k_≠(.slice ap ab.length aq:Value).ownBlock)) (pe af.out) hg hat);replace aa:=ak (blk_grown (g:=az) (o:=.cells #[.slice A0_0 l0_0.length c0_0] 27 (0,0)) (pb aa.out) hg (Kd.R_ne aK.out aa.out dc));replace HB:=ak (hb);have ar:=ak (ho);clear aK;clear ho hb hg hat;obtain ⟨b7,b8,b9⟩:=Kd.R_slice ar.out;subst b9)|((with_reducible refine gate_callee (f:=86) rfl ?_);refine gl (some 56) Tryz.func86 #[.slice A0_0 l0_0.length c0_0,.slice b7 aE.length b8] ?_;(with_reducible refine (impl_others.calls _ _ l0_0 _ _ aE aA _ (pc (Kd.C_below ah.out HB.out)) ai.out (pc ((Kd.R_reads' ar.out).2.2)) (Kd.R_reads' ar.out).2.1 A48.out).mono ?_);rintro e w61 ⟨b2,rfl,ho0,hb⟩;refine ⟨_,rfl,?_⟩;have aM:=lw (nw (nw (nw (nw ho0 ac) ad) af) ar);replace ac:=rn ac ho0 hb;replace ad:=rn ad ho0 hb;replace af:=rn af ho0 hb;replace ar:=rn ar ho0 hb;replace aa:=bb aa hb;replace HB:=hbs hb;(try clear hb);(try clear hb2);(try clear hk);(try clear hi);(try clear ho0);obtain ⟨ca,cb,cc⟩:=Kd.R_slice aM.out;subst cc)|((with_reducible refine gate_callee (f:=85) rfl ?_);refine gl (some 57) Tryz.func85 #[.slice ap ab.length aq,.slice ca aA.length cb] ?_;(with_reducible refine (impl_ways.calls k2 _ _ ab _ _ aA aG _ (pc ((Kd.R_reads' ad.out).2.2)) (Kd.R_reads' ad.out).2.1 (pc ((Kd.R_reads' aM.out).2.2)) (Kd.R_reads' aM.out).2.1 A49.out).mono ?_);rintro e w' ⟨rfl,⟨nd,rfl⟩⟩;refine ⟨_,rfl,?_⟩))
   go_roundg k2
   case measure=>have:=HK1.out;have:=HK2.out;omega
   case rel=>exact ⟨(wrap64 (aw - aG)),(al),(wrap64 (aj+1)),q18_4,q18_4,H',⟨by have:=HK1.out;have:=HK2.out;omega⟩,⟨pe (Kd.R_mono ac.out (fun _ hk=>⟨hk.1.1.1,hk.1.1.2⟩))⟩,⟨pe (Kd.R_mono ad.out (fun _ hk=>⟨hk.1.1.1,hk.1.1.2⟩))⟩,⟨pe (Kd.R_mono af.out (fun _ hk=>⟨hk.1.1.1,hk.1.1.2⟩))⟩,⟨pb aa.out⟩,⟨hq⟩⟩
def impl_CountGrowing.f (k:Nat) (l0_0:List Int):Option (Int × Int):=(impl_grownCode.f k l0_0).bind fun t696=>(if t696=0 then ((impl_sizesOf.f k l0_0).bind fun t697=>((impl_preorder.f k l0_0).bind fun t700=>((impl_ways.f k t697 t700).bind fun t703=>(some (t703,0))))) else (some (0,t696)))
def impl_CountGrowing.T4:Bool × List (List Nat × List Nat):=(true,[([],[]),([0],[0]),([1],[1]),([],[]),([3],[3]),([4,2],[4]),([2,5,5],[2,5]),([6,6,0,1,2,3,4,5,6],[6]),([7,0,1,2,3,4,5,6,7],[])])
def impl_CountGrowing.B4:List Nat:=[0,1,3,0,8,31,63,127,255]
theorem impl_CountGrowing.tab4:rtab .any (opsOf Tryz.f32 4)=impl_CountGrowing.T4:=by kernel_rfl
theorem impl_CountGrowing.bits4:waitsOk impl_CountGrowing.T4.2 impl_CountGrowing.B4=true:=by kernel_rfl
theorem impl_CountGrowing.calls (k:Nat) (A0_0:Option Addr) (c0_0:Nat) (l0_0:List Int) (r1:Int) (r2:Int) (w:World) (hr0_0:Kd.C (Kd.int .i64) w A0_0 l0_0.length l0_0) (hc0_0:l0_0.length≤c0_0) (h:impl_CountGrowing.f k l0_0=some (r1,r2)) :
  Calls Tryz.prog 32 #[.agg #[.slice A0_0 l0_0.length c0_0]] w fun e w'=>e=.returned (.tuple #[.int .i64 r1,.int .i64 r2])∧Below w.heap.size w w':=by
 have hu27:=Tryz.underlying27;have ah:=ak hr0_0;have ai:=ak hc0_0;clear hr0_0 hc0_0;have HB:=ak (Below.refl w.heap.size w);have H:((impl_grownCode.f k l0_0).bind fun aC=>(if aC=0 then ((impl_sizesOf.f k l0_0).bind fun aX=>((impl_preorder.f k l0_0).bind fun aY=>((impl_ways.f k aX aY).bind fun bi=>(some (bi,0))))) else (some (0,aC))))=some (r1,r2):=h;clear h;replace H:=bs H;obtain ⟨aC,A2,H⟩:=H;(try dsimp only at H);obtain c3|c3:=nem (aC=0)
 ·rw [if_neg c3] at H;have cd:(aC == 0)=false:=beq_eq_false_iff_ne.mpr c3;have ce:(aC != 0)=true:=bne_iff_ne.mpr c3;simp only [Option.some.injEq,Prod.mk.injEq] at H;obtain ⟨rfl,rfl⟩:=H
  go_enter Tryz.func32,Tryz.ntmps32
  go_wp2_with (first|((with_reducible refine gate_dst (N:=1) rfl ?_);refine bev (N:=1) (cs:=#[.slice A0_0 l0_0.length c0_0]) (t:=27) ?_;intro br hg w15 hbox hb;have ag:=ak (hbox);have cf:=gbe hg;have cg:=gbe hg;replace HB:=hbs hb;clear hb hbox hg;have cN:=bc ag.out;have cO:=blk_frozen ag.out 0)|((with_reducible refine gate_callee (f:=82) rfl ?_);refine gl (some 6) Tryz.func82 #[.agg #[.slice A0_0 l0_0.length c0_0]] ?_;(with_reducible refine (impl_grownCode.calls k _ _ l0_0 aC _ (pc (Kd.C_below ah.out HB.out)) ai.out A2.out).mono ?_);rintro e w17 ⟨rfl,hb⟩;refine ⟨_,rfl,?_⟩;replace ag:=bb ag hb;replace HB:=hbs hb;(try clear hb)))
  go_ret2
  exact ⟨ew,hq⟩
 rw [if_pos c3] at H;have cd:=be c3;have ce:=bn c3;clear c3;replace H:=bs H;obtain ⟨aX,A4,H⟩:=H;(try dsimp only at H);replace H:=bs H;obtain ⟨aY,A5,H⟩:=H;(try dsimp only at H);replace H:=bs H;obtain ⟨bi,A6,H⟩:=H;(try dsimp only at H);simp only [Option.some.injEq,Prod.mk.injEq] at H;obtain ⟨rfl,rfl⟩:=H
 go_enter Tryz.func32,Tryz.ntmps32
 try go_wp2_with (first|((with_reducible refine gate_dst (N:=1) rfl ?_);refine bev (N:=1) (cs:=#[.slice A0_0 l0_0.length c0_0]) (t:=27) ?_;intro br hg w7 hbox hb;have ag:=ak (hbox);have cf:=gbe hg;have cg:=gbe hg;replace HB:=hbs hb;clear hb hbox hg;have cP:=bc ag.out;have cQ:=blk_frozen ag.out 0)|((with_reducible refine gate_callee (f:=82) rfl ?_);refine gl (some 6) Tryz.func82 #[.agg #[.slice A0_0 l0_0.length c0_0]] ?_;(with_reducible refine (impl_grownCode.calls k _ _ l0_0 aC _ (pc (Kd.C_below ah.out HB.out)) ai.out A2.out).mono ?_);rintro e w9 ⟨rfl,hb⟩;refine ⟨_,rfl,?_⟩;replace ag:=bb ag hb;replace HB:=hbs hb;(try clear hb)))
 have n0_:=ak (blk_drew ag.out);have n1_:=ak (below_drew1 HB.out);clear ag HB;have ag:=n0_;have HB:=n1_;clear n0_ n1_
 refine start_ (n:=9) (S:=fun w'=>w'.cell? ⟨br,0,none⟩=some (.slice A0_0 l0_0.length c0_0)) (ds:=[]) #[false,false,false,false,false,false,false,false,false] kr rfl rfl ((blk_cell ag.out 0).trans rfl) (fun hHeld=>?_);refine with_tabW impl_CountGrowing.tab4 impl_CountGrowing.bits4 (fun HT_ HW_=>?_)
 generalize w9.drew=w10 at ag HB hHeld ⊢
 refine pur (i:=0) (N:=some 10) (v:=?_) (a':=?_) #[true,false,false,false,false,false,false,false,false] rfl (Or.inl ⟨by rfl,?_⟩) ?_ ?_
 rotate_left
 ·intro w'
  go_simp
  with_reducible rfl
 rotate_left
 ·simp only [Act.put,sIB,sc0,scs,i64_w,i32_w]
  rfl
 refine pur (i:=3) (N:=some 13) (v:=?_) (a':=?_) #[true,false,false,true,false,false,false,false,false] rfl (Or.inl ⟨by rfl,?_⟩) ?_ ?_
 rotate_left
 ·intro w'
  go_simp
  with_reducible rfl
 rotate_left
 ·simp only [Act.put,sIB,sc0,scs,i64_w,i32_w]
  rfl
 refine take_ (i:=1) (N:=some 11) (v:=?_) (a':=?_) #[true,true,false,true,false,false,false,false,false] rfl rfl (take_ofW HT_.out HW_.out kr) (fun _ _ _ h=>h) (Or.inl ⟨by rfl,?_⟩) hHeld ?_ ?_
 rotate_left
 ·intro w' s0
  go_simp
  with_reducible rfl
 rotate_left
 ·simp only [Act.put,sIB,sc0,scs,i64_w,i32_w]
  rfl
 refine take_ (i:=4) (N:=some 14) (v:=?_) (a':=?_) #[true,true,false,true,true,false,false,false,false] rfl rfl (take_ofW HT_.out HW_.out kr) (fun _ _ _ h=>h) (Or.inl ⟨by rfl,?_⟩) hHeld ?_ ?_
 rotate_left
 ·intro w' s0
  go_simp
  with_reducible rfl
 rotate_left
 ·simp only [Act.put,sIB,sc0,scs,i64_w,i32_w]
  rfl
 refine one_ (i:=2) (N:=some 12) #[true,true,true,true,true,false,false,false,false] rfl rfl (one_of HT_.out kr) dc (fun K hK=>?_)
 refine goes_ Tryz.func83 kr rfl #[.slice A0_0 l0_0.length c0_0] (by rfl) rfl rfl am ?_
 with_reducible refine (impl_sizesOf.calls k _ _ l0_0 aX _ ?side1 ?side2 A4.out).mono ?_
 (case side1=>exact pc (Kd.C_below ah.out HB.out))
 (case side2=>exact ai.out)
 rintro e w11 ⟨cR,rfl,ho0,hb⟩
 refine ⟨_,rfl,?_⟩
 have n0_:=lw ho0;have n1_:=bb ag hb;have n2_:=hbs hb;clear ag HB;have aN:=n0_;have ag:=n1_;have HB:=n2_;clear n0_ n1_ n2_;(try clear hb);(try clear hb2);(try clear hk);(try clear hi);(try clear ho0)
 refine hK.out _ _ ((blk_cell ag.out 0).trans rfl) (fun hHeld=>?_)
 clear hK K
 refine norm_ (a':=?_) ?_ ?_
 rotate_left
 ·show Act.put _ (some 12) _=_;simp only [Act.put,sIB,sc0,scs,i64_w,i32_w]
  rfl
 refine one_ (i:=5) (N:=some 15) #[true,true,true,true,true,true,false,false,false] rfl rfl (one_of HT_.out kr) dc (fun K hK=>?_)
 refine goes_ Tryz.func93 kr rfl #[.slice A0_0 l0_0.length c0_0] (by rfl) rfl rfl am ?_
 with_reducible refine (impl_preorder.calls k _ _ l0_0 aY _ ?side1 ?side2 A5.out).mono ?_
 (case side1=>exact pc (Kd.C_below ah.out HB.out))
 (case side2=>exact ai.out)
 rintro e w12 ⟨cS,rfl,ho0,hb⟩
 refine ⟨_,rfl,?_⟩
 have n0_:=rn aN ho0 hb;have n1_:=lw (nw ho0 aN);have n2_:=bb ag hb;have n3_:=hbs hb;clear aN ag HB;have aN:=n0_;have bj:=n1_;have ag:=n2_;have HB:=n3_;clear n0_ n1_ n2_ n3_;(try clear hb);(try clear hb2);(try clear hk);(try clear hi);(try clear ho0);obtain ⟨ch,ci,bu⟩:=Kd.R_slice aN.out;(first|subst bu|(injection bu with f1_ f2_ f3_;have f4_:=f1_.symm;have f5_:=f3_.symm;clear f1_ f2_ f3_;subst f4_;subst f5_));obtain ⟨cj,ck,bv⟩:=Kd.R_slice bj.out;(first|subst bv|(injection bv with f1_ f2_ f3_;have f4_:=f1_.symm;have f5_:=f3_.symm;clear f1_ f2_ f3_;subst f4_;subst f5_))
 refine hK.out _ _ ((blk_cell ag.out 0).trans rfl) (fun hHeld=>?_)
 clear hK K
 refine norm_ (a':=?_) ?_ ?_
 rotate_left
 ·show Act.put _ (some 15) _=_;simp only [Act.put,sIB,sc0,scs,i64_w,i32_w]
  rfl
 refine one_ (i:=6) (N:=some 16) #[true,true,true,true,true,true,true,false,false] rfl rfl (one_of HT_.out kr) dc (fun K hK=>?_)
 refine goes_ Tryz.func85 kr rfl #[.slice ch aX.length ci,.slice cj aY.length ck] (by rfl) rfl rfl am ?_
 with_reducible refine (impl_ways.calls k _ _ aX _ _ aY bi _ ?side1 ?side2 ?side3 ?side4 A6.out).mono ?_
 (case side1=>exact pc ((Kd.R_reads' aN.out).2.2))
 (case side2=>exact (Kd.R_reads' aN.out).2.1)
 (case side3=>exact pc ((Kd.R_reads' bj.out).2.2))
 (case side4=>exact (Kd.R_reads' bj.out).2.1)
 rintro e w' ⟨rfl,⟨nd,rfl⟩⟩
 refine ⟨_,rfl,?_⟩
 refine hK.out _ _ ((blk_cell ag.out 0).trans rfl) (fun hHeld=>?_)
 clear hK K
 refine norm_ (a':=?_) ?_ ?_
 rotate_left
 ·show Act.put _ (some 16) _=_;simp only [Act.put,sIB,sc0,scs,i64_w,i32_w]
  rfl
 refine pur (i:=7) (N:=some 2) (v:=?_) (a':=?_) #[true,true,true,true,true,true,true,true,false] rfl (Or.inl ⟨by rfl,?_⟩) ?_ ?_
 rotate_left
 ·intro w'
  go_simp
  with_reducible rfl
 rotate_left
 ·simp only [Act.put,sIB,sc0,scs,i64_w,i32_w]
  rfl
 refine pur (i:=8) (N:=some 3) (v:=?_) (a':=?_) #[true,true,true,true,true,true,true,true,true] rfl (Or.inl ⟨by rfl,?_⟩) ?_ ?_
 rotate_left
 ·intro w'
  go_simp
  with_reducible rfl
 rotate_left
 ·simp only [Act.put,sIB,sc0,scs,i64_w,i32_w]
  rfl
 refine done_ (done_of HT_.out kr) ?_
 try go_wp2
 go_ret2
 exact ⟨ew,hq⟩
def spec_l01Near.f (s0_0:List Int) (s0_1:Int) (s0_2:Int) (a1:Int):Option (Int × Int × Int):=(spec_l01Next.f s0_0 s0_1 s0_2 14).bind fun bt704=>(if bt704.1=0 then ((spec_l01Pick.f s0_0 bt704.2.1 bt704.2.2 ([(-1),wrap64 (a1+1),1099511627776,(-4611686018427387904)]:List Int)).bind fun bt710=>(some (bt710.1,bt710.2.1,bt710.2.2))) else ((spec_l01Next.f s0_0 bt704.2.1 bt704.2.2 (wrap64 (a1+1))).bind fun bt713=>(some (bt713.1,bt713.2.1,bt713.2.2))))
theorem spec_l01Near.calls (g:Nat) (s0_0:List Int) (s0_1:Int) (s0_2:Int) (a1:Int) (r1:Int) (r2:Int) (r3:Int) (w0 w:World) (hI:IsS90 w0 w g s0_0 s0_1 s0_2) (hB:Below w0.heap.size w0 w) (h:spec_l01Near.f s0_0 s0_1 s0_2 a1=some (r1,r2,r3)) :
  Calls Tryz.prog 94 #[.pointer (some ⟨g,0,none⟩),.int .i64 a1] w fun e w'=>e=.returned (.int .i64 r1)∧IsS90 w0 w' g s0_0 r2 r3∧Below w0.heap.size w0 w'∧KeepBut w w' g none:=by
 have HI0:=ak hI;have HK:=ak (KeepBut.refl w g none);have HL:=ak hB.size;clear hI;have HW0:=ak hB.size;have HB:=ak hB;clear hB;have H:((spec_l01Next.f s0_0 s0_1 s0_2 14).bind fun aZ=>(if aZ.1=0 then ((spec_l01Pick.f s0_0 aZ.2.1 aZ.2.2 ([(-1),wrap64 (a1+1),1099511627776,(-4611686018427387904)]:List Int)).bind fun aQ=>(some (aQ.1,aQ.2.1,aQ.2.2))) else ((spec_l01Next.f s0_0 aZ.2.1 aZ.2.2 (wrap64 (a1+1))).bind fun bk=>(some (bk.1,bk.2.1,bk.2.2)))))=some (r1,r2,r3):=h;clear h;replace H:=bs H;obtain ⟨⟨a2,aT,aU⟩,A3,H⟩:=H;(try dsimp only at H);obtain c4|c4:=nem (a2=0)
 ·rw [if_neg c4] at H;have cl:(a2 == 0)=false:=beq_eq_false_iff_ne.mpr c4;have cm:(a2 != 0)=true:=bne_iff_ne.mpr c4;replace H:=bs H;obtain ⟨⟨cn,co,cp⟩,A11,H⟩:=H;(try dsimp only at H);simp only [Option.some.injEq,Prod.mk.injEq] at H;obtain ⟨rfl,rfl,rfl⟩:=H
  go_enter Tryz.func94,Tryz.ntmps94
  go_wp2_with (first|((with_reducible refine gate_callee (f:=50) rfl ?_);refine gl (some 6) Tryz.func50 #[.pointer (some ⟨g,0,none⟩),.int .i64 14] ?_;(with_reducible refine (spec_l01Next.calls g s0_0 s0_1 s0_2 14 a2 aT aU w0 _ ?side1 ?side2 A3.out).mono ?_);(case side1=>exact q18_0);(case side2=>exact q18_1);rintro e w12 ⟨rfl,hi,hb,hk⟩;refine ⟨_,rfl,?_⟩;replace HK:=ak (KeepBut.trans q18_2 hk (.inl rfl));replace HB:=ak (hb);replace HI0:=ak (hi);(try clear hb hk hi))|((with_reducible refine gate_callee (f:=50) rfl ?_);refine gl (some 16) Tryz.func50 #[.pointer (some ⟨g,0,none⟩),.int .i64 (wrap64 (a1+1))] ?_;(with_reducible refine (spec_l01Next.calls g s0_0 aT aU (wrap64 (a1+1)) cn co cp w0 _ ?side1 ?side2 A11.out).mono ?_);(case side1=>exact q18_0);(case side2=>exact q18_1);rintro e w13 ⟨rfl,hi,hb,hk⟩;refine ⟨_,rfl,?_⟩;replace HK:=ak (KeepBut.trans q18_2 hk (.inl rfl));replace HB:=ak (hb);replace HI0:=ak (hi);(try clear hb hk hi)))
  go_ret
  exact ⟨ew,q18_0,q18_1,q18_2⟩
 rw [if_pos c4] at H;have cl:=be c4;have cm:=bn c4;clear c4;obtain ⟨bl,hY⟩:∃ y_:List Int,y_=([(-1),wrap64 (a1+1),1099511627776,(-4611686018427387904)]:List Int):=⟨_,rfl⟩;replace H:((spec_l01Pick.f s0_0 aT aU bl).bind fun aQ=>(some (aQ.1,aQ.2.1,aQ.2.2)))=some (r1,r2,r3):=hh;have bw:=ak hY;clear hY;replace H:=bs H;obtain ⟨⟨cq,cr,ct⟩,A5,H⟩:=H;(try dsimp only at H);simp only [Option.some.injEq,Prod.mk.injEq] at H;obtain ⟨rfl,rfl,rfl⟩:=H
 go_enter Tryz.func94,Tryz.ntmps94
 go_wp2_with (first|((with_reducible refine gate_callee (f:=50) rfl ?_);refine gl (some 6) Tryz.func50 #[.pointer (some ⟨g,0,none⟩),.int .i64 14] ?_;(with_reducible refine (spec_l01Next.calls g s0_0 s0_1 s0_2 14 a2 aT aU w0 _ ?side1 ?side2 A3.out).mono ?_);(case side1=>exact q18_0);(case side2=>exact q18_1);rintro e w6 ⟨rfl,hi,hb,hk⟩;refine ⟨_,rfl,?_⟩;replace HK:=ak (KeepBut.trans q18_2 hk (.inl rfl));replace HB:=ak (hb);replace HI0:=ak (hi);(try clear hb hk hi))|((with_reducible refine gate_dst (N:=11) rfl ?_);refine Kd.R_lit (Kd.int .i64) _ 2 ?hg (N:=11) ?hd (xs:=([(-1),wrap64 (a1+1),1099511627776,(-4611686018427387904)]:List Int)) (inner:=[.int .i64 (-1),.int .i64 (wrap64 (a1+1)),.int .i64 1099511627776,.int .i64 (-4611686018427387904)]) (ok:=fun _=>True) (okp:=fun _=>True) ?hr ?hp (fun _ hk=>hk) trivial (Below.refl _ _) (Nat.le_refl _) (by simp) ?_;(case hd=>rfl);(case hg=>rfl);(case hr=>exact gs);(case hp=>exact (Reps.one (show Kd.M (Kd.int .i64) _ _ _ (-1) [.int .i64 (-1)] from rfl) (Reps.one (show Kd.M (Kd.int .i64) _ _ _ (wrap64 (a1+1)) [.int .i64 (wrap64 (a1+1))] from rfl) (Reps.one (show Kd.M (Kd.int .i64) _ _ _ 1099511627776 [.int .i64 1099511627776] from rfl) (Reps.one (show Kd.M (Kd.int .i64) _ _ _ (-4611686018427387904) [.int .i64 (-4611686018427387904)] from rfl) (Reps.none _ _))))));intro cT w7 ho8 hb hg_ hnew_;clear hg_ hnew_;(first|rw [← bw.out] at ho8|(simp only [Int.reduceToNat] at ho8;rw [← bw.out] at ho8));have aV:=ak (Kd.R_lower ho8 (keep_size (w:=w) (g:=g) (row:=none) q18_2));replace HK:=ak (KeepBut.trans q18_2 (KeepBut.of_below hb g none) (.inl rfl));replace HB:=ak (below_step q18_1 hb);replace HI0:=ak (IsS90.below q18_0 hb);clear hb ho8;obtain ⟨Ao9,co9,eo9⟩:=Kd.R_slice aV.out;subst eo9)|((with_reducible refine gate_callee (f:=51) rfl ?_);refine gl (some 12) Tryz.func51 #[.pointer (some ⟨g,0,none⟩),.slice Ao9 bl.length co9] ?_;(with_reducible refine (spec_l01Pick.calls g s0_0 aT aU _ _ bl cq cr ct w0 _ ?side1 ?side2 (pc ((Kd.R_reads' aV.out).2.2)) (Kd.R_reads' aV.out).2.1 ?side5 A5.out).mono ?_);(case side1=>exact q18_0);(case side2=>exact q18_1);(case side5=>exact far_slice (IsS90.own_ne HI0.out aV.out dc));rintro e w10 ⟨rfl,hi,hb,hk⟩;refine ⟨_,rfl,?_⟩;replace aV:=ak (Kd.R_mono (Kd.R_keep (IsS90.apart (show IsS90 w0 _ g s0_0 aT aU from q18_0) (pe aV.out) dc) hk (fun _ h=>h.2)) (fun _ h=>h.1));replace HK:=ak (KeepBut.trans q18_2 hk (.inl rfl));replace HB:=ak (hb);replace HI0:=ak (hi);(try clear hb hk hi)))
 go_ret
 exact ⟨ew,q18_0,q18_1,q18_2⟩
end Go.Proofs.YtlppkilencpmeaaGreat.QFnGrowing
