/- Functions as Lean functions, with their contracts: written by a program of this claim over the translation; some contracts are proved by hand. -/
import Derived.Test.YtlppkilencpmeaaGreatQFnGrowingx0
import Derived.Test.YtlppkilencpmeaaGreatQFnGrowingx2
import Derived.Test.YtlppkilencpmeaaGreatQFnGrowingx3
import Derived.Test.YtlppkilencpmeaaGreatQFnGrowingx5
import Derived.Test.YtlppkilencpmeaaGreatQFnGrowingx9
import Derived.Test.YtlppkilencpmeaaGreatQFnGrowingx11
namespace Go.Proofs.YtlppkilencpmeaaGreat.QFnGrowing
open Go.RowKit Go.Proofs.YtlppkilencpmeaaGreat.Gl Go.Proofs.YtlppkilencpmeaaGreat.Sz Go.Proofs.YtlppkilencpmeaaGreatW.PrintWords Go.Proofs.YtlppkilencpmeaaGreatW.PrintLast Go.Proofs.YtlppkilencpmeaaGreatW.PrintMore
attribute [local go_sem] max2_int min2_int max_two min_two max_three min_three max_four min_four   -- for this text's walks alone
set_option linter.unusedVariables false
set_option linter.unusedSimpArgs false
theorem q21_0 {P:Prop} (h:P:=by first|(with_reducible assumption)|assumption):P:=h
theorem q21_1 {P:Prop} (h:P:=by first|exact Kd.R_nil _ _ _ _ _|exact Kd.N_nil _ _ _ _ _|exact Kd.V_nil _ _ _ _ _|exact Kd.Q_nil _ _ _ _ _|exact Kd.S_nil _ _ _ _ _):P:=h
set_option maxHeartbeats 8000000
set_option maxRecDepth 100000
def spec_l09Free.f (k:Nat) (l0_0:List Int) (l1:List Int) (a2:Int):Option (Bool):=(spec_l01Parents.f k l0_0).bind fun t748=>(if 0≤(wrap64 (a2+1)) then (if (wrap64 (a2+1))<(l1.length:Int) then (if 0≤(rd l1 (wrap64 (a2+1))) then (if (rd l1 (wrap64 (a2+1)))<(t748.length:Int) then (if 0≤a2 then (if a2<(l1.length:Int) then (some ((rd t748 (rd l1 (wrap64 (a2+1)))) != (rd l1 a2))) else (none)) else (none)) else (none)) else (none)) else (none)) else (none))
def spec_l09Free.T1:Bool × List (List Nat × List Nat):=(true,[([],[]),([0],[0]),([],[]),([],[]),([3],[3]),([2,4],[2,4]),([5],[5]),([1,6],[1,6]),([7],[7]),([],[]),([],[]),([9,10],[9,10]),([11],[11]),([8,12],[8,12]),([13,1,0,1,2,3,4,5,6,7,8,9,10,11,12,13],[13])])
def spec_l09Free.B1:List Nat:=[0,1,0,0,8,28,60,127,255,0,0,1536,3584,8191,16383]
theorem spec_l09Free.tab1:rtab .any (opsOf Tryz.f98 1)=spec_l09Free.T1:=by kernel_rfl
theorem spec_l09Free.bits1:waitsOk spec_l09Free.T1.2 spec_l09Free.B1=true:=by kernel_rfl
theorem spec_l09Free.calls (k:Nat) (A0_0:Option Addr) (c0_0:Nat) (l0_0:List Int) (A1:Option Addr) (c1:Nat) (l1:List Int) (a2:Int) (r:Bool) (w:World) (hr0_0:Kd.C (Kd.int .i64) w A0_0 l0_0.length l0_0) (hc0_0:l0_0.length≤c0_0) (hr1:Kd.C (Kd.int .i64) w A1 l1.length l1) (hc1:l1.length≤c1) (h:spec_l09Free.f k l0_0 l1 a2=some r) :
  Calls Tryz.prog 98 #[.agg #[.slice A0_0 l0_0.length c0_0],.slice A1 l1.length c1,.int .i64 a2] w fun e w'=>e=.returned (.bool r)∧Below w.heap.size w w':=by
 have hu27:=Tryz.underlying27;have ag:=ak hr0_0;have ah:=ak hc0_0;clear hr0_0 hc0_0;have HR1:=ak hr1;have HC1:=ak hc1;clear hr1 hc1;have HB:=ak (Below.refl w.heap.size w);have H:((spec_l01Parents.f k l0_0).bind fun aC=>(if 0≤(wrap64 (a2+1)) then (if (wrap64 (a2+1))<(l1.length:Int) then (if 0≤(rd l1 (wrap64 (a2+1))) then (if (rd l1 (wrap64 (a2+1)))<(aC.length:Int) then (if 0≤a2 then (if a2<(l1.length:Int) then (some ((rd aC (rd l1 (wrap64 (a2+1)))) != (rd l1 a2))) else (none)) else (none)) else (none)) else (none)) else (none)) else (none)))=some r:=h;clear h;replace H:=bs H;obtain ⟨aC,A4,H⟩:=H;(try dsimp only at H);obtain ⟨ji5,aH⟩:∃ j_:Int,(wrap64 (a2+1))=j_:=⟨_,rfl⟩;(first|rw [aH] at H|simp only [aH] at H);(try rw [aH] at A4);have hji5w:(IntKind.i64.wrap (a2+1))=ji5:=(i64_w _).trans aH;replace H:=ifs H;obtain ⟨c6,H⟩:=H;have b8:=dt c6;clear c6;replace H:=ifs H;obtain ⟨c7,H⟩:=H;have b9:=dt c7;clear c7;replace H:=ifs H;obtain ⟨c8,H⟩:=H;have ca:=dt c8;clear c8;replace H:=ifs H;obtain ⟨c9,H⟩:=H;have cb:=dt c9;clear c9;replace H:=ifs H;obtain ⟨c10,H⟩:=H;have cc:=dt c10;clear c10;replace H:=ifs H;obtain ⟨c11,H⟩:=H;have cd:=dt c11;clear c11;obtain rfl:=Option.some.inj H
 go_enter Tryz.func98,Tryz.ntmps98
 try go_wp2_with (first|((with_reducible refine gate_dst (N:=3) rfl ?_);refine bev (N:=3) (cs:=#[.slice A0_0 l0_0.length c0_0]) (t:=27) ?_;intro bF hg w12 hbox hb;have an:=ak (hbox);have ce:=gbe hg;have cf:=gbe hg;replace HB:=hbs hb;clear hb hbox hg))
 have n0_:=ak (blk_drew an.out);have n1_:=ak (below_drew1 HB.out);clear an HB;have an:=n0_;have HB:=n1_;clear n0_ n1_;have aU:0≤((ji5):Int):=od q21_0;have aV:(ji5)<(l1.length:Int):=od q21_0;obtain ⟨aW,bG,aI⟩:=Kd.at_int HR1.out (ji5) aU aV;have hw751_0:=aI;cases bG;replace aI:=(HB.out.cell (World.block_lt_of_cell? w _ aI)).trans aI;replace aU:=eq_true aU;replace aV:=eq_true aV;have aX:0≤(a2:Int):=od q21_0;have aY:a2<(l1.length:Int):=od q21_0;obtain ⟨bH,bI,aJ⟩:=Kd.at_int HR1.out a2 aX aY;have hw753_0:=aJ;obtain rfl:aW=bH:=(by injection bI);replace aJ:=(HB.out.cell (World.block_lt_of_cell? w _ aJ)).trans aJ;replace aX:=eq_true aX;replace aY:=eq_true aY
 refine start_ (n:=15) (S:=fun w'=>w'.cell? ⟨bF,0,none⟩=some (.slice A0_0 l0_0.length c0_0)∧w'.cell? (aW.add (ji5).toNat)=some (.int .i64 (rd l1 (ji5)))∧w'.cell? (aW.add (a2).toNat)=some (.int .i64 (rd l1 a2))) (ds:=[]) #[false,false,false,false,false,false,false,false,false,false,false,false,false,false,false] kr rfl rfl ⟨(blk_cell an.out 0).trans rfl,((HB.out.cell (World.block_lt_of_cell? w _ hw751_0)).trans hw751_0),((HB.out.cell (World.block_lt_of_cell? w _ hw753_0)).trans hw753_0)⟩ (fun hHeld=>?_);refine with_tabW spec_l09Free.tab1 spec_l09Free.bits1 (fun HT_ HW_=>?_)
 generalize w12.drew=w13 at an HB aI aJ hHeld ⊢
 refine pur (i:=2) (N:=some 9) (v:=?_) (a':=?_) #[false,false,true,false,false,false,false,false,false,false,false,false,false,false,false] rfl (Or.inl ⟨by rfl,?_⟩) ?_ ?_
 rotate_left
 ·intro w'
  go_simp
  with_reducible rfl
 rotate_left
 ·simp only [Act.put,sIB,sc0,scs,i64_w,i32_w]
  rfl
 refine pur (i:=3) (N:=some 10) (v:=?_) (a':=?_) #[false,false,true,true,false,false,false,false,false,false,false,false,false,false,false] rfl (Or.inl ⟨by rfl,?_⟩) ?_ ?_
 rotate_left
 ·intro w'
  go_simp
  with_reducible rfl
 rotate_left
 ·simp only [Act.put,sIB,sc0,scs,i64_w,i32_w]
  rfl
 refine pur (i:=4) (N:=some 11) (v:=?_) (a':=?_) #[false,false,true,true,true,false,false,false,false,false,false,false,false,false,false] rfl (Or.inl ⟨by rfl,?_⟩) ?_ ?_
 rotate_left
 ·intro w'
  go_simp
  with_reducible rfl
 rotate_left
 ·simp only [Act.put,sIB,sc0,scs,i64_w,i32_w]
  rfl
 refine pur (i:=5) (N:=some 12) (v:=?_) (a':=?_) #[false,false,true,true,true,true,false,false,false,false,false,false,false,false,false] rfl (Or.inl ⟨by rfl,?_⟩) ?_ ?_
 rotate_left
 ·intro w'
  go_simp
  with_reducible rfl
 rotate_left
 ·simp only [Act.put,sIB,sc0,scs,i64_w,i32_w]
  rfl
 refine pur (i:=9) (N:=some 16) (v:=?_) (a':=?_) #[false,false,true,true,true,true,false,false,false,true,false,false,false,false,false] rfl (Or.inl ⟨by rfl,?_⟩) ?_ ?_
 rotate_left
 ·intro w'
  go_simp
  with_reducible rfl
 rotate_left
 ·simp only [Act.put,sIB,sc0,scs,i64_w,i32_w]
  rfl
 refine pur (i:=10) (N:=some 17) (v:=?_) (a':=?_) #[false,false,true,true,true,true,false,false,false,true,true,false,false,false,false] rfl (Or.inl ⟨by rfl,?_⟩) ?_ ?_
 rotate_left
 ·intro w'
  go_simp
  with_reducible rfl
 rotate_left
 ·simp only [Act.put,sIB,sc0,scs,i64_w,i32_w]
  rfl
 refine pur (i:=11) (N:=some 18) (v:=?_) (a':=?_) #[false,false,true,true,true,true,false,false,false,true,true,true,false,false,false] rfl (Or.inl ⟨by rfl,?_⟩) ?_ ?_
 rotate_left
 ·intro w'
  go_simp
  with_reducible rfl
 rotate_left
 ·simp only [Act.put,sIB,sc0,scs,i64_w,i32_w]
  rfl
 refine take_ (i:=0) (N:=some 7) (v:=?_) (a':=?_) #[true,false,true,true,true,true,false,false,false,true,true,true,false,false,false] rfl rfl (take_ofW HT_.out HW_.out kr) (fun _ _ _ h=>h) (Or.inl ⟨by rfl,?_⟩) hHeld ?_ ?_
 rotate_left
 ·rintro w' ⟨s0,s1,s2⟩
  go_simp
  with_reducible rfl
 rotate_left
 ·simp only [Act.put,sIB,sc0,scs,i64_w,i32_w]
  rfl
 refine take_ (i:=6) (N:=some 13) (v:=?_) (a':=?_) #[true,false,true,true,true,true,true,false,false,true,true,true,false,false,false] rfl rfl (take_ofW HT_.out HW_.out kr) (fun _ _ _ h=>h) (Or.inl ⟨by rfl,?_⟩) hHeld ?_ ?_
 rotate_left
 ·rintro w' ⟨s0,s1,s2⟩
  go_simp
  with_reducible rfl
 rotate_left
 ·simp only [Act.put,sIB,sc0,scs,i64_w,i32_w]
  rfl
 refine take_ (i:=12) (N:=some 19) (v:=?_) (a':=?_) #[true,false,true,true,true,true,true,false,false,true,true,true,true,false,false] rfl rfl (take_ofW HT_.out HW_.out kr) (fun _ _ _ h=>h) (Or.inl ⟨by rfl,?_⟩) hHeld ?_ ?_
 rotate_left
 ·rintro w' ⟨s0,s1,s2⟩
  go_simp
  with_reducible rfl
 rotate_left
 ·simp only [Act.put,sIB,sc0,scs,i64_w,i32_w]
  rfl
 refine one_ (i:=1) (N:=some 8) #[true,true,true,true,true,true,true,false,false,true,true,true,true,false,false] rfl rfl (one_of HT_.out kr) dc (fun K hK=>?_)
 refine goes_ Tryz.func79 kr rfl #[.agg #[.slice A0_0 l0_0.length c0_0]] (by rfl) rfl rfl am ?_
 with_reducible refine (spec_l01Parents.calls k _ _ l0_0 aC _ ?side1 ?side2 A4.out).mono ?_
 (case side1=>exact pc (Kd.C_below ag.out HB.out))
 (case side2=>exact ah.out)
 rintro e w14 ⟨cg,rfl,ho0,hb⟩
 refine ⟨_,rfl,?_⟩
 have n0_:=lw ho0;have n1_:=bb an hb;have n2_:=hbs hb;clear an HB;have bp:=n0_;have an:=n1_;have HB:=n2_;clear n0_ n1_ n2_;(try clear hb);(try clear hb2);(try clear hk);(try clear hi);(try clear ho0);obtain ⟨ch,ci,bq⟩:=Kd.R_slice bp.out;(first|subst bq|(injection bq with f1_ f2_ f3_;have f4_:=f1_.symm;have f5_:=f3_.symm;clear f1_ f2_ f3_;subst f4_;subst f5_));have aZ:0≤((rd l1 (ji5)):Int):=od q21_0;have a3:(rd l1 (ji5))<(aC.length:Int):=od q21_0;obtain ⟨bJ,bK,bL⟩:=Kd.at_int (Kd.R_reads' bp.out).2.2 (rd l1 (ji5)) aZ a3;cases bK;replace aZ:=eq_true aZ;replace a3:=eq_true a3
 refine hK.out _ _ ⟨(blk_cell an.out 0).trans rfl,((HB.out.cell (World.block_lt_of_cell? w _ hw751_0)).trans hw751_0),((HB.out.cell (World.block_lt_of_cell? w _ hw753_0)).trans hw753_0)⟩ (fun hHeld=>?_)
 refine swapA_ 1000 (fun w'=>w'.cell? (bJ.add (rd l1 (ji5)).toNat)=some (.int .i64 (rd aC (rd l1 (ji5))))) hHeld bL kr (fun hHeld=>?_)
 clear hK K
 refine norm_ (a':=?_) ?_ ?_
 rotate_left
 ·show Act.put _ (some 8) _=_;simp only [Act.put,sIB,sc0,scs,i64_w,i32_w]
  rfl
 refine pur (i:=7) (N:=some 14) (v:=?_) (a':=?_) #[true,true,true,true,true,true,true,true,false,true,true,true,true,false,false] rfl (Or.inl ⟨by rfl,?_⟩) ?_ ?_
 rotate_left
 ·intro w'
  go_simp
  with_reducible rfl
 rotate_left
 ·simp only [Act.put,sIB,sc0,scs,i64_w,i32_w]
  rfl
 refine take_ (i:=8) (N:=some 15) (v:=?_) (a':=?_) (tf 13 2) rfl rfl (take_ofW HT_.out HW_.out kr) (fun _ _ _ h=>h) (Or.inl ⟨by rfl,?_⟩) hHeld ?_ ?_
 rotate_left
 ·rintro w' ⟨⟨s0,s1,s2⟩,s3⟩;(try simp only [add_plain] at s0);(try simp only [add_plain] at s1);(try simp only [add_plain] at s2);(try simp only [add_plain] at s3)
  go_simp
  with_reducible rfl
 rotate_left
 ·simp only [Act.put,sIB,sc0,scs,i64_w,i32_w]
  rfl
 refine pur (i:=13) (N:=some 20) (v:=?_) (a':=?_) (tf 14 1) rfl (Or.inl ⟨by rfl,?_⟩) ?_ ?_
 rotate_left
 ·intro w'
  go_simp
  with_reducible rfl
 rotate_left
 ·simp only [Act.put,sIB,sc0,scs,i64_w,i32_w]
  rfl
 refine pur (i:=14) (N:=some 6) (v:=?_) (a':=?_) (tf 15 0) rfl (Or.inl ⟨by rfl,?_⟩) ?_ ?_
 rotate_left
 ·intro w'
  go_simp
  with_reducible rfl
 rotate_left
 ·simp only [Act.put,sIB,sc0,scs,i64_w,i32_w]
  rfl
 refine done_ (done_of HT_.out kr) ?_
 try go_wp2
 go_ret
 exact ⟨by first|rfl|(simp [errW_none,errW_some] <;> rfl)|(simp only [← aH];first|rfl|(simp [errW_none,errW_some] <;> rfl))|(simp [*,errW_none,errW_some] <;> rfl),hq⟩
def spec_ExchangeAt.j0:Nat→List Int→Int→Bool→List Int→Option (List Int × Int)
 | 0,_,_,_,_=>none
 | k+1,x1,x2,x13,x755000=>if x13=true then (some (([]:List Int),2)) else ((spec_l09Growing.f k x755000 x1).bind fun t758=>(if t758=true then ((spec_l09Free.f k x755000 x1 x2).bind fun t759=>(if t759=true then ((spec_l01Own.f x1).bind fun t760=>(if 0≤(wrap64 (x2+1)) then (if (wrap64 (x2+1))<(x1.length:Int) then (if 0≤x2 then (if x2<(t760.length:Int) then (if x2<(x1.length:Int) then (if (wrap64 (x2+1))<(t760.length:Int) then (some (((t760.set (x2:Int).toNat (rd x1 (wrap64 (x2+1)))).set ((wrap64 (x2+1)):Int).toNat (rd x1 x2)),0)) else (none)) else (none)) else (none)) else (none)) else (none)) else (none))) else (some (([]:List Int),5)))) else (some (([]:List Int),5))))
def spec_ExchangeAt.f (k:Nat) (l0_0:List Int) (l1:List Int) (a2:Int):Option (List Int × Int):=(spec_l01Is.f k l0_0).bind fun t755=>(if t755=true then ((spec_l09Order.f k l0_0 l1).bind fun t756=>(if t756=true then ((spec_l01In.f a2 0 (wrap64 ((l1.length:Int) - 2))).bind fun t757=>(spec_ExchangeAt.j0 k l1 a2 (!t757) l0_0)) else (spec_ExchangeAt.j0 k l1 a2 true l0_0))) else (some (([]:List Int),1)))
theorem spec_ExchangeAt.calls (k:Nat) (A0_0:Option Addr) (c0_0:Nat) (l0_0:List Int) (A1:Option Addr) (c1:Nat) (l1:List Int) (a2:Int) (r1:List Int) (r2:Int) (w:World) (hr0_0:Kd.C (Kd.int .i64) w A0_0 l0_0.length l0_0) (hc0_0:l0_0.length≤c0_0) (hr1:Kd.C (Kd.int .i64) w A1 l1.length l1) (hc1:l1.length≤c1) (h:spec_ExchangeAt.f k l0_0 l1 a2=some (r1,r2)) :
  Calls Tryz.prog 35 #[.agg #[.slice A0_0 l0_0.length c0_0],.slice A1 l1.length c1,.int .i64 a2] w fun e w'=>∃ v0_:Value,e=.returned (.tuple #[v0_,.int .i64 r2])∧Kd.R (Kd.int .i64) 2 w' w.heap.size (fun _=>True) v0_ r1∧Below w.heap.size w w':=by
 have hu27:=Tryz.underlying27;have ag:=ak hr0_0;have ah:=ak hc0_0;clear hr0_0 hc0_0;have HR1:=ak hr1;have HC1:=ak hc1;clear hr1 hc1;have HB:=ak (Below.refl w.heap.size w);have H:((spec_l01Is.f k l0_0).bind fun a4=>(if a4=true then ((spec_l09Order.f k l0_0 l1).bind fun aK=>(if aK=true then ((spec_l01In.f a2 0 (wrap64 ((l1.length:Int) - 2))).bind fun ao=>(spec_ExchangeAt.j0 k l1 a2 (!ao) l0_0)) else (spec_ExchangeAt.j0 k l1 a2 true l0_0))) else (some (([]:List Int),1))))=some (r1,r2):=h;clear h;replace H:=bs H;obtain ⟨a4,A4,H⟩:=H;(try dsimp only at H);obtain c5|c5:=nem (a4=true)
 ·replace c5:=Bool.eq_false_iff.mpr c5;subst c5;have H1:(some (([]:List Int),1))=some (r1,r2):=by rw [if_neg (show ¬ (false=true) by decide)] at H;exact H
  clear H;have H:=H1;clear H1;simp only [Option.some.injEq,Prod.mk.injEq] at H;obtain ⟨rfl,rfl⟩:=H
  go_enter Tryz.func35,Tryz.ntmps35
  go_wp2_with (first|((with_reducible refine gate_dst (N:=3) rfl ?_);(try (refine gate_guard (by rfl) ?_;dsimp only));refine bev (N:=3) (cs:=#[.slice A0_0 l0_0.length c0_0]) (t:=27) ?_;intro aQ hg w47 hbox hb;have aa:=ak (hbox);have bM:=gbe hg;have bN:=gbe hg;replace HB:=hbs hb;clear hb hbox hg;have cj:=bc aa.out;have ck:=blk_frozen aa.out 0)|((with_reducible refine gate_callee (f:=95) rfl ?_);refine gl (some 11) Tryz.func95 #[.agg #[.slice A0_0 l0_0.length c0_0]] ?_;(with_reducible refine (spec_l01Is.calls k _ _ l0_0 false _ (pc (Kd.C_below ag.out HB.out)) ah.out A4.out).mono ?_);rintro e w49 ⟨rfl,hb⟩;refine ⟨_,rfl,?_⟩;replace aa:=bb aa hb;replace HB:=hbs hb;(try clear hb)))
  go_ret2
  exact ⟨_,ew,q21_1,hq⟩
 subst c5;replace H:((spec_l09Order.f k l0_0 l1).bind fun aK=>(if aK=true then ((spec_l01In.f a2 0 (wrap64 ((l1.length:Int) - 2))).bind fun ao=>(spec_ExchangeAt.j0 k l1 a2 (!ao) l0_0)) else (spec_ExchangeAt.j0 k l1 a2 true l0_0)))=some (r1,r2):=by rw [if_pos rfl] at H;exact H
 have HC6:=ak H;clear H
 go_enter Tryz.func35,Tryz.ntmps35
 go_upto_region 3 with (first|((with_reducible refine gate_dst (N:=3) rfl ?_);(try (refine gate_guard (by rfl) ?_;dsimp only));refine bev (N:=3) (cs:=#[.slice A0_0 l0_0.length c0_0]) (t:=27) ?_;intro aQ hg w7 hbox hb;have aa:=ak (hbox);have bM:=gbe hg;have bN:=gbe hg;replace HB:=hbs hb;clear hb hbox hg;have cl:=bc aa.out;have cm:=blk_frozen aa.out 0)|((with_reducible refine gate_callee (f:=95) rfl ?_);refine gl (some 11) Tryz.func95 #[.agg #[.slice A0_0 l0_0.length c0_0]] ?_;(with_reducible refine (spec_l01Is.calls k _ _ l0_0 true _ (pc (Kd.C_below ag.out HB.out)) ah.out A4.out).mono ?_);rintro e w9 ⟨rfl,hb⟩;refine ⟨_,rfl,?_⟩;replace aa:=bb aa hb;replace HB:=hbs hb;(try clear hb)))
 (try simp only [Act.put,List.setIfInBounds_toArray,List.set_cons_zero,List.set_cons_succ])
 go_cut [13] (fun v13 wc=>∃ (kq:Nat) (aR:Bool),v13=.bool aR∧Aside0 (spec_ExchangeAt.j0 kq l1 a2 aR l0_0=some (r1,r2))∧Aside0 (kq≤k)∧Aside0 (wc.heap[aQ]?=some (.cells #[(.slice A0_0 l0_0.length c0_0)] 27 (0,0)))∧Aside0 (Below w.heap.size w wc))
 case first =>
  have H:=HC6.out;clear HC6;replace H:=bs H;obtain ⟨aK,A10,H⟩:=H;(try dsimp only at H);obtain c11|c11:=nem (aK=true)
  ·replace c11:=Bool.eq_false_iff.mpr c11;subst c11;have H1:(spec_ExchangeAt.j0 k l1 a2 true l0_0)=some (r1,r2):=by rw [if_neg (show ¬ (false=true) by decide)] at H;exact H
   clear H;have H:=H1;clear H1;have H':=ak H;clear H;have cn:=bc aa.out;have co:=blk_frozen aa.out 0
   go_wp2_with (first|((with_reducible refine gate_callee (f:=96) rfl ?_);refine gl (some 16) Tryz.func96 #[.agg #[.slice A0_0 l0_0.length c0_0],.slice A1 l1.length c1] ?_;(with_reducible refine (spec_l09Order.calls k _ _ l0_0 _ _ l1 false _ (pc (Kd.C_below ag.out HB.out)) ah.out (pc (Kd.C_below HR1.out HB.out)) HC1.out A10.out).mono ?_);rintro e w16 ⟨rfl,hb⟩;refine ⟨_,rfl,?_⟩;replace aa:=bb aa hb;replace HB:=hbs hb;(try clear hb)))
   go_meet
   case rel=>exact ⟨_,(true),(by first|rfl|(simp;done)|(simp [*];done)),H',⟨by first|omega|exact Nat.le_refl _⟩,⟨pb aa.out⟩,⟨hq⟩⟩
  subst c11;replace H:((spec_l01In.f a2 0 (wrap64 ((l1.length:Int) - 2))).bind fun ao=>(spec_ExchangeAt.j0 k l1 a2 (!ao) l0_0))=some (r1,r2):=by rw [if_pos rfl] at H;exact H
  replace H:=bs H;obtain ⟨ao,A12,H⟩:=H;(try dsimp only at H);have H':=ak H;clear H;have cp:=bc aa.out;have cq:=blk_frozen aa.out 0
  go_wp2_with (first|((with_reducible refine gate_callee (f:=96) rfl ?_);refine gl (some 16) Tryz.func96 #[.agg #[.slice A0_0 l0_0.length c0_0],.slice A1 l1.length c1] ?_;(with_reducible refine (spec_l09Order.calls k _ _ l0_0 _ _ l1 true _ (pc (Kd.C_below ag.out HB.out)) ah.out (pc (Kd.C_below HR1.out HB.out)) HC1.out A10.out).mono ?_);rintro e w14 ⟨rfl,hb⟩;refine ⟨_,rfl,?_⟩;replace aa:=bb aa hb;replace HB:=hbs hb;(try clear hb))|(go_at_call 53;(with_reducible refine (spec_l01In.calls a2 0 (wrap64 ((l1.length:Int) - 2)) ao _ A12.out).mono ?_);rintro e w' ⟨rfl,⟨nd,rfl⟩⟩))
  go_meet
  case rel=>exact ⟨_,(!ao),(by first|rfl|(simp;done)|(simp [*];done)),H',⟨by first|omega|exact Nat.le_refl _⟩,⟨pb aa.out⟩,⟨hq⟩⟩
 clear HC6;obtain ⟨kq,aR,rfl,HA,HJ5,aa,HB⟩:=hcut
 cases kq with|zero=>exact absurd HA.out (by simp [spec_ExchangeAt.j0])|succ kj5=>?_
 have H:=HA.out;clear HA;simp only [spec_ExchangeAt.j0] at H
 by_cases c17:aR=true
 ·subst c17;replace H:(some (([]:List Int),2))=some (r1,r2):=by rw [if_pos rfl] at H;exact H
  simp only [Option.some.injEq,Prod.mk.injEq] at H;obtain ⟨rfl,rfl⟩:=H;go_wp2
  go_ret2
  exact ⟨_,ew,q21_1,hq⟩
 replace c17:=Bool.eq_false_iff.mpr c17;subst c17;have H1:((spec_l09Growing.f kj5 l0_0 l1).bind fun a5=>(if a5=true then ((spec_l09Free.f kj5 l0_0 l1 a2).bind fun aM=>(if aM=true then ((spec_l01Own.f l1).bind fun ae=>(if 0≤(wrap64 (a2+1)) then (if (wrap64 (a2+1))<(l1.length:Int) then (if 0≤a2 then (if a2<(ae.length:Int) then (if a2<(l1.length:Int) then (if (wrap64 (a2+1))<(ae.length:Int) then (some (((ae.set (a2:Int).toNat (rd l1 (wrap64 (a2+1)))).set ((wrap64 (a2+1)):Int).toNat (rd l1 a2)),0)) else (none)) else (none)) else (none)) else (none)) else (none)) else (none))) else (some (([]:List Int),5)))) else (some (([]:List Int),5))))=some (r1,r2):=by rw [if_neg (show ¬ (false=true) by decide)] at H;exact H
 clear H;have H:=H1;clear H1;replace H:=bs H;obtain ⟨a5,A18,H⟩:=H;(try dsimp only at H);obtain c19|c19:=nem (a5=true)
 ·replace c19:=Bool.eq_false_iff.mpr c19;subst c19;have H1:(some (([]:List Int),5))=some (r1,r2):=by rw [if_neg (show ¬ (false=true) by decide)] at H;exact H
  clear H;have H:=H1;clear H1;simp only [Option.some.injEq,Prod.mk.injEq] at H;obtain ⟨rfl,rfl⟩:=H;have cr:=bc aa.out;have ct:=blk_frozen aa.out 0
  go_wp2_with (first|((with_reducible refine gate_callee (f:=97) rfl ?_);refine gl (some 29) Tryz.func97 #[.agg #[.slice A0_0 l0_0.length c0_0],.slice A1 l1.length c1] ?_;(with_reducible refine (spec_l09Growing.calls kj5 _ _ l0_0 _ _ l1 false _ (pc (Kd.C_below ag.out HB.out)) ah.out (pc (Kd.C_below HR1.out HB.out)) HC1.out A18.out).mono ?_);rintro e w46 ⟨rfl,hb⟩;refine ⟨_,rfl,?_⟩;replace aa:=bb aa hb;replace HB:=hbs hb;(try clear hb)))
  go_ret2
  exact ⟨_,ew,q21_1,hq⟩
 subst c19;replace H:((spec_l09Free.f kj5 l0_0 l1 a2).bind fun aM=>(if aM=true then ((spec_l01Own.f l1).bind fun ae=>(if 0≤(wrap64 (a2+1)) then (if (wrap64 (a2+1))<(l1.length:Int) then (if 0≤a2 then (if a2<(ae.length:Int) then (if a2<(l1.length:Int) then (if (wrap64 (a2+1))<(ae.length:Int) then (some (((ae.set (a2:Int).toNat (rd l1 (wrap64 (a2+1)))).set ((wrap64 (a2+1)):Int).toNat (rd l1 a2)),0)) else (none)) else (none)) else (none)) else (none)) else (none)) else (none))) else (some (([]:List Int),5))))=some (r1,r2):=by rw [if_pos rfl] at H;exact H
 replace H:=bs H;obtain ⟨aM,A20,H⟩:=H;(try dsimp only at H);obtain c21|c21:=nem (aM=true)
 ·replace c21:=Bool.eq_false_iff.mpr c21;subst c21;have H1:(some (([]:List Int),5))=some (r1,r2):=by rw [if_neg (show ¬ (false=true) by decide)] at H;exact H
  clear H;have H:=H1;clear H1;simp only [Option.some.injEq,Prod.mk.injEq] at H;obtain ⟨rfl,rfl⟩:=H;have cu:=bc aa.out;have cv:=blk_frozen aa.out 0
  go_wp2_with (first|((with_reducible refine gate_callee (f:=97) rfl ?_);refine gl (some 29) Tryz.func97 #[.agg #[.slice A0_0 l0_0.length c0_0],.slice A1 l1.length c1] ?_;(with_reducible refine (spec_l09Growing.calls kj5 _ _ l0_0 _ _ l1 true _ (pc (Kd.C_below ag.out HB.out)) ah.out (pc (Kd.C_below HR1.out HB.out)) HC1.out A18.out).mono ?_);rintro e w42 ⟨rfl,hb⟩;refine ⟨_,rfl,?_⟩;replace aa:=bb aa hb;replace HB:=hbs hb;(try clear hb);(try clear hb2);(try clear hk);(try clear hi);have cw:=bc aa.out;have cx:=blk_frozen aa.out 0)|(go_at_call 98;(with_reducible refine (spec_l09Free.calls kj5 _ _ l0_0 _ _ l1 a2 false _ (pc (Kd.C_below ag.out HB.out)) ah.out (pc (Kd.C_below HR1.out HB.out)) HC1.out A20.out).mono ?_);rintro e w44 ⟨rfl,hb⟩;replace aa:=bb aa hb;replace HB:=hbs hb;(try clear hb)))
  go_ret2
  exact ⟨_,ew,q21_1,hq⟩
 subst c21;replace H:((spec_l01Own.f l1).bind fun ae=>(if 0≤(wrap64 (a2+1)) then (if (wrap64 (a2+1))<(l1.length:Int) then (if 0≤a2 then (if a2<(ae.length:Int) then (if a2<(l1.length:Int) then (if (wrap64 (a2+1))<(ae.length:Int) then (some (((ae.set (a2:Int).toNat (rd l1 (wrap64 (a2+1)))).set ((wrap64 (a2+1)):Int).toNat (rd l1 a2)),0)) else (none)) else (none)) else (none)) else (none)) else (none)) else (none)))=some (r1,r2):=by rw [if_pos rfl] at H;exact H
 replace H:=bs H;obtain ⟨ae,A22,H⟩:=H;(try dsimp only at H);obtain ⟨af,aq⟩:∃ j_:Int,(wrap64 (a2+1))=j_:=⟨_,rfl⟩;(first|rw [aq] at H|simp only [aq] at H);(try rw [aq] at A18);(try rw [aq] at A20);(try rw [aq] at A22);have hji23w:(IntKind.i64.wrap (a2+1))=af:=(i64_w _).trans aq;replace H:=ifs H;obtain ⟨c24,H⟩:=H;have cy:=dt c24;clear c24;replace H:=ifs H;obtain ⟨c25,H⟩:=H;have cz:=dt c25;clear c25;replace H:=ifs H;obtain ⟨c26,H⟩:=H;have cA:=dt c26;clear c26;replace H:=ifs H;obtain ⟨c27,H⟩:=H;have cB:=dt c27;clear c27;obtain ⟨a6,hY⟩:∃ y_:List Int,y_=(ae.set (a2:Int).toNat (rd l1 (af))):=⟨_,rfl⟩;replace H:(if a2<(l1.length:Int) then (if (af)<(ae.length:Int) then (some ((a6.set ((af):Int).toNat (rd l1 a2)),0)) else (none)) else (none))=some (r1,r2):=hh;have bO:=ak hY;clear hY;replace H:=ifs H;obtain ⟨c29,H⟩:=H;have cC:=dt c29;clear c29;replace H:=ifs H;obtain ⟨c30,H⟩:=H;have cD:=dt c30;clear c30;obtain ⟨br,hY⟩:∃ y_:List Int,y_=(a6.set ((af):Int).toNat (rd l1 a2)):=⟨_,rfl⟩;replace H:(some (br,0))=some (r1,r2):=hh;have bP:=ak hY;clear hY;simp only [Option.some.injEq,Prod.mk.injEq] at H;obtain ⟨rfl,rfl⟩:=H;have cE:=bc aa.out;have cF:=blk_frozen aa.out 0
 go_wp2_with (first|((with_reducible refine gate_callee (f:=97) rfl ?_);refine gl (some 29) Tryz.func97 #[.agg #[.slice A0_0 l0_0.length c0_0],.slice A1 l1.length c1] ?_;(with_reducible refine (spec_l09Growing.calls kj5 _ _ l0_0 _ _ l1 true _ (pc (Kd.C_below ag.out HB.out)) ah.out (pc (Kd.C_below HR1.out HB.out)) HC1.out A18.out).mono ?_);rintro e w33 ⟨rfl,hb⟩;refine ⟨_,rfl,?_⟩;replace aa:=bb aa hb;replace HB:=hbs hb;(try clear hb);(try clear hb2);(try clear hk);(try clear hi);have cG:=bc aa.out;have cH:=blk_frozen aa.out 0)|(go_at_call 98;(with_reducible refine (spec_l09Free.calls kj5 _ _ l0_0 _ _ l1 a2 true _ (pc (Kd.C_below ag.out HB.out)) ah.out (pc (Kd.C_below HR1.out HB.out)) HC1.out A20.out).mono ?_);rintro e w35 ⟨rfl,hb⟩;replace aa:=bb aa hb;replace HB:=hbs hb;(try clear hb))|((with_reducible refine gate_callee (f:=90) rfl ?_);refine gl (some 39) Tryz.func90 #[.slice A1 l1.length c1] ?_;(with_reducible refine (spec_l01Own.calls _ _ l1 ae _ (pc (Kd.C_below HR1.out HB.out)) HC1.out A22.out).mono ?_);rintro e w36 ⟨cI,rfl,ho0,hb⟩;refine ⟨_,rfl,?_⟩;have aj:=lw ho0;replace aa:=bb aa hb;replace HB:=hbs hb;(try clear hb);(try clear hb2);(try clear hk);(try clear hi);(try clear ho0);have a7:0≤((af):Int):=od q21_0;have a8:(af)<(l1.length:Int):=od q21_0;obtain ⟨bQ,bR,a9⟩:=Kd.at_int HR1.out (af) a7 a8;cases bR;replace a9:=(HB.out.cell (World.block_lt_of_cell? w _ a9)).trans a9;replace a7:=eq_true a7;replace a8:=eq_true a8;have p28:0≤(a2:Int):=od q21_0;have q28:(a2:Int)<((ae.length:Int):Int):=od q21_0;obtain ⟨aD,bu,bv,bw,gl28,cl28,bx⟩:=Kd.R_form aj.out (by omega);(first|cases bv|(injection bv with ea_ en_ ec_;(first|subst ea_|(injection ea_ with ea_;subst ea_));subst ec_;clear en_));have GB28:=ak bw;have cJ:=ak bx;clear bw gl28 bx;obtain ⟨cK,cL⟩:=Kd.R_celln 0 aj.out (a2:Int) p28 q28;replace p28:=eq_true p28;replace q28:=eq_true q28;obtain ⟨hy37_,hz37_⟩:=Kd.R_celln 0 aj.out (a2:Int) (od q21_0) (od q21_0);have ba:=Kd.R_putg aj.out (a2:Int) (rd l1 (af)))|((with_reducible refine gate_store (t:=2) (p:=47) rfl ?_);refine store_event (t:=2) (p:=47) (v:=?vo_w38) (w1:=(w36.setCell ⟨aD,(a2:Int).toNat,none⟩ (.int .i64 (rd l1 (af))))) ?hg ?ho ?hn ?hr ?_;(case ho=>rfl);(case hg=>rfl);(case hn=>rfl);(case hr=>exact gs);intro w38 hw;have hg:w36.grownBy w38 (some aD):=(by rw [hw];exact ba.2);have hp_:Kd.R (Kd.int .i64) 2 w38 w.heap.size (fun _=>True) (.slice (some ⟨aD,0,none⟩) ae.length bu) a6:=(by rw [hw,bO.out];exact ba.1);clear ba;replace aa:=ak (blk_grown (g:=aQ) (o:=.cells #[.slice A0_0 l0_0.length c0_0] 27 (0,0)) (pb aa.out) hg (Kd.R_ne aj.out aa.out dc));replace aj:=ak (hp_);replace HB:=ak (by rw [hw];exact below_set (HB.out) GB28.out:Below w.heap.size w w38);clear hg hw hp_;have bd:0≤(a2:Int):=od q21_0;have bf:a2<(l1.length:Int):=od q21_0;obtain ⟨bS,bT,bg⟩:=Kd.at_int HR1.out a2 bd bf;obtain rfl:bQ=bS:=(by injection bT);replace bg:=(HB.out.cell (World.block_lt_of_cell? w _ bg)).trans bg;replace bd:=eq_true bd;replace bf:=eq_true bf;have p31:0≤((af):Int):=od q21_0;have q31:((af):Int)<((ae.length:Int):Int):=od q21_0;obtain ⟨cM,cN⟩:=Kd.R_celln 0 aj.out ((af):Int) p31 q31;replace p31:=eq_true p31;replace q31:=eq_true q31;obtain ⟨hy39_,hz39_⟩:=Kd.R_celln 0 aj.out ((af):Int) (od q21_0) (od q21_0);have bh:=Kd.R_putg aj.out ((af):Int) (rd l1 a2))|((with_reducible refine gate_store (t:=2) (p:=55) rfl ?_);refine store_event (t:=2) (p:=55) (v:=?vo_w40) (w1:=(w38.setCell ⟨aD,((af):Int).toNat,none⟩ (.int .i64 (rd l1 a2)))) ?hg ?ho ?hn ?hr ?_;(case ho=>rfl);(case hg=>rfl);(case hn=>rfl);(case hr=>exact gs);intro w40 hw;have hg:w38.grownBy w40 (some aD):=(by rw [hw];exact bh.2);have hp_:Kd.R (Kd.int .i64) 2 w40 w.heap.size (fun _=>True) (.slice (some ⟨aD,0,none⟩) ae.length bu) br:=(by rw [hw,bP.out];exact bh.1);clear bh;replace aa:=ak (blk_grown (g:=aQ) (o:=.cells #[.slice A0_0 l0_0.length c0_0] 27 (0,0)) (pb aa.out) hg (Kd.R_ne aj.out aa.out dc));replace aj:=ak (hp_);replace HB:=ak (by rw [hw];exact below_set (HB.out) GB28.out:Below w.heap.size w w40);clear hg hw hp_))
 go_ret2
 exact ⟨_,by first|rfl|(simp [errW_none,errW_some] <;> rfl)|(simp only [← aq];first|rfl|(simp [errW_none,errW_some] <;> rfl))|(simp [*,errW_none,errW_some] <;> rfl),pe aj.out,hq⟩
def impl_FreePlaces.l0:Nat→List Int→List Int→List Int→Int→Option (List Int × Int)
 | 0,_,_,_,_=>none
 | k+1,x1,x7,x8,x9=>if (wrap64 (x9+1))<(x1.length:Int) then (if 0≤(wrap64 (x9+1)) then (if 0≤(rd x1 (wrap64 (x9+1))) then (if (rd x1 (wrap64 (x9+1)))<(x7.length:Int) then (if 0≤x9 then (if x9<(x1.length:Int) then (if (rd x7 (rd x1 (wrap64 (x9+1))))=(rd x1 x9) then (impl_FreePlaces.l0 k x1 x7 x8 (wrap64 (x9+1))) else (if x8.length<17592186044416 then (impl_FreePlaces.l0 k x1 x7 (x8++[x9]) (wrap64 (x9+1))) else (none))) else (none)) else (none)) else (none)) else (none)) else (none)) else (some (x8,0))
def impl_FreePlaces.f (k:Nat) (l0_0:List Int) (l1:List Int):Option (List Int × Int):=(impl_growingCode.f k l0_0 l1).bind fun t768=>(if t768=0 then ((impl_parentsOf.f k l0_0).bind fun t769=>(impl_FreePlaces.l0 k l1 t769 ([]:List Int) 0)) else (some (([]:List Int),t768)))
theorem impl_FreePlaces.calls (k:Nat) (A0_0:Option Addr) (c0_0:Nat) (l0_0:List Int) (A1:Option Addr) (c1:Nat) (l1:List Int) (r1:List Int) (r2:Int) (w:World) (hr0_0:Kd.C (Kd.int .i64) w A0_0 l0_0.length l0_0) (hc0_0:l0_0.length≤c0_0) (hr1:Kd.C (Kd.int .i64) w A1 l1.length l1) (hc1:l1.length≤c1) (h:impl_FreePlaces.f k l0_0 l1=some (r1,r2)) :
  Calls Tryz.prog 36 #[.agg #[.slice A0_0 l0_0.length c0_0],.slice A1 l1.length c1] w fun e w'=>∃ v0_:Value,e=.returned (.tuple #[v0_,.int .i64 r2])∧Kd.R (Kd.int .i64) 2 w' w.heap.size (fun _=>True) v0_ r1∧Below w.heap.size w w':=by
 have hu27:=Tryz.underlying27;have ag:=ak hr0_0;have ah:=ak hc0_0;clear hr0_0 hc0_0;have HR1:=ak hr1;have HC1:=ak hc1;clear hr1 hc1;have HB:=ak (Below.refl w.heap.size w);have H:((impl_growingCode.f k l0_0 l1).bind fun ap=>(if ap=0 then ((impl_parentsOf.f k l0_0).bind fun ai=>(impl_FreePlaces.l0 k l1 ai ([]:List Int) 0)) else (some (([]:List Int),ap))))=some (r1,r2):=h;clear h;replace H:=bs H;obtain ⟨ap,A3,H⟩:=H;(try dsimp only at H);obtain c4|c4:=nem (ap=0)
 ·rw [if_neg c4] at H;have bU:(ap == 0)=false:=beq_eq_false_iff_ne.mpr c4;have bV:(ap != 0)=true:=bne_iff_ne.mpr c4;simp only [Option.some.injEq,Prod.mk.injEq] at H;obtain ⟨rfl,rfl⟩:=H
  go_enter Tryz.func36,Tryz.ntmps36
  iterate 4 ((try go_wp2_with (first|((with_reducible refine gate_dst (N:=2) rfl ?_);refine bev (N:=2) (cs:=#[.slice A0_0 l0_0.length c0_0]) (t:=27) ?_;intro bi hg w25 hbox hb;have ab:=ak (hbox);have bW:=gbe hg;have bX:=gbe hg;replace HB:=hbs hb;clear hb hbox hg;have cO:=bc ab.out;have cP:=blk_frozen ab.out 0)|(go_at_call 57;(with_reducible refine (impl_growingCode.calls k _ _ l0_0 _ _ l1 ap _ (pc (Kd.C_below ag.out HB.out)) ah.out (pc (Kd.C_below HR1.out HB.out)) HC1.out A3.out).mono ?_);rintro e w27 ⟨rfl,hb⟩;replace ab:=bb ab hb;replace HB:=hbs hb;(try clear hb))));(try go_quiet (fail)))
  go_ret2
  exact ⟨_,ew,q21_1,hq⟩
 rw [if_pos c4] at H;have bU:=be c4;have bV:=bn c4;clear c4;replace H:=bs H;obtain ⟨ai,A5,H⟩:=H;(try dsimp only at H);obtain ⟨bz,hY⟩:∃ y_:List Int,y_=([]:List Int):=⟨_,rfl⟩;replace H:(impl_FreePlaces.l0 k l1 ai bz 0)=some (r1,r2):=hh;have bA:=ak hY;clear hY;have H':=ak H;clear H
 go_enter Tryz.func36,Tryz.ntmps36
 iterate 4 ((try go_wp2_with (first|((with_reducible refine gate_dst (N:=2) rfl ?_);refine bev (N:=2) (cs:=#[.slice A0_0 l0_0.length c0_0]) (t:=27) ?_;intro bi hg w6 hbox hb;have ab:=ak (hbox);have bW:=gbe hg;have bX:=gbe hg;replace HB:=hbs hb;clear hb hbox hg;have cQ:=bc ab.out;have cR:=blk_frozen ab.out 0)|(go_at_call 57;(with_reducible refine (impl_growingCode.calls k _ _ l0_0 _ _ l1 ap _ (pc (Kd.C_below ag.out HB.out)) ah.out (pc (Kd.C_below HR1.out HB.out)) HC1.out A3.out).mono ?_);rintro e w8 ⟨rfl,hb⟩;replace ab:=bb ab hb;replace HB:=hbs hb;(try clear hb);(try clear hb2);(try clear hk);(try clear hi);have cS:=bc ab.out;have cT:=blk_frozen ab.out 0)|(go_at_call 59;(with_reducible refine (impl_parentsOf.calls k _ _ l0_0 ai _ (pc (Kd.C_below ag.out HB.out)) ah.out A5.out).mono ?_);rintro e w10 ⟨bB,rfl,ho0,hb⟩;have aT:=lw ho0;replace ab:=bb ab hb;replace HB:=hbs hb;(try clear hb ho0))|((with_reducible refine gate_dst (N:=19) rfl ?_);refine Kd.R_lit (Kd.int .i64) _ 2 ?hg (N:=19) ?hd (xs:=([]:List Int)) (inner:=[]) (ok:=fun _=>True) (okp:=fun _=>True) ?hr ?hp (fun _ hk=>hk) trivial (Below.refl _ _) (Nat.le_refl _) (by simp) ?_;(case hd=>rfl);(case hg=>rfl);(case hr=>exact gs);(case hp=>exact (Reps.none _ _));intro cU w11 ho12 hb hg_ hnew_;clear hg_ hnew_;(first|rw [← bA.out] at ho12|(simp only [Int.reduceToNat] at ho12;rw [← bA.out] at ho12));have bY:=lw (nw ho12 aT);replace aT:=rn aT ho12 hb;replace ab:=bb ab hb;replace HB:=hbs hb;clear hb ho12)));(try go_quiet (fail)))
 go_loopg [8,9] k (fun kq v8 v9 w'=>∃ (aE:List Int) (ad:Int),v9=.int .i64 ad∧Aside0 (impl_FreePlaces.l0 kq l1 ai aE ad=some (r1,r2))∧Aside0 (kq≤k)∧Aside0 (Kd.R (Kd.int .i64) 2 w' w.heap.size (fun k_=>some k_≠(v8:Value).ownBlock) bB ai)∧Aside0 (Kd.R (Kd.int .i64) 2 w' w.heap.size (fun k_=>some k_≠(bB:Value).ownBlock) v8 aE)∧Aside0 (w'.heap[bi]?=some (.cells #[(.slice A0_0 l0_0.length c0_0)] 27 (0,0)))∧Aside0 (Below w.heap.size w w'))
 case atStart=>exact ⟨(bz),(0),(by first|rfl|(simp;done)|(simp [*];done)),H',⟨Nat.le_refl _⟩,⟨pe (Kd.R_mono aT.out (fun _ hk=>hk.2))⟩,⟨pe (Kd.R_mono bY.out (fun _ hk=>hk.2))⟩,⟨pb ab.out⟩,⟨hq⟩⟩
 case round =>
  clear H';obtain ⟨aE,ad,rfl,HA,HK1,al,aN,ab,HB⟩:=hrel
  cases gk with|zero=>exact absurd HA.out (by simp [impl_FreePlaces.l0])|succ k1=>?_
  have H:=HA.out;clear HA;simp only [impl_FreePlaces.l0] at H;obtain c13|c13:=nem ((wrap64 (ad+1))<(l1.length:Int))
  ·rw [if_neg c13] at H;have bC:=df c13;clear c13;simp only [Option.some.injEq,Prod.mk.injEq] at H;obtain ⟨rfl,rfl⟩:=H;go_wp2
   repeat (go_quiet (fail);try go_wp2)
   go_ret2
   exact ⟨_,ew,pe (Kd.R_mono aN.out (fun _ hk=>trivial)),hq⟩
  rw [if_pos c13] at H;have bC:=dt c13;clear c13;obtain ⟨ac,aG⟩:∃ j_:Int,(wrap64 (ad+1))=j_:=⟨_,rfl⟩;(first|rw [aG] at H|simp only [aG] at H);(try rw [aG] at bC);have hji14w:(IntKind.i64.wrap (ad+1))=ac:=(i64_w _).trans aG;replace H:=ifs H;obtain ⟨c15,H⟩:=H;have cV:=dt c15;clear c15;replace H:=ifs H;obtain ⟨c16,H⟩:=H;have cW:=dt c16;clear c16;replace H:=ifs H;obtain ⟨c17,H⟩:=H;have cX:=dt c17;clear c17;replace H:=ifs H;obtain ⟨c18,H⟩:=H;have cY:=dt c18;clear c18;replace H:=ifs H;obtain ⟨c19,H⟩:=H;have cZ:=dt c19;clear c19
  by_cases c20:(rd ai (rd l1 (ac)))=(rd l1 ad)
  ·rw [if_pos c20] at H;have bZ:((rd ai (rd l1 (ac))) == (rd l1 ad))=true:=beq_iff_eq.mpr c20;have b0:((rd ai (rd l1 (ac))) != (rd l1 ad))=false:=bne_eq_false_iff_eq.mpr c20;clear c20;have H':=ak H;clear H;have ar:0≤((ac):Int):=od q21_0;have au:(ac)<(l1.length:Int):=od q21_0;obtain ⟨bj,bk,av⟩:=Kd.at_int HR1.out (ac) ar au;cases bk;replace av:=(HB.out.cell (World.block_lt_of_cell? w _ av)).trans av;replace ar:=eq_true ar;replace au:=eq_true au;obtain ⟨c0,c2,b1⟩:=Kd.R_slice al.out;subst b1;have aw:0≤((rd l1 (ac)):Int):=od q21_0;have ax:(rd l1 (ac))<(ai.length:Int):=od q21_0;(try (obtain ⟨Aop_,cop_,eop_⟩:=Kd.R_slice al.out;subst eop_));obtain ⟨bD,bl,b2⟩:=Kd.at_int (Kd.R_reads' al.out).2.2 (rd l1 (ac)) aw ax;cases bl;replace aw:=eq_true aw;replace ax:=eq_true ax;have ay:0≤(ad:Int):=od q21_0;have az:ad<(l1.length:Int):=od q21_0;obtain ⟨bm,bo,aA⟩:=Kd.at_int HR1.out ad ay az;obtain rfl:bj=bm:=(by injection bo);replace aA:=(HB.out.cell (World.block_lt_of_cell? w _ aA)).trans aA;replace ay:=eq_true ay;replace az:=eq_true az;go_wp2
   repeat (go_quiet (fail);try go_wp2)
   go_roundg k1
   case measure=>have:=HK1.out;omega
   case rel=>exact ⟨(aE),(ac),(by first|rfl|(simp;done)|(simp only [← aG] <;> (first|rfl|simp))|(simp [*];done)),H',⟨by have:=HK1.out;omega⟩,⟨pe al.out⟩,⟨pe aN.out⟩,⟨pb ab.out⟩,⟨hq⟩⟩
  rw [if_neg c20] at H;have bZ:((rd ai (rd l1 (ac))) == (rd l1 ad))=false:=beq_eq_false_iff_ne.mpr c20;have b0:((rd ai (rd l1 (ac))) != (rd l1 ad))=true:=bne_iff_ne.mpr c20;replace H:=ifs H;obtain ⟨c22,H⟩:=H;have b3:=ak c22;clear c22;obtain ⟨bE,hY⟩:∃ y_:List Int,y_=(aE++[ad]):=⟨_,rfl⟩;replace H:(impl_FreePlaces.l0 k1 l1 ai bE ac)=some (r1,r2):=hh;have b4:=ak hY;clear hY;have H':=ak H;clear H;have ar:0≤((ac):Int):=od q21_0;have au:(ac)<(l1.length:Int):=od q21_0;obtain ⟨bj,bk,av⟩:=Kd.at_int HR1.out (ac) ar au;cases bk;replace av:=(HB.out.cell (World.block_lt_of_cell? w _ av)).trans av;replace ar:=eq_true ar;replace au:=eq_true au;obtain ⟨c3,b5,b6⟩:=Kd.R_slice al.out;subst b6;have aw:0≤((rd l1 (ac)):Int):=od q21_0;have ax:(rd l1 (ac))<(ai.length:Int):=od q21_0;(try (obtain ⟨Aop_,cop_,eop_⟩:=Kd.R_slice al.out;subst eop_));obtain ⟨bD,bl,b2⟩:=Kd.at_int (Kd.R_reads' al.out).2.2 (rd l1 (ac)) aw ax;cases bl;replace aw:=eq_true aw;replace ax:=eq_true ax;have ay:0≤(ad:Int):=od q21_0;have az:ad<(l1.length:Int):=od q21_0;obtain ⟨bm,bo,aA⟩:=Kd.at_int HR1.out ad ay az;obtain rfl:bj=bm:=(by injection bo);replace aA:=(HB.out.cell (World.block_lt_of_cell? w _ aA)).trans aA;replace ay:=eq_true ay;replace az:=eq_true az
  iterate 4 ((try go_wp2_with (first|((with_reducible refine gate_builtin (b:=.append) (xs:=#[.tmp 40,.tmp 42]) rfl ?_);at_builtin;refine Kd.R_append (Kd.int .i64) (w0:=w) w.heap.size rfl (.tmp 40) (.tmp 42) 24 2 (.int .i64 0) 8 rfl Tryz.underlying24 info2 rfl dc (by omega) u8 aE ad [.int .i64 ad] (fun k_=>some k_≠(.slice (some bD) ai.length b5:Value).ownBlock) (fun _=>False) rfl rfl ?aP (fun _ hk=>hk.elim) ?aF ?aO ?aB ?aS ?aL ?_;(case aP=>exact rfl);(case aB=>exact hq);(case aF=>exact (fun k_ hk=>Kd.fresh' (Kd.R_lt (pe al.out)) k_ hk));(case aO=>exact (pe aN.out));(case aS=>exact (below_size hq));(case aL=>have:=b3.out;omega);intro da w24 ho hb hg hat;rw [← b4.out] at ho;replace al:=ak (Kd.R_after (ok:=(fun _=>True)) (pe (Kd.R_mono al.out (fun _ hk=>⟨trivial,hk⟩))) hg hat);replace ab:=ak (blk_grown (g:=bi) (o:=.cells #[.slice A0_0 l0_0.length c0_0] 27 (0,0)) (pb ab.out) hg (Kd.R_ne aN.out ab.out dc));replace HB:=ak (hb);have b7:=ak (ho);clear aN;clear ho hb hg hat)));(try go_quiet (fail)))
  go_roundg k1
  case measure=>have:=HK1.out;omega
  case rel=>exact ⟨(bE),(ac),(by first|rfl|(simp;done)|(simp only [← aG] <;> (first|rfl|simp))|(simp [*];done)),H',⟨by have:=HK1.out;omega⟩,⟨pe (Kd.R_mono al.out (fun _ hk=>hk.2))⟩,⟨pe b7.out⟩,⟨pb ab.out⟩,⟨hq⟩⟩
end Go.Proofs.YtlppkilencpmeaaGreat.QFnGrowing
