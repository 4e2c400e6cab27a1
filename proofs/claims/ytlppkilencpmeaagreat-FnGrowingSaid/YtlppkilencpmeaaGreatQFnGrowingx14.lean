/- Functions as Lean functions, with their contracts: written by a program of this claim over the translation; some contracts are proved by hand. -/
import Derived.Test.YtlppkilencpmeaaGreatQFnGrowingx0
import Derived.Test.YtlppkilencpmeaaGreatQFnGrowingx3
import Derived.Test.YtlppkilencpmeaaGreatQFnGrowingx5
import Derived.Test.YtlppkilencpmeaaGreatQFnGrowingx11
import Derived.Test.YtlppkilencpmeaaGreatQFnGrowingx13
namespace Go.Proofs.YtlppkilencpmeaaGreat.QFnGrowing
open Go.RowKit Go.Proofs.YtlppkilencpmeaaGreat.Gl Go.Proofs.YtlppkilencpmeaaGreat.Sz Go.Proofs.YtlppkilencpmeaaGreatW.PrintWords Go.Proofs.YtlppkilencpmeaaGreatW.PrintLast Go.Proofs.YtlppkilencpmeaaGreatW.PrintMore
attribute [local go_sem] max2_int min2_int max_two min_two max_three min_three max_four min_four   -- for this text's walks alone
set_option linter.unusedVariables false
set_option linter.unusedSimpArgs false
theorem q14_0 {P:Prop} (h:P:=by first|(with_reducible assumption)|assumption):P:=h
theorem q14_1 {P:Prop} (h:P:=by (try simp only [List.map_toArray,List.map_cons,List.map_nil]);first|done|(rw [show (l1.take (ac:Int).toNat).length=ac.toNat from (by rw [List.length_take];have h_:(ac:Int)≤(l1.length:Int):=od q14_0;omega)] <;> rfl)|rfl|(simp only [List.length_drop,List.length_take];rfl)):P:=h
theorem q14_2 {P:Prop} (h:P:=by first|rfl|(simp;done)|(simp [*];done)):P:=h
theorem q14_3 {P:Prop} (h:P:=by first|(rw [add_block];exact (fun e_=>((af.out.1 _ e_.symm).2) rfl))|(show some (Addr.add _ _).block≠_;rw [add_block];exact (fun e_=>((af.out.1 _ e_.symm).2) rfl))|exact (fun e_=>((af.out.1 _ e_.symm).2) rfl)):P:=h
set_option maxHeartbeats 8000000
set_option maxRecDepth 100000
mutual
def spec_RankOfGrowing.j0:Nat→List Int→Int→List Int→Option (Int × Int)
 | 0,_,_,_=>none
 | k+1,x1,x6,x573000=>if x6=0 then (spec_RankOfGrowing.l0 k x1 0 0 x573000) else (some (0,x6))
def spec_RankOfGrowing.l0:Nat→List Int→Int→Int→List Int→Option (Int × Int)
 | 0,_,_,_,_=>none
 | k+1,x1,x7,x8,x573000=>if x8<(x1.length:Int) then (if 0≤x8 then (if x8≤(x1.length:Int) then ((spec_l09Next.f k x573000 (x1.take (x8:Int).toNat)).bind fun t576=>(spec_RankOfGrowing.l1 k x1 x7 x8 t576 0 x573000)) else (none)) else (none)) else (some (x7,0))
def spec_RankOfGrowing.l1:Nat→List Int→Int→Int→List Int→Int→List Int→Option (Int × Int)
 | 0,_,_,_,_,_,_=>none
 | k+1,x1,x7,x8,x9,x10,x573000=>if 0≤x10 then (if x10<(x9.length:Int) then (if 0≤x8 then (if x8<(x1.length:Int) then (if (rd x9 x10)=(rd x1 x8) then (spec_RankOfGrowing.l0 k x1 x7 (wrap64 (x8+1)) x573000) else (if x8≤(x1.length:Int) then ((spec_l01Own.f (x1.take (x8:Int).toNat)).bind fun t582=>((some (([rd x9 x10]:List Int):List Int)).bind fun y586=>(if t582.length+y586.length<17592186044416 then ((spec_l09Count.f k x573000 (t582++y586)).bind fun t592=>(spec_RankOfGrowing.l1 k x1 (wrap64 (x7+t592)) x8 x9 (wrap64 (x10+1)) x573000)) else (none)))) else (none))) else (none)) else (none)) else (none)) else (none)
end
def spec_RankOfGrowing.f (k:Nat) (l0_0:List Int) (l1:List Int):Option (Int × Int):=(spec_l09Code.f k l0_0 l1).bind fun t573=>(if t573=0 then ((spec_l09Few.f k l0_0).bind fun t574=>(spec_RankOfGrowing.j0 k l1 t574 l0_0)) else (spec_RankOfGrowing.j0 k l1 t573 l0_0))
def spec_RankOfGrowing.T12:Bool × List (List Nat × List Nat):=(true,[([],[]),([],[]),([0,1],[0,1]),([2],[2]),([],[]),([],[]),([4,5],[4,5]),([6],[6]),([3,7],[3,7])])
def spec_RankOfGrowing.B12:List Nat:=[0,0,3,7,0,0,48,112,255]
theorem spec_RankOfGrowing.tab12:rtab .any (opsOf Tryz.f24 12)=spec_RankOfGrowing.T12:=by kernel_rfl
theorem spec_RankOfGrowing.bits12:waitsOk spec_RankOfGrowing.T12.2 spec_RankOfGrowing.B12=true:=by kernel_rfl
def spec_RankOfGrowing.T14:Bool × List (List Nat × List Nat):=(true,[([],[]),([],[]),([],[]),([],[]),([2,3],[2,3]),([4],[4]),([],[]),([],[]),([6,7],[6,7]),([8],[8]),([9],[9]),([5,10,5],[5,10]),([1,11,11],[1,11]),([0,12],[0,12]),([13,12,0,1,2,3,4,5,6,7,8,9,10,11,12,13],[0,13])])
def spec_RankOfGrowing.B14:List Nat:=[0,0,0,0,12,28,0,0,192,448,960,2044,4094,8191,16383]
theorem spec_RankOfGrowing.tab14:rtab .any (opsOf Tryz.f24 14)=spec_RankOfGrowing.T14:=by kernel_rfl
theorem spec_RankOfGrowing.bits14:waitsOk spec_RankOfGrowing.T14.2 spec_RankOfGrowing.B14=true:=by kernel_rfl
theorem spec_RankOfGrowing.calls (k:Nat) (A0_0:Option Addr) (c0_0:Nat) (l0_0:List Int) (A1:Option Addr) (c1:Nat) (l1:List Int) (r1:Int) (r2:Int) (w:World) (hr0_0:Kd.C (Kd.int .i64) w A0_0 l0_0.length l0_0) (hc0_0:l0_0.length≤c0_0) (hr1:Kd.C (Kd.int .i64) w A1 l1.length l1) (hc1:l1.length≤c1) (h:spec_RankOfGrowing.f k l0_0 l1=some (r1,r2)) :
  Calls Tryz.prog 24 #[.agg #[.slice A0_0 l0_0.length c0_0],.slice A1 l1.length c1] w fun e w'=>e=.returned (.tuple #[.int .i64 r1,.int .i64 r2])∧Below w.heap.size w w':=by
 have hu27:=Tryz.underlying27;have aH:=ak hr0_0;have aI:=ak hc0_0;clear hr0_0 hc0_0;have HR1:=ak hr1;have HC1:=ak hc1;clear hr1 hc1;have HB:=ak (Below.refl w.heap.size w);have H:((spec_l09Code.f k l0_0 l1).bind fun al=>(if al=0 then ((spec_l09Few.f k l0_0).bind fun aJ=>(spec_RankOfGrowing.j0 k l1 aJ l0_0)) else (spec_RankOfGrowing.j0 k l1 al l0_0)))=some (r1,r2):=h;clear h;replace H:=bs H;obtain ⟨al,A3,H⟩:=H;(try dsimp only at H);have HC4:=ak H;clear H
 go_enter Tryz.func24,Tryz.ntmps24
 go_upto_if 15 with (first|((with_reducible refine gate_dst (N:=2) rfl ?_);refine bev (N:=2) (cs:=#[.slice A0_0 l0_0.length c0_0]) (t:=27) ?_;intro aj hg w5 hbox hb;have aa:=ak (hbox);have bw:=gbe hg;have bx:=gbe hg;replace HB:=hbs hb;clear hb hbox hg;have bz:=bc aa.out;have bA:=blk_frozen aa.out 0)|((with_reducible refine gate_callee (f:=78) rfl ?_);refine gl (some 13) Tryz.func78 #[.agg #[.slice A0_0 l0_0.length c0_0],.slice A1 l1.length c1] ?_;(with_reducible refine (spec_l09Code.calls k _ _ l0_0 _ _ l1 al _ (pc (Kd.C_below aH.out HB.out)) aI.out (pc (Kd.C_below HR1.out HB.out)) HC1.out A3.out).mono ?_);rintro e w7 ⟨rfl,hb⟩;refine ⟨_,rfl,?_⟩;replace aa:=bb aa hb;replace HB:=hbs hb;(try clear hb)))
 (try simp only [Act.put,List.setIfInBounds_toArray,List.set_cons_zero,List.set_cons_succ])
 go_cut [6] (fun v6 wc=>∃ (kq:Nat) (az:Int),v6=.int .i64 az∧Aside0 (spec_RankOfGrowing.j0 kq l1 az l0_0=some (r1,r2))∧Aside0 (kq≤k)∧Aside0 (wc.heap[aj]?=some (.cells #[(.slice A0_0 l0_0.length c0_0)] 27 (0,0)))∧Aside0 (Below w.heap.size w wc))
 case first =>
  have H:=HC4.out;clear HC4;obtain c8|c8:=nem (al=0)
  ·rw [if_neg c8] at H;have aE:(al == 0)=false:=beq_eq_false_iff_ne.mpr c8;have bd:(al != 0)=true:=bne_iff_ne.mpr c8;(first|rw [aE]|(simp only [i64_w,i32_w];rw [aE])|skip);have H':=ak H;clear H;go_wp2
   go_meet
   case rel=>exact ⟨_,(al),q14_2,H',⟨by first|omega|exact Nat.le_refl _⟩,⟨pb aa.out⟩,⟨hq⟩⟩
  rw [if_pos c8] at H;have aE:=be c8;have bd:=bn c8;clear c8;(first|rw [aE]|(simp only [i64_w,i32_w];rw [aE])|skip);replace H:=bs H;obtain ⟨aJ,A9,H⟩:=H;(try dsimp only at H);have H':=ak H;clear H;have bB:=bc aa.out;have bC:=blk_frozen aa.out 0
  go_wp2_with (first|((with_reducible refine gate_callee (f:=87) rfl ?_);refine gl (some 17) Tryz.func87 #[.agg #[.slice A0_0 l0_0.length c0_0]] ?_;(with_reducible refine (spec_l09Few.calls k _ _ l0_0 aJ _ (pc (Kd.C_below aH.out HB.out)) aI.out A9.out).mono ?_);rintro e w11 ⟨rfl,hb⟩;refine ⟨_,rfl,?_⟩;replace aa:=bb aa hb;replace HB:=hbs hb;(try clear hb)))
  go_meet
  case rel=>exact ⟨_,(aJ),q14_2,H',⟨by first|omega|exact Nat.le_refl _⟩,⟨pb aa.out⟩,⟨hq⟩⟩
 clear HC4;obtain ⟨kq,az,rfl,HA,HJ3,aa,HB⟩:=hcut
 cases kq with|zero=>exact absurd HA.out (by simp [spec_RankOfGrowing.j0])|succ kj3=>?_
 have H:=HA.out;clear HA;simp only [spec_RankOfGrowing.j0] at H;obtain c12|c12:=nem (az=0)
 ·rw [if_neg c12] at H;have bf:(az == 0)=false:=beq_eq_false_iff_ne.mpr c12;have bg:(az != 0)=true:=bne_iff_ne.mpr c12;simp only [Option.some.injEq,Prod.mk.injEq] at H;obtain ⟨rfl,rfl⟩:=H;go_wp2
  go_ret2
  exact ⟨ew,hq⟩
 rw [if_pos c12] at H;have bf:=be c12;have bg:=bn c12;clear c12;have H':=ak H;clear H;go_wp2
 go_loopg [7,8] kj3 (fun kq v7 v8 w'=>∃ (aK:Int) (ac:Int),v7=.int .i64 aK∧v8=.int .i64 ac∧Aside0 (spec_RankOfGrowing.l0 kq l1 aK ac l0_0=some (r1,r2))∧Aside0 (kq≤kj3)∧Aside0 (w'.heap[aj]?=some (.cells #[(.slice A0_0 l0_0.length c0_0)] 27 (0,0)))∧Aside0 (Below w.heap.size w w'))
 case atStart=>exact ⟨(0),(0),q14_2,q14_2,H',⟨Nat.le_refl _⟩,⟨pb aa.out⟩,⟨hq⟩⟩
 case round =>
  clear H';obtain ⟨aK,ac,rfl,rfl,HA,HK2,aa,HB⟩:=hrel
  cases gk with|zero=>exact absurd HA.out (by simp [spec_RankOfGrowing.l0])|succ k2=>?_
  have H:=HA.out;clear HA;simp only [spec_RankOfGrowing.l0] at H;obtain c13|c13:=nem (ac<(l1.length:Int))
  ·rw [if_neg c13] at H;have bh:=df c13;clear c13;simp only [Option.some.injEq,Prod.mk.injEq] at H;obtain ⟨rfl,rfl⟩:=H;go_wp2
   go_ret2
   exact ⟨ew,hq⟩
  rw [if_pos c13] at H;have bh:=dt c13;clear c13;replace H:=ifs H;obtain ⟨c14,H⟩:=H;have bD:=eq_true c14;have bE:decide (0≤ac)=true:=decide_eq_true c14;clear c14;replace H:=ifs H;obtain ⟨c15,H⟩:=H;have bF:=eq_true c15;have bG:decide (ac≤(l1.length:Int))=true:=decide_eq_true c15;clear c15;replace H:=bs H;obtain ⟨ae,A16,H⟩:=H;(try dsimp only at H);have H':=ak H;clear H
  try go_wp2
  have n0_:=ak (blk_drew aa.out);have n1_:=ak (below_drew1 HB.out);clear aa HB;have aa:=n0_;have HB:=n1_;clear n0_ n1_;obtain ⟨i018,aW,_,hsz18,_⟩:=info_parts info2;obtain ⟨hcut18,hA18,aX⟩:=print_take_of (P:=Tryz.prog) (Value.int .i64) 0 24 2 .i64 Tryz.underlying24 aW hsz18 A1 c1 l1 ac (od q14_0) (od q14_0) HC1.out;have aY:Aside0 (Kd.C (Kd.int .i64) _ _ _ _):=ak (Kd.C_of_reads (h1:=fun _=>rfl) (hA18 _ (Kd.reads_of_C HR1.out)));have bi:=ak aX;clear hA18 aX aW hsz18
  refine start_ (n:=6) (S:=fun w'=>w'.cell? ⟨aj,0,none⟩=some (.slice A0_0 l0_0.length c0_0)) (ds:=[]) #[false,false,false,false,false,false] kr rfl rfl ((blk_cell aa.out 0).trans rfl) (fun hHeld=>?_)
  generalize wr.drew=w17 at aa HB aY hHeld ⊢
  refine pure_ (i:=1) (N:=some 28) (v:=?_) (a':=?_) #[false,true,false,false,false,false] rfl rfl kr (fun _ _ _ h=>h) (Or.inl ⟨by rfl,?_⟩) ?_ ?_
  rotate_left
  ·intro w'
   go_simp
   with_reducible rfl
  rotate_left
  ·simp only [Act.put,sIB,sc0,scs,i64_w,i32_w]
   rfl
  refine pure_ (i:=2) (N:=some 29) (v:=?_) (a':=?_) #[false,true,true,false,false,false] rfl rfl kr (fun _ _ _ h=>h) (Or.inl ⟨by rfl,?_⟩) ?_ ?_
  rotate_left
  ·intro w'
   go_simp
   with_reducible rfl
  rotate_left
  ·simp only [Act.put,sIB,sc0,scs,i64_w,i32_w]
   rfl
  refine pure_ (i:=3) (N:=some 30) (v:=?_) (a':=?_) #[false,true,true,true,false,false] rfl rfl kr (fun _ _ _ h=>h) (Or.inl ⟨by rfl,?_⟩) ?_ ?_
  rotate_left
  ·intro w'
   go_simp
   with_reducible rfl
  rotate_left
  ·simp only [Act.put,sIB,sc0,scs,i64_w,i32_w]
   rfl
  refine take_ (i:=0) (N:=some 27) (v:=?_) (a':=?_) #[true,true,true,true,false,false] rfl rfl kr (fun _ _ _ h=>h) (Or.inl ⟨by rfl,?_⟩) hHeld ?_ ?_
  rotate_left
  ·intro w' s0
   go_simp
   with_reducible rfl
  rotate_left
  ·simp only [Act.put,sIB,sc0,scs,i64_w,i32_w]
   rfl
  refine one_ (i:=4) (N:=some 31) #[true,true,true,true,true,false] rfl rfl kr dc (fun K hK=>?_)
  refine goes_ Tryz.func88 kr rfl #[.agg #[.slice A0_0 l0_0.length c0_0],.slice A1 (l1.take (ac:Int).toNat).length c1] (by rfl) rfl rfl q14_1 ?_
  with_reducible refine (spec_l09Next.calls k2 _ _ l0_0 _ _ (l1.take (ac:Int).toNat) ae _ ?side1 ?side2 ?side3 ?side4 A16.out).mono ?_
  (case side1=>exact pc (Kd.C_below aH.out HB.out))
  (case side2=>exact aI.out)
  (case side3=>exact pc (Kd.C_below aY.out HB.out))
  (case side4=>exact bi.out)
  rintro e w19 ⟨bj,rfl,ho0,hb⟩
  refine ⟨_,rfl,?_⟩
  have n0_:=lw ho0;have n1_:=bb aa hb;have n2_:=hbs hb;clear aa HB;have bk:=n0_;have aa:=n1_;have HB:=n2_;clear n0_ n1_ n2_;(try clear hb);(try clear hb2);(try clear hk);(try clear hi);(try clear ho0)
  refine hK.out _ _ ((blk_cell aa.out 0).trans rfl) (fun hHeld=>?_)
  clear hK K
  refine norm_ (a':=?_) ?_ ?_
  rotate_left
  ·show Act.put _ (some 31) _=_;simp only [Act.put,sIB,sc0,scs,i64_w,i32_w]
   rfl
  refine pure_ (i:=5) (N:=some 9) (v:=?_) (a':=?_) #[true,true,true,true,true,true] rfl rfl kr (fun _ _ _ h=>h) (Or.inl ⟨by rfl,?_⟩) ?_ ?_
  rotate_left
  ·intro w'
   go_simp
   with_reducible rfl
  rotate_left
  ·simp only [Act.put,sIB,sc0,scs,i64_w,i32_w]
   rfl
  refine done_ kr ?_
  try go_wp2
  go_loopg [7,10] k2 (fun kq v7 v10 w'=>∃ (ar:Int) (ad:Int),v7=.int .i64 ar∧v10=.int .i64 ad∧Aside0 (spec_RankOfGrowing.l1 kq l1 ar ac ae ad l0_0=some (r1,r2))∧Aside0 (kq≤k2)∧Aside0 (Kd.R (Kd.int .i64) 2 w' w.heap.size (fun _=>True) bj ae)∧Aside0 (w'.heap[aj]?=some (.cells #[(.slice A0_0 l0_0.length c0_0)] 27 (0,0)))∧Aside0 (Below w.heap.size w w'))
  case atStart=>exact ⟨(aK),(0),q14_2,q14_2,H',⟨Nat.le_refl _⟩,⟨pe bk.out⟩,⟨pb aa.out⟩,⟨hq⟩⟩
  case round =>
   clear H';obtain ⟨ar,ad,rfl,rfl,HA,HK3,ab,aa,HB⟩:=hrel
   cases gk with|zero=>exact absurd HA.out (by simp [spec_RankOfGrowing.l1])|succ k3=>?_
   have H:=HA.out;clear HA;simp only [spec_RankOfGrowing.l1] at H;replace H:=ifs H;obtain ⟨c20,H⟩:=H;have bH:=dt c20;clear c20;replace H:=ifs H;obtain ⟨c21,H⟩:=H;have bI:=dt c21;clear c21;replace H:=ifs H;obtain ⟨c22,H⟩:=H;have bJ:=dt c22;clear c22;replace H:=ifs H;obtain ⟨c23,H⟩:=H;have bK:=dt c23;clear c23
   by_cases c24:(rd ae ad)=(rd l1 ac)
   ·rw [if_pos c24] at H;have bl:((rd ae ad) == (rd l1 ac))=true:=beq_iff_eq.mpr c24;have bm:((rd ae ad) != (rd l1 ac))=false:=bne_eq_false_iff_eq.mpr c24;clear c24;have H':=ak H;clear H
    try go_wp2
    have n0_:=ak (Kd.R_drew ab.out);have n1_:=ak (blk_drew aa.out);have n2_:=ak (below_drew1 HB.out);clear ab aa HB;have ab:=n0_;have aa:=n1_;have HB:=n2_;clear n0_ n1_ n2_;obtain ⟨bL,bM,aZ⟩:=Kd.R_slice ab.out;(first|subst aZ|(injection aZ with f1_ f2_ f3_;have f4_:=f1_.symm;have f5_:=f3_.symm;clear f1_ f2_ f3_;subst f4_;subst f5_));have au:0≤(ad:Int):=od q14_0;have av:ad<(ae.length:Int):=od q14_0;(try (obtain ⟨Aop_,cop_,eop_⟩:=Kd.R_slice ab.out;subst eop_));obtain ⟨ah,aN,aG⟩:=Kd.at_int (Kd.R_reads' ab.out).2.2 ad au av;cases aN;replace au:=eq_true au;replace av:=eq_true av;have aw:0≤(ac:Int):=od q14_0;have ax:ac<(l1.length:Int):=od q14_0;obtain ⟨aA,aP,ai⟩:=Kd.at_int HR1.out ac aw ax;have hw580_0:=ai;cases aP;replace ai:=(HB.out.cell (World.block_lt_of_cell? w _ ai)).trans ai;replace aw:=eq_true aw;replace ax:=eq_true ax
    refine start_ (n:=9) (S:=fun w'=>w'.cell? (ah.add (ad).toNat)=some (.int .i64 (rd ae ad))∧w'.cell? (aA.add (ac).toNat)=some (.int .i64 (rd l1 ac))) (ds:=[]) #[false,false,false,false,false,false,false,false,false] kr rfl rfl ⟨aG,((HB.out.cell (World.block_lt_of_cell? w _ hw580_0)).trans hw580_0)⟩ (fun hHeld=>?_);refine with_tabW spec_RankOfGrowing.tab12 spec_RankOfGrowing.bits12 (fun HT_ HW_=>?_)
    generalize wr.drew=w25 at ab aa HB aG ai hHeld ⊢
    refine pur (i:=0) (N:=some 32) (v:=?_) (a':=?_) #[true,false,false,false,false,false,false,false,false] rfl (Or.inl ⟨by rfl,?_⟩) ?_ ?_
    rotate_left
    ·intro w'
     go_simp
     with_reducible rfl
    rotate_left
    ·simp only [Act.put,sIB,sc0,scs,i64_w,i32_w]
     rfl
    refine pur (i:=1) (N:=some 33) (v:=?_) (a':=?_) #[true,true,false,false,false,false,false,false,false] rfl (Or.inl ⟨by rfl,?_⟩) ?_ ?_
    rotate_left
    ·intro w'
     go_simp
     with_reducible rfl
    rotate_left
    ·simp only [Act.put,sIB,sc0,scs,i64_w,i32_w]
     rfl
    refine pur (i:=2) (N:=some 34) (v:=?_) (a':=?_) #[true,true,true,false,false,false,false,false,false] rfl (Or.inl ⟨by rfl,?_⟩) ?_ ?_
    rotate_left
    ·intro w'
     go_simp
     with_reducible rfl
    rotate_left
    ·simp only [Act.put,sIB,sc0,scs,i64_w,i32_w]
     rfl
    refine pur (i:=4) (N:=some 36) (v:=?_) (a':=?_) #[true,true,true,false,true,false,false,false,false] rfl (Or.inl ⟨by rfl,?_⟩) ?_ ?_
    rotate_left
    ·intro w'
     go_simp
     with_reducible rfl
    rotate_left
    ·simp only [Act.put,sIB,sc0,scs,i64_w,i32_w]
     rfl
    refine pur (i:=5) (N:=some 37) (v:=?_) (a':=?_) #[true,true,true,false,true,true,false,false,false] rfl (Or.inl ⟨by rfl,?_⟩) ?_ ?_
    rotate_left
    ·intro w'
     go_simp
     with_reducible rfl
    rotate_left
    ·simp only [Act.put,sIB,sc0,scs,i64_w,i32_w]
     rfl
    refine pur (i:=6) (N:=some 38) (v:=?_) (a':=?_) #[true,true,true,false,true,true,true,false,false] rfl (Or.inl ⟨by rfl,?_⟩) ?_ ?_
    rotate_left
    ·intro w'
     go_simp
     with_reducible rfl
    rotate_left
    ·simp only [Act.put,sIB,sc0,scs,i64_w,i32_w]
     rfl
    refine take_ (i:=3) (N:=some 35) (v:=?_) (a':=?_) #[true,true,true,true,true,true,true,false,false] rfl rfl (take_ofW HT_.out HW_.out kr) (fun _ _ _ h=>h) (Or.inl ⟨by rfl,?_⟩) hHeld ?_ ?_
    rotate_left
    ·rintro w' ⟨s0,s1⟩
     go_simp
     with_reducible rfl
    rotate_left
    ·simp only [Act.put,sIB,sc0,scs,i64_w,i32_w]
     rfl
    refine take_ (i:=7) (N:=some 39) (v:=?_) (a':=?_) #[true,true,true,true,true,true,true,true,false] rfl rfl (take_ofW HT_.out HW_.out kr) (fun _ _ _ h=>h) (Or.inl ⟨by rfl,?_⟩) hHeld ?_ ?_
    rotate_left
    ·rintro w' ⟨s0,s1⟩
     go_simp
     with_reducible rfl
    rotate_left
    ·simp only [Act.put,sIB,sc0,scs,i64_w,i32_w]
     rfl
    refine pur (i:=8) (N:=some 40) (v:=?_) (a':=?_) #[true,true,true,true,true,true,true,true,true] rfl (Or.inl ⟨by rfl,?_⟩) ?_ ?_
    rotate_left
    ·intro w'
     go_simp
     with_reducible rfl
    rotate_left
    ·simp only [Act.put,sIB,sc0,scs,i64_w,i32_w]
     rfl
    refine done_ (done_of HT_.out kr) ?_
    try go_wp2
    go_roundg k3
    case measure=>have:=HJ3.out;have:=HK2.out;have:=HK3.out;omega
    case rel=>exact ⟨(ar),(wrap64 (ac+1)),q14_2,q14_2,H',⟨by have:=HJ3.out;have:=HK2.out;have:=HK3.out;omega⟩,⟨pb aa.out⟩,⟨hq⟩⟩
   rw [if_neg c24] at H;have bl:((rd ae ad) == (rd l1 ac))=false:=beq_eq_false_iff_ne.mpr c24;have bm:((rd ae ad) != (rd l1 ac))=true:=bne_iff_ne.mpr c24;have bN:=eq_true (od q14_0:0≤ac);replace H:=ifs H;obtain ⟨c28,H⟩:=H;have bO:=eq_true c28;have bP:decide (ac≤(l1.length:Int))=true:=decide_eq_true c28;clear c28;replace H:=bs H;obtain ⟨an,A29,H⟩:=H;(try dsimp only at H);obtain ⟨ao,hY⟩:∃ y_:List Int,y_=([rd ae ad]:List Int):=⟨_,rfl⟩;replace H:(if an.length+ao.length<17592186044416 then ((spec_l09Count.f k3 l0_0 (an++ao)).bind fun aC=>(spec_RankOfGrowing.l1 k3 l1 (wrap64 (ar+aC)) ac ae (wrap64 (ad+1)) l0_0)) else (none))=some (r1,r2):=hh;have aM:=ak hY;clear hY;replace H:=ifs H;obtain ⟨c30,H⟩:=H;have bo:=ak c30;clear c30;obtain ⟨aQ,hY⟩:∃ y_:List Int,y_=(an++ao):=⟨_,rfl⟩;replace H:((spec_l09Count.f k3 l0_0 aQ).bind fun aC=>(spec_RankOfGrowing.l1 k3 l1 (wrap64 (ar+aC)) ac ae (wrap64 (ad+1)) l0_0))=some (r1,r2):=hh;have bp:=ak hY;clear hY;replace H:=bs H;obtain ⟨aC,A31,H⟩:=H;(try dsimp only at H);have H':=ak H;clear H
   try go_wp2
   have n0_:=ak (Kd.R_drew ab.out);have n1_:=ak (blk_drew aa.out);have n2_:=ak (below_drew1 HB.out);clear ab aa HB;have ab:=n0_;have aa:=n1_;have HB:=n2_;clear n0_ n1_ n2_;obtain ⟨bQ,ap,a2⟩:=Kd.R_slice ab.out;(first|subst a2|(injection a2 with f1_ f2_ f3_;have f4_:=f1_.symm;have f5_:=f3_.symm;clear f1_ f2_ f3_;subst f4_;subst f5_));have au:0≤(ad:Int):=od q14_0;have av:ad<(ae.length:Int):=od q14_0;(try (obtain ⟨Aop_,cop_,eop_⟩:=Kd.R_slice ab.out;subst eop_));obtain ⟨ah,aN,aG⟩:=Kd.at_int (Kd.R_reads' ab.out).2.2 ad au av;cases aN;replace au:=eq_true au;replace av:=eq_true av;have aw:0≤(ac:Int):=od q14_0;have ax:ac<(l1.length:Int):=od q14_0;obtain ⟨aA,aP,ai⟩:=Kd.at_int HR1.out ac aw ax;have hw580_0:=ai;cases aP;replace ai:=(HB.out.cell (World.block_lt_of_cell? w _ ai)).trans ai;replace aw:=eq_true aw;replace ax:=eq_true ax
   refine start_ (n:=9) (S:=fun w'=>w'.cell? (ah.add (ad).toNat)=some (.int .i64 (rd ae ad))∧w'.cell? (aA.add (ac).toNat)=some (.int .i64 (rd l1 ac))) (ds:=[]) #[false,false,false,false,false,false,false,false,false] kr rfl rfl ⟨aG,((HB.out.cell (World.block_lt_of_cell? w _ hw580_0)).trans hw580_0)⟩ (fun hHeld=>?_);refine with_tabW spec_RankOfGrowing.tab12 spec_RankOfGrowing.bits12 (fun HT_ HW_=>?_)
   generalize wr.drew=w32 at ab aa HB aG ai hHeld ⊢
   refine pur (i:=0) (N:=some 32) (v:=?_) (a':=?_) #[true,false,false,false,false,false,false,false,false] rfl (Or.inl ⟨by rfl,?_⟩) ?_ ?_
   rotate_left
   ·intro w'
    go_simp
    with_reducible rfl
   rotate_left
   ·simp only [Act.put,sIB,sc0,scs,i64_w,i32_w]
    rfl
   refine pur (i:=1) (N:=some 33) (v:=?_) (a':=?_) #[true,true,false,false,false,false,false,false,false] rfl (Or.inl ⟨by rfl,?_⟩) ?_ ?_
   rotate_left
   ·intro w'
    go_simp
    with_reducible rfl
   rotate_left
   ·simp only [Act.put,sIB,sc0,scs,i64_w,i32_w]
    rfl
   refine pur (i:=2) (N:=some 34) (v:=?_) (a':=?_) #[true,true,true,false,false,false,false,false,false] rfl (Or.inl ⟨by rfl,?_⟩) ?_ ?_
   rotate_left
   ·intro w'
    go_simp
    with_reducible rfl
   rotate_left
   ·simp only [Act.put,sIB,sc0,scs,i64_w,i32_w]
    rfl
   refine pur (i:=4) (N:=some 36) (v:=?_) (a':=?_) #[true,true,true,false,true,false,false,false,false] rfl (Or.inl ⟨by rfl,?_⟩) ?_ ?_
   rotate_left
   ·intro w'
    go_simp
    with_reducible rfl
   rotate_left
   ·simp only [Act.put,sIB,sc0,scs,i64_w,i32_w]
    rfl
   refine pur (i:=5) (N:=some 37) (v:=?_) (a':=?_) #[true,true,true,false,true,true,false,false,false] rfl (Or.inl ⟨by rfl,?_⟩) ?_ ?_
   rotate_left
   ·intro w'
    go_simp
    with_reducible rfl
   rotate_left
   ·simp only [Act.put,sIB,sc0,scs,i64_w,i32_w]
    rfl
   refine pur (i:=6) (N:=some 38) (v:=?_) (a':=?_) #[true,true,true,false,true,true,true,false,false] rfl (Or.inl ⟨by rfl,?_⟩) ?_ ?_
   rotate_left
   ·intro w'
    go_simp
    with_reducible rfl
   rotate_left
   ·simp only [Act.put,sIB,sc0,scs,i64_w,i32_w]
    rfl
   refine take_ (i:=3) (N:=some 35) (v:=?_) (a':=?_) #[true,true,true,true,true,true,true,false,false] rfl rfl (take_ofW HT_.out HW_.out kr) (fun _ _ _ h=>h) (Or.inl ⟨by rfl,?_⟩) hHeld ?_ ?_
   rotate_left
   ·rintro w' ⟨s0,s1⟩
    go_simp
    with_reducible rfl
   rotate_left
   ·simp only [Act.put,sIB,sc0,scs,i64_w,i32_w]
    rfl
   refine take_ (i:=7) (N:=some 39) (v:=?_) (a':=?_) #[true,true,true,true,true,true,true,true,false] rfl rfl (take_ofW HT_.out HW_.out kr) (fun _ _ _ h=>h) (Or.inl ⟨by rfl,?_⟩) hHeld ?_ ?_
   rotate_left
   ·rintro w' ⟨s0,s1⟩
    go_simp
    with_reducible rfl
   rotate_left
   ·simp only [Act.put,sIB,sc0,scs,i64_w,i32_w]
    rfl
   refine pur (i:=8) (N:=some 40) (v:=?_) (a':=?_) #[true,true,true,true,true,true,true,true,true] rfl (Or.inl ⟨by rfl,?_⟩) ?_ ?_
   rotate_left
   ·intro w'
    go_simp
    with_reducible rfl
   rotate_left
   ·simp only [Act.put,sIB,sc0,scs,i64_w,i32_w]
    rfl
   refine done_ (done_of HT_.out kr) ?_
   try go_wp2
   have n0_:=ak (Kd.R_drew ab.out);have n1_:=ak (blk_drew aa.out);have n2_:=ak (below_drew1 HB.out);clear ab aa HB;have ab:=n0_;have aa:=n1_;have HB:=n2_;clear n0_ n1_ n2_;obtain ⟨i035,a3,_,hsz35,_⟩:=info_parts info2;obtain ⟨hcut35,hA35,a4⟩:=print_take_of (P:=Tryz.prog) (Value.int .i64) 0 24 2 .i64 Tryz.underlying24 a3 hsz35 (some aA) c1 l1 ac (od q14_0) (od q14_0) HC1.out;have aT:Aside0 (Kd.C (Kd.int .i64) _ _ _ _):=ak (Kd.C_of_reads (h1:=fun _=>rfl) (hA35 _ (Kd.reads_of_C HR1.out)));have a5:=ak a4;clear hA35 a4 a3 hsz35;have aU:0≤(ad:Int):=od q14_0;have aV:ad<(ae.length:Int):=od q14_0;(try (obtain ⟨Aop_,cop_,eop_⟩:=Kd.R_slice ab.out;subst eop_));obtain ⟨bq,br,a6⟩:=Kd.at_int (Kd.R_reads' ab.out).2.2 ad aU aV;obtain rfl:ah=bq:=(by injection br);replace aU:=eq_true aU;replace aV:=eq_true aV
   refine start_ (n:=15) (S:=fun w'=>w'.cell? ⟨aj,0,none⟩=some (.slice A0_0 l0_0.length c0_0)∧w'.cell? (ah.add (ad).toNat)=some (.int .i64 (rd ae ad))) (ds:=[]) #[false,false,false,false,false,false,false,false,false,false,false,false,false,false,false] kr rfl rfl ⟨(blk_cell aa.out 0).trans rfl,a6⟩ (fun hHeld=>?_);refine with_tabW spec_RankOfGrowing.tab14 spec_RankOfGrowing.bits14 (fun HT_ HW_=>?_)
   generalize w32.drew=w34 at ab aa HB aT a6 hHeld ⊢
   refine pur (i:=0) (N:=some 43) (v:=?_) (a':=?_) (tf 1 14) rfl (Or.inl ⟨by rfl,?_⟩) ?_ ?_
   rotate_left
   ·intro w'
    go_simp
    with_reducible rfl
   rotate_left
   ·simp only [Act.put,sIB,sc0,scs,i64_w,i32_w]
    rfl
   refine pur (i:=2) (N:=some 45) (v:=?_) (a':=?_) #[true,false,true,false,false,false,false,false,false,false,false,false,false,false,false] rfl (Or.inl ⟨by rfl,?_⟩) ?_ ?_
   rotate_left
   ·intro w'
    go_simp
    with_reducible rfl
   rotate_left
   ·simp only [Act.put,sIB,sc0,scs,i64_w,i32_w]
    rfl
   refine pur (i:=3) (N:=some 46) (v:=?_) (a':=?_) #[true,false,true,true,false,false,false,false,false,false,false,false,false,false,false] rfl (Or.inl ⟨by rfl,?_⟩) ?_ ?_
   rotate_left
   ·intro w'
    go_simp
    with_reducible rfl
   rotate_left
   ·simp only [Act.put,sIB,sc0,scs,i64_w,i32_w]
    rfl
   refine pur (i:=4) (N:=some 47) (v:=?_) (a':=?_) #[true,false,true,true,true,false,false,false,false,false,false,false,false,false,false] rfl (Or.inl ⟨by rfl,?_⟩) ?_ ?_
   rotate_left
   ·intro w'
    go_simp
    with_reducible rfl
   rotate_left
   ·simp only [Act.put,sIB,sc0,scs,i64_w,i32_w]
    rfl
   refine pur (i:=6) (N:=some 49) (v:=?_) (a':=?_) #[true,false,true,true,true,false,true,false,false,false,false,false,false,false,false] rfl (Or.inl ⟨by rfl,?_⟩) ?_ ?_
   rotate_left
   ·intro w'
    go_simp
    with_reducible rfl
   rotate_left
   ·simp only [Act.put,sIB,sc0,scs,i64_w,i32_w]
    rfl
   refine pur (i:=7) (N:=some 50) (v:=?_) (a':=?_) #[true,false,true,true,true,false,true,true,false,false,false,false,false,false,false] rfl (Or.inl ⟨by rfl,?_⟩) ?_ ?_
   rotate_left
   ·intro w'
    go_simp
    with_reducible rfl
   rotate_left
   ·simp only [Act.put,sIB,sc0,scs,i64_w,i32_w]
    rfl
   refine pur (i:=8) (N:=some 51) (v:=?_) (a':=?_) #[true,false,true,true,true,false,true,true,true,false,false,false,false,false,false] rfl (Or.inl ⟨by rfl,?_⟩) ?_ ?_
   rotate_left
   ·intro w'
    go_simp
    with_reducible rfl
   rotate_left
   ·simp only [Act.put,sIB,sc0,scs,i64_w,i32_w]
    rfl
   refine take_ (i:=1) (N:=some 44) (v:=?_) (a':=?_) #[true,true,true,true,true,false,true,true,true,false,false,false,false,false,false] rfl rfl (take_ofW HT_.out HW_.out kr) (fun _ _ _ h=>h) (Or.inl ⟨by rfl,?_⟩) hHeld ?_ ?_
   rotate_left
   ·rintro w' ⟨s0,s1⟩
    go_simp
    with_reducible rfl
   rotate_left
   ·simp only [Act.put,sIB,sc0,scs,i64_w,i32_w]
    rfl
   refine take_ (i:=9) (N:=some 52) (v:=?_) (a':=?_) #[true,true,true,true,true,false,true,true,true,true,false,false,false,false,false] rfl rfl (take_ofW HT_.out HW_.out kr) (fun _ _ _ h=>h) (Or.inl ⟨by rfl,?_⟩) hHeld ?_ ?_
   rotate_left
   ·rintro w' ⟨s0,s1⟩
    go_simp
    with_reducible rfl
   rotate_left
   ·simp only [Act.put,sIB,sc0,scs,i64_w,i32_w]
    rfl
   refine join_ (σ:=Value × Value) 4 #[true,true,true,true,true,true,true,true,true,true,true,false,false,false,false] (fun s_=>[(48,s_.1),(53,s_.2)]) (fun s_ w'=>(w'.cell? ⟨aj,0,none⟩=some (.slice A0_0 l0_0.length c0_0)∧w'.cell? (ah.add (ad).toNat)=some (.int .i64 (rd ae ad)))∧(Kd.R (Kd.int .i64) 2 w' w.heap.size (fun k_=>some k_≠(s_.2:Value).ownBlock∧some k_≠(.slice (some ah) ae.length ap:Value).ownBlock) s_.1 an)∧(Kd.R (Kd.int .i64) 2 w' w.heap.size (fun k_=>some k_≠(s_.1:Value).ownBlock∧some k_≠(.slice (some ah) ae.length ap:Value).ownBlock) s_.2 ao)∧(Kd.R (Kd.int .i64) 2 w' w.heap.size (fun k_=>some k_≠(s_.1:Value).ownBlock∧some k_≠(s_.2:Value).ownBlock) (.slice (some ah) ae.length ap) ae)∧(w'.heap[aj]?=some (.cells #[.slice A0_0 l0_0.length c0_0] 27 (0,0)))∧(Below w.heap.size w w')) ?_ ?_
   rotate_left
   ·intro hCont
    refine two_ (i:=5) (j:=10) (Ni:=some 48) (Nj:=some 53) #[true,true,true,true,true,true,true,true,true,true,false,false,false,false,false] #[true,true,true,true,true,false,true,true,true,true,true,false,false,false,false] rfl rfl rfl rfl (two_of HT_.out kr) dc dc (fun K hK=>?_) (fun K hK=>?_)
    ·skip
     refine goes_ Tryz.func90 kr rfl #[.slice (some aA) (l1.take (ac:Int).toNat).length c1] (by rfl) rfl rfl q14_1 ?_
     with_reducible refine (spec_l01Own.calls _ _ (l1.take (ac:Int).toNat) an _ ?side1 ?side2 A29.out).mono ?_
     (case side1=>exact pc (Kd.C_below aT.out HB.out))
     (case side2=>exact a5.out)
     rintro e w36 ⟨aq,rfl,ho0,hb⟩
     have HS1_:=(hb.cell (World.block_lt_of_cell? _ _ (hHeld.2))).trans (hHeld.2)
     refine ⟨_,rfl,?_⟩
     have n0_:=rn ab ho0 hb;have n1_:=lw (nw ho0 ab);have n2_:=bb aa hb;have n3_:=hbs hb;clear ab aa HB;have ab:=n0_;have af:=n1_;have aa:=n2_;have HB:=n3_;clear n0_ n1_ n2_ n3_;(try clear hb);(try clear hb2);(try clear hk);(try clear hi);(try clear ho0)
     refine hK.out _ _ ⟨(blk_cell aa.out 0).trans rfl,HS1_⟩ (fun hHeld=>?_)
     clear hK K
     refine norm_ (a':=?_) ?_ ?_
     rotate_left
     ·show Act.put _ (some 48) _=_;simp only [Act.put,sIB,sc0,scs,i64_w,i32_w]
      rfl
     refine one_ (i:=10) (N:=some 53) (tf 11 4) rfl rfl (one_of HT_.out kr) dc (fun K hK=>?_)
     refine Kd.R_lit_step (Kd.int .i64) _ 2 ?hg (N:=53) ?hd (xs:=([rd ae ad]:List Int)) (inner:=[.int .i64 (rd ae ad)]) (ok:=fun _=>True) (okp:=fun _=>True) ?hr ?hp (fun _ hk=>hk) trivial (Below.refl _ _) (Nat.le_refl _) (by simp) ?_;(case hd=>rfl);(case hg=>rfl);(case hr=>exact gs);(case hp=>exact (Reps.one (show Kd.M (Kd.int .i64) _ _ _ (rd ae ad) [.int .i64 (rd ae ad)] from rfl) (Reps.none _ _)))
     intro ay w37 ho38 hb hg_ hnew_
     have HS1_:=(hb.cell (World.block_lt_of_cell? _ _ (hHeld.2))).trans (hHeld.2);clear hg_ hnew_;(first|rw [← aM.out] at ho38|(simp only [Int.reduceToNat] at ho38;rw [← aM.out] at ho38));have n0_:=rn ab ho38 hb;have n1_:=rn af ho38 hb;have n2_:=lw (nw (nw ho38 ab) af);have n3_:=bb aa hb;have n4_:=hbs hb;clear ab af aa HB;have ab:=n0_;have af:=n1_;have ag:=n2_;have aa:=n3_;have HB:=n4_;clear n0_ n1_ n2_ n3_ n4_ hb ho38
     refine hK.out _ _ ⟨(blk_cell aa.out 0).trans rfl,HS1_⟩ (fun hHeld=>?_)
     clear hK K
     refine norm_ (a':=?_) ?_ ?_
     rotate_left
     ·show Act.put _ (some 53) _=_;simp only [Act.put,sIB,sc0,scs,i64_w,i32_w]
      rfl
     exact norm_ (by simp only [putAll,Act.put,List.setIfInBounds_toArray,List.set_cons_zero,List.set_cons_succ]) (hCont (aq,ay) _ ⟨hHeld,(pe (Kd.R_mono af.out (fun _ hk=>⟨hk.2,hk.1.2⟩))),(pe (Kd.R_mono ag.out (fun _ hk=>⟨hk.2,hk.1.2⟩))),(pe (Kd.R_mono ab.out (fun _ hk=>⟨hk.1.2,hk.2⟩))),(pb aa.out),hq⟩)
    ·skip
     refine Kd.R_lit_step (Kd.int .i64) _ 2 ?hg (N:=53) ?hd (xs:=([rd ae ad]:List Int)) (inner:=[.int .i64 (rd ae ad)]) (ok:=fun _=>True) (okp:=fun _=>True) ?hr ?hp (fun _ hk=>hk) trivial (Below.refl _ _) (Nat.le_refl _) (by simp) ?_;(case hd=>rfl);(case hg=>rfl);(case hr=>exact gs);(case hp=>exact (Reps.one (show Kd.M (Kd.int .i64) _ _ _ (rd ae ad) [.int .i64 (rd ae ad)] from rfl) (Reps.none _ _)))
     intro ay w36 ho37 hb hg_ hnew_
     have HS1_:=(hb.cell (World.block_lt_of_cell? _ _ (hHeld.2))).trans (hHeld.2);clear hg_ hnew_;(first|rw [← aM.out] at ho37|(simp only [Int.reduceToNat] at ho37;rw [← aM.out] at ho37));have n0_:=rn ab ho37 hb;have n1_:=lw (nw ho37 ab);have n2_:=bb aa hb;have n3_:=hbs hb;clear ab aa HB;have ab:=n0_;have ag:=n1_;have aa:=n2_;have HB:=n3_;clear n0_ n1_ n2_ n3_ hb ho37
     refine hK.out _ _ ⟨(blk_cell aa.out 0).trans rfl,HS1_⟩ (fun hHeld=>?_)
     clear hK K
     refine norm_ (a':=?_) ?_ ?_
     rotate_left
     ·show Act.put _ (some 53) _=_;simp only [Act.put,sIB,sc0,scs,i64_w,i32_w]
      rfl
     refine one_ (i:=5) (N:=some 48) (tf 11 4) rfl rfl (one_of HT_.out kr) dc (fun K hK=>?_)
     refine goes_ Tryz.func90 kr rfl #[.slice (some aA) (l1.take (ac:Int).toNat).length c1] (by rfl) rfl rfl q14_1 ?_
     with_reducible refine (spec_l01Own.calls _ _ (l1.take (ac:Int).toNat) an _ ?side1 ?side2 A29.out).mono ?_
     (case side1=>exact pc (Kd.C_below aT.out HB.out))
     (case side2=>exact a5.out)
     rintro e w38 ⟨aq,rfl,ho0,hb⟩
     have HS1_:=(hb.cell (World.block_lt_of_cell? _ _ (hHeld.2))).trans (hHeld.2)
     refine ⟨_,rfl,?_⟩
     have n0_:=rn ab ho0 hb;have n1_:=rn ag ho0 hb;have n2_:=lw (nw (nw ho0 ab) ag);have n3_:=bb aa hb;have n4_:=hbs hb;clear ab ag aa HB;have ab:=n0_;have ag:=n1_;have af:=n2_;have aa:=n3_;have HB:=n4_;clear n0_ n1_ n2_ n3_ n4_;(try clear hb);(try clear hb2);(try clear hk);(try clear hi);(try clear ho0)
     refine hK.out _ _ ⟨(blk_cell aa.out 0).trans rfl,HS1_⟩ (fun hHeld=>?_)
     clear hK K
     refine norm_ (a':=?_) ?_ ?_
     rotate_left
     ·show Act.put _ (some 48) _=_;simp only [Act.put,sIB,sc0,scs,i64_w,i32_w]
      rfl
     exact norm_ (by simp only [putAll,Act.put,List.setIfInBounds_toArray,List.set_cons_zero,List.set_cons_succ]) (hCont (aq,ay) _ ⟨hHeld,(pe (Kd.R_mono af.out (fun _ hk=>⟨hk.2,hk.1.2⟩))),(pe (Kd.R_mono ag.out (fun _ hk=>⟨hk.2,hk.1.2⟩))),(pe (Kd.R_mono ab.out (fun _ hk=>⟨hk.2,hk.1.2⟩))),(pb aa.out),hq⟩)
   rintro ⟨aq,ay⟩ w39 ⟨hS_,h0_,h1_,h2_,h3_,h4_⟩
   have n0_:Aside0 (Kd.R (Kd.int .i64) 2 w39 w.heap.size (fun k_=>some k_≠(ay:Value).ownBlock∧some k_≠(.slice (some ah) ae.length ap:Value).ownBlock) aq an):=⟨h0_⟩;have n1_:Aside0 (Kd.R (Kd.int .i64) 2 w39 w.heap.size (fun k_=>some k_≠(aq:Value).ownBlock∧some k_≠(.slice (some ah) ae.length ap:Value).ownBlock) ay ao):=⟨h1_⟩;have n2_:Aside0 (Kd.R (Kd.int .i64) 2 w39 w.heap.size (fun k_=>some k_≠(aq:Value).ownBlock∧some k_≠(ay:Value).ownBlock) (.slice (some ah) ae.length ap) ae):=⟨h2_⟩;have n3_:Aside0 (w39.heap[aj]?=some (.cells #[.slice A0_0 l0_0.length c0_0] 27 (0,0))):=⟨h3_⟩;have n4_:Aside0 (Below w.heap.size w w39):=⟨h4_⟩;clear ab aa HB h0_ h1_ h2_ h3_ h4_;have af:=n0_;have ag:=n1_;have ab:=n2_;have aa:=n3_;have HB:=n4_;clear n0_ n1_ n2_ n3_ n4_;have hHeld:w39.cell? ⟨aj,0,none⟩=some (.slice A0_0 l0_0.length c0_0)∧w39.cell? (ah.add (ad).toNat)=some (.int .i64 (rd ae ad)):=hS_;obtain ⟨a7,a8,a9⟩:=Kd.R_slice ag.out;(first|subst a9|(injection a9 with f1_ f2_ f3_;have f4_:=f1_.symm;have f5_:=f3_.symm;clear f1_ f2_ f3_;subst f4_;subst f5_))
   refine norm_ (a':=?_) ?_ ?_
   rotate_left
   ·simp only [putAll,Act.put,List.setIfInBounds_toArray,List.set_cons_zero,List.set_cons_succ]
    rfl
   refine one_ (i:=11) (N:=some 54) (tf 12 3) rfl rfl (one_of HT_.out kr) dc (fun K hK=>?_)
   refine Kd.R_append_rows_step (Kd.int .i64) (w0:=w) w.heap.size (by rfl) (.tmp 48) (.tmp 53) 24 2 (.int .i64 0) 8 rfl Tryz.underlying24 info2 rfl dc (by omega) aq an ao _ _ _ (fun k_=>some k_≠(.slice (some ah) ae.length ap:Value).ownBlock∧some k_≠(.slice a7 ao.length a8:Value).ownBlock) (fun _=>False) rfl rfl ?aO ?aR (fun _ _ h=>h) (fun _ h=>h.elim) ?aF ?aB ?aS ?aL ?_
   (case aR=>exact pc ((Kd.R_reads' ag.out).2.2))
   (case aB=>exact hq)
   (case aF=>exact (fun k_ hk=>⟨Kd.fresh' (Kd.R_lt (pe ab.out)) k_ hk,Kd.fresh' (Kd.R_lt (pe ag.out)) k_ hk⟩))
   (case aO=>exact (pe (Kd.R_mono af.out (fun _ hk=>⟨hk.2,hk.1⟩))))
   (case aS=>exact (below_size hq))
   (case aL=>have:=bo.out;omega)
   intro bR w40 ho hb hg hat
   (first|have HS1_:=cell_grown hg (hHeld.2) q14_3|have HS1_:=cell_grown hg (cell_unalloc (hHeld.2) (by first|(rw [add_block];exact Kd.R_lt ab.out _ rfl)|(show (Addr.add _ _).block<_;rw [add_block];exact Kd.R_lt ab.out _ rfl)|exact Kd.R_lt ab.out _ rfl)) q14_3);rw [← bp.out] at ho;have n0_:=ak (Kd.R_after (ok:=(fun k_=>some k_≠(.slice a7 ao.length a8:Value).ownBlock)) (pe (Kd.R_mono ab.out (fun _ hk=>⟨hk.2,hk.1⟩))) hg hat);have n1_:=ak (blk_grown (g:=aj) (o:=.cells #[.slice A0_0 l0_0.length c0_0] 27 (0,0)) (pb aa.out) hg (Kd.R_ne af.out aa.out dc));have n2_:=ak (Kd.R_after (ok:=(fun k_=>some k_≠(.slice (some ah) ae.length ap:Value).ownBlock)) (pe (Kd.R_mono ag.out (fun _ hk=>⟨hk.2,hk.1⟩))) hg hat);have n3_:=ak (hb);have n4_:=ak (ho);clear ab aa ag HB af;have ab:=n0_;have aa:=n1_;have ag:=n2_;have HB:=n3_;have aD:=n4_;clear n0_ n1_ n2_ n3_ n4_ ho hb hg hat;obtain ⟨bu,bv,ba⟩:=Kd.R_slice aD.out;(first|subst ba|(injection ba with f1_ f2_ f3_;have f4_:=f1_.symm;have f5_:=f3_.symm;clear f1_ f2_ f3_;subst f4_;subst f5_))
   refine hK.out _ _ ⟨(blk_cell aa.out 0).trans rfl,HS1_⟩ (fun hHeld=>?_)
   clear hK K
   refine norm_ (a':=?_) ?_ ?_
   rotate_left
   ·show Act.put _ (some 54) _=_;simp only [Act.put,sIB,sc0,scs,i64_w,i32_w]
    rfl
   refine one_ (i:=12) (N:=some 55) (tf 13 2) rfl rfl (one_of HT_.out kr) dc (fun K hK=>?_)
   refine goes_ Tryz.func89 kr rfl #[.agg #[.slice A0_0 l0_0.length c0_0],.slice bu aQ.length bv] (by rfl) rfl rfl am ?_
   with_reducible refine (spec_l09Count.calls k3 _ _ l0_0 _ _ aQ aC _ ?side1 ?side2 ?side3 ?side4 A31.out).mono ?_
   (case side1=>exact pc (Kd.C_below aH.out HB.out))
   (case side2=>exact aI.out)
   (case side3=>exact pc ((Kd.R_reads' aD.out).2.2))
   (case side4=>exact (Kd.R_reads' aD.out).2.1)
   rintro e w43 ⟨rfl,hb⟩
   have HS1_:=(hb.cell (World.block_lt_of_cell? _ _ (hHeld.2))).trans (hHeld.2)
   refine ⟨_,rfl,?_⟩
   have n0_:=rb ab hb;have n1_:=rb ag hb;have n2_:=rb aD hb;have n3_:=bb aa hb;have n4_:=hbs hb;clear ab ag aD aa HB;have ab:=n0_;have ag:=n1_;have aD:=n2_;have aa:=n3_;have HB:=n4_;clear n0_ n1_ n2_ n3_ n4_;(try clear hb);(try clear hb2);(try clear hk);(try clear hi)
   refine hK.out _ _ ⟨(blk_cell aa.out 0).trans rfl,HS1_⟩ (fun hHeld=>?_)
   clear hK K
   refine norm_ (a':=?_) ?_ ?_
   rotate_left
   ·show Act.put _ (some 55) _=_;simp only [Act.put,sIB,sc0,scs,i64_w,i32_w]
    rfl
   refine pur (i:=13) (N:=some 56) (v:=?_) (a':=?_) (tf 14 1) rfl (Or.inl ⟨by rfl,?_⟩) ?_ ?_
   rotate_left
   ·intro w'
    go_simp
    with_reducible rfl
   rotate_left
   ·simp only [Act.put,sIB,sc0,scs,i64_w,i32_w]
    rfl
   refine pur (i:=14) (N:=some 7) (v:=?_) (a':=?_) (tf 15 0) rfl (Or.inl ⟨by rfl,?_⟩) ?_ ?_
   rotate_left
   ·intro w'
    go_simp
    with_reducible rfl
   rotate_left
   ·simp only [Act.put,sIB,sc0,scs,i64_w,i32_w]
    rfl
   refine done_ (done_of HT_.out kr) ?_
   try go_wp2
   go_roundg k3
   case measure=>have:=HJ3.out;have:=HK2.out;have:=HK3.out;omega
   case rel=>exact ⟨(wrap64 (ar+aC)),(wrap64 (ad+1)),q14_2,q14_2,H',⟨by have:=HJ3.out;have:=HK2.out;have:=HK3.out;omega⟩,⟨pe (Kd.R_mono ab.out (fun _ hk=>trivial))⟩,⟨pb aa.out⟩,⟨hq⟩⟩
end Go.Proofs.YtlppkilencpmeaaGreat.QFnGrowing
