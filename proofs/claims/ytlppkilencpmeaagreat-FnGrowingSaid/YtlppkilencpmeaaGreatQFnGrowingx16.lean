/- Functions as Lean functions, with their contracts: written by a program of this claim over the translation; some contracts are proved by hand. -/
import Derived.Test.YtlppkilencpmeaaGreatQFnGrowingx0
import Derived.Test.YtlppkilencpmeaaGreatQFnGrowingx3
import Derived.Test.YtlppkilencpmeaaGreatQFnGrowingx5
import Derived.Test.YtlppkilencpmeaaGreatQFnGrowingx7
import Derived.Test.YtlppkilencpmeaaGreatQFnGrowingx11
namespace Go.Proofs.YtlppkilencpmeaaGreat.QFnGrowing
open Go.RowKit Go.Proofs.YtlppkilencpmeaaGreat.Gl Go.Proofs.YtlppkilencpmeaaGreat.Sz Go.Proofs.YtlppkilencpmeaaGreatW.PrintWords Go.Proofs.YtlppkilencpmeaaGreatW.PrintLast Go.Proofs.YtlppkilencpmeaaGreatW.PrintMore
attribute [local go_sem] max2_int min2_int max_two min_two max_three min_three max_four min_four   -- for this text's walks alone
set_option linter.unusedVariables false
set_option linter.unusedSimpArgs false
theorem q16_0 {P:Prop} (h:P:=by first|(with_reducible assumption)|assumption):P:=h
theorem q16_1 {P:Prop} (h:P:=by (try simp only [List.map_toArray,List.map_cons,List.map_nil]);first|done|(rw [show (l1.take (ac:Int).toNat).length=ac.toNat from (by rw [List.length_take];have h_:(ac:Int)≤(l1.length:Int):=od q16_0;omega)] <;> rfl)|rfl|(simp only [List.length_drop,List.length_take];rfl)):P:=h
theorem q16_2 {P:Prop} (h:P:=by first|(rw [add_block];exact (fun e_=>((ag.out.1 _ e_.symm).2) rfl))|(show some (Addr.add _ _).block≠_;rw [add_block];exact (fun e_=>((ag.out.1 _ e_.symm).2) rfl))|exact (fun e_=>((ag.out.1 _ e_.symm).2) rfl)):P:=h
theorem q16_3 {P:Prop} (h:P:=by first|exact Kd.R_nil _ _ _ _ _|exact Kd.N_nil _ _ _ _ _|exact Kd.V_nil _ _ _ _ _|exact Kd.Q_nil _ _ _ _ _|exact Kd.S_nil _ _ _ _ _):P:=h
theorem q16_4 {P:Prop} (h:P:=by first|rfl|(simp;done)|(simp [*];done)):P:=h
set_option maxHeartbeats 8000000
set_option maxRecDepth 100000
mutual
def spec_NextGrowing.l0:Nat→List Int→Int→List Int→Option (List Int × Int)
 | 0,_,_,_=>none
 | k+1,x1,x7,x616000=>if x7≥0 then (if 0≤x7 then (if x7≤(x1.length:Int) then ((spec_l09Next.f k x616000 (x1.take (x7:Int).toNat)).bind fun t618=>(spec_NextGrowing.l1 k x1 x7 t618 0 x616000)) else (none)) else (none)) else (some (([]:List Int),4))
def spec_NextGrowing.l1:Nat→List Int→Int→List Int→Int→List Int→Option (List Int × Int)
 | 0,_,_,_,_,_=>none
 | k+1,x1,x7,x8,x9,x616000=>if x9<(x8.length:Int) then (if 0≤x9 then (if 0≤x7 then (if x7<(x1.length:Int) then (if (rd x8 x9)>(rd x1 x7) then (if x7≤(x1.length:Int) then ((spec_l01Own.f (x1.take (x7:Int).toNat)).bind fun t624=>((some (([rd x8 x9]:List Int):List Int)).bind fun y628=>(if t624.length+y628.length<17592186044416 then ((spec_l09Fill.f k x616000 (t624++y628) true).bind fun t634=>(some (t634,0))) else (none)))) else (none)) else (spec_NextGrowing.l1 k x1 x7 x8 (wrap64 (x9+1)) x616000)) else (none)) else (none)) else (none)) else (spec_NextGrowing.l0 k x1 (wrap64 (x7 - 1)) x616000)
end
def spec_NextGrowing.f (k:Nat) (l0_0:List Int) (l1:List Int):Option (List Int × Int):=(spec_l09Code.f k l0_0 l1).bind fun t616=>(if t616=0 then (spec_NextGrowing.l0 k l1 (wrap64 ((l1.length:Int) - 1)) l0_0) else (some (([]:List Int),t616)))
def spec_NextGrowing.T11:Bool × List (List Nat × List Nat):=(true,[([],[]),([],[]),([0,1],[0,1]),([2],[2]),([],[]),([],[]),([4,5],[4,5]),([6],[6]),([3,7],[3,7])])
def spec_NextGrowing.B11:List Nat:=[0,0,3,7,0,0,48,112,255]
theorem spec_NextGrowing.tab11:rtab .any (opsOf Tryz.f26 11)=spec_NextGrowing.T11:=by kernel_rfl
theorem spec_NextGrowing.bits11:waitsOk spec_NextGrowing.T11.2 spec_NextGrowing.B11=true:=by kernel_rfl
def spec_NextGrowing.T12:Bool × List (List Nat × List Nat):=(true,[([],[]),([],[]),([],[]),([1,2],[1,2]),([3],[3]),([],[]),([],[]),([5,6],[5,6]),([7],[7]),([8],[8]),([4,9,4],[4,9]),([0,10,10],[0,10]),([11,11,0,1,2,3,4,5,6,7,8,9,10,11],[11]),([12,0,1,2,3,4,5,6,7,8,9,10,11,12],[])])
def spec_NextGrowing.B12:List Nat:=[0,0,0,6,14,0,0,96,224,480,1022,2047,4095,8191]
theorem spec_NextGrowing.tab12:rtab .any (opsOf Tryz.f26 12)=spec_NextGrowing.T12:=by kernel_rfl
theorem spec_NextGrowing.bits12:waitsOk spec_NextGrowing.T12.2 spec_NextGrowing.B12=true:=by kernel_rfl
theorem spec_NextGrowing.calls (k:Nat) (A0_0:Option Addr) (c0_0:Nat) (l0_0:List Int) (A1:Option Addr) (c1:Nat) (l1:List Int) (r1:List Int) (r2:Int) (w:World) (hr0_0:Kd.C (Kd.int .i64) w A0_0 l0_0.length l0_0) (hc0_0:l0_0.length≤c0_0) (hr1:Kd.C (Kd.int .i64) w A1 l1.length l1) (hc1:l1.length≤c1) (h:spec_NextGrowing.f k l0_0 l1=some (r1,r2)) :
  Calls Tryz.prog 26 #[.agg #[.slice A0_0 l0_0.length c0_0],.slice A1 l1.length c1] w fun e w'=>∃ v0_:Value,e=.returned (.tuple #[v0_,.int .i64 r2])∧Kd.R (Kd.int .i64) 2 w' w.heap.size (fun _=>True) v0_ r1∧Below w.heap.size w w':=by
 have hu27:=Tryz.underlying27;have aD:=ak hr0_0;have aE:=ak hc0_0;clear hr0_0 hc0_0;have HR1:=ak hr1;have HC1:=ak hc1;clear hr1 hc1;have HB:=ak (Below.refl w.heap.size w);have H:((spec_l09Code.f k l0_0 l1).bind fun al=>(if al=0 then (spec_NextGrowing.l0 k l1 (wrap64 ((l1.length:Int) - 1)) l0_0) else (some (([]:List Int),al))))=some (r1,r2):=h;clear h;replace H:=bs H;obtain ⟨al,A3,H⟩:=H;(try dsimp only at H);obtain c4|c4:=nem (al=0)
 ·rw [if_neg c4] at H;have a4:(al == 0)=false:=beq_eq_false_iff_ne.mpr c4;have a5:(al != 0)=true:=bne_iff_ne.mpr c4;simp only [Option.some.injEq,Prod.mk.injEq] at H;obtain ⟨rfl,rfl⟩:=H
  go_enter Tryz.func26,Tryz.ntmps26
  go_wp2_with (first|((with_reducible refine gate_dst (N:=2) rfl ?_);refine bev (N:=2) (cs:=#[.slice A0_0 l0_0.length c0_0]) (t:=27) ?_;intro aj hg w40 hbox hb;have aa:=ak (hbox);have a6:=gbe hg;have a7:=gbe hg;replace HB:=hbs hb;clear hb hbox hg;have bu:=bc aa.out;have bv:=blk_frozen aa.out 0)|((with_reducible refine gate_callee (f:=78) rfl ?_);refine gl (some 12) Tryz.func78 #[.agg #[.slice A0_0 l0_0.length c0_0],.slice A1 l1.length c1] ?_;(with_reducible refine (spec_l09Code.calls k _ _ l0_0 _ _ l1 al _ (pc (Kd.C_below aD.out HB.out)) aE.out (pc (Kd.C_below HR1.out HB.out)) HC1.out A3.out).mono ?_);rintro e w42 ⟨rfl,hb⟩;refine ⟨_,rfl,?_⟩;replace aa:=bb aa hb;replace HB:=hbs hb;(try clear hb)))
  go_ret2
  exact ⟨_,ew,q16_3,hq⟩
 rw [if_pos c4] at H;have a4:=be c4;have a5:=bn c4;clear c4;have H':=ak H;clear H
 go_enter Tryz.func26,Tryz.ntmps26
 go_wp2_with (first|((with_reducible refine gate_dst (N:=2) rfl ?_);refine bev (N:=2) (cs:=#[.slice A0_0 l0_0.length c0_0]) (t:=27) ?_;intro aj hg w5 hbox hb;have aa:=ak (hbox);have a6:=gbe hg;have a7:=gbe hg;replace HB:=hbs hb;clear hb hbox hg;have bw:=bc aa.out;have bx:=blk_frozen aa.out 0)|((with_reducible refine gate_callee (f:=78) rfl ?_);refine gl (some 12) Tryz.func78 #[.agg #[.slice A0_0 l0_0.length c0_0],.slice A1 l1.length c1] ?_;(with_reducible refine (spec_l09Code.calls k _ _ l0_0 _ _ l1 al _ (pc (Kd.C_below aD.out HB.out)) aE.out (pc (Kd.C_below HR1.out HB.out)) HC1.out A3.out).mono ?_);rintro e w7 ⟨rfl,hb⟩;refine ⟨_,rfl,?_⟩;replace aa:=bb aa hb;replace HB:=hbs hb;(try clear hb)))
 go_loopg [7] k (fun kq v7 w'=>∃ (ac:Int),v7=.int .i64 ac∧Aside0 (spec_NextGrowing.l0 kq l1 ac l0_0=some (r1,r2))∧Aside0 (kq≤k)∧Aside0 (w'.heap[aj]?=some (.cells #[(.slice A0_0 l0_0.length c0_0)] 27 (0,0)))∧Aside0 (Below w.heap.size w w'))
 case atStart=>exact ⟨(wrap64 ((l1.length:Int) - 1)),q16_4,H',⟨Nat.le_refl _⟩,⟨pb aa.out⟩,⟨hq⟩⟩
 case round =>
  clear H';obtain ⟨ac,rfl,HA,HK1,aa,HB⟩:=hrel
  cases gk with|zero=>exact absurd HA.out (by simp [spec_NextGrowing.l0])|succ k1=>?_
  have H:=HA.out;clear HA;simp only [spec_NextGrowing.l0] at H;obtain c8|c8:=nem (ac≥0)
  ·rw [if_neg c8] at H;have a8:decide (0≤ac)=false:=decide_eq_false c8;clear c8;simp only [Option.some.injEq,Prod.mk.injEq] at H;obtain ⟨rfl,rfl⟩:=H;go_wp2
   go_ret2
   exact ⟨_,ew,q16_3,hq⟩
  rw [if_pos c8] at H;have a8:decide (0≤ac)=true:=decide_eq_true c8;clear c8;replace H:=ifs H;obtain ⟨c9,H⟩:=H;have bz:=eq_true c9;have bA:decide (0≤ac)=true:=decide_eq_true c9;clear c9;replace H:=ifs H;obtain ⟨c10,H⟩:=H;have bB:=eq_true c10;have bC:decide (ac≤(l1.length:Int))=true:=decide_eq_true c10;clear c10;replace H:=bs H;obtain ⟨ae,A11,H⟩:=H;(try dsimp only at H);have H':=ak H;clear H
  try go_wp2
  have n0_:=ak (blk_drew aa.out);have n1_:=ak (below_drew1 HB.out);clear aa HB;have aa:=n0_;have HB:=n1_;clear n0_ n1_;obtain ⟨i013,aP,_,hsz13,_⟩:=info_parts info2;obtain ⟨hcut13,hA13,aQ⟩:=print_take_of (P:=Tryz.prog) (Value.int .i64) 0 24 2 .i64 Tryz.underlying24 aP hsz13 A1 c1 l1 ac (od q16_0) (od q16_0) HC1.out;have aT:Aside0 (Kd.C (Kd.int .i64) _ _ _ _):=ak (Kd.C_of_reads (h1:=fun _=>rfl) (hA13 _ (Kd.reads_of_C HR1.out)));have a9:=ak aQ;clear hA13 aQ aP hsz13
  refine start_ (n:=6) (S:=fun w'=>w'.cell? ⟨aj,0,none⟩=some (.slice A0_0 l0_0.length c0_0)) (ds:=[]) #[false,false,false,false,false,false] kr rfl rfl ((blk_cell aa.out 0).trans rfl) (fun hHeld=>?_)
  generalize wr.drew=w12 at aa HB aT hHeld ⊢
  refine pure_ (i:=1) (N:=some 24) (v:=?_) (a':=?_) #[false,true,false,false,false,false] rfl rfl kr (fun _ _ _ h=>h) (Or.inl ⟨by rfl,?_⟩) ?_ ?_
  rotate_left
  ·intro w'
   go_simp
   with_reducible rfl
  rotate_left
  ·simp only [Act.put,sIB,sc0,scs,i64_w,i32_w]
   rfl
  refine pure_ (i:=2) (N:=some 25) (v:=?_) (a':=?_) #[false,true,true,false,false,false] rfl rfl kr (fun _ _ _ h=>h) (Or.inl ⟨by rfl,?_⟩) ?_ ?_
  rotate_left
  ·intro w'
   go_simp
   with_reducible rfl
  rotate_left
  ·simp only [Act.put,sIB,sc0,scs,i64_w,i32_w]
   rfl
  refine pure_ (i:=3) (N:=some 26) (v:=?_) (a':=?_) #[false,true,true,true,false,false] rfl rfl kr (fun _ _ _ h=>h) (Or.inl ⟨by rfl,?_⟩) ?_ ?_
  rotate_left
  ·intro w'
   go_simp
   with_reducible rfl
  rotate_left
  ·simp only [Act.put,sIB,sc0,scs,i64_w,i32_w]
   rfl
  refine take_ (i:=0) (N:=some 23) (v:=?_) (a':=?_) #[true,true,true,true,false,false] rfl rfl kr (fun _ _ _ h=>h) (Or.inl ⟨by rfl,?_⟩) hHeld ?_ ?_
  rotate_left
  ·intro w' s0
   go_simp
   with_reducible rfl
  rotate_left
  ·simp only [Act.put,sIB,sc0,scs,i64_w,i32_w]
   rfl
  refine one_ (i:=4) (N:=some 27) #[true,true,true,true,true,false] rfl rfl kr dc (fun K hK=>?_)
  refine goes_ Tryz.func88 kr rfl #[.agg #[.slice A0_0 l0_0.length c0_0],.slice A1 (l1.take (ac:Int).toNat).length c1] (by rfl) rfl rfl q16_1 ?_
  with_reducible refine (spec_l09Next.calls k1 _ _ l0_0 _ _ (l1.take (ac:Int).toNat) ae _ ?side1 ?side2 ?side3 ?side4 A11.out).mono ?_
  (case side1=>exact pc (Kd.C_below aD.out HB.out))
  (case side2=>exact aE.out)
  (case side3=>exact pc (Kd.C_below aT.out HB.out))
  (case side4=>exact a9.out)
  rintro e w14 ⟨ba,rfl,ho0,hb⟩
  refine ⟨_,rfl,?_⟩
  have n0_:=lw ho0;have n1_:=bb aa hb;have n2_:=hbs hb;clear aa HB;have bd:=n0_;have aa:=n1_;have HB:=n2_;clear n0_ n1_ n2_;(try clear hb);(try clear hb2);(try clear hk);(try clear hi);(try clear ho0)
  refine hK.out _ _ ((blk_cell aa.out 0).trans rfl) (fun hHeld=>?_)
  clear hK K
  refine norm_ (a':=?_) ?_ ?_
  rotate_left
  ·show Act.put _ (some 27) _=_;simp only [Act.put,sIB,sc0,scs,i64_w,i32_w]
   rfl
  refine pure_ (i:=5) (N:=some 8) (v:=?_) (a':=?_) #[true,true,true,true,true,true] rfl rfl kr (fun _ _ _ h=>h) (Or.inl ⟨by rfl,?_⟩) ?_ ?_
  rotate_left
  ·intro w'
   go_simp
   with_reducible rfl
  rotate_left
  ·simp only [Act.put,sIB,sc0,scs,i64_w,i32_w]
   rfl
  refine done_ kr ?_
  try go_wp2
  go_loopg [9] k1 (fun kq v9 w'=>∃ (ad:Int),v9=.int .i64 ad∧Aside0 (spec_NextGrowing.l1 kq l1 ac ae ad l0_0=some (r1,r2))∧Aside0 (kq≤k1)∧Aside0 (Kd.R (Kd.int .i64) 2 w' w.heap.size (fun _=>True) ba ae)∧Aside0 (w'.heap[aj]?=some (.cells #[(.slice A0_0 l0_0.length c0_0)] 27 (0,0)))∧Aside0 (Below w.heap.size w w'))
  case atStart=>exact ⟨(0),q16_4,H',⟨Nat.le_refl _⟩,⟨pe bd.out⟩,⟨pb aa.out⟩,⟨hq⟩⟩
  case round =>
   clear H';obtain ⟨ad,rfl,HA,HK2,ab,aa,HB⟩:=hrel
   cases gk with|zero=>exact absurd HA.out (by simp [spec_NextGrowing.l1])|succ k2=>?_
   have H:=HA.out;clear HA;simp only [spec_NextGrowing.l1] at H;obtain c15|c15:=nem (ad<(ae.length:Int))
   ·rw [if_neg c15] at H;have bf:=df c15;clear c15;have H':=ak H;clear H;obtain ⟨bD,bE,bg⟩:=Kd.R_slice ab.out;subst bg;go_wp2
    go_roundg k2
    case measure=>have:=HK1.out;have:=HK2.out;omega
    case rel=>exact ⟨(wrap64 (ac - 1)),q16_4,H',⟨by have:=HK1.out;have:=HK2.out;omega⟩,⟨pb aa.out⟩,⟨hq⟩⟩
   rw [if_pos c15] at H;have bf:=dt c15;clear c15;replace H:=ifs H;obtain ⟨c16,H⟩:=H;have bF:=dt c16;clear c16;replace H:=ifs H;obtain ⟨c17,H⟩:=H;have bG:=dt c17;clear c17;replace H:=ifs H;obtain ⟨c18,H⟩:=H;have bH:=dt c18;clear c18;obtain c19|c19:=nem ((rd ae ad)>(rd l1 ac))
   ·rw [if_neg c19] at H;have bh:decide ((rd l1 ac)<(rd ae ad))=false:=decide_eq_false c19;clear c19;have H':=ak H;clear H;obtain ⟨bI,bJ,bi⟩:=Kd.R_slice ab.out;subst bi
    try go_wp2
    have n0_:=ak (Kd.R_drew ab.out);have n1_:=ak (blk_drew aa.out);have n2_:=ak (below_drew1 HB.out);clear ab aa HB;have ab:=n0_;have aa:=n1_;have HB:=n2_;clear n0_ n1_ n2_;have ar:0≤(ad:Int):=od q16_0;have au:ad<(ae.length:Int):=od q16_0;(try (obtain ⟨Aop_,cop_,eop_⟩:=Kd.R_slice ab.out;subst eop_));obtain ⟨ah,aH,aA⟩:=Kd.at_int (Kd.R_reads' ab.out).2.2 ad ar au;cases aH;replace ar:=eq_true ar;replace au:=eq_true au;have av:0≤(ac:Int):=od q16_0;have aw:ac<(l1.length:Int):=od q16_0;obtain ⟨az,aI,ai⟩:=Kd.at_int HR1.out ac av aw;have hw622_0:=ai;cases aI;replace ai:=(HB.out.cell (World.block_lt_of_cell? w _ ai)).trans ai;replace av:=eq_true av;replace aw:=eq_true aw
    refine start_ (n:=9) (S:=fun w'=>w'.cell? (ah.add (ad).toNat)=some (.int .i64 (rd ae ad))∧w'.cell? (az.add (ac).toNat)=some (.int .i64 (rd l1 ac))) (ds:=[]) #[false,false,false,false,false,false,false,false,false] kr rfl rfl ⟨aA,((HB.out.cell (World.block_lt_of_cell? w _ hw622_0)).trans hw622_0)⟩ (fun hHeld=>?_);refine with_tabW spec_NextGrowing.tab11 spec_NextGrowing.bits11 (fun HT_ HW_=>?_)
    generalize wr.drew=w38 at ab aa HB aA ai hHeld ⊢
    refine pur (i:=0) (N:=some 34) (v:=?_) (a':=?_) #[true,false,false,false,false,false,false,false,false] rfl (Or.inl ⟨by rfl,?_⟩) ?_ ?_
    rotate_left
    ·intro w'
     go_simp
     with_reducible rfl
    rotate_left
    ·simp only [Act.put,sIB,sc0,scs,i64_w,i32_w]
     rfl
    refine pur (i:=1) (N:=some 35) (v:=?_) (a':=?_) #[true,true,false,false,false,false,false,false,false] rfl (Or.inl ⟨by rfl,?_⟩) ?_ ?_
    rotate_left
    ·intro w'
     go_simp
     with_reducible rfl
    rotate_left
    ·simp only [Act.put,sIB,sc0,scs,i64_w,i32_w]
     rfl
    refine pur (i:=2) (N:=some 36) (v:=?_) (a':=?_) #[true,true,true,false,false,false,false,false,false] rfl (Or.inl ⟨by rfl,?_⟩) ?_ ?_
    rotate_left
    ·intro w'
     go_simp
     with_reducible rfl
    rotate_left
    ·simp only [Act.put,sIB,sc0,scs,i64_w,i32_w]
     rfl
    refine pur (i:=4) (N:=some 38) (v:=?_) (a':=?_) #[true,true,true,false,true,false,false,false,false] rfl (Or.inl ⟨by rfl,?_⟩) ?_ ?_
    rotate_left
    ·intro w'
     go_simp
     with_reducible rfl
    rotate_left
    ·simp only [Act.put,sIB,sc0,scs,i64_w,i32_w]
     rfl
    refine pur (i:=5) (N:=some 39) (v:=?_) (a':=?_) #[true,true,true,false,true,true,false,false,false] rfl (Or.inl ⟨by rfl,?_⟩) ?_ ?_
    rotate_left
    ·intro w'
     go_simp
     with_reducible rfl
    rotate_left
    ·simp only [Act.put,sIB,sc0,scs,i64_w,i32_w]
     rfl
    refine pur (i:=6) (N:=some 40) (v:=?_) (a':=?_) #[true,true,true,false,true,true,true,false,false] rfl (Or.inl ⟨by rfl,?_⟩) ?_ ?_
    rotate_left
    ·intro w'
     go_simp
     with_reducible rfl
    rotate_left
    ·simp only [Act.put,sIB,sc0,scs,i64_w,i32_w]
     rfl
    refine take_ (i:=3) (N:=some 37) (v:=?_) (a':=?_) #[true,true,true,true,true,true,true,false,false] rfl rfl (take_ofW HT_.out HW_.out kr) (fun _ _ _ h=>h) (Or.inl ⟨by rfl,?_⟩) hHeld ?_ ?_
    rotate_left
    ·rintro w' ⟨s0,s1⟩
     go_simp
     with_reducible rfl
    rotate_left
    ·simp only [Act.put,sIB,sc0,scs,i64_w,i32_w]
     rfl
    refine take_ (i:=7) (N:=some 41) (v:=?_) (a':=?_) #[true,true,true,true,true,true,true,true,false] rfl rfl (take_ofW HT_.out HW_.out kr) (fun _ _ _ h=>h) (Or.inl ⟨by rfl,?_⟩) hHeld ?_ ?_
    rotate_left
    ·rintro w' ⟨s0,s1⟩
     go_simp
     with_reducible rfl
    rotate_left
    ·simp only [Act.put,sIB,sc0,scs,i64_w,i32_w]
     rfl
    refine pur (i:=8) (N:=some 42) (v:=?_) (a':=?_) #[true,true,true,true,true,true,true,true,true] rfl (Or.inl ⟨by rfl,?_⟩) ?_ ?_
    rotate_left
    ·intro w'
     go_simp
     with_reducible rfl
    rotate_left
    ·simp only [Act.put,sIB,sc0,scs,i64_w,i32_w]
     rfl
    refine done_ (done_of HT_.out kr) ?_
    try go_wp2
    go_roundg k2
    case measure=>have:=HK1.out;have:=HK2.out;omega
    case rel=>exact ⟨(wrap64 (ad+1)),q16_4,H',⟨by have:=HK1.out;have:=HK2.out;omega⟩,⟨pe ab.out⟩,⟨pb aa.out⟩,⟨hq⟩⟩
   rw [if_pos c19] at H;have bh:decide ((rd l1 ac)<(rd ae ad))=true:=decide_eq_true c19;clear c19;have bK:=eq_true (od q16_0:0≤ac);replace H:=ifs H;obtain ⟨c21,H⟩:=H;have bL:=eq_true c21;have bM:decide (ac≤(l1.length:Int))=true:=decide_eq_true c21;clear c21;replace H:=bs H;obtain ⟨an,A22,H⟩:=H;(try dsimp only at H);obtain ⟨ao,hY⟩:∃ y_:List Int,y_=([rd ae ad]:List Int):=⟨_,rfl⟩;replace H:(if an.length+ao.length<17592186044416 then ((spec_l09Fill.f k2 l0_0 (an++ao) true).bind fun aC=>(some (aC,0))) else (none))=some (r1,r2):=hh;have aG:=ak hY;clear hY;replace H:=ifs H;obtain ⟨c23,H⟩:=H;have bj:=ak c23;clear c23;obtain ⟨aJ,hY⟩:∃ y_:List Int,y_=(an++ao):=⟨_,rfl⟩;replace H:((spec_l09Fill.f k2 l0_0 aJ true).bind fun aC=>(some (aC,0)))=some (r1,r2):=hh;have bk:=ak hY;clear hY;replace H:=bs H;obtain ⟨aC,A24,H⟩:=H;(try dsimp only at H);simp only [Option.some.injEq,Prod.mk.injEq] at H;obtain ⟨rfl,rfl⟩:=H;obtain ⟨bN,ap,bl⟩:=Kd.R_slice ab.out;subst bl
   try go_wp2
   have n0_:=ak (Kd.R_drew ab.out);have n1_:=ak (blk_drew aa.out);have n2_:=ak (below_drew1 HB.out);clear ab aa HB;have ab:=n0_;have aa:=n1_;have HB:=n2_;clear n0_ n1_ n2_;have ar:0≤(ad:Int):=od q16_0;have au:ad<(ae.length:Int):=od q16_0;(try (obtain ⟨Aop_,cop_,eop_⟩:=Kd.R_slice ab.out;subst eop_));obtain ⟨ah,aH,aA⟩:=Kd.at_int (Kd.R_reads' ab.out).2.2 ad ar au;cases aH;replace ar:=eq_true ar;replace au:=eq_true au;have av:0≤(ac:Int):=od q16_0;have aw:ac<(l1.length:Int):=od q16_0;obtain ⟨az,aI,ai⟩:=Kd.at_int HR1.out ac av aw;have hw622_0:=ai;cases aI;replace ai:=(HB.out.cell (World.block_lt_of_cell? w _ ai)).trans ai;replace av:=eq_true av;replace aw:=eq_true aw
   refine start_ (n:=9) (S:=fun w'=>w'.cell? (ah.add (ad).toNat)=some (.int .i64 (rd ae ad))∧w'.cell? (az.add (ac).toNat)=some (.int .i64 (rd l1 ac))) (ds:=[]) #[false,false,false,false,false,false,false,false,false] kr rfl rfl ⟨aA,((HB.out.cell (World.block_lt_of_cell? w _ hw622_0)).trans hw622_0)⟩ (fun hHeld=>?_);refine with_tabW spec_NextGrowing.tab11 spec_NextGrowing.bits11 (fun HT_ HW_=>?_)
   generalize wr.drew=w26 at ab aa HB aA ai hHeld ⊢
   refine pur (i:=0) (N:=some 34) (v:=?_) (a':=?_) #[true,false,false,false,false,false,false,false,false] rfl (Or.inl ⟨by rfl,?_⟩) ?_ ?_
   rotate_left
   ·intro w'
    go_simp
    with_reducible rfl
   rotate_left
   ·simp only [Act.put,sIB,sc0,scs,i64_w,i32_w]
    rfl
   refine pur (i:=1) (N:=some 35) (v:=?_) (a':=?_) #[true,true,false,false,false,false,false,false,false] rfl (Or.inl ⟨by rfl,?_⟩) ?_ ?_
   rotate_left
   ·intro w'
    go_simp
    with_reducible rfl
   rotate_left
   ·simp only [Act.put,sIB,sc0,scs,i64_w,i32_w]
    rfl
   refine pur (i:=2) (N:=some 36) (v:=?_) (a':=?_) #[true,true,true,false,false,false,false,false,false] rfl (Or.inl ⟨by rfl,?_⟩) ?_ ?_
   rotate_left
   ·intro w'
    go_simp
    with_reducible rfl
   rotate_left
   ·simp only [Act.put,sIB,sc0,scs,i64_w,i32_w]
    rfl
   refine pur (i:=4) (N:=some 38) (v:=?_) (a':=?_) #[true,true,true,false,true,false,false,false,false] rfl (Or.inl ⟨by rfl,?_⟩) ?_ ?_
   rotate_left
   ·intro w'
    go_simp
    with_reducible rfl
   rotate_left
   ·simp only [Act.put,sIB,sc0,scs,i64_w,i32_w]
    rfl
   refine pur (i:=5) (N:=some 39) (v:=?_) (a':=?_) #[true,true,true,false,true,true,false,false,false] rfl (Or.inl ⟨by rfl,?_⟩) ?_ ?_
   rotate_left
   ·intro w'
    go_simp
    with_reducible rfl
   rotate_left
   ·simp only [Act.put,sIB,sc0,scs,i64_w,i32_w]
    rfl
   refine pur (i:=6) (N:=some 40) (v:=?_) (a':=?_) #[true,true,true,false,true,true,true,false,false] rfl (Or.inl ⟨by rfl,?_⟩) ?_ ?_
   rotate_left
   ·intro w'
    go_simp
    with_reducible rfl
   rotate_left
   ·simp only [Act.put,sIB,sc0,scs,i64_w,i32_w]
    rfl
   refine take_ (i:=3) (N:=some 37) (v:=?_) (a':=?_) #[true,true,true,true,true,true,true,false,false] rfl rfl (take_ofW HT_.out HW_.out kr) (fun _ _ _ h=>h) (Or.inl ⟨by rfl,?_⟩) hHeld ?_ ?_
   rotate_left
   ·rintro w' ⟨s0,s1⟩
    go_simp
    with_reducible rfl
   rotate_left
   ·simp only [Act.put,sIB,sc0,scs,i64_w,i32_w]
    rfl
   refine take_ (i:=7) (N:=some 41) (v:=?_) (a':=?_) #[true,true,true,true,true,true,true,true,false] rfl rfl (take_ofW HT_.out HW_.out kr) (fun _ _ _ h=>h) (Or.inl ⟨by rfl,?_⟩) hHeld ?_ ?_
   rotate_left
   ·rintro w' ⟨s0,s1⟩
    go_simp
    with_reducible rfl
   rotate_left
   ·simp only [Act.put,sIB,sc0,scs,i64_w,i32_w]
    rfl
   refine pur (i:=8) (N:=some 42) (v:=?_) (a':=?_) #[true,true,true,true,true,true,true,true,true] rfl (Or.inl ⟨by rfl,?_⟩) ?_ ?_
   rotate_left
   ·intro w'
    go_simp
    with_reducible rfl
   rotate_left
   ·simp only [Act.put,sIB,sc0,scs,i64_w,i32_w]
    rfl
   refine done_ (done_of HT_.out kr) ?_
   try go_wp2
   have n0_:=ak (Kd.R_drew ab.out);have n1_:=ak (blk_drew aa.out);have n2_:=ak (below_drew1 HB.out);clear ab aa HB;have ab:=n0_;have aa:=n1_;have HB:=n2_;clear n0_ n1_ n2_;obtain ⟨i028,aU,_,hsz28,_⟩:=info_parts info2;obtain ⟨hcut28,hA28,aV⟩:=print_take_of (P:=Tryz.prog) (Value.int .i64) 0 24 2 .i64 Tryz.underlying24 aU hsz28 (some az) c1 l1 ac (od q16_0) (od q16_0) HC1.out;have aK:Aside0 (Kd.C (Kd.int .i64) _ _ _ _):=ak (Kd.C_of_reads (h1:=fun _=>rfl) (hA28 _ (Kd.reads_of_C HR1.out)));have aW:=ak aV;clear hA28 aV aU hsz28;have aM:0≤(ad:Int):=od q16_0;have aN:ad<(ae.length:Int):=od q16_0;(try (obtain ⟨Aop_,cop_,eop_⟩:=Kd.R_slice ab.out;subst eop_));obtain ⟨bm,bo,aX⟩:=Kd.at_int (Kd.R_reads' ab.out).2.2 ad aM aN;obtain rfl:ah=bm:=(by injection bo);replace aM:=eq_true aM;replace aN:=eq_true aN
   refine start_ (n:=14) (S:=fun w'=>w'.cell? ⟨aj,0,none⟩=some (.slice A0_0 l0_0.length c0_0)∧w'.cell? (ah.add (ad).toNat)=some (.int .i64 (rd ae ad))) (ds:=[]) #[false,false,false,false,false,false,false,false,false,false,false,false,false,false] kr rfl rfl ⟨(blk_cell aa.out 0).trans rfl,aX⟩ (fun hHeld=>?_);refine with_tabW spec_NextGrowing.tab12 spec_NextGrowing.bits12 (fun HT_ HW_=>?_)
   generalize w26.drew=w27 at ab aa HB aK aX hHeld ⊢
   refine pur (i:=1) (N:=some 44) (v:=?_) (a':=?_) #[false,true,false,false,false,false,false,false,false,false,false,false,false,false] rfl (Or.inl ⟨by rfl,?_⟩) ?_ ?_
   rotate_left
   ·intro w'
    go_simp
    with_reducible rfl
   rotate_left
   ·simp only [Act.put,sIB,sc0,scs,i64_w,i32_w]
    rfl
   refine pur (i:=2) (N:=some 45) (v:=?_) (a':=?_) #[false,true,true,false,false,false,false,false,false,false,false,false,false,false] rfl (Or.inl ⟨by rfl,?_⟩) ?_ ?_
   rotate_left
   ·intro w'
    go_simp
    with_reducible rfl
   rotate_left
   ·simp only [Act.put,sIB,sc0,scs,i64_w,i32_w]
    rfl
   refine pur (i:=3) (N:=some 46) (v:=?_) (a':=?_) #[false,true,true,true,false,false,false,false,false,false,false,false,false,false] rfl (Or.inl ⟨by rfl,?_⟩) ?_ ?_
   rotate_left
   ·intro w'
    go_simp
    with_reducible rfl
   rotate_left
   ·simp only [Act.put,sIB,sc0,scs,i64_w,i32_w]
    rfl
   refine pur (i:=5) (N:=some 48) (v:=?_) (a':=?_) #[false,true,true,true,false,true,false,false,false,false,false,false,false,false] rfl (Or.inl ⟨by rfl,?_⟩) ?_ ?_
   rotate_left
   ·intro w'
    go_simp
    with_reducible rfl
   rotate_left
   ·simp only [Act.put,sIB,sc0,scs,i64_w,i32_w]
    rfl
   refine pur (i:=6) (N:=some 49) (v:=?_) (a':=?_) #[false,true,true,true,false,true,true,false,false,false,false,false,false,false] rfl (Or.inl ⟨by rfl,?_⟩) ?_ ?_
   rotate_left
   ·intro w'
    go_simp
    with_reducible rfl
   rotate_left
   ·simp only [Act.put,sIB,sc0,scs,i64_w,i32_w]
    rfl
   refine pur (i:=7) (N:=some 50) (v:=?_) (a':=?_) #[false,true,true,true,false,true,true,true,false,false,false,false,false,false] rfl (Or.inl ⟨by rfl,?_⟩) ?_ ?_
   rotate_left
   ·intro w'
    go_simp
    with_reducible rfl
   rotate_left
   ·simp only [Act.put,sIB,sc0,scs,i64_w,i32_w]
    rfl
   refine take_ (i:=0) (N:=some 43) (v:=?_) (a':=?_) #[true,true,true,true,false,true,true,true,false,false,false,false,false,false] rfl rfl (take_ofW HT_.out HW_.out kr) (fun _ _ _ h=>h) (Or.inl ⟨by rfl,?_⟩) hHeld ?_ ?_
   rotate_left
   ·rintro w' ⟨s0,s1⟩
    go_simp
    with_reducible rfl
   rotate_left
   ·simp only [Act.put,sIB,sc0,scs,i64_w,i32_w]
    rfl
   refine take_ (i:=8) (N:=some 51) (v:=?_) (a':=?_) #[true,true,true,true,false,true,true,true,true,false,false,false,false,false] rfl rfl (take_ofW HT_.out HW_.out kr) (fun _ _ _ h=>h) (Or.inl ⟨by rfl,?_⟩) hHeld ?_ ?_
   rotate_left
   ·rintro w' ⟨s0,s1⟩
    go_simp
    with_reducible rfl
   rotate_left
   ·simp only [Act.put,sIB,sc0,scs,i64_w,i32_w]
    rfl
   refine join_ (σ:=Value × Value) 4 #[true,true,true,true,true,true,true,true,true,true,false,false,false,false] (fun s_=>[(47,s_.1),(52,s_.2)]) (fun s_ w'=>(w'.cell? ⟨aj,0,none⟩=some (.slice A0_0 l0_0.length c0_0)∧w'.cell? (ah.add (ad).toNat)=some (.int .i64 (rd ae ad)))∧(Kd.R (Kd.int .i64) 2 w' w.heap.size (fun k_=>some k_≠(s_.2:Value).ownBlock∧some k_≠(.slice (some ah) ae.length ap:Value).ownBlock) s_.1 an)∧(Kd.R (Kd.int .i64) 2 w' w.heap.size (fun k_=>some k_≠(s_.1:Value).ownBlock∧some k_≠(.slice (some ah) ae.length ap:Value).ownBlock) s_.2 ao)∧(Kd.R (Kd.int .i64) 2 w' w.heap.size (fun k_=>some k_≠(s_.1:Value).ownBlock∧some k_≠(s_.2:Value).ownBlock) (.slice (some ah) ae.length ap) ae)∧(w'.heap[aj]?=some (.cells #[.slice A0_0 l0_0.length c0_0] 27 (0,0)))∧(Below w.heap.size w w')) ?_ ?_
   rotate_left
   ·intro hCont
    refine two_ (i:=4) (j:=9) (Ni:=some 47) (Nj:=some 52) #[true,true,true,true,true,true,true,true,true,false,false,false,false,false] #[true,true,true,true,false,true,true,true,true,true,false,false,false,false] rfl rfl rfl rfl (two_of HT_.out kr) dc dc (fun K hK=>?_) (fun K hK=>?_)
    ·skip
     refine goes_ Tryz.func90 kr rfl #[.slice (some az) (l1.take (ac:Int).toNat).length c1] (by rfl) rfl rfl q16_1 ?_
     with_reducible refine (spec_l01Own.calls _ _ (l1.take (ac:Int).toNat) an _ ?side1 ?side2 A22.out).mono ?_
     (case side1=>exact pc (Kd.C_below aK.out HB.out))
     (case side2=>exact aW.out)
     rintro e w29 ⟨aq,rfl,ho0,hb⟩
     have HS1_:=(hb.cell (World.block_lt_of_cell? _ _ (hHeld.2))).trans (hHeld.2)
     refine ⟨_,rfl,?_⟩
     have n0_:=rn ab ho0 hb;have n1_:=lw (nw ho0 ab);have n2_:=bb aa hb;have n3_:=hbs hb;clear ab aa HB;have ab:=n0_;have ag:=n1_;have aa:=n2_;have HB:=n3_;clear n0_ n1_ n2_ n3_;(try clear hb);(try clear hb2);(try clear hk);(try clear hi);(try clear ho0)
     refine hK.out _ _ ⟨(blk_cell aa.out 0).trans rfl,HS1_⟩ (fun hHeld=>?_)
     clear hK K
     refine norm_ (a':=?_) ?_ ?_
     rotate_left
     ·show Act.put _ (some 47) _=_;simp only [Act.put,sIB,sc0,scs,i64_w,i32_w]
      rfl
     refine one_ (i:=9) (N:=some 52) (tf 10 4) rfl rfl (one_of HT_.out kr) dc (fun K hK=>?_)
     refine Kd.R_lit_step (Kd.int .i64) _ 2 ?hg (N:=52) ?hd (xs:=([rd ae ad]:List Int)) (inner:=[.int .i64 (rd ae ad)]) (ok:=fun _=>True) (okp:=fun _=>True) ?hr ?hp (fun _ hk=>hk) trivial (Below.refl _ _) (Nat.le_refl _) (by simp) ?_;(case hd=>rfl);(case hg=>rfl);(case hr=>exact gs);(case hp=>exact (Reps.one (show Kd.M (Kd.int .i64) _ _ _ (rd ae ad) [.int .i64 (rd ae ad)] from rfl) (Reps.none _ _)))
     intro ax w30 ho31 hb hg_ hnew_
     have HS1_:=(hb.cell (World.block_lt_of_cell? _ _ (hHeld.2))).trans (hHeld.2);clear hg_ hnew_;(first|rw [← aG.out] at ho31|(simp only [Int.reduceToNat] at ho31;rw [← aG.out] at ho31));have n0_:=rn ab ho31 hb;have n1_:=rn ag ho31 hb;have n2_:=lw (nw (nw ho31 ab) ag);have n3_:=bb aa hb;have n4_:=hbs hb;clear ab ag aa HB;have ab:=n0_;have ag:=n1_;have af:=n2_;have aa:=n3_;have HB:=n4_;clear n0_ n1_ n2_ n3_ n4_ hb ho31
     refine hK.out _ _ ⟨(blk_cell aa.out 0).trans rfl,HS1_⟩ (fun hHeld=>?_)
     clear hK K
     refine norm_ (a':=?_) ?_ ?_
     rotate_left
     ·show Act.put _ (some 52) _=_;simp only [Act.put,sIB,sc0,scs,i64_w,i32_w]
      rfl
     exact norm_ (by simp only [putAll,Act.put,List.setIfInBounds_toArray,List.set_cons_zero,List.set_cons_succ]) (hCont (aq,ax) _ ⟨hHeld,(pe (Kd.R_mono ag.out (fun _ hk=>⟨hk.2,hk.1.2⟩))),(pe (Kd.R_mono af.out (fun _ hk=>⟨hk.2,hk.1.2⟩))),(pe (Kd.R_mono ab.out (fun _ hk=>⟨hk.1.2,hk.2⟩))),(pb aa.out),hq⟩)
    ·skip
     refine Kd.R_lit_step (Kd.int .i64) _ 2 ?hg (N:=52) ?hd (xs:=([rd ae ad]:List Int)) (inner:=[.int .i64 (rd ae ad)]) (ok:=fun _=>True) (okp:=fun _=>True) ?hr ?hp (fun _ hk=>hk) trivial (Below.refl _ _) (Nat.le_refl _) (by simp) ?_;(case hd=>rfl);(case hg=>rfl);(case hr=>exact gs);(case hp=>exact (Reps.one (show Kd.M (Kd.int .i64) _ _ _ (rd ae ad) [.int .i64 (rd ae ad)] from rfl) (Reps.none _ _)))
     intro ax w29 ho30 hb hg_ hnew_
     have HS1_:=(hb.cell (World.block_lt_of_cell? _ _ (hHeld.2))).trans (hHeld.2);clear hg_ hnew_;(first|rw [← aG.out] at ho30|(simp only [Int.reduceToNat] at ho30;rw [← aG.out] at ho30));have n0_:=rn ab ho30 hb;have n1_:=lw (nw ho30 ab);have n2_:=bb aa hb;have n3_:=hbs hb;clear ab aa HB;have ab:=n0_;have af:=n1_;have aa:=n2_;have HB:=n3_;clear n0_ n1_ n2_ n3_ hb ho30
     refine hK.out _ _ ⟨(blk_cell aa.out 0).trans rfl,HS1_⟩ (fun hHeld=>?_)
     clear hK K
     refine norm_ (a':=?_) ?_ ?_
     rotate_left
     ·show Act.put _ (some 52) _=_;simp only [Act.put,sIB,sc0,scs,i64_w,i32_w]
      rfl
     refine one_ (i:=4) (N:=some 47) (tf 10 4) rfl rfl (one_of HT_.out kr) dc (fun K hK=>?_)
     refine goes_ Tryz.func90 kr rfl #[.slice (some az) (l1.take (ac:Int).toNat).length c1] (by rfl) rfl rfl q16_1 ?_
     with_reducible refine (spec_l01Own.calls _ _ (l1.take (ac:Int).toNat) an _ ?side1 ?side2 A22.out).mono ?_
     (case side1=>exact pc (Kd.C_below aK.out HB.out))
     (case side2=>exact aW.out)
     rintro e w31 ⟨aq,rfl,ho0,hb⟩
     have HS1_:=(hb.cell (World.block_lt_of_cell? _ _ (hHeld.2))).trans (hHeld.2)
     refine ⟨_,rfl,?_⟩
     have n0_:=rn ab ho0 hb;have n1_:=rn af ho0 hb;have n2_:=lw (nw (nw ho0 ab) af);have n3_:=bb aa hb;have n4_:=hbs hb;clear ab af aa HB;have ab:=n0_;have af:=n1_;have ag:=n2_;have aa:=n3_;have HB:=n4_;clear n0_ n1_ n2_ n3_ n4_;(try clear hb);(try clear hb2);(try clear hk);(try clear hi);(try clear ho0)
     refine hK.out _ _ ⟨(blk_cell aa.out 0).trans rfl,HS1_⟩ (fun hHeld=>?_)
     clear hK K
     refine norm_ (a':=?_) ?_ ?_
     rotate_left
     ·show Act.put _ (some 47) _=_;simp only [Act.put,sIB,sc0,scs,i64_w,i32_w]
      rfl
     exact norm_ (by simp only [putAll,Act.put,List.setIfInBounds_toArray,List.set_cons_zero,List.set_cons_succ]) (hCont (aq,ax) _ ⟨hHeld,(pe (Kd.R_mono ag.out (fun _ hk=>⟨hk.2,hk.1.2⟩))),(pe (Kd.R_mono af.out (fun _ hk=>⟨hk.2,hk.1.2⟩))),(pe (Kd.R_mono ab.out (fun _ hk=>⟨hk.2,hk.1.2⟩))),(pb aa.out),hq⟩)
   rintro ⟨aq,ax⟩ w32 ⟨hS_,h0_,h1_,h2_,h3_,h4_⟩
   have n0_:Aside0 (Kd.R (Kd.int .i64) 2 w32 w.heap.size (fun k_=>some k_≠(ax:Value).ownBlock∧some k_≠(.slice (some ah) ae.length ap:Value).ownBlock) aq an):=⟨h0_⟩;have n1_:Aside0 (Kd.R (Kd.int .i64) 2 w32 w.heap.size (fun k_=>some k_≠(aq:Value).ownBlock∧some k_≠(.slice (some ah) ae.length ap:Value).ownBlock) ax ao):=⟨h1_⟩;have n2_:Aside0 (Kd.R (Kd.int .i64) 2 w32 w.heap.size (fun k_=>some k_≠(aq:Value).ownBlock∧some k_≠(ax:Value).ownBlock) (.slice (some ah) ae.length ap) ae):=⟨h2_⟩;have n3_:Aside0 (w32.heap[aj]?=some (.cells #[.slice A0_0 l0_0.length c0_0] 27 (0,0))):=⟨h3_⟩;have n4_:Aside0 (Below w.heap.size w w32):=⟨h4_⟩;clear ab aa HB h0_ h1_ h2_ h3_ h4_;have ag:=n0_;have af:=n1_;have ab:=n2_;have aa:=n3_;have HB:=n4_;clear n0_ n1_ n2_ n3_ n4_;have hHeld:w32.cell? ⟨aj,0,none⟩=some (.slice A0_0 l0_0.length c0_0)∧w32.cell? (ah.add (ad).toNat)=some (.int .i64 (rd ae ad)):=hS_;obtain ⟨aY,aZ,a2⟩:=Kd.R_slice af.out;(first|subst a2|(injection a2 with f1_ f2_ f3_;have f4_:=f1_.symm;have f5_:=f3_.symm;clear f1_ f2_ f3_;subst f4_;subst f5_))
   refine norm_ (a':=?_) ?_ ?_
   rotate_left
   ·simp only [putAll,Act.put,List.setIfInBounds_toArray,List.set_cons_zero,List.set_cons_succ]
    rfl
   refine one_ (i:=10) (N:=some 53) (tf 11 3) rfl rfl (one_of HT_.out kr) dc (fun K hK=>?_)
   refine Kd.R_append_rows_step (Kd.int .i64) (w0:=w) w.heap.size (by rfl) (.tmp 47) (.tmp 52) 24 2 (.int .i64 0) 8 rfl Tryz.underlying24 info2 rfl dc (by omega) aq an ao _ _ _ (fun k_=>some k_≠(.slice (some ah) ae.length ap:Value).ownBlock∧some k_≠(.slice aY ao.length aZ:Value).ownBlock) (fun _=>False) rfl rfl ?aO ?aR (fun _ _ h=>h) (fun _ h=>h.elim) ?aF ?aB ?aS ?aL ?_
   (case aR=>exact pc ((Kd.R_reads' af.out).2.2))
   (case aB=>exact hq)
   (case aF=>exact (fun k_ hk=>⟨Kd.fresh' (Kd.R_lt (pe ab.out)) k_ hk,Kd.fresh' (Kd.R_lt (pe af.out)) k_ hk⟩))
   (case aO=>exact (pe (Kd.R_mono ag.out (fun _ hk=>⟨hk.2,hk.1⟩))))
   (case aS=>exact (below_size hq))
   (case aL=>have:=bj.out;omega)
   intro bO w33 ho hb hg hat
   (first|have HS1_:=cell_grown hg (hHeld.2) q16_2|have HS1_:=cell_grown hg (cell_unalloc (hHeld.2) (by first|(rw [add_block];exact Kd.R_lt ab.out _ rfl)|(show (Addr.add _ _).block<_;rw [add_block];exact Kd.R_lt ab.out _ rfl)|exact Kd.R_lt ab.out _ rfl)) q16_2);rw [← bk.out] at ho;have n0_:=ak (Kd.R_after (ok:=(fun k_=>some k_≠(.slice aY ao.length aZ:Value).ownBlock)) (pe (Kd.R_mono ab.out (fun _ hk=>⟨hk.2,hk.1⟩))) hg hat);have n1_:=ak (blk_grown (g:=aj) (o:=.cells #[.slice A0_0 l0_0.length c0_0] 27 (0,0)) (pb aa.out) hg (Kd.R_ne ag.out aa.out dc));have n2_:=ak (Kd.R_after (ok:=(fun k_=>some k_≠(.slice (some ah) ae.length ap:Value).ownBlock)) (pe (Kd.R_mono af.out (fun _ hk=>⟨hk.2,hk.1⟩))) hg hat);have n3_:=ak (hb);have n4_:=ak (ho);clear ab aa af HB ag;have ab:=n0_;have aa:=n1_;have af:=n2_;have HB:=n3_;have ay:=n4_;clear n0_ n1_ n2_ n3_ n4_ ho hb hg hat;obtain ⟨bp,bq,a3⟩:=Kd.R_slice ay.out;(first|subst a3|(injection a3 with f1_ f2_ f3_;have f4_:=f1_.symm;have f5_:=f3_.symm;clear f1_ f2_ f3_;subst f4_;subst f5_))
   refine hK.out _ _ ⟨(blk_cell aa.out 0).trans rfl,HS1_⟩ (fun hHeld=>?_)
   clear hK K
   refine norm_ (a':=?_) ?_ ?_
   rotate_left
   ·show Act.put _ (some 53) _=_;simp only [Act.put,sIB,sc0,scs,i64_w,i32_w]
    rfl
   refine one_ (i:=11) (N:=some 54) (tf 12 2) rfl rfl (one_of HT_.out kr) dc (fun K hK=>?_)
   refine goes_ Tryz.func91 kr rfl #[.agg #[.slice A0_0 l0_0.length c0_0],.slice bp aJ.length bq,.bool true] (by rfl) rfl rfl am ?_
   with_reducible refine (spec_l09Fill.calls k2 _ _ l0_0 _ _ aJ true aC _ ?side1 ?side2 ?side3 ?side4 A24.out).mono ?_
   (case side1=>exact pc (Kd.C_below aD.out HB.out))
   (case side2=>exact aE.out)
   (case side3=>exact pc ((Kd.R_reads' ay.out).2.2))
   (case side4=>exact (Kd.R_reads' ay.out).2.1)
   rintro e w36 ⟨bP,rfl,ho0,hb⟩
   have HS1_:=(hb.cell (World.block_lt_of_cell? _ _ (hHeld.2))).trans (hHeld.2)
   refine ⟨_,rfl,?_⟩
   have n0_:=rn ab ho0 hb;have n1_:=rn af ho0 hb;have n2_:=rn ay ho0 hb;have n3_:=lw (nw (nw (nw ho0 ab) af) ay);have n4_:=bb aa hb;have n5_:=hbs hb;clear ab af ay aa HB;have ab:=n0_;have af:=n1_;have ay:=n2_;have br:=n3_;have aa:=n4_;have HB:=n5_;clear n0_ n1_ n2_ n3_ n4_ n5_;(try clear hb);(try clear hb2);(try clear hk);(try clear hi);(try clear ho0)
   refine hK.out _ _ ⟨(blk_cell aa.out 0).trans rfl,HS1_⟩ (fun hHeld=>?_)
   clear hK K
   refine norm_ (a':=?_) ?_ ?_
   rotate_left
   ·show Act.put _ (some 54) _=_;simp only [Act.put,sIB,sc0,scs,i64_w,i32_w]
    rfl
   refine pur (i:=12) (N:=some 4) (v:=?_) (a':=?_) (tf 13 1) rfl (Or.inl ⟨by rfl,?_⟩) ?_ ?_
   rotate_left
   ·intro w'
    go_simp
    with_reducible rfl
   rotate_left
   ·simp only [Act.put,sIB,sc0,scs,i64_w,i32_w]
    rfl
   refine pur (i:=13) (N:=some 5) (v:=?_) (a':=?_) (tf 14 0) rfl (Or.inl ⟨by rfl,?_⟩) ?_ ?_
   rotate_left
   ·intro w'
    go_simp
    with_reducible rfl
   rotate_left
   ·simp only [Act.put,sIB,sc0,scs,i64_w,i32_w]
    rfl
   refine done_ (done_of HT_.out kr) ?_
   try go_wp2
   go_ret2
   exact ⟨_,ew,pe (Kd.R_mono br.out (fun _ hk=>trivial)),hq⟩
end Go.Proofs.YtlppkilencpmeaaGreat.QFnGrowing
