/- Functions as Lean functions, with their contracts: written by a program of this claim over the translation; some contracts are proved by hand. -/
import Derived.Test.YtlppkilencpmeaaGreatQFnGrowingx0
import Derived.Test.YtlppkilencpmeaaGreatQFnGrowingx1
import Derived.Test.YtlppkilencpmeaaGreatQFnGrowingx9
namespace Go.Proofs.YtlppkilencpmeaaGreat.QFnGrowing
open Go.RowKit Go.Proofs.YtlppkilencpmeaaGreat.Gl Go.Proofs.YtlppkilencpmeaaGreat.Sz Go.Proofs.YtlppkilencpmeaaGreatW.PrintWords Go.Proofs.YtlppkilencpmeaaGreatW.PrintLast Go.Proofs.YtlppkilencpmeaaGreatW.PrintMore
attribute [local go_sem] max2_int min2_int max_two min_two max_three min_three max_four min_four   -- for this text's walks alone
set_option linter.unusedVariables false
set_option linter.unusedSimpArgs false
theorem q15_0 {P:Prop} (h:P:=by first|(with_reducible assumption)|assumption):P:=h
theorem q15_1 {P:Prop} (h:P:=by (try simp only [List.map_toArray,List.map_cons,List.map_nil]);first|done|(rw [show (l1.take (ab:Int).toNat).length=ab.toNat from (by rw [List.length_take];have h_:(ab:Int)≤(l1.length:Int):=od q15_0;omega)] <;> rfl)|rfl|(simp only [List.length_drop,List.length_take];rfl)):P:=h
theorem q15_2 {P:Prop} (h:P:=by first|exact Kd.R_nil _ _ _ _ _|exact Kd.N_nil _ _ _ _ _|exact Kd.V_nil _ _ _ _ _|exact Kd.Q_nil _ _ _ _ _|exact Kd.S_nil _ _ _ _ _):P:=h
theorem q15_3 {P:Prop} (h:P:=by first|rfl|(simp;done)|(simp [*];done)):P:=h
set_option maxHeartbeats 8000000
set_option maxRecDepth 100000
mutual
def impl_NextGrowing.l0:Nat→List Int→Int→List Int→Option (List Int × Int)
 | 0,_,_,_=>none
 | k+1,x1,x7,x594000=>if x7≥0 then (if 0≤x7 then (if x7≤(x1.length:Int) then ((impl_nexts.f k x594000 (x1.take (x7:Int).toNat)).bind fun t596=>(impl_NextGrowing.l1 k x1 x7 t596 (t596.length:Int) 0 x594000)) else (none)) else (none)) else (some (([]:List Int),4))
def impl_NextGrowing.l1:Nat→List Int→Int→List Int→Int→Int→List Int→Option (List Int × Int)
 | 0,_,_,_,_,_,_=>none
 | k+1,x1,x7,x29,x30,x31,x594000=>if x31<x30 then (if 0≤x31 then (if x31<(x29.length:Int) then (if 0≤x7 then (if x7<(x1.length:Int) then (if (rd x29 x31)≤(rd x1 x7) then (impl_NextGrowing.l1 k x1 x7 x29 x30 (wrap64 (x31+1)) x594000) else (if x7≤(x1.length:Int) then ((slices_Clone.f (x1.take (x7:Int).toNat)).bind fun t602=>(if t602.length<17592186044416 then (impl_NextGrowing.l2 k x1 (t602++[rd x29 x31]) x594000) else (none))) else (none))) else (none)) else (none)) else (none)) else (none)) else (impl_NextGrowing.l0 k x1 (wrap64 (x7 - 1)) x594000)
def impl_NextGrowing.l2:Nat→List Int→List Int→List Int→Option (List Int × Int)
 | 0,_,_,_=>none
 | k+1,x1,x10,x594000=>if (x10.length:Int)<(x1.length:Int) then ((impl_nexts.f k x594000 x10).bind fun t608=>(if 0<(t608.length:Int) then (if x10.length<17592186044416 then (impl_NextGrowing.l2 k x1 (x10++[rd t608 0]) x594000) else (none)) else (none))) else (some (x10,0))
end
def impl_NextGrowing.f (k:Nat) (l0_0:List Int) (l1:List Int):Option (List Int × Int):=(impl_growingCode.f k l0_0 l1).bind fun t594=>(if t594=0 then (impl_NextGrowing.l0 k l1 (wrap64 ((l1.length:Int) - 1)) l0_0) else (some (([]:List Int),t594)))
def impl_NextGrowing.T7:Bool × List (List Nat × List Nat):=(true,[([],[]),([0],[0]),([],[]),([],[]),([2,3],[2,3]),([1,4],[1,4]),([5],[5]),([],[])])
def impl_NextGrowing.B7:List Nat:=[0,1,0,0,12,31,63,0]
theorem impl_NextGrowing.tab7:rtab .any (opsOf Tryz.f25 7)=impl_NextGrowing.T7:=by kernel_rfl
theorem impl_NextGrowing.bits7:waitsOk impl_NextGrowing.T7.2 impl_NextGrowing.B7=true:=by kernel_rfl
theorem impl_NextGrowing.calls (k:Nat) (A0_0:Option Addr) (c0_0:Nat) (l0_0:List Int) (A1:Option Addr) (c1:Nat) (l1:List Int) (r1:List Int) (r2:Int) (w:World) (hr0_0:Kd.C (Kd.int .i64) w A0_0 l0_0.length l0_0) (hc0_0:l0_0.length≤c0_0) (hr1:Kd.C (Kd.int .i64) w A1 l1.length l1) (hc1:l1.length≤c1) (h:impl_NextGrowing.f k l0_0 l1=some (r1,r2)) :
  Calls Tryz.prog 25 #[.agg #[.slice A0_0 l0_0.length c0_0],.slice A1 l1.length c1] w fun e w'=>∃ v0_:Value,e=.returned (.tuple #[v0_,.int .i64 r2])∧Kd.R (Kd.int .i64) 2 w' w.heap.size (fun _=>True) v0_ r1∧Below w.heap.size w w':=by
 have hu27:=Tryz.underlying27;have au:=ak hr0_0;have av:=ak hc0_0;clear hr0_0 hc0_0;have HR1:=ak hr1;have HC1:=ak hc1;clear hr1 hc1;have HB:=ak (Below.refl w.heap.size w);have H:((impl_growingCode.f k l0_0 l1).bind fun ah=>(if ah=0 then (impl_NextGrowing.l0 k l1 (wrap64 ((l1.length:Int) - 1)) l0_0) else (some (([]:List Int),ah))))=some (r1,r2):=h;clear h;replace H:=bs H;obtain ⟨ah,A3,H⟩:=H;(try dsimp only at H);obtain c4|c4:=nem (ah=0)
 ·rw [if_neg c4] at H;have aX:(ah == 0)=false:=beq_eq_false_iff_ne.mpr c4;have aY:(ah != 0)=true:=bne_iff_ne.mpr c4;simp only [Option.some.injEq,Prod.mk.injEq] at H;obtain ⟨rfl,rfl⟩:=H
  go_enter Tryz.func25,Tryz.ntmps25
  go_wp2_with (first|((with_reducible refine gate_dst (N:=2) rfl ?_);refine bev (N:=2) (cs:=#[.slice A0_0 l0_0.length c0_0]) (t:=27) ?_;intro aj hg w39 hbox hb;have aa:=ak (hbox);have aZ:=gbe hg;have a2:=gbe hg;replace HB:=hbs hb;clear hb hbox hg;have bw:=bc aa.out;have bx:=blk_frozen aa.out 0)|((with_reducible refine gate_callee (f:=57) rfl ?_);refine gl (some 13) Tryz.func57 #[.agg #[.slice A0_0 l0_0.length c0_0],.slice A1 l1.length c1] ?_;(with_reducible refine (impl_growingCode.calls k _ _ l0_0 _ _ l1 ah _ (pc (Kd.C_below au.out HB.out)) av.out (pc (Kd.C_below HR1.out HB.out)) HC1.out A3.out).mono ?_);rintro e w41 ⟨rfl,hb⟩;refine ⟨_,rfl,?_⟩;replace aa:=bb aa hb;replace HB:=hbs hb;(try clear hb)))
  go_ret2
  exact ⟨_,ew,q15_2,hq⟩
 rw [if_pos c4] at H;have aX:=be c4;have aY:=bn c4;clear c4;have H':=ak H;clear H
 go_enter Tryz.func25,Tryz.ntmps25
 go_wp2_with (first|((with_reducible refine gate_dst (N:=2) rfl ?_);refine bev (N:=2) (cs:=#[.slice A0_0 l0_0.length c0_0]) (t:=27) ?_;intro aj hg w5 hbox hb;have aa:=ak (hbox);have aZ:=gbe hg;have a2:=gbe hg;replace HB:=hbs hb;clear hb hbox hg;have bz:=bc aa.out;have bA:=blk_frozen aa.out 0)|((with_reducible refine gate_callee (f:=57) rfl ?_);refine gl (some 13) Tryz.func57 #[.agg #[.slice A0_0 l0_0.length c0_0],.slice A1 l1.length c1] ?_;(with_reducible refine (impl_growingCode.calls k _ _ l0_0 _ _ l1 ah _ (pc (Kd.C_below au.out HB.out)) av.out (pc (Kd.C_below HR1.out HB.out)) HC1.out A3.out).mono ?_);rintro e w7 ⟨rfl,hb⟩;refine ⟨_,rfl,?_⟩;replace aa:=bb aa hb;replace HB:=hbs hb;(try clear hb)))
 go_loopg [7] k (fun kq v7 w'=>∃ (ab:Int),v7=.int .i64 ab∧Aside0 (impl_NextGrowing.l0 kq l1 ab l0_0=some (r1,r2))∧Aside0 (kq≤k)∧Aside0 (w'.heap[aj]?=some (.cells #[(.slice A0_0 l0_0.length c0_0)] 27 (0,0)))∧Aside0 (Below w.heap.size w w'))
 case atStart=>exact ⟨(wrap64 ((l1.length:Int) - 1)),q15_3,H',⟨Nat.le_refl _⟩,⟨pb aa.out⟩,⟨hq⟩⟩
 case round =>
  clear H';obtain ⟨ab,rfl,HA,HK1,aa,HB⟩:=hrel
  cases gk with|zero=>exact absurd HA.out (by simp [impl_NextGrowing.l0])|succ k1=>?_
  have H:=HA.out;clear HA;simp only [impl_NextGrowing.l0] at H;obtain c8|c8:=nem (ab≥0)
  ·rw [if_neg c8] at H;have a3:decide (0≤ab)=false:=decide_eq_false c8;clear c8;simp only [Option.some.injEq,Prod.mk.injEq] at H;obtain ⟨rfl,rfl⟩:=H;go_wp2
   go_ret2
   exact ⟨_,ew,q15_2,hq⟩
  rw [if_pos c8] at H;have a3:decide (0≤ab)=true:=decide_eq_true c8;clear c8;replace H:=ifs H;obtain ⟨c9,H⟩:=H;have bB:=eq_true c9;have bC:decide (0≤ab)=true:=decide_eq_true c9;clear c9;replace H:=ifs H;obtain ⟨c10,H⟩:=H;have bD:=eq_true c10;have bE:decide (ab≤(l1.length:Int))=true:=decide_eq_true c10;clear c10;replace H:=bs H;obtain ⟨ad,A11,H⟩:=H;(try dsimp only at H);have H':=ak H;clear H
  try go_wp2
  have n0_:=ak (blk_drew aa.out);have n1_:=ak (below_drew1 HB.out);clear aa HB;have aa:=n0_;have HB:=n1_;clear n0_ n1_;obtain ⟨i013,aE,_,hsz13,_⟩:=info_parts info2;obtain ⟨hcut13,hA13,aG⟩:=print_take_of (P:=Tryz.prog) (Value.int .i64) 0 24 2 .i64 Tryz.underlying24 aE hsz13 A1 c1 l1 ab (od q15_0) (od q15_0) HC1.out;have aH:Aside0 (Kd.C (Kd.int .i64) _ _ _ _):=ak (Kd.C_of_reads (h1:=fun _=>rfl) (hA13 _ (Kd.reads_of_C HR1.out)));have a4:=ak aG;clear hA13 aG aE hsz13
  refine start_ (n:=8) (S:=fun w'=>w'.cell? ⟨aj,0,none⟩=some (.slice A0_0 l0_0.length c0_0)) (ds:=[]) #[false,false,false,false,false,false,false,false] kr rfl rfl ((blk_cell aa.out 0).trans rfl) (fun hHeld=>?_);refine with_tabW impl_NextGrowing.tab7 impl_NextGrowing.bits7 (fun HT_ HW_=>?_)
  generalize wr.drew=w12 at aa HB aH hHeld ⊢
  refine pur (i:=0) (N:=some 24) (v:=?_) (a':=?_) #[true,false,false,false,false,false,false,false] rfl (Or.inl ⟨by rfl,?_⟩) ?_ ?_
  rotate_left
  ·intro w'
   go_simp
   with_reducible rfl
  rotate_left
  ·simp only [Act.put,sIB,sc0,scs,i64_w,i32_w]
   rfl
  refine pur (i:=2) (N:=some 26) (v:=?_) (a':=?_) #[true,false,true,false,false,false,false,false] rfl (Or.inl ⟨by rfl,?_⟩) ?_ ?_
  rotate_left
  ·intro w'
   go_simp
   with_reducible rfl
  rotate_left
  ·simp only [Act.put,sIB,sc0,scs,i64_w,i32_w]
   rfl
  refine pur (i:=3) (N:=some 27) (v:=?_) (a':=?_) #[true,false,true,true,false,false,false,false] rfl (Or.inl ⟨by rfl,?_⟩) ?_ ?_
  rotate_left
  ·intro w'
   go_simp
   with_reducible rfl
  rotate_left
  ·simp only [Act.put,sIB,sc0,scs,i64_w,i32_w]
   rfl
  refine pur (i:=4) (N:=some 28) (v:=?_) (a':=?_) #[true,false,true,true,true,false,false,false] rfl (Or.inl ⟨by rfl,?_⟩) ?_ ?_
  rotate_left
  ·intro w'
   go_simp
   with_reducible rfl
  rotate_left
  ·simp only [Act.put,sIB,sc0,scs,i64_w,i32_w]
   rfl
  refine pur (i:=7) (N:=some 31) (v:=?_) (a':=?_) #[true,false,true,true,true,false,false,true] rfl (Or.inl ⟨by rfl,?_⟩) ?_ ?_
  rotate_left
  ·intro w'
   go_simp
   with_reducible rfl
  rotate_left
  ·simp only [Act.put,sIB,sc0,scs,i64_w,i32_w]
   rfl
  refine take_ (i:=1) (N:=some 25) (v:=?_) (a':=?_) #[true,true,true,true,true,false,false,true] rfl rfl (take_ofW HT_.out HW_.out kr) (fun _ _ _ h=>h) (Or.inl ⟨by rfl,?_⟩) hHeld ?_ ?_
  rotate_left
  ·intro w' s0
   go_simp
   with_reducible rfl
  rotate_left
  ·simp only [Act.put,sIB,sc0,scs,i64_w,i32_w]
   rfl
  refine one_ (i:=5) (N:=some 29) #[true,true,true,true,true,true,false,true] rfl rfl (one_of HT_.out kr) dc (fun K hK=>?_)
  refine goes_ Tryz.func84 kr rfl #[.slice A0_0 l0_0.length c0_0,.slice A1 (l1.take (ab:Int).toNat).length c1] (by rfl) rfl rfl q15_1 ?_
  with_reducible refine (impl_nexts.calls k1 _ _ l0_0 _ _ (l1.take (ab:Int).toNat) ad _ ?side1 ?side2 ?side3 ?side4 A11.out).mono ?_
  (case side1=>exact pc (Kd.C_below au.out HB.out))
  (case side2=>exact av.out)
  (case side3=>exact pc (Kd.C_below aH.out HB.out))
  (case side4=>exact a4.out)
  rintro e w14 ⟨bF,rfl,ho0,hb⟩
  refine ⟨_,rfl,?_⟩
  have n0_:=lw ho0;have n1_:=bb aa hb;have n2_:=hbs hb;clear aa HB;have aI:=n0_;have aa:=n1_;have HB:=n2_;clear n0_ n1_ n2_;(try clear hb);(try clear hb2);(try clear hk);(try clear hi);(try clear ho0);obtain ⟨a5,aJ,aK⟩:=Kd.R_slice aI.out;(first|subst aK|(injection aK with f1_ f2_ f3_;have f4_:=f1_.symm;have f5_:=f3_.symm;clear f1_ f2_ f3_;subst f4_;subst f5_))
  refine hK.out _ _ ((blk_cell aa.out 0).trans rfl) (fun hHeld=>?_)
  clear hK K
  refine norm_ (a':=?_) ?_ ?_
  rotate_left
  ·show Act.put _ (some 29) _=_;simp only [Act.put,sIB,sc0,scs,i64_w,i32_w]
   rfl
  refine pur (i:=6) (N:=some 30) (v:=?_) (a':=?_) #[true,true,true,true,true,true,true,true] rfl (Or.inl ⟨by rfl,?_⟩) ?_ ?_
  rotate_left
  ·intro w'
   go_simp
   with_reducible rfl
  rotate_left
  ·simp only [Act.put,sIB,sc0,scs,i64_w,i32_w]
   rfl
  refine done_ (done_of HT_.out kr) ?_
  try go_wp2
  go_loopg [31] k1 (fun kq v31 w'=>∃ (ac:Int),v31=.int .i64 ac∧Aside0 (impl_NextGrowing.l1 kq l1 ab ad (ad.length:Int) ac l0_0=some (r1,r2))∧Aside0 (kq≤k1)∧Aside0 (Kd.R (Kd.int .i64) 2 w' w.heap.size (fun _=>True) (.slice a5 ad.length aJ) ad)∧Aside0 (w'.heap[aj]?=some (.cells #[(.slice A0_0 l0_0.length c0_0)] 27 (0,0)))∧Aside0 (Below w.heap.size w w'))
  case atStart=>exact ⟨(0),q15_3,H',⟨Nat.le_refl _⟩,⟨pe aI.out⟩,⟨pb aa.out⟩,⟨hq⟩⟩
  case round =>
   clear H';obtain ⟨ac,rfl,HA,HK2,ae,aa,HB⟩:=hrel
   cases gk with|zero=>exact absurd HA.out (by simp [impl_NextGrowing.l1])|succ k2=>?_
   have H:=HA.out;clear HA;simp only [impl_NextGrowing.l1] at H;obtain c16|c16:=nem (ac<(ad.length:Int))
   ·rw [if_neg c16] at H;have a6:=df c16;clear c16;have H':=ak H;clear H;go_wp2
    go_roundg k2
    case measure=>have:=HK1.out;have:=HK2.out;omega
    case rel=>exact ⟨(wrap64 (ab - 1)),q15_3,H',⟨by have:=HK1.out;have:=HK2.out;omega⟩,⟨pb aa.out⟩,⟨hq⟩⟩
   rw [if_pos c16] at H;have a6:=dt c16;clear c16;replace H:=ifs H;obtain ⟨c17,H⟩:=H;have bG:=dt c17;clear c17;replace H:=ifs H;obtain ⟨c18,H⟩:=H;have bH:=dt c18;clear c18;replace H:=ifs H;obtain ⟨c19,H⟩:=H;have bI:=dt c19;clear c19;replace H:=ifs H;obtain ⟨c20,H⟩:=H;have bJ:=dt c20;clear c20
   by_cases c21:(rd ad ac)≤(rd l1 ab)
   ·rw [if_pos c21] at H;have a7:=dt c21;clear c21;have H':=ak H;clear H;have al:0≤(ac:Int):=od q15_0;have an:ac<(ad.length:Int):=od q15_0;(try (obtain ⟨Aop_,cop_,eop_⟩:=Kd.R_slice ae.out;subst eop_));obtain ⟨aM,aw,a8⟩:=Kd.at_int (Kd.R_reads' ae.out).2.2 ac al an;cases aw;replace al:=eq_true al;replace an:=eq_true an;have ao:0≤(ab:Int):=od q15_0;have ap:ab<(l1.length:Int):=od q15_0;obtain ⟨ax,ay,aq⟩:=Kd.at_int HR1.out ab ao ap;cases ay;replace aq:=(HB.out.cell (World.block_lt_of_cell? w _ aq)).trans aq;replace ao:=eq_true ao;replace ap:=eq_true ap;go_wp2
    go_roundg k2
    case measure=>have:=HK1.out;have:=HK2.out;omega
    case rel=>exact ⟨(wrap64 (ac+1)),q15_3,H',⟨by have:=HK1.out;have:=HK2.out;omega⟩,⟨pe ae.out⟩,⟨pb aa.out⟩,⟨hq⟩⟩
   rw [if_neg c21] at H;have a7:=df c21;clear c21;have bK:=eq_true (od q15_0:0≤ab);replace H:=ifs H;obtain ⟨c23,H⟩:=H;have bL:=eq_true c23;have bM:decide (ab≤(l1.length:Int))=true:=decide_eq_true c23;clear c23;replace H:=bs H;obtain ⟨az,A24,H⟩:=H;(try dsimp only at H);replace H:=ifs H;obtain ⟨c25,H⟩:=H;have a9:=ak c25;clear c25;obtain ⟨aN,hY⟩:∃ y_:List Int,y_=(az++[rd ad ac]):=⟨_,rfl⟩;replace H:(impl_NextGrowing.l2 k2 l1 aN l0_0)=some (r1,r2):=hh;have ba:=ak hY;clear hY;have H':=ak H;clear H;have al:0≤(ac:Int):=od q15_0;have an:ac<(ad.length:Int):=od q15_0;(try (obtain ⟨Aop_,cop_,eop_⟩:=Kd.R_slice ae.out;subst eop_));obtain ⟨aM,aw,a8⟩:=Kd.at_int (Kd.R_reads' ae.out).2.2 ac al an;cases aw;replace al:=eq_true al;replace an:=eq_true an;have ao:0≤(ab:Int):=od q15_0;have ap:ab<(l1.length:Int):=od q15_0;obtain ⟨ax,ay,aq⟩:=Kd.at_int HR1.out ab ao ap;cases ay;replace aq:=(HB.out.cell (World.block_lt_of_cell? w _ aq)).trans aq;replace ao:=eq_true ao;replace ap:=eq_true ap;obtain ⟨i026,aQ,_,hsz26,_⟩:=info_parts info2;obtain ⟨hcut26,hA26,aR⟩:=print_take_of (P:=Tryz.prog) (Value.int .i64) 0 24 2 .i64 Tryz.underlying24 aQ hsz26 (some ax) c1 l1 ab (od q15_0) (od q15_0) HC1.out;have bd:Aside0 (Kd.C (Kd.int .i64) _ _ _ _):=ak (Kd.C_of_reads (h1:=fun _=>rfl) (hA26 _ (Kd.reads_of_C HR1.out)));have bf:=ak aR;clear hA26 aR aQ hsz26
   go_wp2_with (first|((with_reducible refine gate_callee (f:=63) rfl ?_);refine goesL_ (some 44) rfl rfl Tryz.func63 kr rfl #[.slice (some ax) (l1.take (ab:Int).toNat).length c1] rfl q15_1 ?_;(with_reducible refine (slices_Clone.calls _ _ (l1.take (ab:Int).toNat) az _ (pc (Kd.C_below bd.out HB.out)) bf.out A24.out).mono ?_);rintro e w27 ⟨bg,rfl,ho0,hb⟩;refine ⟨_,rfl,?_⟩;have aA:=lw (nw ho0 ae);replace ae:=rn ae ho0 hb;replace aa:=bb aa hb;replace HB:=hbs hb;(try clear hb ho0))|((with_reducible refine gate_builtin (b:=.append) (xs:=#[.tmp 44,.tmp 46]) rfl ?_);at_builtin;refine Kd.R_append (Kd.int .i64) (w0:=w) w.heap.size rfl (.tmp 44) (.tmp 46) 24 2 (.int .i64 0) 8 rfl Tryz.underlying24 info2 rfl dc (by omega) bg az (rd ad ac) [.int .i64 (rd ad ac)] (fun k_=>some k_≠(.slice (some aM) ad.length aJ:Value).ownBlock) (fun _=>False) rfl rfl ?aP (fun _ hk=>hk.elim) ?aF ?aO ?aB ?aS ?aL ?_;(case aP=>exact rfl);(case aB=>exact hq);(case aF=>exact (fun k_ hk=>Kd.fresh' (Kd.R_lt (pe ae.out)) k_ hk));(case aO=>exact (pe (Kd.R_mono aA.out (fun _ hk=>hk.2))));(case aS=>exact (below_size hq));(case aL=>have:=a9.out;omega);intro bN w28 ho hb hg hat;rw [← ba.out] at ho;replace ae:=ak (Kd.R_after (ok:=(fun _=>True)) (pe ae.out) hg hat);replace aa:=ak (blk_grown (g:=aj) (o:=.cells #[.slice A0_0 l0_0.length c0_0] 27 (0,0)) (pb aa.out) hg (Kd.R_ne aA.out aa.out dc));replace HB:=ak (hb);have bh:=ak (ho);clear aA;clear ho hb hg hat))
   go_loopg [10] k2 (fun kq v10 w'=>∃ (af:List Int),Aside0 (impl_NextGrowing.l2 kq l1 af l0_0=some (r1,r2))∧Aside0 (kq≤k2)∧Aside0 (Kd.R (Kd.int .i64) 2 w' w.heap.size (fun _=>True) v10 af)∧Aside0 (w'.heap[aj]?=some (.cells #[(.slice A0_0 l0_0.length c0_0)] 27 (0,0)))∧Aside0 (Below w.heap.size w w'))
   case atStart=>exact ⟨(aN),H',⟨Nat.le_refl _⟩,⟨pe (Kd.R_mono bh.out (fun _ hk=>trivial))⟩,⟨pb aa.out⟩,⟨hq⟩⟩
   case round =>
    clear H';obtain ⟨af,HA,HK3,ag,aa,HB⟩:=hrel
    cases gk with|zero=>exact absurd HA.out (by simp [impl_NextGrowing.l2])|succ k3=>?_
    have H:=HA.out;clear HA;simp only [impl_NextGrowing.l2] at H;obtain c29|c29:=nem ((af.length:Int)<(l1.length:Int))
    ·rw [if_neg c29] at H;have bi:=df c29;have bj:decide (af.length<l1.length)=false:=decide_eq_false (fun h=>c29 (Int.ofNat_lt.mpr h));clear c29;simp only [Option.some.injEq,Prod.mk.injEq] at H;obtain ⟨rfl,rfl⟩:=H;obtain ⟨bO,bP,bk⟩:=Kd.R_slice ag.out;subst bk;go_wp2
     go_ret2
     exact ⟨_,ew,pe ag.out,hq⟩
    rw [if_pos c29] at H;have bi:=dt c29;have bj:decide (af.length<l1.length)=true:=decide_eq_true (Int.ofNat_lt.mp c29);clear c29;replace H:=bs H;obtain ⟨ai,A30,H⟩:=H;(try dsimp only at H);replace H:=ifs H;obtain ⟨c31,H⟩:=H;have bQ:=dt c31;have bR:decide (0<ai.length)=true:=decide_eq_true (by omega);clear c31;replace H:=ifs H;obtain ⟨c32,H⟩:=H;have bl:=ak c32;clear c32;obtain ⟨aT,hY⟩:∃ y_:List Int,y_=(af++[rd ai 0]):=⟨_,rfl⟩;replace H:(impl_NextGrowing.l2 k3 l1 aT l0_0)=some (r1,r2):=hh;have bm:=ak hY;clear hY;have H':=ak H;clear H;obtain ⟨aU,aV,bo⟩:=Kd.R_slice ag.out;subst bo;have bS:=bc aa.out;have bT:=blk_frozen aa.out 0
    go_wp2_with (first|((with_reducible refine gate_callee (f:=84) rfl ?_);refine gl (some 57) Tryz.func84 #[.slice A0_0 l0_0.length c0_0,.slice aU af.length aV] ?_;(with_reducible refine (impl_nexts.calls k3 _ _ l0_0 _ _ af ai _ (pc (Kd.C_below au.out HB.out)) av.out (pc ((Kd.R_reads' ag.out).2.2)) (Kd.R_reads' ag.out).2.1 A30.out).mono ?_);rintro e w35 ⟨bU,rfl,ho0,hb⟩;refine ⟨_,rfl,?_⟩;have ar:=lw (nw ho0 ag);replace ag:=rn ag ho0 hb;replace aa:=bb aa hb;replace HB:=hbs hb;(try clear hb);(try clear hb2);(try clear hk);(try clear hi);(try clear ho0);obtain ⟨bV,bp,bq⟩:=Kd.R_slice ar.out;subst bq;have aC:0≤(0:Int):=(by omega);have aD:0<(ai.length:Int):=od q15_0;obtain ⟨br,bu,aW⟩:=Kd.at_int (Kd.R_reads' ar.out).2.2 0 aC aD;cases bu;have qi611:(0<ai.length)=True:=eq_true (by omega);(try rw [show (0:Int).toNat=0 from rfl] at aW);(try rw [Addr.add_zero'] at aW);replace aC:=eq_true aC;replace aD:=eq_true aD)|((with_reducible refine gate_builtin (b:=.append) (xs:=#[.tmp 53,.tmp 60]) rfl ?_);at_builtin;refine Kd.R_append (Kd.int .i64) (w0:=w) w.heap.size rfl (.tmp 53) (.tmp 60) 24 2 (.int .i64 0) 8 rfl Tryz.underlying24 info2 rfl dc (by omega) (.slice aU af.length aV) af (rd ai 0) [.int .i64 (rd ai 0)] (fun k_=>some k_≠(.slice (some br) ai.length bp:Value).ownBlock) (fun _=>False) rfl rfl ?aP (fun _ hk=>hk.elim) ?aF ?aO ?aB ?aS ?aL ?_;(case aP=>exact rfl);(case aB=>exact hq);(case aF=>exact (fun k_ hk=>Kd.fresh' (Kd.R_lt (pe ar.out)) k_ hk));(case aO=>exact (pe (Kd.R_mono ag.out (fun _ hk=>hk.2))));(case aS=>exact (below_size hq));(case aL=>have:=bl.out;omega);intro bW w37 ho hb hg hat;rw [← bm.out] at ho;replace aa:=ak (blk_grown (g:=aj) (o:=.cells #[.slice A0_0 l0_0.length c0_0] 27 (0,0)) (pb aa.out) hg (Kd.R_ne ag.out aa.out dc));replace ar:=ak (Kd.R_after (ok:=(fun _=>True)) (pe ar.out) hg hat);replace HB:=ak (hb);have bv:=ak (ho);clear ag;clear ho hb hg hat))
    go_roundg k3
    case measure=>have:=HK1.out;have:=HK2.out;have:=HK3.out;omega
    case rel=>exact ⟨(aT),H',⟨by have:=HK1.out;have:=HK2.out;have:=HK3.out;omega⟩,⟨pe (Kd.R_mono bv.out (fun _ hk=>trivial))⟩,⟨pb aa.out⟩,⟨hq⟩⟩
end Go.Proofs.YtlppkilencpmeaaGreat.QFnGrowing
