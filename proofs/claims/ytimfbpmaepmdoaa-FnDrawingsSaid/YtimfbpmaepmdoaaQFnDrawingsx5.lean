/- Functions as Lean functions, with their contracts: written by a program of this claim over the translation; some contracts are proved by hand. -/
import Derived.Test.YtimfbpmaepmdoaaQFnDrawingsx0
import Derived.Test.YtimfbpmaepmdoaaQFnDrawingsx1
import Derived.Test.YtimfbpmaepmdoaaQFnDrawingsx2
import Derived.Test.YtimfbpmaepmdoaaQFnDrawingsx4
namespace Go.Proofs.Ytimfbpmaepmdoaa.QFnDrawings
open Go.RowKit Go.Proofs.Ytimfbpmaepmdoaa.Gl Go.Proofs.Ytimfbpmaepmdoaa.Sz Go.Proofs.YtimfbpmaepmdoaaW.PrintWords Go.Proofs.YtimfbpmaepmdoaaW.PrintLast Go.Proofs.YtimfbpmaepmdoaaW.PrintMore
attribute [local go_sem] max2_int min2_int max_two min_two max_three min_three max_four min_four   -- for this text's walks alone
set_option linter.unusedVariables false
set_option linter.unusedSimpArgs false
theorem q5_0 {P:Prop} (h:P:=by first|rfl|(simp;done)|(simp [*];done)):P:=h
theorem q5_1 {P:Prop} (h:P:=by first|(with_reducible assumption)|assumption):P:=h
theorem q5_2 {P:Prop} (h:P:=by have:=HK1.out;have:=HK2.out;have:=HK3.out;have:=HK4.out;omega):P:=h
set_option maxHeartbeats 8000000
set_option maxRecDepth 100000
mutual
def spec_PictureOf.l0:Nat→List Int→List Int→Int→ByteArray→Int→List Int→Option (ByteArray × Int)
 | 0,_,_,_,_,_,_=>none
 | k+1,x4,x5,x6,x7,x8,x184000=>if x8<(x4.length:Int) then (if 0≤x8 then (spec_PictureOf.l0 k x4 x5 (mx x6 (wrap64 ((rd x4 x8)+1))) x7 (wrap64 (x8+1)) x184000) else (none)) else (spec_PictureOf.l1 k x4 x5 x6 x7 0 x184000)
def spec_PictureOf.l1:Nat→List Int→List Int→Int→ByteArray→Int→List Int→Option (ByteArray × Int)
 | 0,_,_,_,_,_,_=>none
 | k+1,x4,x5,x6,x7,x9,x184000=>(spec_l01Height.f k x184000).bind fun t192=>(if x9≤t192 then (spec_PictureOf.l2 k x4 x5 x6 x7 x9 ([]:List Int) 0 x184000) else (some (x7,0)))
def spec_PictureOf.l2:Nat→List Int→List Int→Int→ByteArray→Int→List Int→Int→List Int→Option (ByteArray × Int)
 | 0,_,_,_,_,_,_,_,_=>none
 | k+1,x4,x5,x6,x7,x9,x10,x11,x184000=>if x11<x6 then (if x10.length<140737488355328 then (spec_PictureOf.l2 k x4 x5 x6 x7 x9 (x10++[46]) (wrap64 (x11+1)) x184000) else (none)) else (spec_PictureOf.l3 k x4 x5 x6 x7 x9 x10 0 x184000)
def spec_PictureOf.l3:Nat→List Int→List Int→Int→ByteArray→Int→List Int→Int→List Int→Option (ByteArray × Int)
 | 0,_,_,_,_,_,_,_,_=>none
 | k+1,x4,x5,x6,x7,x9,x10,x12,x184000=>if x12<(x4.length:Int) then (if 0≤x12 then (if x12<(x5.length:Int) then (if (rd x5 x12)=x9 then (if 0≤(rd x4 x12) then (if (rd x4 x12)<(x10.length:Int) then (spec_PictureOf.l3 k x4 x5 x6 x7 x9 (x10.set ((rd x4 x12):Int).toNat 111) (wrap64 (x12+1)) x184000) else (none)) else (none)) else (spec_PictureOf.l3 k x4 x5 x6 x7 x9 x10 (wrap64 (x12+1)) x184000)) else (none)) else (none)) else (if x9>0 then (if x7.size+1≤9223372036854775807 then (if (x7++(⟨#[47]⟩:ByteArray)).size+(strOfNums x10).size≤9223372036854775807 then (spec_PictureOf.l1 k x4 x5 x6 ((x7++(⟨#[47]⟩:ByteArray))++(strOfNums x10)) (wrap64 (x9+1)) x184000) else (none)) else (none)) else (if x7.size+(strOfNums x10).size≤9223372036854775807 then (spec_PictureOf.l1 k x4 x5 x6 (x7++(strOfNums x10)) (wrap64 (x9+1)) x184000) else (none)))
end
def spec_PictureOf.f (k:Nat) (l0_0:List Int):Option (ByteArray × Int):=(spec_l01Is.f k l0_0).bind fun t184=>(if t184=true then ((spec_l08Columns.f k l0_0).bind fun t185=>((spec_l01Depths.f k l0_0).bind fun t188=>(spec_PictureOf.l0 k t185 t188 0 (⟨#[]⟩:ByteArray) 0 l0_0))) else (some ((⟨#[]⟩:ByteArray),1)))
def spec_PictureOf.T3:Bool × List (List Nat × List Nat):=(true,[([],[]),([0],[0]),([],[]),([2,1],[2]),([1,3,0,1],[1]),([3,4,0,1,2,3,4],[3]),([5,0,1,2,3,4,5],[]),([6,0,1,2,3,4,5,6],[])])
def spec_PictureOf.B3:List Nat:=[0,1,0,7,15,31,63,127]
theorem spec_PictureOf.tab3:rtab .any (opsOf Try.f6 3)=spec_PictureOf.T3:=by kernel_rfl
theorem spec_PictureOf.bits3:waitsOk spec_PictureOf.T3.2 spec_PictureOf.B3=true:=by kernel_rfl
theorem spec_PictureOf.calls (k:Nat) (A0_0:Option Addr) (c0_0:Nat) (l0_0:List Int) (r1:ByteArray) (r2:Int) (w:World) (hr0_0:Kd.C (Kd.int .i64) w A0_0 l0_0.length l0_0) (hc0_0:l0_0.length≤c0_0) (h:spec_PictureOf.f k l0_0=some (r1,r2)) :
  Calls Try.prog 6 #[.agg #[.slice A0_0 l0_0.length c0_0]] w fun e w'=>e=.returned (.tuple #[.string r1,.int .i64 r2])∧Below w.heap.size w w':=by
 have hu28:=Try.underlying28;have au:=ak hr0_0;have av:=ak hc0_0;clear hr0_0 hc0_0;have HB:=ak (Below.refl w.heap.size w);have H:((spec_l01Is.f k l0_0).bind fun aE=>(if aE=true then ((spec_l08Columns.f k l0_0).bind fun ab=>((spec_l01Depths.f k l0_0).bind fun af=>(spec_PictureOf.l0 k ab af 0 (⟨#[]⟩:ByteArray) 0 l0_0))) else (some ((⟨#[]⟩:ByteArray),1))))=some (r1,r2):=h;clear h;replace H:=bs H;obtain ⟨aE,A2,H⟩:=H;(try dsimp only at H);obtain c3|c3:=nem (aE=true)
 ·replace c3:=Bool.eq_false_iff.mpr c3;subst c3;have H1:(some ((⟨#[]⟩:ByteArray),1))=some (r1,r2):=by rw [if_neg (show ¬ (false=true) by decide)] at H;exact H
  clear H;have H:=H1;clear H1;simp only [Option.some.injEq,Prod.mk.injEq] at H;obtain ⟨rfl,rfl⟩:=H
  go_enter Try.func6,Try.ntmps6
  go_wp2_with (first|((with_reducible refine gate_dst (N:=1) rfl ?_);refine bev (N:=1) (cs:=#[.slice A0_0 l0_0.length c0_0]) (t:=28) ?_;intro ao hg w45 hbox hb;have aa:=ak (hbox);have a2:=gbe hg;have a3:=gbe hg;replace HB:=hbs hb;clear hb hbox hg;have bv:=bc aa.out;have bw:=blk_frozen aa.out 0)|((with_reducible refine gate_callee (f:=24) rfl ?_);refine gl (some 14) Try.func24 #[.agg #[.slice A0_0 l0_0.length c0_0]] ?_;(with_reducible refine (spec_l01Is.calls k _ _ l0_0 false _ (pc (Kd.C_below au.out HB.out)) av.out A2.out).mono ?_);rintro e w47 ⟨rfl,hb⟩;refine ⟨_,rfl,?_⟩;replace aa:=bb aa hb;replace HB:=hbs hb;(try clear hb)))
  go_ret2
  exact ⟨ew,hq⟩
 subst c3;replace H:((spec_l08Columns.f k l0_0).bind fun ab=>((spec_l01Depths.f k l0_0).bind fun af=>(spec_PictureOf.l0 k ab af 0 (⟨#[]⟩:ByteArray) 0 l0_0)))=some (r1,r2):=by rw [if_pos rfl] at H;exact H
 replace H:=bs H;obtain ⟨ab,A4,H⟩:=H;(try dsimp only at H);replace H:=bs H;obtain ⟨af,A5,H⟩:=H;(try dsimp only at H);have H':=ak H;clear H
 go_enter Try.func6,Try.ntmps6
 try go_wp2_with (first|((with_reducible refine gate_dst (N:=1) rfl ?_);refine bev (N:=1) (cs:=#[.slice A0_0 l0_0.length c0_0]) (t:=28) ?_;intro ao hg w6 hbox hb;have aa:=ak (hbox);have a2:=gbe hg;have a3:=gbe hg;replace HB:=hbs hb;clear hb hbox hg;have bx:=bc aa.out;have bz:=blk_frozen aa.out 0)|((with_reducible refine gate_callee (f:=24) rfl ?_);refine gl (some 14) Try.func24 #[.agg #[.slice A0_0 l0_0.length c0_0]] ?_;(with_reducible refine (spec_l01Is.calls k _ _ l0_0 true _ (pc (Kd.C_below au.out HB.out)) av.out A2.out).mono ?_);rintro e w8 ⟨rfl,hb⟩;refine ⟨_,rfl,?_⟩;replace aa:=bb aa hb;replace HB:=hbs hb;(try clear hb)))
 have n0_:=ak (blk_drew aa.out);have n1_:=ak (below_drew1 HB.out);clear aa HB;have aa:=n0_;have HB:=n1_;clear n0_ n1_
 refine start_ (n:=8) (S:=fun w'=>w'.cell? ⟨ao,0,none⟩=some (.slice A0_0 l0_0.length c0_0)) (ds:=[]) #[false,false,false,false,false,false,false,false] kr rfl rfl ((blk_cell aa.out 0).trans rfl) (fun hHeld=>?_);refine with_tabW spec_PictureOf.tab3 spec_PictureOf.bits3 (fun HT_ HW_=>?_)
 generalize w8.drew=w9 at aa HB hHeld ⊢
 refine take_ (i:=0) (N:=some 16) (v:=?_) (a':=?_) #[true,false,false,false,false,false,false,false] rfl rfl (take_ofW HT_.out HW_.out kr) (fun _ _ _ h=>h) (Or.inl ⟨by rfl,?_⟩) hHeld ?_ ?_
 rotate_left
 ·intro w' s0
  go_simp
  with_reducible rfl
 rotate_left
 ·simp only [Act.put,sIB,sc0,scs,i64_w,i32_w]
  rfl
 refine take_ (i:=2) (N:=some 18) (v:=?_) (a':=?_) #[true,false,true,false,false,false,false,false] rfl rfl (take_ofW HT_.out HW_.out kr) (fun _ _ _ h=>h) (Or.inl ⟨by rfl,?_⟩) hHeld ?_ ?_
 rotate_left
 ·intro w' s0
  go_simp
  with_reducible rfl
 rotate_left
 ·simp only [Act.put,sIB,sc0,scs,i64_w,i32_w]
  rfl
 refine one_ (i:=1) (N:=some 17) #[true,true,true,false,false,false,false,false] rfl rfl (one_of HT_.out kr) dc (fun K hK=>?_)
 refine goes_ Try.func25 kr rfl #[.agg #[.slice A0_0 l0_0.length c0_0]] (by rfl) rfl rfl am ?_
 with_reducible refine (spec_l08Columns.calls k _ _ l0_0 ab _ ?side1 ?side2 A4.out).mono ?_
 (case side1=>exact pc (Kd.C_below au.out HB.out))
 (case side2=>exact av.out)
 rintro e w10 ⟨aT,rfl,ho0,hb⟩
 refine ⟨_,rfl,?_⟩
 have n0_:=lw ho0;have n1_:=bb aa hb;have n2_:=hbs hb;clear aa HB;have aA:=n0_;have aa:=n1_;have HB:=n2_;clear n0_ n1_ n2_;(try clear hb);(try clear hb2);(try clear hk);(try clear hi);(try clear ho0)
 refine hK.out _ _ ((blk_cell aa.out 0).trans rfl) (fun hHeld=>?_)
 clear hK K
 refine norm_ (a':=?_) ?_ ?_
 rotate_left
 ·show Act.put _ (some 17) _=_;simp only [Act.put,sIB,sc0,scs,i64_w,i32_w]
  rfl
 refine one_ (i:=3) (N:=some 19) #[true,true,true,true,false,false,false,false] rfl rfl (one_of HT_.out kr) dc (fun K hK=>?_)
 refine goes_ Try.func26 kr rfl #[.agg #[.slice A0_0 l0_0.length c0_0]] (by rfl) rfl rfl am ?_
 with_reducible refine (spec_l01Depths.calls k _ _ l0_0 af _ ?side1 ?side2 A5.out).mono ?_
 (case side1=>exact pc (Kd.C_below au.out HB.out))
 (case side2=>exact av.out)
 rintro e w11 ⟨ap,rfl,ho0,hb⟩
 refine ⟨_,rfl,?_⟩
 have n0_:=rn aA ho0 hb;have n1_:=lw (nw ho0 aA);have n2_:=bb aa hb;have n3_:=hbs hb;clear aA aa HB;have aA:=n0_;have a4:=n1_;have aa:=n2_;have HB:=n3_;clear n0_ n1_ n2_ n3_;(try clear hb);(try clear hb2);(try clear hk);(try clear hi);(try clear ho0)
 refine hK.out _ _ ((blk_cell aa.out 0).trans rfl) (fun hHeld=>?_)
 clear hK K
 refine norm_ (a':=?_) ?_ ?_
 rotate_left
 ·show Act.put _ (some 19) _=_;simp only [Act.put,sIB,sc0,scs,i64_w,i32_w]
  rfl
 refine pur (i:=4) (N:=some 4) (v:=?_) (a':=?_) #[true,true,true,true,true,false,false,false] rfl (Or.inl ⟨by rfl,?_⟩) ?_ ?_
 rotate_left
 ·intro w'
  go_simp
  with_reducible rfl
 rotate_left
 ·simp only [Act.put,sIB,sc0,scs,i64_w,i32_w]
  rfl
 refine pur (i:=5) (N:=some 5) (v:=?_) (a':=?_) #[true,true,true,true,true,true,false,false] rfl (Or.inl ⟨by rfl,?_⟩) ?_ ?_
 rotate_left
 ·intro w'
  go_simp
  with_reducible rfl
 rotate_left
 ·simp only [Act.put,sIB,sc0,scs,i64_w,i32_w]
  rfl
 refine pur (i:=6) (N:=some 6) (v:=?_) (a':=?_) #[true,true,true,true,true,true,true,false] rfl (Or.inl ⟨by rfl,?_⟩) ?_ ?_
 rotate_left
 ·intro w'
  go_simp
  with_reducible rfl
 rotate_left
 ·simp only [Act.put,sIB,sc0,scs,i64_w,i32_w]
  rfl
 refine pur (i:=7) (N:=some 7) (v:=?_) (a':=?_) #[true,true,true,true,true,true,true,true] rfl (Or.inl ⟨by rfl,?_⟩) ?_ ?_
 rotate_left
 ·intro w'
  go_simp
  with_reducible rfl
 rotate_left
 ·simp only [Act.put,sIB,sc0,scs,i64_w,i32_w]
  rfl
 refine done_ (done_of HT_.out kr) ?_
 try go_wp2
 go_loopg [6,8] k (fun kq v6 v8 w'=>∃ (al:Int) (an:Int),v6=.int .i64 al∧v8=.int .i64 an∧Aside0 (spec_PictureOf.l0 kq ab af al (⟨#[]⟩:ByteArray) an l0_0=some (r1,r2))∧Aside0 (kq≤k)∧Aside0 (Kd.R (Kd.int .i64) 2 w' w.heap.size (fun k_=>some k_≠(ap:Value).ownBlock) aT ab)∧Aside0 (Kd.R (Kd.int .i64) 2 w' w.heap.size (fun k_=>some k_≠(aT:Value).ownBlock) ap af)∧Aside0 (w'.heap[ao]?=some (.cells #[(.slice A0_0 l0_0.length c0_0)] 28 (0,0)))∧Aside0 (Below w.heap.size w w'))
 case atStart=>exact ⟨(0),(0),q5_0,q5_0,H',⟨Nat.le_refl _⟩,⟨pe (Kd.R_mono aA.out (fun _ hk=>hk.2))⟩,⟨pe (Kd.R_mono a4.out (fun _ hk=>hk.2))⟩,⟨pb aa.out⟩,⟨hq⟩⟩
 case round =>
  clear H';obtain ⟨al,an,rfl,rfl,HA,HK1,ac,ad,aa,HB⟩:=hrel
  cases gk with|zero=>exact absurd HA.out (by simp [spec_PictureOf.l0])|succ k1=>?_
  have H:=HA.out;clear HA;simp only [spec_PictureOf.l0] at H
  by_cases c12:an<(ab.length:Int)
  ·rw [if_pos c12] at H;have a5:=dt c12;clear c12;replace H:=ifs H;obtain ⟨c13,H⟩:=H;have bA:=dt c13;clear c13;obtain ⟨aU,aD⟩:∃ j_:Int,(mx al (wrap64 ((rd ab an)+1)))=j_:=⟨_,rfl⟩;(first|rw [aD] at H|simp only [aD] at H);have hji14_:(if al<(wrap64 ((rd ab an)+1)) then (wrap64 ((rd ab an)+1)) else al)=aU:=aD;have H':=ak H;clear H;obtain ⟨bB,bC,a6⟩:=Kd.R_slice ac.out;subst a6;have aG:0≤(an:Int):=od q5_1;have aH:an<(ab.length:Int):=od q5_1;(try (obtain ⟨Aop_,cop_,eop_⟩:=Kd.R_slice ac.out;subst eop_));obtain ⟨bD,a7,bE⟩:=Kd.at_int (Kd.R_reads' ac.out).2.2 an aG aH;cases a7;replace aG:=eq_true aG;replace aH:=eq_true aH;go_wp2
   go_roundg k1
   case measure=>have:=HK1.out;omega
   case rel=>exact ⟨(aU),(wrap64 (an+1)),(by first|rfl|(simp;done)|(simp only [← aD] <;> (first|rfl|simp))|(simp [*];done)),q5_0,H',⟨by have:=HK1.out;omega⟩,⟨pe ac.out⟩,⟨pe ad.out⟩,⟨pb aa.out⟩,⟨hq⟩⟩
  rw [if_neg c12] at H;have a5:=df c12;clear c12;have H':=ak H;clear H;obtain ⟨aw,ax,a8⟩:=Kd.R_slice ac.out;subst a8;go_wp2
  go_loopg [7,9] k1 (fun kq v7 v9 w'=>∃ (ai:ByteArray) (ag:Int),v7=.string ai∧v9=.int .i64 ag∧Aside0 (spec_PictureOf.l1 kq ab af al ai ag l0_0=some (r1,r2))∧Aside0 (kq≤k1)∧Aside0 (Kd.R (Kd.int .i64) 2 w' w.heap.size (fun k_=>some k_≠(ap:Value).ownBlock) (.slice aw ab.length ax) ab)∧Aside0 (Kd.R (Kd.int .i64) 2 w' w.heap.size (fun k_=>some k_≠((.slice aw ab.length ax):Value).ownBlock) ap af)∧Aside0 (w'.heap[ao]?=some (.cells #[(.slice A0_0 l0_0.length c0_0)] 28 (0,0)))∧Aside0 (Below w.heap.size w w'))
  case atStart=>exact ⟨(⟨#[]⟩:ByteArray),(0),q5_0,q5_0,H',⟨Nat.le_refl _⟩,⟨pe ac.out⟩,⟨pe ad.out⟩,⟨pb aa.out⟩,⟨hq⟩⟩
  case round =>
   clear H';obtain ⟨ai,ag,rfl,rfl,HA,HK2,ac,ad,aa,HB⟩:=hrel
   cases gk with|zero=>exact absurd HA.out (by simp [spec_PictureOf.l1])|succ k2=>?_
   have H:=HA.out;clear HA;simp only [spec_PictureOf.l1] at H;replace H:=bs H;obtain ⟨aI,A17,H⟩:=H;(try dsimp only at H);obtain c18|c18:=nem (ag≤aI)
   ·rw [if_neg c18] at H;have a9:=df c18;clear c18;simp only [Option.some.injEq,Prod.mk.injEq] at H;obtain ⟨rfl,rfl⟩:=H;have bF:=bc aa.out;have bG:=blk_frozen aa.out 0
    go_wp2_with (first|((with_reducible refine gate_callee (f:=27) rfl ?_);refine gl (some 35) Try.func27 #[.agg #[.slice A0_0 l0_0.length c0_0]] ?_;(with_reducible refine (spec_l01Height.calls k2 _ _ l0_0 aI _ (pc (Kd.C_below au.out HB.out)) av.out A17.out).mono ?_);rintro e w44 ⟨rfl,hb⟩;refine ⟨_,rfl,?_⟩;replace ac:=rb ac hb;replace ad:=rb ad hb;replace aa:=bb aa hb;replace HB:=hbs hb;(try clear hb)))
    go_ret2
    exact ⟨ew,hq⟩
   rw [if_pos c18] at H;have a9:=dt c18;clear c18;obtain ⟨aV,hY⟩:∃ y_:List Int,y_=([]:List Int):=⟨_,rfl⟩;replace H:(spec_PictureOf.l2 k2 ab af al ai ag aV 0 l0_0)=some (r1,r2):=hh;have aW:=ak hY;clear hY;have H':=ak H;clear H;have bH:=bc aa.out;have bI:=blk_frozen aa.out 0
   go_wp2_with (first|((with_reducible refine gate_callee (f:=27) rfl ?_);refine gl (some 35) Try.func27 #[.agg #[.slice A0_0 l0_0.length c0_0]] ?_;(with_reducible refine (spec_l01Height.calls k2 _ _ l0_0 aI _ (pc (Kd.C_below au.out HB.out)) av.out A17.out).mono ?_);rintro e w20 ⟨rfl,hb⟩;refine ⟨_,rfl,?_⟩;replace ac:=rb ac hb;replace ad:=rb ad hb;replace aa:=bb aa hb;replace HB:=hbs hb;(try clear hb))|((with_reducible refine gate_dst (N:=39) rfl ?_);refine Kd.R_lit (Kd.int .u8) _ 5 ?hg (N:=39) ?hd (xs:=([]:List Int)) (inner:=[]) (ok:=fun _=>True) (okp:=fun _=>True) ?hr ?hp (fun _ hk=>hk) trivial (Below.refl _ _) (Nat.le_refl _) (by simp) ?_;(case hd=>rfl);(case hg=>rfl);(case hr=>exact gs);(case hp=>exact (Reps.none _ _));intro bJ w21 ho22 hb hg_ hnew_;clear hg_ hnew_;(first|rw [← aW.out] at ho22|(simp only [Int.reduceToNat] at ho22;rw [← aW.out] at ho22));replace ac:=rb ac hb;replace ad:=rb ad hb;have ba:=lw ho22;replace aa:=bb aa hb;replace HB:=hbs hb;clear hb ho22))
   go_loopg [10,11] k2 (fun kq v10 v11 w'=>∃ (ay:List Int) (az:Int),v11=.int .i64 az∧Aside0 (spec_PictureOf.l2 kq ab af al ai ag ay az l0_0=some (r1,r2))∧Aside0 (kq≤k2)∧Aside0 (Kd.R (Kd.int .i64) 2 w' w.heap.size (fun k_=>some k_≠(ap:Value).ownBlock) (.slice aw ab.length ax) ab)∧Aside0 (Kd.R (Kd.int .i64) 2 w' w.heap.size (fun k_=>some k_≠((.slice aw ab.length ax):Value).ownBlock) ap af)∧Aside0 (Kd.R (Kd.int .u8) 5 w' w.heap.size (fun _=>True) v10 ay)∧Aside0 (w'.heap[ao]?=some (.cells #[(.slice A0_0 l0_0.length c0_0)] 28 (0,0)))∧Aside0 (Below w.heap.size w w'))
   case atStart=>exact ⟨(aV),(0),q5_0,H',⟨Nat.le_refl _⟩,⟨pe ac.out⟩,⟨pe ad.out⟩,⟨pe ba.out⟩,⟨pb aa.out⟩,⟨hq⟩⟩
   case round =>
    clear H';obtain ⟨ay,az,rfl,HA,HK3,ac,ad,ah,aa,HB⟩:=hrel
    cases gk with|zero=>exact absurd HA.out (by simp [spec_PictureOf.l2])|succ k3=>?_
    have H:=HA.out;clear HA;simp only [spec_PictureOf.l2] at H
    by_cases c23:az<al
    ·rw [if_pos c23] at H;have bd:=dt c23;clear c23;replace H:=ifs H;obtain ⟨c24,H⟩:=H;have bf:=ak c24;clear c24;obtain ⟨aX,hY⟩:∃ y_:List Int,y_=(ay++[46]):=⟨_,rfl⟩;replace H:(spec_PictureOf.l2 k3 ab af al ai ag aX (wrap64 (az+1)) l0_0)=some (r1,r2):=hh;have bg:=ak hY;clear hY;have H':=ak H;clear H
     go_wp2_with (first|((with_reducible refine gate_builtin (b:=.append) (xs:=#[.tmp 45,.tmp 46]) rfl ?_);at_builtin;refine Kd.R_append (Kd.int .u8) (w0:=w) w.heap.size rfl (.tmp 45) (.tmp 46) 32 5 (.int .u8 0) 1 rfl Try.underlying32 info5 rfl dc (by omega) u10 ay 46 [.int .u8 46] (fun _=>True) (fun _=>False) rfl rfl ?aP (fun _ hk=>hk.elim) ?aF ?aO ?aB ?aS ?aL ?_;(case aP=>exact rfl);(case aB=>exact hq);(case aF=>exact (fun _ _=>trivial));(case aO=>exact (pe ah.out));(case aS=>exact (below_size hq));(case aL=>have:=bf.out;omega);intro bK w25 ho hb hg hat;rw [← bg.out] at ho;replace ac:=ak (Kd.R_over' (pe ac.out) (Kd.R_typed (pe ah.out)) dc hg);replace ad:=ak (Kd.R_over' (pe ad.out) (Kd.R_typed (pe ah.out)) dc hg);replace aa:=ak (blk_grown (g:=ao) (o:=.cells #[.slice A0_0 l0_0.length c0_0] 28 (0,0)) (pb aa.out) hg (Kd.R_ne ah.out aa.out dc));replace HB:=ak (hb);have bh:=ak (ho);clear ah;clear ho hb hg hat))
     go_roundg k3
     case measure=>have:=HK1.out;have:=HK2.out;have:=HK3.out;omega
     case rel=>exact ⟨(aX),(wrap64 (az+1)),q5_0,H',⟨by have:=HK1.out;have:=HK2.out;have:=HK3.out;omega⟩,⟨pe ac.out⟩,⟨pe ad.out⟩,⟨pe bh.out⟩,⟨pb aa.out⟩,⟨hq⟩⟩
    rw [if_neg c23] at H;have bd:=df c23;clear c23;have H':=ak H;clear H;go_wp2
    go_loopg [12] k3 (fun kq v12 w'=>∃ (aj:List Int) (ae:Int),v12=.int .i64 ae∧Aside0 (spec_PictureOf.l3 kq ab af al ai ag aj ae l0_0=some (r1,r2))∧Aside0 (kq≤k3)∧Aside0 (Kd.R (Kd.int .i64) 2 w' w.heap.size (fun k_=>some k_≠(ap:Value).ownBlock) (.slice aw ab.length ax) ab)∧Aside0 (Kd.R (Kd.int .i64) 2 w' w.heap.size (fun k_=>some k_≠((.slice aw ab.length ax):Value).ownBlock) ap af)∧Aside0 (Kd.R (Kd.int .u8) 5 w' w.heap.size (fun _=>True) u10 aj)∧Aside0 (w'.heap[ao]?=some (.cells #[(.slice A0_0 l0_0.length c0_0)] 28 (0,0)))∧Aside0 (Below w.heap.size w w'))
    case atStart=>exact ⟨(ay),(0),q5_0,H',⟨Nat.le_refl _⟩,⟨pe ac.out⟩,⟨pe ad.out⟩,⟨pe ah.out⟩,⟨pb aa.out⟩,⟨hq⟩⟩
    case round =>
     clear H';obtain ⟨aj,ae,rfl,HA,HK4,ac,ad,ah,aa,HB⟩:=hrel
     cases gk with|zero=>exact absurd HA.out (by simp [spec_PictureOf.l3])|succ k4=>?_
     have H:=HA.out;clear HA;simp only [spec_PictureOf.l3] at H;obtain c26|c26:=nem (ae<(ab.length:Int))
     ·rw [if_neg c26] at H;have bi:=df c26;clear c26;obtain c37|c37:=nem (ag>0)
      ·rw [if_neg c37] at H;have bj:decide (0<ag)=false:=decide_eq_false c37;clear c37;replace H:=ifs H;obtain ⟨c41,H⟩:=H;have bL:=eq_true c41;have bM:decide (ai.size+(strOfNums aj).size≤9223372036854775807)=true:=decide_eq_true c41
       try have bN:(9223372036854775807<ai.size+(strOfNums aj).size)=False:=eq_false (Nat.not_lt.2 c41)
       have H':=ak H;clear H;have hcv42:=own_string (P:=Try.prog) Try.underlying32 Try.underlying5 Try.underlying9 (Kd.own_of_R ah.out);go_wp2
       go_roundg k4
       case measure=>have:=HK1.out;have:=HK2.out;have:=HK3.out;have:=HK4.out;omega
       case rel=>exact ⟨(ai++(strOfNums aj)),(wrap64 (ag+1)),q5_0,q5_0,H',⟨q5_2⟩,⟨pe ac.out⟩,⟨pe ad.out⟩,⟨pb aa.out⟩,⟨hq⟩⟩
      rw [if_pos c37] at H;have bj:decide (0<ag)=true:=decide_eq_true c37;clear c37;replace H:=ifs H;obtain ⟨c38,H⟩:=H;have bO:=eq_true c38;have bP:decide (ai.size+1≤9223372036854775807)=true:=decide_eq_true c38
      try have bQ:(9223372036854775807<ai.size+1)=False:=eq_false (Nat.not_lt.2 c38)
      replace H:=ifs H;obtain ⟨c39,H⟩:=H;have bR:=eq_true c39;have bS:decide ((ai++(⟨#[47]⟩:ByteArray)).size+(strOfNums aj).size≤9223372036854775807)=true:=decide_eq_true c39
      try have bT:(9223372036854775807<(ai++(⟨#[47]⟩:ByteArray)).size+(strOfNums aj).size)=False:=eq_false (Nat.not_lt.2 c39)
      have H':=ak H;clear H;have hcv40:=own_string (P:=Try.prog) Try.underlying32 Try.underlying5 Try.underlying9 (Kd.own_of_R ah.out);go_wp2
      go_roundg k4
      case measure=>have:=HK1.out;have:=HK2.out;have:=HK3.out;have:=HK4.out;omega
      case rel=>exact ⟨((ai++(⟨#[47]⟩:ByteArray))++(strOfNums aj)),(wrap64 (ag+1)),q5_0,q5_0,H',⟨q5_2⟩,⟨pe ac.out⟩,⟨pe ad.out⟩,⟨pb aa.out⟩,⟨hq⟩⟩
     rw [if_pos c26] at H;have bi:=dt c26;clear c26;replace H:=ifs H;obtain ⟨c27,H⟩:=H;have bU:=dt c27;clear c27;replace H:=ifs H;obtain ⟨c28,H⟩:=H;have bV:=dt c28;clear c28;obtain c29|c29:=nem ((rd af ae)=ag)
     ·rw [if_neg c29] at H;have bk:((rd af ae) == ag)=false:=beq_eq_false_iff_ne.mpr c29;have bl:((rd af ae) != ag)=true:=bne_iff_ne.mpr c29;have H':=ak H;clear H;obtain ⟨bW,bX,bm⟩:=Kd.R_slice ad.out;subst bm;have aq:0≤(ae:Int):=od q5_1;have ar:ae<(af.length:Int):=od q5_1;(try (obtain ⟨Aop_,cop_,eop_⟩:=Kd.R_slice ad.out;subst eop_));obtain ⟨bo,aJ,bp⟩:=Kd.at_int (Kd.R_reads' ad.out).2.2 ae aq ar;cases aJ;replace aq:=eq_true aq;replace ar:=eq_true ar;go_wp2
      go_roundg k4
      case measure=>have:=HK1.out;have:=HK2.out;have:=HK3.out;have:=HK4.out;omega
      case rel=>exact ⟨(aj),(wrap64 (ae+1)),q5_0,H',⟨q5_2⟩,⟨pe ac.out⟩,⟨pe ad.out⟩,⟨pe ah.out⟩,⟨pb aa.out⟩,⟨hq⟩⟩
     rw [if_pos c29] at H;have bk:((rd af ae) == ag)=true:=beq_iff_eq.mpr c29;have bl:((rd af ae) != ag)=false:=bne_eq_false_iff_eq.mpr c29;clear c29;replace H:=ifs H;obtain ⟨c30,H⟩:=H;have bY:=dt c30;clear c30;replace H:=ifs H;obtain ⟨c31,H⟩:=H;have bZ:=dt c31;clear c31;obtain ⟨aK,hY⟩:∃ y_:List Int,y_=(aj.set ((rd ab ae):Int).toNat 111):=⟨_,rfl⟩;replace H:(spec_PictureOf.l3 k4 ab af al ai ag aK (wrap64 (ae+1)) l0_0)=some (r1,r2):=hh;have bq:=ak hY;clear hY;have H':=ak H;clear H;obtain ⟨b0,b1,br⟩:=Kd.R_slice ad.out;subst br;have aq:0≤(ae:Int):=od q5_1;have ar:ae<(af.length:Int):=od q5_1;(try (obtain ⟨Aop_,cop_,eop_⟩:=Kd.R_slice ad.out;subst eop_));obtain ⟨bo,aJ,bp⟩:=Kd.at_int (Kd.R_reads' ad.out).2.2 ae aq ar;cases aJ;replace aq:=eq_true aq;replace ar:=eq_true ar;have aM:0≤(ae:Int):=od q5_1;have aN:ae<(ab.length:Int):=od q5_1;(try (obtain ⟨Aop_,cop_,eop_⟩:=Kd.R_slice ac.out;subst eop_));obtain ⟨b2,bu,b3⟩:=Kd.at_int (Kd.R_reads' ac.out).2.2 ae aM aN;cases bu;replace aM:=eq_true aM;replace aN:=eq_true aN;have p32:0≤((rd ab ae):Int):=od q5_1;have q32:((rd ab ae):Int)<((aj.length:Int):Int):=od q5_1;obtain ⟨aC,aQ,aY,aZ,gl32,cl32,a1⟩:=Kd.R_form ah.out (by omega);(first|cases aY|(injection aY with ea_ en_ ec_;(first|subst ea_|(injection ea_ with ea_;subst ea_));subst ec_;clear en_));have GB32:=ak aZ;have b4:=ak a1;clear aZ gl32 a1;obtain ⟨b5,b6⟩:=Kd.R_celln 0 ah.out ((rd ab ae):Int) p32 q32;replace p32:=eq_true p32;replace q32:=eq_true q32;have aR:=Kd.R_putg ah.out ((rd ab ae):Int) 111
     go_wp2_with (first|((with_reducible refine gate_store (t:=5) (p:=65) rfl ?_);refine store_event (t:=5) (p:=65) (v:=?vo_w35) (w1:=(wr.setCell ⟨aC,((rd ab ae):Int).toNat,none⟩ (.int .u8 111))) ?hg ?ho ?hn ?hr ?_;(case ho=>rfl);(case hg=>rfl);(case hn=>rfl);(case hr=>exact gs);intro w35 hw;have hg:wr.grownBy w35 (some aC):=(by rw [hw];exact aR.2);have hp_:Kd.R (Kd.int .u8) 5 w35 w.heap.size (fun _=>True) (.slice (some ⟨aC,0,none⟩) aj.length aQ) aK:=(by rw [hw,bq.out];exact aR.1);clear aR;replace ac:=ak (Kd.R_over' (v:=(.slice (some ⟨aC,0,none⟩) aj.length aQ)) (pe ac.out) (Kd.R_typed ah.out) dc hg);replace ad:=ak (Kd.R_over' (v:=(.slice (some ⟨aC,0,none⟩) aj.length aQ)) (pe ad.out) (Kd.R_typed ah.out) dc hg);replace aa:=ak (blk_grown (g:=ao) (o:=.cells #[.slice A0_0 l0_0.length c0_0] 28 (0,0)) (pb aa.out) hg (Kd.R_ne ah.out aa.out dc));replace ah:=ak (hp_);replace HB:=ak (by rw [hw];exact below_set (HB.out) GB32.out:Below w.heap.size w w35);clear hg hw hp_))
     go_roundg k4
     case measure=>have:=HK1.out;have:=HK2.out;have:=HK3.out;have:=HK4.out;omega
     case rel=>exact ⟨(aK),(wrap64 (ae+1)),q5_0,H',⟨q5_2⟩,⟨pe ac.out⟩,⟨pe ad.out⟩,⟨pe ah.out⟩,⟨pb aa.out⟩,⟨hq⟩⟩
end Go.Proofs.Ytimfbpmaepmdoaa.QFnDrawings
