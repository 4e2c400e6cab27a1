/- Functions as Lean functions, with their contracts: written by a program of this claim over the translation; some contracts are proved by hand. -/
import Derived.Test.YtlppkilencpmeaaGreatQFnGrowingx0
import Derived.Test.YtlppkilencpmeaaGreatQFnGrowingx1
import Derived.Test.YtlppkilencpmeaaGreatQFnGrowingx2
namespace Go.Proofs.YtlppkilencpmeaaGreat.QFnGrowing
open Go.RowKit Go.Proofs.YtlppkilencpmeaaGreat.Gl Go.Proofs.YtlppkilencpmeaaGreat.Sz Go.Proofs.YtlppkilencpmeaaGreatW.PrintWords Go.Proofs.YtlppkilencpmeaaGreatW.PrintLast Go.Proofs.YtlppkilencpmeaaGreatW.PrintMore
attribute [local go_sem] max2_int min2_int max_two min_two max_three min_three max_four min_four   -- for this text's walks alone
set_option linter.unusedVariables false
set_option linter.unusedSimpArgs false
theorem q20_0 {P:Prop} (h:P:=by first|(with_reducible assumption)|assumption):P:=h
theorem q20_1 {P:Prop} (h:P:=by first|exact Kd.R_nil _ _ _ _ _|exact Kd.N_nil _ _ _ _ _|exact Kd.V_nil _ _ _ _ _|exact Kd.Q_nil _ _ _ _ _|exact Kd.S_nil _ _ _ _ _):P:=h
theorem q20_2 {P:Prop} (h:P:=by first|rfl|(simp [errW_none,errW_some] <;> rfl)|(simp only [← ao];first|rfl|(simp [errW_none,errW_some] <;> rfl))|(simp [*,errW_none,errW_some] <;> rfl)):P:=h
set_option maxHeartbeats 8000000
set_option maxRecDepth 100000
def impl_ExchangeAt.j0:Nat→List Int→Int→Bool→List Int→Option (List Int × Int)
 | 0,_,_,_,_=>none
 | k+1,x1,x2,x24,x732000=>if x24=true then (some (([]:List Int),2)) else ((impl_isGrowing.f k x732000 x1).bind fun t733=>(if t733=true then ((impl_parentsOf.f k x732000).bind fun t734=>(if 0≤(wrap64 (x2+1)) then (if (wrap64 (x2+1))<(x1.length:Int) then (if 0≤(rd x1 (wrap64 (x2+1))) then (if (rd x1 (wrap64 (x2+1)))<(t734.length:Int) then (if 0≤x2 then (if x2<(x1.length:Int) then (if (rd t734 (rd x1 (wrap64 (x2+1))))=(rd x1 x2) then (some (([]:List Int),5)) else ((slices_Clone.f x1).bind fun t740=>(if (wrap64 (x2+1))<(t740.length:Int) then (if x2<(t740.length:Int) then (some (((t740.set (x2:Int).toNat (rd t740 (wrap64 (x2+1)))).set ((wrap64 (x2+1)):Int).toNat (rd t740 x2)),0)) else (none)) else (none)))) else (none)) else (none)) else (none)) else (none)) else (none)) else (none))) else (some (([]:List Int),5))))
def impl_ExchangeAt.f (k:Nat) (l0_0:List Int) (l1:List Int) (a2:Int):Option (List Int × Int):=(impl_orderCode.f k l0_0 l1).bind fun t732=>(if t732=0 then (if a2<0 then (impl_ExchangeAt.j0 k l1 a2 true l0_0) else (impl_ExchangeAt.j0 k l1 a2 (decide (a2>(wrap64 ((l1.length:Int) - 2)))) l0_0)) else (some (([]:List Int),t732)))
def impl_ExchangeAt.T6:Bool × List (List Nat × List Nat):=(true,[([],[]),([0],[0]),([],[]),([1,2],[1,2]),([3],[3]),([4,3],[4]),([5],[5]),([6,5],[5,6]),([7,5,5],[5,7]),([5],[5]),([5],[5]),([10,5],[5,10]),([9,11,5],[5,9,11]),([12,5],[5,12]),([8,13,5],[5,8,13]),([14,5],[5,14]),([5],[5]),([5],[5]),([16,17,5],[5,16,17]),([18,5],[5,18]),([15,19,5],[5,15,19]),([5,20],[5,20])])
def impl_ExchangeAt.B6:List Nat:=[0,1,0,7,15,31,63,127,255,63,63,1087,3647,7743,16383,32767,63,63,196671,458815,1048575,2097151]
theorem impl_ExchangeAt.tab6:rtab .any (opsOf Tryz.f34 6)=impl_ExchangeAt.T6:=by kernel_rfl
theorem impl_ExchangeAt.bits6:waitsOk impl_ExchangeAt.T6.2 impl_ExchangeAt.B6=true:=by kernel_rfl
def impl_ExchangeAt.T9:Bool × List (List Nat × List Nat):=(true,[([],[]),([],[]),([],[]),([],[]),([3],[3]),([],[]),([],[]),([6],[6]),([5,7],[5,7]),([8],[8]),([],[]),([],[]),([10,11],[10,11]),([12],[12]),([0,1,0,1,5,6,7,8,9,13],[0,1]),([14,9,0,1,5,6,7,8,9,13],[9,14]),([2,4,0,1,2,3,4,5,6,7,8,9,10,11,12,13,14,15],[2,4]),([16,13,15,0,1,2,3,4,5,6,7,8,9,10,11,12,13,14,15],[13,16])])
def impl_ExchangeAt.B9:List Nat:=[0,0,0,0,8,0,0,64,224,480,0,0,3072,7168,16355,32739,65535,131071]
theorem impl_ExchangeAt.tab9:rtab .any (opsOf Tryz.f34 9)=impl_ExchangeAt.T9:=by kernel_rfl
theorem impl_ExchangeAt.bits9:waitsOk impl_ExchangeAt.T9.2 impl_ExchangeAt.B9=true:=by kernel_rfl
theorem impl_ExchangeAt.calls (k:Nat) (A0_0:Option Addr) (c0_0:Nat) (l0_0:List Int) (A1:Option Addr) (c1:Nat) (l1:List Int) (a2:Int) (r1:List Int) (r2:Int) (w:World) (hr0_0:Kd.C (Kd.int .i64) w A0_0 l0_0.length l0_0) (hc0_0:l0_0.length≤c0_0) (hr1:Kd.C (Kd.int .i64) w A1 l1.length l1) (hc1:l1.length≤c1) (h:impl_ExchangeAt.f k l0_0 l1 a2=some (r1,r2)) :
  Calls Tryz.prog 34 #[.agg #[.slice A0_0 l0_0.length c0_0],.slice A1 l1.length c1,.int .i64 a2] w fun e w'=>∃ v0_:Value,e=.returned (.tuple #[v0_,.int .i64 r2])∧Kd.R (Kd.int .i64) 2 w' w.heap.size (fun _=>True) v0_ r1∧Below w.heap.size w w':=by
 have hu27:=Tryz.underlying27;have al:=ak hr0_0;have an:=ak hc0_0;clear hr0_0 hc0_0;have HR1:=ak hr1;have HC1:=ak hc1;clear hr1 hc1;have HB:=ak (Below.refl w.heap.size w);have H:((impl_orderCode.f k l0_0 l1).bind fun aj=>(if aj=0 then (if a2<0 then (impl_ExchangeAt.j0 k l1 a2 true l0_0) else (impl_ExchangeAt.j0 k l1 a2 (decide (a2>(wrap64 ((l1.length:Int) - 2)))) l0_0)) else (some (([]:List Int),aj))))=some (r1,r2):=h;clear h;replace H:=bs H;obtain ⟨aj,A4,H⟩:=H;(try dsimp only at H);obtain c5|c5:=nem (aj=0)
 ·rw [if_neg c5] at H;have aZ:(aj == 0)=false:=beq_eq_false_iff_ne.mpr c5;have a3:(aj != 0)=true:=bne_iff_ne.mpr c5;simp only [Option.some.injEq,Prod.mk.injEq] at H;obtain ⟨rfl,rfl⟩:=H
  go_enter Tryz.func34,Tryz.ntmps34
  go_wp2_with (first|((with_reducible refine gate_dst (N:=3) rfl ?_);(try (refine gate_guard (by rfl) ?_;dsimp only));refine bev (N:=3) (cs:=#[.slice A0_0 l0_0.length c0_0]) (t:=27) ?_;intro ax hg w43 hbox hb;have aa:=ak (hbox);have a4:=gbe hg;have a5:=gbe hg;replace HB:=hbs hb;clear hb hbox hg;have bp:=bc aa.out;have bq:=blk_frozen aa.out 0)|((with_reducible refine gate_callee (f:=55) rfl ?_);refine gl (some 12) Tryz.func55 #[.agg #[.slice A0_0 l0_0.length c0_0],.slice A1 l1.length c1] ?_;(with_reducible refine (impl_orderCode.calls k _ _ l0_0 _ _ l1 aj _ (pc (Kd.C_below al.out HB.out)) an.out (pc (Kd.C_below HR1.out HB.out)) HC1.out A4.out).mono ?_);rintro e w45 ⟨rfl,hb⟩;refine ⟨_,rfl,?_⟩;replace aa:=bb aa hb;replace HB:=hbs hb;(try clear hb)))
  go_ret2
  exact ⟨_,ew,q20_1,hq⟩
 rw [if_pos c5] at H;have aZ:=be c5;have a3:=bn c5;clear c5;have HC6:=ak H;clear H
 go_enter Tryz.func34,Tryz.ntmps34
 go_upto_region 4 with (first|((with_reducible refine gate_dst (N:=3) rfl ?_);(try (refine gate_guard (by rfl) ?_;dsimp only));refine bev (N:=3) (cs:=#[.slice A0_0 l0_0.length c0_0]) (t:=27) ?_;intro ax hg w7 hbox hb;have aa:=ak (hbox);have a4:=gbe hg;have a5:=gbe hg;replace HB:=hbs hb;clear hb hbox hg;have br:=bc aa.out;have bu:=blk_frozen aa.out 0)|((with_reducible refine gate_callee (f:=55) rfl ?_);refine gl (some 12) Tryz.func55 #[.agg #[.slice A0_0 l0_0.length c0_0],.slice A1 l1.length c1] ?_;(with_reducible refine (impl_orderCode.calls k _ _ l0_0 _ _ l1 aj _ (pc (Kd.C_below al.out HB.out)) an.out (pc (Kd.C_below HR1.out HB.out)) HC1.out A4.out).mono ?_);rintro e w9 ⟨rfl,hb⟩;refine ⟨_,rfl,?_⟩;replace aa:=bb aa hb;replace HB:=hbs hb;(try clear hb)))
 (try simp only [Act.put,List.setIfInBounds_toArray,List.set_cons_zero,List.set_cons_succ])
 go_cut [24] (fun v24 wc=>∃ (kq:Nat) (az:Bool),v24=.bool az∧Aside0 (impl_ExchangeAt.j0 kq l1 a2 az l0_0=some (r1,r2))∧Aside0 (kq≤k)∧Aside0 (wc.heap[ax]?=some (.cells #[(.slice A0_0 l0_0.length c0_0)] 27 (0,0)))∧Aside0 (Below w.heap.size w wc))
 case first =>
  have H:=HC6.out;clear HC6
  by_cases c10:a2<0
  ·rw [if_pos c10] at H;have ay:=dt c10;clear c10;(first|rw [ay]|(simp only [i64_w,i32_w];rw [ay])|skip);have H':=ak H;clear H;go_wp2
   go_meet
   case rel=>exact ⟨_,(true),(by first|rfl|(simp;done)|(simp [*];done)),H',⟨by first|omega|exact Nat.le_refl _⟩,⟨pb aa.out⟩,⟨hq⟩⟩
  rw [if_neg c10] at H;have ay:=df c10;clear c10;(first|rw [ay]|(simp only [i64_w,i32_w];rw [ay])|skip);have H':=ak H;clear H;go_wp2
  go_meet
  case rel=>exact ⟨_,(decide (a2>(wrap64 ((l1.length:Int) - 2)))),(by first|rfl|(simp;done)|(simp [*];done)),H',⟨by first|omega|exact Nat.le_refl _⟩,⟨pb aa.out⟩,⟨hq⟩⟩
 clear HC6;obtain ⟨kq,az,rfl,HA,HJ5,aa,HB⟩:=hcut
 cases kq with|zero=>exact absurd HA.out (by simp [impl_ExchangeAt.j0])|succ kj5=>?_
 have H:=HA.out;clear HA;simp only [impl_ExchangeAt.j0] at H
 by_cases c11:az=true
 ·subst c11;replace H:(some (([]:List Int),2))=some (r1,r2):=by rw [if_pos rfl] at H;exact H
  simp only [Option.some.injEq,Prod.mk.injEq] at H;obtain ⟨rfl,rfl⟩:=H;go_wp2
  go_ret2
  exact ⟨_,ew,q20_1,hq⟩
 replace c11:=Bool.eq_false_iff.mpr c11;subst c11;have H1:((impl_isGrowing.f kj5 l0_0 l1).bind fun aA=>(if aA=true then ((impl_parentsOf.f kj5 l0_0).bind fun ad=>(if 0≤(wrap64 (a2+1)) then (if (wrap64 (a2+1))<(l1.length:Int) then (if 0≤(rd l1 (wrap64 (a2+1))) then (if (rd l1 (wrap64 (a2+1)))<(ad.length:Int) then (if 0≤a2 then (if a2<(l1.length:Int) then (if (rd ad (rd l1 (wrap64 (a2+1))))=(rd l1 a2) then (some (([]:List Int),5)) else ((slices_Clone.f l1).bind fun ac=>(if (wrap64 (a2+1))<(ac.length:Int) then (if a2<(ac.length:Int) then (some (((ac.set (a2:Int).toNat (rd ac (wrap64 (a2+1)))).set ((wrap64 (a2+1)):Int).toNat (rd ac a2)),0)) else (none)) else (none)))) else (none)) else (none)) else (none)) else (none)) else (none)) else (none))) else (some (([]:List Int),5))))=some (r1,r2):=by rw [if_neg (show ¬ (false=true) by decide)] at H;exact H
 clear H;have H:=H1;clear H1;replace H:=bs H;obtain ⟨aA,A12,H⟩:=H;(try dsimp only at H);obtain c13|c13:=nem (aA=true)
 ·replace c13:=Bool.eq_false_iff.mpr c13;subst c13;have H1:(some (([]:List Int),5))=some (r1,r2):=by rw [if_neg (show ¬ (false=true) by decide)] at H;exact H
  clear H;have H:=H1;clear H1;simp only [Option.some.injEq,Prod.mk.injEq] at H;obtain ⟨rfl,rfl⟩:=H
  try go_wp2
  have n0_:=ak (blk_drew aa.out);have n1_:=ak (below_drew1 HB.out);clear aa HB;have aa:=n0_;have HB:=n1_;clear n0_ n1_
  refine start_ (n:=22) (S:=fun w'=>w'.cell? ⟨ax,0,none⟩=some (.slice A0_0 l0_0.length c0_0)) (ds:=[]) #[false,false,false,false,false,false,false,false,false,false,false,false,false,false,false,false,false,false,false,false,false,false] kr rfl rfl ((blk_cell aa.out 0).trans rfl) (fun hHeld=>?_);refine with_tabW impl_ExchangeAt.tab6 impl_ExchangeAt.bits6 (fun HT_ HW_=>?_)
  generalize wc.drew=w41 at aa HB hHeld ⊢
  refine pur (i:=0) (N:=some 25) (v:=?_) (a':=?_) (tf 1 21) rfl (Or.inl ⟨by rfl,?_⟩) ?_ ?_
  rotate_left
  ·intro w'
   go_simp
   with_reducible rfl
  rotate_left
  ·simp only [Act.put,sIB,sc0,scs,i64_w,i32_w]
   rfl
  refine pur (i:=2) (N:=some 27) (v:=?_) (a':=?_) #[true,false,true,false,false,false,false,false,false,false,false,false,false,false,false,false,false,false,false,false,false,false] rfl (Or.inl ⟨by rfl,?_⟩) ?_ ?_
  rotate_left
  ·intro w'
   go_simp
   with_reducible rfl
  rotate_left
  ·simp only [Act.put,sIB,sc0,scs,i64_w,i32_w]
   rfl
  refine take_ (i:=1) (N:=some 26) (v:=?_) (a':=?_) (tf 3 19) rfl rfl (take_ofW HT_.out HW_.out kr) (fun _ _ _ h=>h) (Or.inl ⟨by rfl,?_⟩) hHeld ?_ ?_
  rotate_left
  ·intro w' s0
   go_simp
   with_reducible rfl
  rotate_left
  ·simp only [Act.put,sIB,sc0,scs,i64_w,i32_w]
   rfl
  refine one_ (i:=3) (N:=some 28) (tf 4 18) rfl rfl (one_of HT_.out kr) dc (fun K hK=>?_)
  refine goes_ Tryz.func56 kr rfl #[.slice A0_0 l0_0.length c0_0,.slice A1 l1.length c1] (by rfl) rfl rfl am ?_
  with_reducible refine (impl_isGrowing.calls kj5 _ _ l0_0 _ _ l1 false _ ?side1 ?side2 ?side3 ?side4 A12.out).mono ?_
  (case side1=>exact pc (Kd.C_below al.out HB.out))
  (case side2=>exact an.out)
  (case side3=>exact pc (Kd.C_below HR1.out HB.out))
  (case side4=>exact HC1.out)
  rintro e w42 ⟨rfl,hb⟩
  refine ⟨_,rfl,?_⟩
  have n0_:=bb aa hb;have n1_:=hbs hb;clear aa HB;have aa:=n0_;have HB:=n1_;clear n0_ n1_;(try clear hb);(try clear hb2);(try clear hk);(try clear hi)
  refine hK.out _ _ ((blk_cell aa.out 0).trans rfl) (fun hHeld=>?_)
  clear hK K
  refine norm_ (a':=?_) ?_ ?_
  rotate_left
  ·show Act.put _ (some 28) _=_;simp only [Act.put,sIB,sc0,scs,i64_w,i32_w]
   rfl
  refine pur (i:=4) (N:=some 29) (v:=?_) (a':=?_) (tf 5 17) rfl (Or.inl ⟨by rfl,?_⟩) ?_ ?_
  rotate_left
  ·intro w'
   go_simp
   with_reducible rfl
  rotate_left
  ·simp only [Act.put,sIB,sc0,scs,i64_w,i32_w]
   rfl
  refine pur (i:=5) (N:=some 30) (v:=?_) (a':=?_) (tf 6 16) rfl (Or.inl ⟨by rfl,?_⟩) ?_ ?_
  rotate_left
  ·intro w'
   go_simp
   with_reducible rfl
  rotate_left
  ·simp only [Act.put,sIB,sc0,scs,i64_w,i32_w]
   rfl
  refine pure_ (i:=6) (N:=some 31) (v:=undef) (a':=?_) (tf 7 15) rfl rfl (any_of HT_.out kr) (fun _ _ _ h=>h) (Or.inr ⟨by rfl,rfl⟩) ?_ ?_
  rotate_left
  ·simp only [Act.put,sIB,sc0,scs,i64_w,i32_w]
   rfl
  refine pure_ (i:=7) (N:=some 32) (v:=undef) (a':=?_) (tf 8 14) rfl rfl (any_of HT_.out kr) (fun _ _ _ h=>h) (Or.inr ⟨by rfl,rfl⟩) ?_ ?_
  rotate_left
  ·simp only [Act.put,sIB,sc0,scs,i64_w,i32_w]
   rfl
  refine pure_ (i:=8) (N:=some 33) (v:=undef) (a':=?_) (tf 9 13) rfl rfl (any_of HT_.out kr) (fun _ _ _ h=>h) (Or.inr ⟨by rfl,rfl⟩) ?_ ?_
  rotate_left
  ·simp only [Act.put,sIB,sc0,scs,i64_w,i32_w]
   rfl
  refine pure_ (i:=9) (N:=some 34) (v:=undef) (a':=?_) (tf 10 12) rfl rfl (any_of HT_.out kr) (fun _ _ _ h=>h) (Or.inr ⟨by rfl,rfl⟩) ?_ ?_
  rotate_left
  ·simp only [Act.put,sIB,sc0,scs,i64_w,i32_w]
   rfl
  refine pure_ (i:=10) (N:=some 35) (v:=undef) (a':=?_) (tf 11 11) rfl rfl (any_of HT_.out kr) (fun _ _ _ h=>h) (Or.inr ⟨by rfl,rfl⟩) ?_ ?_
  rotate_left
  ·simp only [Act.put,sIB,sc0,scs,i64_w,i32_w]
   rfl
  refine pure_ (i:=11) (N:=some 36) (v:=undef) (a':=?_) (tf 12 10) rfl rfl (any_of HT_.out kr) (fun _ _ _ h=>h) (Or.inr ⟨by rfl,rfl⟩) ?_ ?_
  rotate_left
  ·simp only [Act.put,sIB,sc0,scs,i64_w,i32_w]
   rfl
  refine pure_ (i:=12) (N:=some 37) (v:=undef) (a':=?_) (tf 13 9) rfl rfl (any_of HT_.out kr) (fun _ _ _ h=>h) (Or.inr ⟨by rfl,rfl⟩) ?_ ?_
  rotate_left
  ·simp only [Act.put,sIB,sc0,scs,i64_w,i32_w]
   rfl
  refine pure_ (i:=13) (N:=some 38) (v:=undef) (a':=?_) (tf 14 8) rfl rfl (any_of HT_.out kr) (fun _ _ _ h=>h) (Or.inr ⟨by rfl,rfl⟩) ?_ ?_
  rotate_left
  ·simp only [Act.put,sIB,sc0,scs,i64_w,i32_w]
   rfl
  refine pure_ (i:=14) (N:=some 39) (v:=undef) (a':=?_) (tf 15 7) rfl rfl (any_of HT_.out kr) (fun _ _ _ h=>h) (Or.inr ⟨by rfl,rfl⟩) ?_ ?_
  rotate_left
  ·simp only [Act.put,sIB,sc0,scs,i64_w,i32_w]
   rfl
  refine pure_ (i:=15) (N:=some 40) (v:=undef) (a':=?_) (tf 16 6) rfl rfl (any_of HT_.out kr) (fun _ _ _ h=>h) (Or.inr ⟨by rfl,rfl⟩) ?_ ?_
  rotate_left
  ·simp only [Act.put,sIB,sc0,scs,i64_w,i32_w]
   rfl
  refine pure_ (i:=16) (N:=some 41) (v:=undef) (a':=?_) (tf 17 5) rfl rfl (any_of HT_.out kr) (fun _ _ _ h=>h) (Or.inr ⟨by rfl,rfl⟩) ?_ ?_
  rotate_left
  ·simp only [Act.put,sIB,sc0,scs,i64_w,i32_w]
   rfl
  refine pure_ (i:=17) (N:=some 42) (v:=undef) (a':=?_) (tf 18 4) rfl rfl (any_of HT_.out kr) (fun _ _ _ h=>h) (Or.inr ⟨by rfl,rfl⟩) ?_ ?_
  rotate_left
  ·simp only [Act.put,sIB,sc0,scs,i64_w,i32_w]
   rfl
  refine pure_ (i:=18) (N:=some 43) (v:=undef) (a':=?_) (tf 19 3) rfl rfl (any_of HT_.out kr) (fun _ _ _ h=>h) (Or.inr ⟨by rfl,rfl⟩) ?_ ?_
  rotate_left
  ·simp only [Act.put,sIB,sc0,scs,i64_w,i32_w]
   rfl
  refine pure_ (i:=19) (N:=some 44) (v:=undef) (a':=?_) (tf 20 2) rfl rfl (any_of HT_.out kr) (fun _ _ _ h=>h) (Or.inr ⟨by rfl,rfl⟩) ?_ ?_
  rotate_left
  ·simp only [Act.put,sIB,sc0,scs,i64_w,i32_w]
   rfl
  refine pure_ (i:=20) (N:=some 45) (v:=undef) (a':=?_) (tf 21 1) rfl rfl (any_of HT_.out kr) (fun _ _ _ h=>h) (Or.inr ⟨by rfl,rfl⟩) ?_ ?_
  rotate_left
  ·simp only [Act.put,sIB,sc0,scs,i64_w,i32_w]
   rfl
  refine pur (i:=21) (N:=some 46) (v:=?_) (a':=?_) (tf 22 0) rfl (Or.inl ⟨by rfl,?_⟩) ?_ ?_
  rotate_left
  ·intro w'
   go_simp
   with_reducible rfl
  rotate_left
  ·simp only [Act.put,sIB,sc0,scs,i64_w,i32_w]
   rfl
  refine done_ (done_of HT_.out kr) ?_
  try go_wp2
  go_ret2
  exact ⟨_,ew,q20_1,hq⟩
 subst c13;replace H:((impl_parentsOf.f kj5 l0_0).bind fun ad=>(if 0≤(wrap64 (a2+1)) then (if (wrap64 (a2+1))<(l1.length:Int) then (if 0≤(rd l1 (wrap64 (a2+1))) then (if (rd l1 (wrap64 (a2+1)))<(ad.length:Int) then (if 0≤a2 then (if a2<(l1.length:Int) then (if (rd ad (rd l1 (wrap64 (a2+1))))=(rd l1 a2) then (some (([]:List Int),5)) else ((slices_Clone.f l1).bind fun ac=>(if (wrap64 (a2+1))<(ac.length:Int) then (if a2<(ac.length:Int) then (some (((ac.set (a2:Int).toNat (rd ac (wrap64 (a2+1)))).set ((wrap64 (a2+1)):Int).toNat (rd ac a2)),0)) else (none)) else (none)))) else (none)) else (none)) else (none)) else (none)) else (none)) else (none)))=some (r1,r2):=by rw [if_pos rfl] at H;exact H
 replace H:=bs H;obtain ⟨ad,A14,H⟩:=H;(try dsimp only at H);obtain ⟨ab,ao⟩:∃ j_:Int,(wrap64 (a2+1))=j_:=⟨_,rfl⟩;(first|rw [ao] at H|simp only [ao] at H);(try rw [ao] at A12);(try rw [ao] at A14);have hji15w:(IntKind.i64.wrap (a2+1))=ab:=(i64_w _).trans ao;replace H:=ifs H;obtain ⟨c16,H⟩:=H;have bv:=dt c16;clear c16;replace H:=ifs H;obtain ⟨c17,H⟩:=H;have bw:=dt c17;clear c17;replace H:=ifs H;obtain ⟨c18,H⟩:=H;have bx:=dt c18;clear c18;replace H:=ifs H;obtain ⟨c19,H⟩:=H;have bz:=dt c19;clear c19;replace H:=ifs H;obtain ⟨c20,H⟩:=H;have bA:=dt c20;clear c20;replace H:=ifs H;obtain ⟨c21,H⟩:=H;have bB:=dt c21;clear c21
 by_cases c22:(rd ad (rd l1 (ab)))=(rd l1 a2)
 ·rw [if_pos c22] at H;have a6:((rd ad (rd l1 (ab))) == (rd l1 a2))=true:=beq_iff_eq.mpr c22;have a7:((rd ad (rd l1 (ab))) != (rd l1 a2))=false:=bne_eq_false_iff_eq.mpr c22;clear c22;simp only [Option.some.injEq,Prod.mk.injEq] at H;obtain ⟨rfl,rfl⟩:=H
  try go_wp2
  have n0_:=ak (blk_drew aa.out);have n1_:=ak (below_drew1 HB.out);clear aa HB;have aa:=n0_;have HB:=n1_;clear n0_ n1_;have ap:0≤((ab):Int):=od q20_0;have aq:(ab)<(l1.length:Int):=od q20_0;obtain ⟨ah,aB,af⟩:=Kd.at_int HR1.out (ab) ap aq;have hw737_0:=af;cases aB;replace af:=(HB.out.cell (World.block_lt_of_cell? w _ af)).trans af;replace ap:=eq_true ap;replace aq:=eq_true aq;have ar:0≤(a2:Int):=od q20_0;have au:a2<(l1.length:Int):=od q20_0;obtain ⟨aC,aD,ag⟩:=Kd.at_int HR1.out a2 ar au;have hw739_0:=ag;obtain rfl:ah=aC:=(by injection aD);replace ag:=(HB.out.cell (World.block_lt_of_cell? w _ ag)).trans ag;replace ar:=eq_true ar;replace au:=eq_true au
  refine start_ (n:=22) (S:=fun w'=>w'.cell? ⟨ax,0,none⟩=some (.slice A0_0 l0_0.length c0_0)∧w'.cell? (ah.add (ab).toNat)=some (.int .i64 (rd l1 (ab)))∧w'.cell? (ah.add (a2).toNat)=some (.int .i64 (rd l1 a2))) (ds:=[]) #[false,false,false,false,false,false,false,false,false,false,false,false,false,false,false,false,false,false,false,false,false,false] kr rfl rfl ⟨(blk_cell aa.out 0).trans rfl,((HB.out.cell (World.block_lt_of_cell? w _ hw737_0)).trans hw737_0),((HB.out.cell (World.block_lt_of_cell? w _ hw739_0)).trans hw739_0)⟩ (fun hHeld=>?_);refine with_tabW impl_ExchangeAt.tab6 impl_ExchangeAt.bits6 (fun HT_ HW_=>?_)
  generalize wc.drew=w23 at aa HB af ag hHeld ⊢
  refine pur (i:=0) (N:=some 25) (v:=?_) (a':=?_) (tf 1 21) rfl (Or.inl ⟨by rfl,?_⟩) ?_ ?_
  rotate_left
  ·intro w'
   go_simp
   with_reducible rfl
  rotate_left
  ·simp only [Act.put,sIB,sc0,scs,i64_w,i32_w]
   rfl
  refine pur (i:=2) (N:=some 27) (v:=?_) (a':=?_) #[true,false,true,false,false,false,false,false,false,false,false,false,false,false,false,false,false,false,false,false,false,false] rfl (Or.inl ⟨by rfl,?_⟩) ?_ ?_
  rotate_left
  ·intro w'
   go_simp
   with_reducible rfl
  rotate_left
  ·simp only [Act.put,sIB,sc0,scs,i64_w,i32_w]
   rfl
  refine take_ (i:=1) (N:=some 26) (v:=?_) (a':=?_) (tf 3 19) rfl rfl (take_ofW HT_.out HW_.out kr) (fun _ _ _ h=>h) (Or.inl ⟨by rfl,?_⟩) hHeld ?_ ?_
  rotate_left
  ·rintro w' ⟨s0,s1,s3⟩
   go_simp
   with_reducible rfl
  rotate_left
  ·simp only [Act.put,sIB,sc0,scs,i64_w,i32_w]
   rfl
  refine one_ (i:=3) (N:=some 28) (tf 4 18) rfl rfl (one_of HT_.out kr) dc (fun K hK=>?_)
  refine goes_ Tryz.func56 kr rfl #[.slice A0_0 l0_0.length c0_0,.slice (some ah) l1.length c1] (by rfl) rfl rfl am ?_
  with_reducible refine (impl_isGrowing.calls kj5 _ _ l0_0 _ _ l1 true _ ?side1 ?side2 ?side3 ?side4 A12.out).mono ?_
  (case side1=>exact pc (Kd.C_below al.out HB.out))
  (case side2=>exact an.out)
  (case side3=>exact pc (Kd.C_below HR1.out HB.out))
  (case side4=>exact HC1.out)
  rintro e w24 ⟨rfl,hb⟩
  refine ⟨_,rfl,?_⟩
  have n0_:=bb aa hb;have n1_:=hbs hb;clear aa HB;have aa:=n0_;have HB:=n1_;clear n0_ n1_;(try clear hb);(try clear hb2);(try clear hk);(try clear hi)
  refine hK.out _ _ ⟨(blk_cell aa.out 0).trans rfl,((HB.out.cell (World.block_lt_of_cell? w _ hw737_0)).trans hw737_0),((HB.out.cell (World.block_lt_of_cell? w _ hw739_0)).trans hw739_0)⟩ (fun hHeld=>?_)
  clear hK K
  refine norm_ (a':=?_) ?_ ?_
  rotate_left
  ·show Act.put _ (some 28) _=_;simp only [Act.put,sIB,sc0,scs,i64_w,i32_w]
   rfl
  refine pur (i:=4) (N:=some 29) (v:=?_) (a':=?_) (tf 5 17) rfl (Or.inl ⟨by rfl,?_⟩) ?_ ?_
  rotate_left
  ·intro w'
   go_simp
   with_reducible rfl
  rotate_left
  ·simp only [Act.put,sIB,sc0,scs,i64_w,i32_w]
   rfl
  refine pur (i:=5) (N:=some 30) (v:=?_) (a':=?_) (tf 6 16) rfl (Or.inl ⟨by rfl,?_⟩) ?_ ?_
  rotate_left
  ·intro w'
   go_simp
   with_reducible rfl
  rotate_left
  ·simp only [Act.put,sIB,sc0,scs,i64_w,i32_w]
   rfl
  refine pur (i:=6) (N:=some 31) (v:=?_) (a':=?_) (tf 7 15) rfl (Or.inl ⟨by rfl,?_⟩) ?_ ?_
  rotate_left
  ·intro w'
   go_simp
   with_reducible rfl
  rotate_left
  ·simp only [Act.put,sIB,sc0,scs,i64_w,i32_w]
   rfl
  refine pur (i:=9) (N:=some 34) (v:=?_) (a':=?_) #[true,true,true,true,true,true,true,false,false,true,false,false,false,false,false,false,false,false,false,false,false,false] rfl (Or.inl ⟨by rfl,?_⟩) ?_ ?_
  rotate_left
  ·intro w'
   go_simp
   with_reducible rfl
  rotate_left
  ·simp only [Act.put,sIB,sc0,scs,i64_w,i32_w]
   rfl
  refine pur (i:=10) (N:=some 35) (v:=?_) (a':=?_) #[true,true,true,true,true,true,true,false,false,true,true,false,false,false,false,false,false,false,false,false,false,false] rfl (Or.inl ⟨by rfl,?_⟩) ?_ ?_
  rotate_left
  ·intro w'
   go_simp
   with_reducible rfl
  rotate_left
  ·simp only [Act.put,sIB,sc0,scs,i64_w,i32_w]
   rfl
  refine pur (i:=11) (N:=some 36) (v:=?_) (a':=?_) #[true,true,true,true,true,true,true,false,false,true,true,true,false,false,false,false,false,false,false,false,false,false] rfl (Or.inl ⟨by rfl,?_⟩) ?_ ?_
  rotate_left
  ·intro w'
   go_simp
   with_reducible rfl
  rotate_left
  ·simp only [Act.put,sIB,sc0,scs,i64_w,i32_w]
   rfl
  refine pur (i:=12) (N:=some 37) (v:=?_) (a':=?_) #[true,true,true,true,true,true,true,false,false,true,true,true,true,false,false,false,false,false,false,false,false,false] rfl (Or.inl ⟨by rfl,?_⟩) ?_ ?_
  rotate_left
  ·intro w'
   go_simp
   with_reducible rfl
  rotate_left
  ·simp only [Act.put,sIB,sc0,scs,i64_w,i32_w]
   rfl
  refine pur (i:=16) (N:=some 41) (v:=?_) (a':=?_) #[true,true,true,true,true,true,true,false,false,true,true,true,true,false,false,false,true,false,false,false,false,false] rfl (Or.inl ⟨by rfl,?_⟩) ?_ ?_
  rotate_left
  ·intro w'
   go_simp
   with_reducible rfl
  rotate_left
  ·simp only [Act.put,sIB,sc0,scs,i64_w,i32_w]
   rfl
  refine pur (i:=17) (N:=some 42) (v:=?_) (a':=?_) #[true,true,true,true,true,true,true,false,false,true,true,true,true,false,false,false,true,true,false,false,false,false] rfl (Or.inl ⟨by rfl,?_⟩) ?_ ?_
  rotate_left
  ·intro w'
   go_simp
   with_reducible rfl
  rotate_left
  ·simp only [Act.put,sIB,sc0,scs,i64_w,i32_w]
   rfl
  refine pur (i:=18) (N:=some 43) (v:=?_) (a':=?_) #[true,true,true,true,true,true,true,false,false,true,true,true,true,false,false,false,true,true,true,false,false,false] rfl (Or.inl ⟨by rfl,?_⟩) ?_ ?_
  rotate_left
  ·intro w'
   go_simp
   with_reducible rfl
  rotate_left
  ·simp only [Act.put,sIB,sc0,scs,i64_w,i32_w]
   rfl
  refine take_ (i:=7) (N:=some 32) (v:=?_) (a':=?_) #[true,true,true,true,true,true,true,true,false,true,true,true,true,false,false,false,true,true,true,false,false,false] rfl rfl (take_ofW HT_.out HW_.out kr) (fun _ _ _ h=>h) (Or.inl ⟨by rfl,?_⟩) hHeld ?_ ?_
  rotate_left
  ·rintro w' ⟨s0,s1,s3⟩
   go_simp
   with_reducible rfl
  rotate_left
  ·simp only [Act.put,sIB,sc0,scs,i64_w,i32_w]
   rfl
  refine take_ (i:=13) (N:=some 38) (v:=?_) (a':=?_) #[true,true,true,true,true,true,true,true,false,true,true,true,true,true,false,false,true,true,true,false,false,false] rfl rfl (take_ofW HT_.out HW_.out kr) (fun _ _ _ h=>h) (Or.inl ⟨by rfl,?_⟩) hHeld ?_ ?_
  rotate_left
  ·rintro w' ⟨s0,s1,s3⟩
   go_simp
   with_reducible rfl
  rotate_left
  ·simp only [Act.put,sIB,sc0,scs,i64_w,i32_w]
   rfl
  refine take_ (i:=19) (N:=some 44) (v:=?_) (a':=?_) #[true,true,true,true,true,true,true,true,false,true,true,true,true,true,false,false,true,true,true,true,false,false] rfl rfl (take_ofW HT_.out HW_.out kr) (fun _ _ _ h=>h) (Or.inl ⟨by rfl,?_⟩) hHeld ?_ ?_
  rotate_left
  ·rintro w' ⟨s0,s1,s3⟩
   go_simp
   with_reducible rfl
  rotate_left
  ·simp only [Act.put,sIB,sc0,scs,i64_w,i32_w]
   rfl
  refine one_ (i:=8) (N:=some 33) #[true,true,true,true,true,true,true,true,true,true,true,true,true,true,false,false,true,true,true,true,false,false] rfl rfl (one_of HT_.out kr) dc (fun K hK=>?_)
  refine goes_ Tryz.func59 kr rfl #[.slice A0_0 l0_0.length c0_0] (by rfl) rfl rfl am ?_
  with_reducible refine (impl_parentsOf.calls kj5 _ _ l0_0 ad _ ?side1 ?side2 A14.out).mono ?_
  (case side1=>exact pc (Kd.C_below al.out HB.out))
  (case side2=>exact an.out)
  rintro e w25 ⟨a8,rfl,ho0,hb⟩
  refine ⟨_,rfl,?_⟩
  have n0_:=lw ho0;have n1_:=bb aa hb;have n2_:=hbs hb;clear aa HB;have ae:=n0_;have aa:=n1_;have HB:=n2_;clear n0_ n1_ n2_;(try clear hb);(try clear hb2);(try clear hk);(try clear hi);(try clear ho0);obtain ⟨bC,bD,aQ⟩:=Kd.R_slice ae.out;(first|subst aQ|(injection aQ with f1_ f2_ f3_;have f4_:=f1_.symm;have f5_:=f3_.symm;clear f1_ f2_ f3_;subst f4_;subst f5_));have av:0≤((rd l1 (ab)):Int):=od q20_0;have aw:(rd l1 (ab))<(ad.length:Int):=od q20_0;obtain ⟨aE,aF,aG⟩:=Kd.at_int (Kd.R_reads' ae.out).2.2 (rd l1 (ab)) av aw;cases aF;replace av:=eq_true av;replace aw:=eq_true aw
  refine hK.out _ _ ⟨(blk_cell aa.out 0).trans rfl,((HB.out.cell (World.block_lt_of_cell? w _ hw737_0)).trans hw737_0),((HB.out.cell (World.block_lt_of_cell? w _ hw739_0)).trans hw739_0)⟩ (fun hHeld=>?_)
  refine swapA_ 1000 (fun w'=>w'.cell? (aE.add (rd l1 (ab)).toNat)=some (.int .i64 (rd ad (rd l1 (ab))))) hHeld aG kr (fun hHeld=>?_)
  clear hK K
  refine norm_ (a':=?_) ?_ ?_
  rotate_left
  ·show Act.put _ (some 33) _=_;simp only [Act.put,sIB,sc0,scs,i64_w,i32_w]
   rfl
  refine pur (i:=14) (N:=some 39) (v:=?_) (a':=?_) #[true,true,true,true,true,true,true,true,true,true,true,true,true,true,true,false,true,true,true,true,false,false] rfl (Or.inl ⟨by rfl,?_⟩) ?_ ?_
  rotate_left
  ·intro w'
   go_simp
   with_reducible rfl
  rotate_left
  ·simp only [Act.put,sIB,sc0,scs,i64_w,i32_w]
   rfl
  refine take_ (i:=15) (N:=some 40) (v:=?_) (a':=?_) (tf 20 2) rfl rfl (take_ofW HT_.out HW_.out kr) (fun _ _ _ h=>h) (Or.inl ⟨by rfl,?_⟩) hHeld ?_ ?_
  rotate_left
  ·rintro w' ⟨⟨s0,s1,s3⟩,s2⟩;(try simp only [add_plain] at s0);(try simp only [add_plain] at s1);(try simp only [add_plain] at s2);(try simp only [add_plain] at s3)
   go_simp
   with_reducible rfl
  rotate_left
  ·simp only [Act.put,sIB,sc0,scs,i64_w,i32_w]
   rfl
  refine pur (i:=20) (N:=some 45) (v:=?_) (a':=?_) (tf 21 1) rfl (Or.inl ⟨by rfl,?_⟩) ?_ ?_
  rotate_left
  ·intro w'
   go_simp
   with_reducible rfl
  rotate_left
  ·simp only [Act.put,sIB,sc0,scs,i64_w,i32_w]
   rfl
  refine pur (i:=21) (N:=some 46) (v:=?_) (a':=?_) (tf 22 0) rfl (Or.inl ⟨by rfl,?_⟩) ?_ ?_
  rotate_left
  ·intro w'
   go_simp
   with_reducible rfl
  rotate_left
  ·simp only [Act.put,sIB,sc0,scs,i64_w,i32_w]
   rfl
  refine done_ (done_of HT_.out kr) ?_
  try go_wp2
  go_ret2
  exact ⟨_,q20_2,q20_1,hq⟩
 rw [if_neg c22] at H;have a6:((rd ad (rd l1 (ab))) == (rd l1 a2))=false:=beq_eq_false_iff_ne.mpr c22;have a7:((rd ad (rd l1 (ab))) != (rd l1 a2))=true:=bne_iff_ne.mpr c22;replace H:=bs H;obtain ⟨ac,A27,H⟩:=H;(try dsimp only at H);replace H:=ifs H;obtain ⟨c28,H⟩:=H;have bE:=dt c28;clear c28;replace H:=ifs H;obtain ⟨c29,H⟩:=H;have bF:=dt c29;clear c29;obtain ⟨aR,hY⟩:∃ y_:List Int,y_=(ac.set (a2:Int).toNat (rd ac (ab))):=⟨_,rfl⟩;replace H:(some ((aR.set ((ab):Int).toNat (rd ac a2)),0))=some (r1,r2):=hh;have a9:=ak hY;clear hY;obtain ⟨ba,hY⟩:∃ y_:List Int,y_=(aR.set ((ab):Int).toNat (rd ac a2)):=⟨_,rfl⟩;replace H:(some (ba,0))=some (r1,r2):=hh;have bd:=ak hY;clear hY;simp only [Option.some.injEq,Prod.mk.injEq] at H;obtain ⟨rfl,rfl⟩:=H
 try go_wp2
 have n0_:=ak (blk_drew aa.out);have n1_:=ak (below_drew1 HB.out);clear aa HB;have aa:=n0_;have HB:=n1_;clear n0_ n1_;have ap:0≤((ab):Int):=od q20_0;have aq:(ab)<(l1.length:Int):=od q20_0;obtain ⟨ah,aB,af⟩:=Kd.at_int HR1.out (ab) ap aq;have hw737_0:=af;cases aB;replace af:=(HB.out.cell (World.block_lt_of_cell? w _ af)).trans af;replace ap:=eq_true ap;replace aq:=eq_true aq;have ar:0≤(a2:Int):=od q20_0;have au:a2<(l1.length:Int):=od q20_0;obtain ⟨aC,aD,ag⟩:=Kd.at_int HR1.out a2 ar au;have hw739_0:=ag;obtain rfl:ah=aC:=(by injection aD);replace ag:=(HB.out.cell (World.block_lt_of_cell? w _ ag)).trans ag;replace ar:=eq_true ar;replace au:=eq_true au
 refine start_ (n:=22) (S:=fun w'=>w'.cell? ⟨ax,0,none⟩=some (.slice A0_0 l0_0.length c0_0)∧w'.cell? (ah.add (ab).toNat)=some (.int .i64 (rd l1 (ab)))∧w'.cell? (ah.add (a2).toNat)=some (.int .i64 (rd l1 a2))) (ds:=[]) #[false,false,false,false,false,false,false,false,false,false,false,false,false,false,false,false,false,false,false,false,false,false] kr rfl rfl ⟨(blk_cell aa.out 0).trans rfl,((HB.out.cell (World.block_lt_of_cell? w _ hw737_0)).trans hw737_0),((HB.out.cell (World.block_lt_of_cell? w _ hw739_0)).trans hw739_0)⟩ (fun hHeld=>?_);refine with_tabW impl_ExchangeAt.tab6 impl_ExchangeAt.bits6 (fun HT_ HW_=>?_)
 generalize wc.drew=w32 at aa HB af ag hHeld ⊢
 refine pur (i:=0) (N:=some 25) (v:=?_) (a':=?_) (tf 1 21) rfl (Or.inl ⟨by rfl,?_⟩) ?_ ?_
 rotate_left
 ·intro w'
  go_simp
  with_reducible rfl
 rotate_left
 ·simp only [Act.put,sIB,sc0,scs,i64_w,i32_w]
  rfl
 refine pur (i:=2) (N:=some 27) (v:=?_) (a':=?_) #[true,false,true,false,false,false,false,false,false,false,false,false,false,false,false,false,false,false,false,false,false,false] rfl (Or.inl ⟨by rfl,?_⟩) ?_ ?_
 rotate_left
 ·intro w'
  go_simp
  with_reducible rfl
 rotate_left
 ·simp only [Act.put,sIB,sc0,scs,i64_w,i32_w]
  rfl
 refine take_ (i:=1) (N:=some 26) (v:=?_) (a':=?_) (tf 3 19) rfl rfl (take_ofW HT_.out HW_.out kr) (fun _ _ _ h=>h) (Or.inl ⟨by rfl,?_⟩) hHeld ?_ ?_
 rotate_left
 ·rintro w' ⟨s0,s1,s3⟩
  go_simp
  with_reducible rfl
 rotate_left
 ·simp only [Act.put,sIB,sc0,scs,i64_w,i32_w]
  rfl
 refine one_ (i:=3) (N:=some 28) (tf 4 18) rfl rfl (one_of HT_.out kr) dc (fun K hK=>?_)
 refine goes_ Tryz.func56 kr rfl #[.slice A0_0 l0_0.length c0_0,.slice (some ah) l1.length c1] (by rfl) rfl rfl am ?_
 with_reducible refine (impl_isGrowing.calls kj5 _ _ l0_0 _ _ l1 true _ ?side1 ?side2 ?side3 ?side4 A12.out).mono ?_
 (case side1=>exact pc (Kd.C_below al.out HB.out))
 (case side2=>exact an.out)
 (case side3=>exact pc (Kd.C_below HR1.out HB.out))
 (case side4=>exact HC1.out)
 rintro e w33 ⟨rfl,hb⟩
 refine ⟨_,rfl,?_⟩
 have n0_:=bb aa hb;have n1_:=hbs hb;clear aa HB;have aa:=n0_;have HB:=n1_;clear n0_ n1_;(try clear hb);(try clear hb2);(try clear hk);(try clear hi)
 refine hK.out _ _ ⟨(blk_cell aa.out 0).trans rfl,((HB.out.cell (World.block_lt_of_cell? w _ hw737_0)).trans hw737_0),((HB.out.cell (World.block_lt_of_cell? w _ hw739_0)).trans hw739_0)⟩ (fun hHeld=>?_)
 clear hK K
 refine norm_ (a':=?_) ?_ ?_
 rotate_left
 ·show Act.put _ (some 28) _=_;simp only [Act.put,sIB,sc0,scs,i64_w,i32_w]
  rfl
 refine pur (i:=4) (N:=some 29) (v:=?_) (a':=?_) (tf 5 17) rfl (Or.inl ⟨by rfl,?_⟩) ?_ ?_
 rotate_left
 ·intro w'
  go_simp
  with_reducible rfl
 rotate_left
 ·simp only [Act.put,sIB,sc0,scs,i64_w,i32_w]
  rfl
 refine pur (i:=5) (N:=some 30) (v:=?_) (a':=?_) (tf 6 16) rfl (Or.inl ⟨by rfl,?_⟩) ?_ ?_
 rotate_left
 ·intro w'
  go_simp
  with_reducible rfl
 rotate_left
 ·simp only [Act.put,sIB,sc0,scs,i64_w,i32_w]
  rfl
 refine pur (i:=6) (N:=some 31) (v:=?_) (a':=?_) (tf 7 15) rfl (Or.inl ⟨by rfl,?_⟩) ?_ ?_
 rotate_left
 ·intro w'
  go_simp
  with_reducible rfl
 rotate_left
 ·simp only [Act.put,sIB,sc0,scs,i64_w,i32_w]
  rfl
 refine pur (i:=9) (N:=some 34) (v:=?_) (a':=?_) #[true,true,true,true,true,true,true,false,false,true,false,false,false,false,false,false,false,false,false,false,false,false] rfl (Or.inl ⟨by rfl,?_⟩) ?_ ?_
 rotate_left
 ·intro w'
  go_simp
  with_reducible rfl
 rotate_left
 ·simp only [Act.put,sIB,sc0,scs,i64_w,i32_w]
  rfl
 refine pur (i:=10) (N:=some 35) (v:=?_) (a':=?_) #[true,true,true,true,true,true,true,false,false,true,true,false,false,false,false,false,false,false,false,false,false,false] rfl (Or.inl ⟨by rfl,?_⟩) ?_ ?_
 rotate_left
 ·intro w'
  go_simp
  with_reducible rfl
 rotate_left
 ·simp only [Act.put,sIB,sc0,scs,i64_w,i32_w]
  rfl
 refine pur (i:=11) (N:=some 36) (v:=?_) (a':=?_) #[true,true,true,true,true,true,true,false,false,true,true,true,false,false,false,false,false,false,false,false,false,false] rfl (Or.inl ⟨by rfl,?_⟩) ?_ ?_
 rotate_left
 ·intro w'
  go_simp
  with_reducible rfl
 rotate_left
 ·simp only [Act.put,sIB,sc0,scs,i64_w,i32_w]
  rfl
 refine pur (i:=12) (N:=some 37) (v:=?_) (a':=?_) #[true,true,true,true,true,true,true,false,false,true,true,true,true,false,false,false,false,false,false,false,false,false] rfl (Or.inl ⟨by rfl,?_⟩) ?_ ?_
 rotate_left
 ·intro w'
  go_simp
  with_reducible rfl
 rotate_left
 ·simp only [Act.put,sIB,sc0,scs,i64_w,i32_w]
  rfl
 refine pur (i:=16) (N:=some 41) (v:=?_) (a':=?_) #[true,true,true,true,true,true,true,false,false,true,true,true,true,false,false,false,true,false,false,false,false,false] rfl (Or.inl ⟨by rfl,?_⟩) ?_ ?_
 rotate_left
 ·intro w'
  go_simp
  with_reducible rfl
 rotate_left
 ·simp only [Act.put,sIB,sc0,scs,i64_w,i32_w]
  rfl
 refine pur (i:=17) (N:=some 42) (v:=?_) (a':=?_) #[true,true,true,true,true,true,true,false,false,true,true,true,true,false,false,false,true,true,false,false,false,false] rfl (Or.inl ⟨by rfl,?_⟩) ?_ ?_
 rotate_left
 ·intro w'
  go_simp
  with_reducible rfl
 rotate_left
 ·simp only [Act.put,sIB,sc0,scs,i64_w,i32_w]
  rfl
 refine pur (i:=18) (N:=some 43) (v:=?_) (a':=?_) #[true,true,true,true,true,true,true,false,false,true,true,true,true,false,false,false,true,true,true,false,false,false] rfl (Or.inl ⟨by rfl,?_⟩) ?_ ?_
 rotate_left
 ·intro w'
  go_simp
  with_reducible rfl
 rotate_left
 ·simp only [Act.put,sIB,sc0,scs,i64_w,i32_w]
  rfl
 refine take_ (i:=7) (N:=some 32) (v:=?_) (a':=?_) #[true,true,true,true,true,true,true,true,false,true,true,true,true,false,false,false,true,true,true,false,false,false] rfl rfl (take_ofW HT_.out HW_.out kr) (fun _ _ _ h=>h) (Or.inl ⟨by rfl,?_⟩) hHeld ?_ ?_
 rotate_left
 ·rintro w' ⟨s0,s1,s3⟩
  go_simp
  with_reducible rfl
 rotate_left
 ·simp only [Act.put,sIB,sc0,scs,i64_w,i32_w]
  rfl
 refine take_ (i:=13) (N:=some 38) (v:=?_) (a':=?_) #[true,true,true,true,true,true,true,true,false,true,true,true,true,true,false,false,true,true,true,false,false,false] rfl rfl (take_ofW HT_.out HW_.out kr) (fun _ _ _ h=>h) (Or.inl ⟨by rfl,?_⟩) hHeld ?_ ?_
 rotate_left
 ·rintro w' ⟨s0,s1,s3⟩
  go_simp
  with_reducible rfl
 rotate_left
 ·simp only [Act.put,sIB,sc0,scs,i64_w,i32_w]
  rfl
 refine take_ (i:=19) (N:=some 44) (v:=?_) (a':=?_) #[true,true,true,true,true,true,true,true,false,true,true,true,true,true,false,false,true,true,true,true,false,false] rfl rfl (take_ofW HT_.out HW_.out kr) (fun _ _ _ h=>h) (Or.inl ⟨by rfl,?_⟩) hHeld ?_ ?_
 rotate_left
 ·rintro w' ⟨s0,s1,s3⟩
  go_simp
  with_reducible rfl
 rotate_left
 ·simp only [Act.put,sIB,sc0,scs,i64_w,i32_w]
  rfl
 refine one_ (i:=8) (N:=some 33) #[true,true,true,true,true,true,true,true,true,true,true,true,true,true,false,false,true,true,true,true,false,false] rfl rfl (one_of HT_.out kr) dc (fun K hK=>?_)
 refine goes_ Tryz.func59 kr rfl #[.slice A0_0 l0_0.length c0_0] (by rfl) rfl rfl am ?_
 with_reducible refine (impl_parentsOf.calls kj5 _ _ l0_0 ad _ ?side1 ?side2 A14.out).mono ?_
 (case side1=>exact pc (Kd.C_below al.out HB.out))
 (case side2=>exact an.out)
 rintro e w34 ⟨a8,rfl,ho0,hb⟩
 refine ⟨_,rfl,?_⟩
 have n0_:=lw ho0;have n1_:=bb aa hb;have n2_:=hbs hb;clear aa HB;have ae:=n0_;have aa:=n1_;have HB:=n2_;clear n0_ n1_ n2_;(try clear hb);(try clear hb2);(try clear hk);(try clear hi);(try clear ho0);obtain ⟨bG,bH,aS⟩:=Kd.R_slice ae.out;(first|subst aS|(injection aS with f1_ f2_ f3_;have f4_:=f1_.symm;have f5_:=f3_.symm;clear f1_ f2_ f3_;subst f4_;subst f5_));have av:0≤((rd l1 (ab)):Int):=od q20_0;have aw:(rd l1 (ab))<(ad.length:Int):=od q20_0;obtain ⟨aE,aF,aG⟩:=Kd.at_int (Kd.R_reads' ae.out).2.2 (rd l1 (ab)) av aw;cases aF;replace av:=eq_true av;replace aw:=eq_true aw
 refine hK.out _ _ ⟨(blk_cell aa.out 0).trans rfl,((HB.out.cell (World.block_lt_of_cell? w _ hw737_0)).trans hw737_0),((HB.out.cell (World.block_lt_of_cell? w _ hw739_0)).trans hw739_0)⟩ (fun hHeld=>?_)
 refine swapA_ 1000 (fun w'=>w'.cell? (aE.add (rd l1 (ab)).toNat)=some (.int .i64 (rd ad (rd l1 (ab))))) hHeld aG kr (fun hHeld=>?_)
 clear hK K
 refine norm_ (a':=?_) ?_ ?_
 rotate_left
 ·show Act.put _ (some 33) _=_;simp only [Act.put,sIB,sc0,scs,i64_w,i32_w]
  rfl
 refine pur (i:=14) (N:=some 39) (v:=?_) (a':=?_) #[true,true,true,true,true,true,true,true,true,true,true,true,true,true,true,false,true,true,true,true,false,false] rfl (Or.inl ⟨by rfl,?_⟩) ?_ ?_
 rotate_left
 ·intro w'
  go_simp
  with_reducible rfl
 rotate_left
 ·simp only [Act.put,sIB,sc0,scs,i64_w,i32_w]
  rfl
 refine take_ (i:=15) (N:=some 40) (v:=?_) (a':=?_) (tf 20 2) rfl rfl (take_ofW HT_.out HW_.out kr) (fun _ _ _ h=>h) (Or.inl ⟨by rfl,?_⟩) hHeld ?_ ?_
 rotate_left
 ·rintro w' ⟨⟨s0,s1,s3⟩,s2⟩;(try simp only [add_plain] at s0);(try simp only [add_plain] at s1);(try simp only [add_plain] at s2);(try simp only [add_plain] at s3)
  go_simp
  with_reducible rfl
 rotate_left
 ·simp only [Act.put,sIB,sc0,scs,i64_w,i32_w]
  rfl
 refine pur (i:=20) (N:=some 45) (v:=?_) (a':=?_) (tf 21 1) rfl (Or.inl ⟨by rfl,?_⟩) ?_ ?_
 rotate_left
 ·intro w'
  go_simp
  with_reducible rfl
 rotate_left
 ·simp only [Act.put,sIB,sc0,scs,i64_w,i32_w]
  rfl
 refine pur (i:=21) (N:=some 46) (v:=?_) (a':=?_) (tf 22 0) rfl (Or.inl ⟨by rfl,?_⟩) ?_ ?_
 rotate_left
 ·intro w'
  go_simp
  with_reducible rfl
 rotate_left
 ·simp only [Act.put,sIB,sc0,scs,i64_w,i32_w]
  rfl
 refine done_ (done_of HT_.out kr) ?_
 try go_wp2_with (first|((with_reducible refine gate_callee (f:=63) rfl ?_);refine gl (some 48) Tryz.func63 #[.slice (some ah) l1.length c1] ?_;(with_reducible refine (slices_Clone.calls _ _ l1 ac _ (pc (Kd.C_below HR1.out HB.out)) HC1.out A27.out).mono ?_);rintro e w36 ⟨bI,rfl,ho0,hb⟩;refine ⟨_,rfl,?_⟩;have ai:=lw (nw ho0 ae);replace ae:=rn ae ho0 hb;replace aa:=bb aa hb;replace HB:=hbs hb;(try clear hb ho0)))
 have n0_:=ak (Kd.R_drew ae.out);have n1_:=ak (Kd.R_drew ai.out);have n2_:=ak (blk_drew aa.out);have n3_:=ak (below_drew1 HB.out);clear ae ai aa HB;have ae:=n0_;have ai:=n1_;have aa:=n2_;have HB:=n3_;clear n0_ n1_ n2_ n3_;obtain ⟨bJ,bK,aT⟩:=Kd.R_slice ai.out;(first|subst aT|(injection aT with f1_ f2_ f3_;have f4_:=f1_.symm;have f5_:=f3_.symm;clear f1_ f2_ f3_;subst f4_;subst f5_));have aH:0≤((ab):Int):=od q20_0;have aI:(ab)<(ac.length:Int):=od q20_0;obtain ⟨bf,bg,aJ⟩:=Kd.at_int (Kd.R_reads' ai.out).2.2 (ab) aH aI;cases bg;replace aH:=eq_true aH;replace aI:=eq_true aI;have aK:0≤(a2:Int):=od q20_0;have aL:a2<(ac.length:Int):=od q20_0;obtain ⟨bh,bi,aM⟩:=Kd.at_int (Kd.R_reads' ai.out).2.2 a2 aK aL;obtain rfl:bf=bh:=(by injection bi);replace aK:=eq_true aK;replace aL:=eq_true aL;have p30:0≤(a2:Int):=od q20_0;have q30:(a2:Int)<((ac.length:Int):Int):=od q20_0;obtain ⟨aU,bL,aV,aW,gl30,cl30,aX⟩:=Kd.R_form ai.out (by omega);(first|cases aV|(injection aV with ea_ en_ ec_;(first|subst ea_|(injection ea_ with ea_;subst ea_));subst ec_;clear en_));have GB30:=ak aW;have bj:=ak aX;clear aW gl30 aX;(first|simp only [add_plain] at aJ|skip);(first|simp only [add_plain] at aM|skip);obtain ⟨bk,bl⟩:=Kd.R_celln 0 ai.out (a2:Int) p30 q30;replace p30:=eq_true p30;replace q30:=eq_true q30;have aN:=Kd.R_putn ai.out (a2:Int) (rd ac (ab));rw [← a9.out] at aN;have aO:=ak aN;clear aN;have p31:0≤((ab):Int):=od q20_0;have q31:((ab):Int)<((ac.length:Int):Int):=od q20_0;obtain ⟨bm,bo⟩:=Kd.R_celln 0 aO.out ((ab):Int) p31 q31;replace p31:=eq_true p31;replace q31:=eq_true q31;have aP:=Kd.R_putn aO.out ((ab):Int) (rd ac a2);rw [← bd.out] at aP;have aY:=ak aP;clear aP
 refine start_ (n:=18) (S:=fun w'=>w'.cell? ⟨aU,(ab).toNat,none⟩=some (.int .i64 (rd ac (ab)))∧w'.cell? ⟨aU,(a2).toNat,none⟩=some (.int .i64 (rd ac a2))) (ds:=[15,17]) #[false,false,false,false,false,false,false,false,false,false,false,false,false,false,false,false,false,false] kr rfl rfl ⟨aJ,aM⟩ (fun hHeld=>?_);refine with_tabW impl_ExchangeAt.tab9 impl_ExchangeAt.bits9 (fun HT_ HW_=>?_)
 generalize w36.drew=w37 at ae ai aa HB bj aO aY bl bo bk bm aJ aM hHeld ⊢
 refine pur (i:=0) (N:=some 49) (v:=?_) (a':=?_) (tf 1 17) rfl (Or.inl ⟨by rfl,?_⟩) ?_ ?_
 rotate_left
 ·intro w'
  go_simp
  with_reducible rfl
 rotate_left
 ·simp only [Act.put,sIB,sc0,scs,i64_w,i32_w]
  rfl
 refine pur (i:=1) (N:=some 50) (v:=?_) (a':=?_) (tf 2 16) rfl (Or.inl ⟨by rfl,?_⟩) ?_ ?_
 rotate_left
 ·intro w'
  go_simp
  with_reducible rfl
 rotate_left
 ·simp only [Act.put,sIB,sc0,scs,i64_w,i32_w]
  rfl
 refine pur (i:=2) (N:=some 51) (v:=?_) (a':=?_) (tf 3 15) rfl (Or.inl ⟨by rfl,?_⟩) ?_ ?_
 rotate_left
 ·intro w'
  go_simp
  with_reducible rfl
 rotate_left
 ·simp only [Act.put,sIB,sc0,scs,i64_w,i32_w]
  rfl
 refine pur (i:=3) (N:=some 52) (v:=?_) (a':=?_) (tf 4 14) rfl (Or.inl ⟨by rfl,?_⟩) ?_ ?_
 rotate_left
 ·intro w'
  go_simp
  with_reducible rfl
 rotate_left
 ·simp only [Act.put,sIB,sc0,scs,i64_w,i32_w]
  rfl
 refine pur (i:=4) (N:=some 53) (v:=?_) (a':=?_) (tf 5 13) rfl (Or.inl ⟨by rfl,?_⟩) ?_ ?_
 rotate_left
 ·intro w'
  go_simp
  with_reducible rfl
 rotate_left
 ·simp only [Act.put,sIB,sc0,scs,i64_w,i32_w]
  rfl
 refine pur (i:=5) (N:=some 54) (v:=?_) (a':=?_) (tf 6 12) rfl (Or.inl ⟨by rfl,?_⟩) ?_ ?_
 rotate_left
 ·intro w'
  go_simp
  with_reducible rfl
 rotate_left
 ·simp only [Act.put,sIB,sc0,scs,i64_w,i32_w]
  rfl
 refine pur (i:=6) (N:=some 55) (v:=?_) (a':=?_) (tf 7 11) rfl (Or.inl ⟨by rfl,?_⟩) ?_ ?_
 rotate_left
 ·intro w'
  go_simp
  with_reducible rfl
 rotate_left
 ·simp only [Act.put,sIB,sc0,scs,i64_w,i32_w]
  rfl
 refine pur (i:=7) (N:=some 56) (v:=?_) (a':=?_) (tf 8 10) rfl (Or.inl ⟨by rfl,?_⟩) ?_ ?_
 rotate_left
 ·intro w'
  go_simp
  with_reducible rfl
 rotate_left
 ·simp only [Act.put,sIB,sc0,scs,i64_w,i32_w]
  rfl
 refine pur (i:=8) (N:=some 57) (v:=?_) (a':=?_) (tf 9 9) rfl (Or.inl ⟨by rfl,?_⟩) ?_ ?_
 rotate_left
 ·intro w'
  go_simp
  with_reducible rfl
 rotate_left
 ·simp only [Act.put,sIB,sc0,scs,i64_w,i32_w]
  rfl
 refine pur (i:=10) (N:=some 59) (v:=?_) (a':=?_) #[true,true,true,true,true,true,true,true,true,false,true,false,false,false,false,false,false,false] rfl (Or.inl ⟨by rfl,?_⟩) ?_ ?_
 rotate_left
 ·intro w'
  go_simp
  with_reducible rfl
 rotate_left
 ·simp only [Act.put,sIB,sc0,scs,i64_w,i32_w]
  rfl
 refine pur (i:=11) (N:=some 60) (v:=?_) (a':=?_) #[true,true,true,true,true,true,true,true,true,false,true,true,false,false,false,false,false,false] rfl (Or.inl ⟨by rfl,?_⟩) ?_ ?_
 rotate_left
 ·intro w'
  go_simp
  with_reducible rfl
 rotate_left
 ·simp only [Act.put,sIB,sc0,scs,i64_w,i32_w]
  rfl
 refine pur (i:=12) (N:=some 61) (v:=?_) (a':=?_) #[true,true,true,true,true,true,true,true,true,false,true,true,true,false,false,false,false,false] rfl (Or.inl ⟨by rfl,?_⟩) ?_ ?_
 rotate_left
 ·intro w'
  go_simp
  with_reducible rfl
 rotate_left
 ·simp only [Act.put,sIB,sc0,scs,i64_w,i32_w]
  rfl
 refine take_ (i:=9) (N:=some 58) (v:=?_) (a':=?_) (tf 13 5) rfl rfl (take_ofW HT_.out HW_.out kr) (fun _ _ _ h=>h) (Or.inl ⟨by rfl,?_⟩) hHeld ?_ ?_
 rotate_left
 ·rintro w' ⟨s0,s1⟩
  go_simp
  with_reducible rfl
 rotate_left
 ·simp only [Act.put,sIB,sc0,scs,i64_w,i32_w]
  rfl
 refine take_ (i:=13) (N:=some 62) (v:=?_) (a':=?_) (tf 14 4) rfl rfl (take_ofW HT_.out HW_.out kr) (fun _ _ _ h=>h) (Or.inl ⟨by rfl,?_⟩) hHeld ?_ ?_
 rotate_left
 ·rintro w' ⟨s0,s1⟩
  go_simp
  with_reducible rfl
 rotate_left
 ·simp only [Act.put,sIB,sc0,scs,i64_w,i32_w]
  rfl
 refine pur (i:=14) (N:=some 63) (v:=?_) (a':=?_) (tf 15 3) rfl (Or.inl ⟨by rfl,?_⟩) ?_ ?_
 rotate_left
 ·intro w'
  go_simp
  with_reducible rfl
 rotate_left
 ·simp only [Act.put,sIB,sc0,scs,i64_w,i32_w]
  rfl
 refine last_ (i:=15) (N:=none) #[true,true,true,true,true,true,true,true,true,true,true,true,true,true,true,true,false,false] rfl rfl (one_of HT_.out kr) dc (fun K hK=>?_)
 refine skip_ (w1:=?_) (by rfl) rfl ?_ ?_
 rotate_left
 ·go_simp
  rfl
 refine hK.out _ _ ?_
 clear hK K
 refine pur (i:=16) (N:=some 64) (v:=?_) (a':=?_) (tf 17 1) rfl (Or.inl ⟨by rfl,?_⟩) ?_ ?_
 rotate_left
 ·intro w'
  go_simp
  with_reducible rfl
 rotate_left
 ·simp only [Act.put,sIB,sc0,scs,i64_w,i32_w]
  rfl
 refine last_ (i:=17) (N:=none) #[true,true,true,true,true,true,true,true,true,true,true,true,true,true,true,true,true,true] rfl rfl (one_of HT_.out kr) dc (fun K hK=>?_)
 refine skip_ (w1:=?_) (by rfl) rfl ?_ ?_
 rotate_left
 ·go_simp
  rfl
 refine hK.out _ _ ?_
 clear hK K
 refine done_ (done_of HT_.out kr) ?_
 try go_wp2
 go_ret2
 exact ⟨_,q20_2,pe (Kd.R_mono aY.out (fun _ hk=>trivial)),by repeat (first|(with_reducible first|exact HB.out|apply below_alloc|apply pw_below_drewN|apply below_drew1|refine below_set ?_ GB30.out|refine below_set ?_ GB30.out|refine below_set ?_ (Aside0.out (by with_reducible assumption)))|exact HB.out)⟩
end Go.Proofs.YtlppkilencpmeaaGreat.QFnGrowing
