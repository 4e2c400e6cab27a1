/- Functions as Lean functions, with their contracts: written by a program of this claim over the translation; some contracts are proved by hand. -/
import Derived.Test.YtlppkilencpmeaaGreatQFnGrowthx0
import Derived.Test.YtlppkilencpmeaaGreatQFnGrowthx11
import Derived.Test.YtlppkilencpmeaaGreatQFnGrowthx14
import Derived.Test.YtlppkilencpmeaaGreatQFnGrowthx20
namespace Go.Proofs.YtlppkilencpmeaaGreat.QFnGrowth
open Go.RowKit Go.Proofs.YtlppkilencpmeaaGreat.Gl Go.Proofs.YtlppkilencpmeaaGreat.Sz Go.Proofs.YtlppkilencpmeaaGreatW.PrintWords Go.Proofs.YtlppkilencpmeaaGreatW.PrintLast Go.Proofs.YtlppkilencpmeaaGreatW.PrintMore
attribute [local go_sem] max2_int min2_int max_two min_two max_three min_three max_four min_four   -- for this text's walks alone
set_option linter.unusedVariables false
set_option linter.unusedSimpArgs false
theorem q21_0 {P:Prop} (h:P:=by first|(simp only [putAll,Act.put,List.setIfInBounds_toArray,List.set_cons_zero,List.set_cons_succ];done)|(simp only [putAll,Act.put,List.setIfInBounds_toArray,List.set_cons_zero,List.set_cons_succ];rfl)):P:=h
theorem q21_1 {P:Prop} (h:P:=by first|(with_reducible assumption)|assumption):P:=h
theorem q21_2 {P:Prop} (h:P:=by first|rfl|(simp;done)|(simp [*];done)):P:=h
theorem q21_3 {P:Prop} (h:P:=by first|exact Kd.R_nil _ _ _ _ _|exact Kd.N_nil _ _ _ _ _|exact Kd.V_nil _ _ _ _ _|exact Kd.Q_nil _ _ _ _ _|exact Kd.S_nil _ _ _ _ _):P:=h
set_option maxHeartbeats 8000000
set_option maxRecDepth 100000
mutual
def spec_ListOfGrowth.l0:Nat→List Int→List Int→List Int→List Int→Int→List Int→Option (List Int × Int)
 | 0,_,_,_,_,_,_=>none
 | k+1,x1,x7,x8,x9,x10,x780000=>if x10<(x1.length:Int) then (if 0≤x10 then (if 0≤(rd x1 x10) then (if (rd x1 x10)<(x8.length:Int) then (spec_ListOfGrowth.l0 k x1 x7 (x8.set ((rd x1 x10):Int).toNat x10) x9 (wrap64 (x10+1)) x780000) else (none)) else (none)) else (none)) else (spec_ListOfGrowth.l1 k x1 x7 x8 x9 1 x780000)
def spec_ListOfGrowth.l1:Nat→List Int→List Int→List Int→List Int→Int→List Int→Option (List Int × Int)
 | 0,_,_,_,_,_,_=>none
 | k+1,x1,x7,x8,x9,x11,x780000=>if x11<(x1.length:Int) then (if 0≤x11 then (if 0≤(rd x1 x11) then (if (rd x1 x11)<(x7.length:Int) then (if 0≤(rd x7 (rd x1 x11)) then (if (rd x7 (rd x1 x11))<(x8.length:Int) then (if x9.length<17592186044416 then (spec_ListOfGrowth.l1 k x1 x7 x8 (x9++[rd x8 (rd x7 (rd x1 x11))]) (wrap64 (x11+1)) x780000) else (none)) else (none)) else (none)) else (none)) else (none)) else (none)) else (spec_ListOfGrowth.l2 k x8 x9 0 x780000)
def spec_ListOfGrowth.l2:Nat→List Int→List Int→Int→List Int→Option (List Int × Int)
 | 0,_,_,_,_=>none
 | k+1,x8,x9,x12,x780000=>(spec_l01N.f x780000).bind fun t798=>(if x12<t798 then ((spec_l01Children.f k x780000 x12).bind fun t799=>(spec_ListOfGrowth.l3 k x8 x9 x12 t799 1 x780000)) else (some (x9,0)))
def spec_ListOfGrowth.l3:Nat→List Int→List Int→Int→List Int→Int→List Int→Option (List Int × Int)
 | 0,_,_,_,_,_,_=>none
 | k+1,x8,x9,x12,x13,x14,x780000=>if x14<(x13.length:Int) then (if 0≤(wrap64 (x14 - 1)) then (if (wrap64 (x14 - 1))<(x13.length:Int) then (if 0≤(rd x13 (wrap64 (x14 - 1))) then (if (rd x13 (wrap64 (x14 - 1)))<(x8.length:Int) then (if 0≤x14 then (if 0≤(rd x13 x14) then (if (rd x13 x14)<(x8.length:Int) then (if (rd x8 (rd x13 (wrap64 (x14 - 1))))>(rd x8 (rd x13 x14)) then (some (([]:List Int),4)) else (spec_ListOfGrowth.l3 k x8 x9 x12 x13 (wrap64 (x14+1)) x780000)) else (none)) else (none)) else (none)) else (none)) else (none)) else (none)) else (none)) else (spec_ListOfGrowth.l2 k x8 x9 (wrap64 (x12+1)) x780000)
end
def spec_ListOfGrowth.f (k:Nat) (l0_0:List Int) (l1:List Int):Option (List Int × Int):=(spec_l09Code.f k l0_0 l1).bind fun t780=>(if t780=0 then ((spec_l01Parents.f k l0_0).bind fun t781=>(if 0≤(l1.length:Int) then (if ((l1.length:Int):Int).toNat≤35184372088832 then (spec_ListOfGrowth.l0 k l1 t781 (List.replicate ((l1.length:Int):Int).toNat 0) ([]:List Int) 0 l0_0) else (none)) else (none))) else (some (([]:List Int),t780)))
def spec_ListOfGrowth.T4:Bool × List (List Nat × List Nat):=(true,[([],[]),([0],[0]),([],[]),([2],[2]),([3,3],[3]),([],[]),([1,1,0,1],[1]),([4,6,0,1,2,3,4,6],[4]),([5,7,0,1,2,3,4,5,6,7],[5])])
def spec_ListOfGrowth.B4:List Nat:=[0,1,0,4,12,0,3,95,255]
theorem spec_ListOfGrowth.tab4:rtab .any (opsOf Tryz.f21 4)=spec_ListOfGrowth.T4:=by kernel_rfl
theorem spec_ListOfGrowth.bits4:waitsOk spec_ListOfGrowth.T4.2 spec_ListOfGrowth.B4=true:=by kernel_rfl
def spec_ListOfGrowth.T20:Bool × List (List Nat × List Nat):=(true,[([],[]),([],[]),([],[]),([2],[2]),([1,3],[1,3]),([4],[4]),([0,5],[0,5]),([6],[6]),([],[]),([],[]),([],[]),([9,10],[9,10]),([11],[11]),([8,12],[8,12]),([13],[13]),([7,14],[7,14])])
def spec_ListOfGrowth.B20:List Nat:=[0,0,0,4,14,30,63,127,0,0,0,1536,3584,7936,16128,32767]
theorem spec_ListOfGrowth.tab20:rtab .any (opsOf Tryz.f21 20)=spec_ListOfGrowth.T20:=by kernel_rfl
theorem spec_ListOfGrowth.bits20:waitsOk spec_ListOfGrowth.T20.2 spec_ListOfGrowth.B20=true:=by kernel_rfl
theorem spec_ListOfGrowth.calls (k:Nat) (A0_0:Option Addr) (c0_0:Nat) (l0_0:List Int) (A1:Option Addr) (c1:Nat) (l1:List Int) (r1:List Int) (r2:Int) (w:World) (hr0_0:Kd.C (Kd.int .i64) w A0_0 l0_0.length l0_0) (hc0_0:l0_0.length≤c0_0) (hr1:Kd.C (Kd.int .i64) w A1 l1.length l1) (hc1:l1.length≤c1) (h:spec_ListOfGrowth.f k l0_0 l1=some (r1,r2)) :
  Calls Tryz.prog 21 #[.agg #[.slice A0_0 l0_0.length c0_0],.slice A1 l1.length c1] w fun e w'=>∃ v0_:Value,e=.returned (.tuple #[v0_,.int .i64 r2])∧Kd.R (Kd.int .i64) 2 w' w.heap.size (fun _=>True) v0_ r1∧Below w.heap.size w w':=by
 have hu27:=Tryz.underlying27;have az:=ak hr0_0;have aA:=ak hc0_0;clear hr0_0 hc0_0;have HR1:=ak hr1;have HC1:=ak hc1;clear hr1 hc1;have HB:=ak (Below.refl w.heap.size w);have H:((spec_l09Code.f k l0_0 l1).bind fun aD=>(if aD=0 then ((spec_l01Parents.f k l0_0).bind fun aj=>(if 0≤(l1.length:Int) then (if ((l1.length:Int):Int).toNat≤35184372088832 then (spec_ListOfGrowth.l0 k l1 aj (List.replicate ((l1.length:Int):Int).toNat 0) ([]:List Int) 0 l0_0) else (none)) else (none))) else (some (([]:List Int),aD))))=some (r1,r2):=h;clear h;replace H:=bs H;obtain ⟨aD,A3,H⟩:=H;(try dsimp only at H);obtain c4|c4:=nem (aD=0)
 ·rw [if_neg c4] at H;have bK:(aD == 0)=false:=beq_eq_false_iff_ne.mpr c4;have bL:(aD != 0)=true:=bne_iff_ne.mpr c4;simp only [Option.some.injEq,Prod.mk.injEq] at H;obtain ⟨rfl,rfl⟩:=H
  go_enter Tryz.func21,Tryz.ntmps21
  go_wp2_with (first|((with_reducible refine gate_dst (N:=2) rfl ?_);refine bev (N:=2) (cs:=#[.slice A0_0 l0_0.length c0_0]) (t:=27) ?_;intro ae hg w61 hbox hb;have aa:=ak (hbox);have bM:=gbe hg;have bN:=gbe hg;replace HB:=hbs hb;clear hb hbox hg;have b7:=bc aa.out;have b8:=blk_frozen aa.out 0)|((with_reducible refine gate_callee (f:=78) rfl ?_);refine gl (some 17) Tryz.func78 #[.agg #[.slice A0_0 l0_0.length c0_0],.slice A1 l1.length c1] ?_;(with_reducible refine (spec_l09Code.calls k _ _ l0_0 _ _ l1 aD _ (pc (Kd.C_below az.out HB.out)) aA.out (pc (Kd.C_below HR1.out HB.out)) HC1.out A3.out).mono ?_);rintro e w63 ⟨rfl,hb⟩;refine ⟨_,rfl,?_⟩;replace aa:=bb aa hb;replace HB:=hbs hb;(try clear hb)))
  go_ret2
  exact ⟨_,ew,q21_3,hq⟩
 rw [if_pos c4] at H;have bK:=be c4;have bL:=bn c4;clear c4;replace H:=bs H;obtain ⟨aj,A5,H⟩:=H;(try dsimp only at H);replace H:=ifs H;obtain ⟨c6,H⟩:=H;have b9:=eq_true c6;have ca:decide (0≤(l1.length:Int))=true:=decide_eq_true c6;clear c6;replace H:=ifs H;obtain ⟨c7,H⟩:=H;have cb:=eq_true c7;have cc:decide (((l1.length:Int):Int).toNat≤35184372088832)=true:=decide_eq_true c7;clear c7;obtain ⟨ay,hY⟩:∃ y_:List Int,y_=(List.replicate ((l1.length:Int):Int).toNat 0):=⟨_,rfl⟩;replace H:(spec_ListOfGrowth.l0 k l1 aj ay ([]:List Int) 0 l0_0)=some (r1,r2):=hh;have aE:=ak hY;clear hY;obtain ⟨aw,hY⟩:∃ y_:List Int,y_=([]:List Int):=⟨_,rfl⟩;replace H:(spec_ListOfGrowth.l0 k l1 aj ay aw 0 l0_0)=some (r1,r2):=hh;have aG:=ak hY;clear hY;have H':=ak H;clear H
 go_enter Tryz.func21,Tryz.ntmps21
 try go_wp2_with (first|((with_reducible refine gate_dst (N:=2) rfl ?_);refine bev (N:=2) (cs:=#[.slice A0_0 l0_0.length c0_0]) (t:=27) ?_;intro ae hg w8 hbox hb;have aa:=ak (hbox);have bM:=gbe hg;have bN:=gbe hg;replace HB:=hbs hb;clear hb hbox hg;have cd:=bc aa.out;have ce:=blk_frozen aa.out 0)|((with_reducible refine gate_callee (f:=78) rfl ?_);refine gl (some 17) Tryz.func78 #[.agg #[.slice A0_0 l0_0.length c0_0],.slice A1 l1.length c1] ?_;(with_reducible refine (spec_l09Code.calls k _ _ l0_0 _ _ l1 aD _ (pc (Kd.C_below az.out HB.out)) aA.out (pc (Kd.C_below HR1.out HB.out)) HC1.out A3.out).mono ?_);rintro e w10 ⟨rfl,hb⟩;refine ⟨_,rfl,?_⟩;replace aa:=bb aa hb;replace HB:=hbs hb;(try clear hb)))
 have n0_:=ak (blk_drew aa.out);have n1_:=ak (below_drew1 HB.out);clear aa HB;have aa:=n0_;have HB:=n1_;clear n0_ n1_
 refine start_ (n:=9) (S:=fun w'=>w'.cell? ⟨ae,0,none⟩=some (.slice A0_0 l0_0.length c0_0)) (ds:=[]) #[false,false,false,false,false,false,false,false,false] kr rfl rfl ((blk_cell aa.out 0).trans rfl) (fun hHeld=>?_);refine with_tabW spec_ListOfGrowth.tab4 spec_ListOfGrowth.bits4 (fun HT_ HW_=>?_)
 generalize w10.drew=w11 at aa HB hHeld ⊢
 refine pur (i:=2) (N:=some 23) (v:=?_) (a':=?_) #[false,false,true,false,false,false,false,false,false] rfl (Or.inl ⟨by rfl,?_⟩) ?_ ?_
 rotate_left
 ·intro w'
  go_simp
  with_reducible rfl
 rotate_left
 ·simp only [Act.put,sIB,sc0,scs,i64_w,i32_w]
  rfl
 refine pur (i:=3) (N:=some 24) (v:=?_) (a':=?_) #[false,false,true,true,false,false,false,false,false] rfl (Or.inl ⟨by rfl,?_⟩) ?_ ?_
 rotate_left
 ·intro w'
  go_simp
  with_reducible rfl
 rotate_left
 ·simp only [Act.put,sIB,sc0,scs,i64_w,i32_w]
  rfl
 refine take_ (i:=0) (N:=some 21) (v:=?_) (a':=?_) #[true,false,true,true,false,false,false,false,false] rfl rfl (take_ofW HT_.out HW_.out kr) (fun _ _ _ h=>h) (Or.inl ⟨by rfl,?_⟩) hHeld ?_ ?_
 rotate_left
 ·intro w' s0
  go_simp
  with_reducible rfl
 rotate_left
 ·simp only [Act.put,sIB,sc0,scs,i64_w,i32_w]
  rfl
 refine join_ (σ:=Value × Value × Value) 1 #[true,true,true,true,true,true,true,true,false] (fun s_=>[(22,s_.1),(25,s_.2.1),(26,s_.2.2),(7,s_.1),(8,s_.2.1)]) (fun s_ w'=>(w'.cell? ⟨ae,0,none⟩=some (.slice A0_0 l0_0.length c0_0))∧(Kd.R (Kd.int .i64) 2 w' w.heap.size (fun k_=>some k_≠(s_.2.1:Value).ownBlock∧some k_≠(s_.2.2:Value).ownBlock) s_.1 aj)∧(Kd.R (Kd.int .i64) 2 w' w.heap.size (fun k_=>some k_≠(s_.1:Value).ownBlock∧some k_≠(s_.2.2:Value).ownBlock) s_.2.1 ay)∧(Kd.R (Kd.int .i64) 2 w' w.heap.size (fun k_=>some k_≠(s_.1:Value).ownBlock∧some k_≠(s_.2.1:Value).ownBlock) s_.2.2 aw)∧(w'.heap[ae]?=some (.cells #[.slice A0_0 l0_0.length c0_0] 27 (0,0)))∧(Below w.heap.size w w')) ?_ ?_
 rotate_left
 ·intro a5
  refine join_ (σ:=Value × Value) 2 #[true,true,true,true,true,false,true,true,false] (fun s_=>[(22,s_.1),(25,s_.2),(7,s_.1),(8,s_.2)]) (fun s_ w'=>(w'.cell? ⟨ae,0,none⟩=some (.slice A0_0 l0_0.length c0_0))∧(Kd.R (Kd.int .i64) 2 w' w.heap.size (fun k_=>some k_≠(s_.2:Value).ownBlock) s_.1 aj)∧(Kd.R (Kd.int .i64) 2 w' w.heap.size (fun k_=>some k_≠(s_.1:Value).ownBlock) s_.2 ay)∧(w'.heap[ae]?=some (.cells #[.slice A0_0 l0_0.length c0_0] 27 (0,0)))∧(Below w.heap.size w w')) ?_ ?_
  rotate_left
  ·intro bw
   refine join_ (σ:=Value × Value) 3 #[true,true,true,true,false,true,true,false,false] (fun s_=>[(22,s_.1),(26,s_.2),(7,s_.1)]) (fun s_ w'=>(w'.cell? ⟨ae,0,none⟩=some (.slice A0_0 l0_0.length c0_0))∧(Kd.R (Kd.int .i64) 2 w' w.heap.size (fun k_=>some k_≠(s_.2:Value).ownBlock) s_.1 aj)∧(Kd.R (Kd.int .i64) 2 w' w.heap.size (fun k_=>some k_≠(s_.1:Value).ownBlock) s_.2 aw)∧(w'.heap[ae]?=some (.cells #[.slice A0_0 l0_0.length c0_0] 27 (0,0)))∧(Below w.heap.size w w')) ?_ ?_
   rotate_left
   ·intro bx
    refine join_ (σ:=Value × Value) 4 #[true,false,true,true,true,true,false,false,false] (fun s_=>[(25,s_.1),(26,s_.2)]) (fun s_ w'=>(w'.cell? ⟨ae,0,none⟩=some (.slice A0_0 l0_0.length c0_0))∧(Kd.R (Kd.int .i64) 2 w' w.heap.size (fun k_=>some k_≠(s_.2:Value).ownBlock) s_.1 ay)∧(Kd.R (Kd.int .i64) 2 w' w.heap.size (fun k_=>some k_≠(s_.1:Value).ownBlock) s_.2 aw)∧(w'.heap[ae]?=some (.cells #[.slice A0_0 l0_0.length c0_0] 27 (0,0)))∧(Below w.heap.size w w')) ?_ ?_
    rotate_left
    ·intro bz
     refine join_ (σ:=Value) 4 #[true,true,true,true,false,false,true,false,false] (fun s_=>[(22,s_),(7,s_)]) (fun s_ w'=>(w'.cell? ⟨ae,0,none⟩=some (.slice A0_0 l0_0.length c0_0))∧(Kd.R (Kd.int .i64) 2 w' w.heap.size (fun _=>True) s_ aj)∧(w'.heap[ae]?=some (.cells #[.slice A0_0 l0_0.length c0_0] 27 (0,0)))∧(Below w.heap.size w w')) ?_ ?_
     rotate_left
     ·intro hJ1
      refine join_ (σ:=Value) 5 #[true,false,true,true,true,false,false,false,false] (fun s_=>[(25,s_)]) (fun s_ w'=>(w'.cell? ⟨ae,0,none⟩=some (.slice A0_0 l0_0.length c0_0))∧(Kd.R (Kd.int .i64) 2 w' w.heap.size (fun _=>True) s_ ay)∧(w'.heap[ae]?=some (.cells #[.slice A0_0 l0_0.length c0_0] 27 (0,0)))∧(Below w.heap.size w w')) ?_ ?_
      rotate_left
      ·intro hJ4
       refine join_ (σ:=Value) 5 #[true,false,true,true,false,true,false,false,false] (fun s_=>[(26,s_)]) (fun s_ w'=>(w'.cell? ⟨ae,0,none⟩=some (.slice A0_0 l0_0.length c0_0))∧(Kd.R (Kd.int .i64) 2 w' w.heap.size (fun _=>True) s_ aw)∧(w'.heap[ae]?=some (.cells #[.slice A0_0 l0_0.length c0_0] 27 (0,0)))∧(Below w.heap.size w w')) ?_ ?_
       rotate_left
       ·intro hJ5
        refine three_ (i:=1) (j:=4) (k:=5) (Ni:=some 22) (Nj:=some 25) (Nk:=some 26) #[true,true,true,true,false,false,false,false,false] #[true,false,true,true,true,false,false,false,false] #[true,false,true,true,false,true,false,false,false] rfl rfl rfl rfl rfl rfl (three_of HT_.out kr) dc dc dc (fun K hK=>?_) (fun K hK=>?_) (fun K hK=>?_)
        ·skip
         refine goes_ Tryz.func79 kr rfl #[.agg #[.slice A0_0 l0_0.length c0_0]] (by rfl) rfl rfl am ?_
         with_reducible refine (spec_l01Parents.calls k _ _ l0_0 aj _ ?side1 ?side2 A5.out).mono ?_
         (case side1=>exact pc (Kd.C_below az.out HB.out))
         (case side2=>exact aA.out)
         rintro e w12 ⟨al,rfl,ho0,hb⟩
         refine ⟨_,rfl,?_⟩
         have n0_:=lw ho0;have n1_:=bb aa hb;have n2_:=hbs hb;clear aa HB;have ag:=n0_;have aa:=n1_;have HB:=n2_;clear n0_ n1_ n2_;(try clear hb);(try clear hb2);(try clear hk);(try clear hi);(try clear ho0)
         refine hK.out _ _ ((blk_cell aa.out 0).trans rfl) (fun hHeld=>?_)
         clear hK K
         refine norm_ (a':=?_) ?_ ?_
         rotate_left
         ·show Act.put _ (some 22) _=_;simp only [Act.put,sIB,sc0,scs,i64_w,i32_w]
          rfl
         refine pur (i:=6) (N:=some 7) (v:=?_) (a':=?_) #[true,true,true,true,false,false,true,false,false] rfl (Or.inl ⟨by rfl,?_⟩) ?_ ?_
         rotate_left
         ·intro w'
          go_simp
          with_reducible rfl
         rotate_left
         ·simp only [Act.put,sIB,sc0,scs,i64_w,i32_w]
          rfl
         exact norm_ q21_0 (hJ1 (al) _ ⟨hHeld,(pe ag.out),(pb aa.out),hq⟩)
        ·skip
         refine Kd.R_make_step (Kd.int .i64) _ 2 (by rfl) (N:=25) rfl 24 _ _ rfl (l1.length:Int) rfl rfl Tryz.underlying24 (.int .i64 0) 8 info2 rfl dc (by omega) 0 (ok:=fun _=>True) (okp:=fun _=>True) rfl (fun _ hk=>hk) trivial (od q21_1) (Nat.le_trans (Nat.mul_le_mul_right _ (od q21_1:(l1.length:Int).toNat≤35184372088832)) (by omega)) (Below.refl _ _) (Nat.le_refl _) ?_
         intro af w12 ho13 hb hg_ hnew_
         clear hg_ hnew_;(first|rw [← aE.out] at ho13|(simp only [Int.reduceToNat] at ho13;rw [← aE.out] at ho13));have n0_:=lw ho13;have n1_:=bb aa hb;have n2_:=hbs hb;clear aa HB;have ah:=n0_;have aa:=n1_;have HB:=n2_;clear n0_ n1_ n2_ hb ho13
         refine hK.out _ _ ((blk_cell aa.out 0).trans rfl) (fun hHeld=>?_)
         clear hK K
         refine norm_ (a':=?_) ?_ ?_
         rotate_left
         ·show Act.put _ (some 25) _=_;simp only [Act.put,sIB,sc0,scs,i64_w,i32_w]
          rfl
         exact norm_ q21_0 (hJ4 (af) _ ⟨hHeld,(pe ah.out),(pb aa.out),hq⟩)
        ·skip
         refine Kd.R_lit_step (Kd.int .i64) _ 2 ?hg (N:=26) ?hd (xs:=([]:List Int)) (inner:=[]) (ok:=fun _=>True) (okp:=fun _=>True) ?hr ?hp (fun _ hk=>hk) trivial (Below.refl _ _) (Nat.le_refl _) (by simp) ?_;(case hd=>rfl);(case hg=>rfl);(case hr=>exact gs);(case hp=>exact (Reps.none _ _))
         intro ap w12 ho13 hb hg_ hnew_
         clear hg_ hnew_;(first|rw [← aG.out] at ho13|(simp only [Int.reduceToNat] at ho13;rw [← aG.out] at ho13));have n0_:=lw ho13;have n1_:=bb aa hb;have n2_:=hbs hb;clear aa HB;have ai:=n0_;have aa:=n1_;have HB:=n2_;clear n0_ n1_ n2_ hb ho13
         refine hK.out _ _ ((blk_cell aa.out 0).trans rfl) (fun hHeld=>?_)
         clear hK K
         refine norm_ (a':=?_) ?_ ?_
         rotate_left
         ·show Act.put _ (some 26) _=_;simp only [Act.put,sIB,sc0,scs,i64_w,i32_w]
          rfl
         exact norm_ q21_0 (hJ5 (ap) _ ⟨hHeld,(pe ai.out),(pb aa.out),hq⟩)
       ·skip
        rintro ap w14 ⟨hS_,h0_,h1_,h2_⟩
        have n0_:Aside0 (Kd.R (Kd.int .i64) 2 w14 w.heap.size (fun _=>True) ap aw):=⟨h0_⟩;have n1_:Aside0 (w14.heap[ae]?=some (.cells #[.slice A0_0 l0_0.length c0_0] 27 (0,0))):=⟨h1_⟩;have n2_:Aside0 (Below w.heap.size w w14):=⟨h2_⟩;clear aa HB h0_ h1_ h2_;have ai:=n0_;have aa:=n1_;have HB:=n2_;clear n0_ n1_ n2_;have hHeld:w14.cell? ⟨ae,0,none⟩=some (.slice A0_0 l0_0.length c0_0):=hS_
        refine norm_ (a':=?_) ?_ ?_
        rotate_left
        ·simp only [putAll,Act.put,List.setIfInBounds_toArray,List.set_cons_zero,List.set_cons_succ]
         rfl
        refine two_ (i:=1) (j:=4) (Ni:=some 22) (Nj:=some 25) #[true,true,true,true,false,true,false,false,false] #[true,false,true,true,true,true,false,false,false] rfl rfl rfl rfl (two_of HT_.out kr) dc dc (fun K hK=>?_) (fun K hK=>?_)
        ·skip
         refine goes_ Tryz.func79 kr rfl #[.agg #[.slice A0_0 l0_0.length c0_0]] (by rfl) rfl rfl am ?_
         with_reducible refine (spec_l01Parents.calls k _ _ l0_0 aj _ ?side1 ?side2 A5.out).mono ?_
         (case side1=>exact pc (Kd.C_below az.out HB.out))
         (case side2=>exact aA.out)
         rintro e w15 ⟨al,rfl,ho0,hb⟩
         refine ⟨_,rfl,?_⟩
         have n0_:=rn ai ho0 hb;have n1_:=lw (nw ho0 ai);have n2_:=bb aa hb;have n3_:=hbs hb;clear ai aa HB;have ai:=n0_;have ag:=n1_;have aa:=n2_;have HB:=n3_;clear n0_ n1_ n2_ n3_;(try clear hb);(try clear hb2);(try clear hk);(try clear hi);(try clear ho0)
         refine hK.out _ _ ((blk_cell aa.out 0).trans rfl) (fun hHeld=>?_)
         clear hK K
         refine norm_ (a':=?_) ?_ ?_
         rotate_left
         ·show Act.put _ (some 22) _=_;simp only [Act.put,sIB,sc0,scs,i64_w,i32_w]
          rfl
         refine pur (i:=6) (N:=some 7) (v:=?_) (a':=?_) #[true,true,true,true,false,true,true,false,false] rfl (Or.inl ⟨by rfl,?_⟩) ?_ ?_
         rotate_left
         ·intro w'
          go_simp
          with_reducible rfl
         rotate_left
         ·simp only [Act.put,sIB,sc0,scs,i64_w,i32_w]
          rfl
         exact norm_ q21_0 (bx (al,ap) _ ⟨hHeld,(pe (Kd.R_mono ag.out (fun _ hk=>hk.2))),(pe (Kd.R_mono ai.out (fun _ hk=>hk.2))),(pb aa.out),hq⟩)
        ·skip
         refine Kd.R_make_step (Kd.int .i64) _ 2 (by rfl) (N:=25) rfl 24 _ _ rfl (l1.length:Int) rfl rfl Tryz.underlying24 (.int .i64 0) 8 info2 rfl dc (by omega) 0 (ok:=fun _=>True) (okp:=fun _=>True) rfl (fun _ hk=>hk) trivial (od q21_1) (Nat.le_trans (Nat.mul_le_mul_right _ (od q21_1:(l1.length:Int).toNat≤35184372088832)) (by omega)) (Below.refl _ _) (Nat.le_refl _) ?_
         intro af w15 ho16 hb hg_ hnew_
         clear hg_ hnew_;(first|rw [← aE.out] at ho16|(simp only [Int.reduceToNat] at ho16;rw [← aE.out] at ho16));have n0_:=rn ai ho16 hb;have n1_:=lw (nw ho16 ai);have n2_:=bb aa hb;have n3_:=hbs hb;clear ai aa HB;have ai:=n0_;have ah:=n1_;have aa:=n2_;have HB:=n3_;clear n0_ n1_ n2_ n3_ hb ho16
         refine hK.out _ _ ((blk_cell aa.out 0).trans rfl) (fun hHeld=>?_)
         clear hK K
         refine norm_ (a':=?_) ?_ ?_
         rotate_left
         ·show Act.put _ (some 25) _=_;simp only [Act.put,sIB,sc0,scs,i64_w,i32_w]
          rfl
         exact norm_ q21_0 (bz (af,ap) _ ⟨hHeld,(pe (Kd.R_mono ah.out (fun _ hk=>hk.2))),(pe (Kd.R_mono ai.out (fun _ hk=>hk.2))),(pb aa.out),hq⟩)
      ·skip
       rintro af w14 ⟨hS_,h0_,h1_,h2_⟩
       have n0_:Aside0 (Kd.R (Kd.int .i64) 2 w14 w.heap.size (fun _=>True) af ay):=⟨h0_⟩;have n1_:Aside0 (w14.heap[ae]?=some (.cells #[.slice A0_0 l0_0.length c0_0] 27 (0,0))):=⟨h1_⟩;have n2_:Aside0 (Below w.heap.size w w14):=⟨h2_⟩;clear aa HB h0_ h1_ h2_;have ah:=n0_;have aa:=n1_;have HB:=n2_;clear n0_ n1_ n2_;have hHeld:w14.cell? ⟨ae,0,none⟩=some (.slice A0_0 l0_0.length c0_0):=hS_
       refine norm_ (a':=?_) ?_ ?_
       rotate_left
       ·simp only [putAll,Act.put,List.setIfInBounds_toArray,List.set_cons_zero,List.set_cons_succ]
        rfl
       refine two_ (i:=1) (j:=5) (Ni:=some 22) (Nj:=some 26) #[true,true,true,true,true,false,false,false,false] #[true,false,true,true,true,true,false,false,false] rfl rfl rfl rfl (two_of HT_.out kr) dc dc (fun K hK=>?_) (fun K hK=>?_)
       ·skip
        refine goes_ Tryz.func79 kr rfl #[.agg #[.slice A0_0 l0_0.length c0_0]] (by rfl) rfl rfl am ?_
        with_reducible refine (spec_l01Parents.calls k _ _ l0_0 aj _ ?side1 ?side2 A5.out).mono ?_
        (case side1=>exact pc (Kd.C_below az.out HB.out))
        (case side2=>exact aA.out)
        rintro e w15 ⟨al,rfl,ho0,hb⟩
        refine ⟨_,rfl,?_⟩
        have n0_:=rn ah ho0 hb;have n1_:=lw (nw ho0 ah);have n2_:=bb aa hb;have n3_:=hbs hb;clear ah aa HB;have ah:=n0_;have ag:=n1_;have aa:=n2_;have HB:=n3_;clear n0_ n1_ n2_ n3_;(try clear hb);(try clear hb2);(try clear hk);(try clear hi);(try clear ho0)
        refine hK.out _ _ ((blk_cell aa.out 0).trans rfl) (fun hHeld=>?_)
        clear hK K
        refine norm_ (a':=?_) ?_ ?_
        rotate_left
        ·show Act.put _ (some 22) _=_;simp only [Act.put,sIB,sc0,scs,i64_w,i32_w]
         rfl
        refine pur (i:=6) (N:=some 7) (v:=?_) (a':=?_) #[true,true,true,true,true,false,true,false,false] rfl (Or.inl ⟨by rfl,?_⟩) ?_ ?_
        rotate_left
        ·intro w'
         go_simp
         with_reducible rfl
        rotate_left
        ·simp only [Act.put,sIB,sc0,scs,i64_w,i32_w]
         rfl
        refine pur (i:=7) (N:=some 8) (v:=?_) (a':=?_) #[true,true,true,true,true,false,true,true,false] rfl (Or.inl ⟨by rfl,?_⟩) ?_ ?_
        rotate_left
        ·intro w'
         go_simp
         with_reducible rfl
        rotate_left
        ·simp only [Act.put,sIB,sc0,scs,i64_w,i32_w]
         rfl
        exact norm_ q21_0 (bw (al,af) _ ⟨hHeld,(pe (Kd.R_mono ag.out (fun _ hk=>hk.2))),(pe (Kd.R_mono ah.out (fun _ hk=>hk.2))),(pb aa.out),hq⟩)
       ·skip
        refine Kd.R_lit_step (Kd.int .i64) _ 2 ?hg (N:=26) ?hd (xs:=([]:List Int)) (inner:=[]) (ok:=fun _=>True) (okp:=fun _=>True) ?hr ?hp (fun _ hk=>hk) trivial (Below.refl _ _) (Nat.le_refl _) (by simp) ?_;(case hd=>rfl);(case hg=>rfl);(case hr=>exact gs);(case hp=>exact (Reps.none _ _))
        intro ap w15 ho16 hb hg_ hnew_
        clear hg_ hnew_;(first|rw [← aG.out] at ho16|(simp only [Int.reduceToNat] at ho16;rw [← aG.out] at ho16));have n0_:=rn ah ho16 hb;have n1_:=lw (nw ho16 ah);have n2_:=bb aa hb;have n3_:=hbs hb;clear ah aa HB;have ah:=n0_;have ai:=n1_;have aa:=n2_;have HB:=n3_;clear n0_ n1_ n2_ n3_ hb ho16
        refine hK.out _ _ ((blk_cell aa.out 0).trans rfl) (fun hHeld=>?_)
        clear hK K
        refine norm_ (a':=?_) ?_ ?_
        rotate_left
        ·show Act.put _ (some 26) _=_;simp only [Act.put,sIB,sc0,scs,i64_w,i32_w]
         rfl
        exact norm_ q21_0 (bz (af,ap) _ ⟨hHeld,(pe (Kd.R_mono ah.out (fun _ hk=>hk.2))),(pe (Kd.R_mono ai.out (fun _ hk=>hk.2))),(pb aa.out),hq⟩)
     ·skip
      rintro al w13 ⟨hS_,h0_,h1_,h2_⟩
      have n0_:Aside0 (Kd.R (Kd.int .i64) 2 w13 w.heap.size (fun _=>True) al aj):=⟨h0_⟩;have n1_:Aside0 (w13.heap[ae]?=some (.cells #[.slice A0_0 l0_0.length c0_0] 27 (0,0))):=⟨h1_⟩;have n2_:Aside0 (Below w.heap.size w w13):=⟨h2_⟩;clear aa HB h0_ h1_ h2_;have ag:=n0_;have aa:=n1_;have HB:=n2_;clear n0_ n1_ n2_;have hHeld:w13.cell? ⟨ae,0,none⟩=some (.slice A0_0 l0_0.length c0_0):=hS_
      refine norm_ (a':=?_) ?_ ?_
      rotate_left
      ·simp only [putAll,Act.put,List.setIfInBounds_toArray,List.set_cons_zero,List.set_cons_succ]
       rfl
      refine two_ (i:=4) (j:=5) (Ni:=some 25) (Nj:=some 26) #[true,true,true,true,true,false,true,false,false] #[true,true,true,true,false,true,true,false,false] rfl rfl rfl rfl (two_of HT_.out kr) dc dc (fun K hK=>?_) (fun K hK=>?_)
      ·skip
       refine Kd.R_make_step (Kd.int .i64) _ 2 (by rfl) (N:=25) rfl 24 _ _ rfl (l1.length:Int) rfl rfl Tryz.underlying24 (.int .i64 0) 8 info2 rfl dc (by omega) 0 (ok:=fun _=>True) (okp:=fun _=>True) rfl (fun _ hk=>hk) trivial (od q21_1) (Nat.le_trans (Nat.mul_le_mul_right _ (od q21_1:(l1.length:Int).toNat≤35184372088832)) (by omega)) (Below.refl _ _) (Nat.le_refl _) ?_
       intro af w14 ho15 hb hg_ hnew_
       clear hg_ hnew_;(first|rw [← aE.out] at ho15|(simp only [Int.reduceToNat] at ho15;rw [← aE.out] at ho15));have n0_:=rn ag ho15 hb;have n1_:=lw (nw ho15 ag);have n2_:=bb aa hb;have n3_:=hbs hb;clear ag aa HB;have ag:=n0_;have ah:=n1_;have aa:=n2_;have HB:=n3_;clear n0_ n1_ n2_ n3_ hb ho15
       refine hK.out _ _ ((blk_cell aa.out 0).trans rfl) (fun hHeld=>?_)
       clear hK K
       refine norm_ (a':=?_) ?_ ?_
       rotate_left
       ·show Act.put _ (some 25) _=_;simp only [Act.put,sIB,sc0,scs,i64_w,i32_w]
        rfl
       refine pur (i:=7) (N:=some 8) (v:=?_) (a':=?_) #[true,true,true,true,true,false,true,true,false] rfl (Or.inl ⟨by rfl,?_⟩) ?_ ?_
       rotate_left
       ·intro w'
        go_simp
        with_reducible rfl
       rotate_left
       ·simp only [Act.put,sIB,sc0,scs,i64_w,i32_w]
        rfl
       exact norm_ q21_0 (bw (al,af) _ ⟨hHeld,(pe (Kd.R_mono ag.out (fun _ hk=>hk.2))),(pe (Kd.R_mono ah.out (fun _ hk=>hk.2))),(pb aa.out),hq⟩)
      ·skip
       refine Kd.R_lit_step (Kd.int .i64) _ 2 ?hg (N:=26) ?hd (xs:=([]:List Int)) (inner:=[]) (ok:=fun _=>True) (okp:=fun _=>True) ?hr ?hp (fun _ hk=>hk) trivial (Below.refl _ _) (Nat.le_refl _) (by simp) ?_;(case hd=>rfl);(case hg=>rfl);(case hr=>exact gs);(case hp=>exact (Reps.none _ _))
       intro ap w14 ho15 hb hg_ hnew_
       clear hg_ hnew_;(first|rw [← aG.out] at ho15|(simp only [Int.reduceToNat] at ho15;rw [← aG.out] at ho15));have n0_:=rn ag ho15 hb;have n1_:=lw (nw ho15 ag);have n2_:=bb aa hb;have n3_:=hbs hb;clear ag aa HB;have ag:=n0_;have ai:=n1_;have aa:=n2_;have HB:=n3_;clear n0_ n1_ n2_ n3_ hb ho15
       refine hK.out _ _ ((blk_cell aa.out 0).trans rfl) (fun hHeld=>?_)
       clear hK K
       refine norm_ (a':=?_) ?_ ?_
       rotate_left
       ·show Act.put _ (some 26) _=_;simp only [Act.put,sIB,sc0,scs,i64_w,i32_w]
        rfl
       exact norm_ q21_0 (bx (al,ap) _ ⟨hHeld,(pe (Kd.R_mono ag.out (fun _ hk=>hk.2))),(pe (Kd.R_mono ai.out (fun _ hk=>hk.2))),(pb aa.out),hq⟩)
    ·skip
     rintro ⟨af,ap⟩ w16 ⟨hS_,h0_,h1_,h2_,h3_⟩
     have n0_:Aside0 (Kd.R (Kd.int .i64) 2 w16 w.heap.size (fun k_=>some k_≠(ap:Value).ownBlock) af ay):=⟨h0_⟩;have n1_:Aside0 (Kd.R (Kd.int .i64) 2 w16 w.heap.size (fun k_=>some k_≠(af:Value).ownBlock) ap aw):=⟨h1_⟩;have n2_:Aside0 (w16.heap[ae]?=some (.cells #[.slice A0_0 l0_0.length c0_0] 27 (0,0))):=⟨h2_⟩;have n3_:Aside0 (Below w.heap.size w w16):=⟨h3_⟩;clear aa HB h0_ h1_ h2_ h3_;have ah:=n0_;have ai:=n1_;have aa:=n2_;have HB:=n3_;clear n0_ n1_ n2_ n3_;have hHeld:w16.cell? ⟨ae,0,none⟩=some (.slice A0_0 l0_0.length c0_0):=hS_
     refine norm_ (a':=?_) ?_ ?_
     rotate_left
     ·simp only [putAll,Act.put,List.setIfInBounds_toArray,List.set_cons_zero,List.set_cons_succ]
      rfl
     refine one_ (i:=1) (N:=some 22) #[true,true,true,true,true,true,false,false,false] rfl rfl (one_of HT_.out kr) dc (fun K hK=>?_)
     refine goes_ Tryz.func79 kr rfl #[.agg #[.slice A0_0 l0_0.length c0_0]] (by rfl) rfl rfl am ?_
     with_reducible refine (spec_l01Parents.calls k _ _ l0_0 aj _ ?side1 ?side2 A5.out).mono ?_
     (case side1=>exact pc (Kd.C_below az.out HB.out))
     (case side2=>exact aA.out)
     rintro e w17 ⟨al,rfl,ho0,hb⟩
     refine ⟨_,rfl,?_⟩
     have n0_:=rn ah ho0 hb;have n1_:=rn ai ho0 hb;have n2_:=lw (nw (nw ho0 ah) ai);have n3_:=bb aa hb;have n4_:=hbs hb;clear ah ai aa HB;have ah:=n0_;have ai:=n1_;have ag:=n2_;have aa:=n3_;have HB:=n4_;clear n0_ n1_ n2_ n3_ n4_;(try clear hb);(try clear hb2);(try clear hk);(try clear hi);(try clear ho0)
     refine hK.out _ _ ((blk_cell aa.out 0).trans rfl) (fun hHeld=>?_)
     clear hK K
     refine norm_ (a':=?_) ?_ ?_
     rotate_left
     ·show Act.put _ (some 22) _=_;simp only [Act.put,sIB,sc0,scs,i64_w,i32_w]
      rfl
     refine pur (i:=6) (N:=some 7) (v:=?_) (a':=?_) #[true,true,true,true,true,true,true,false,false] rfl (Or.inl ⟨by rfl,?_⟩) ?_ ?_
     rotate_left
     ·intro w'
      go_simp
      with_reducible rfl
     rotate_left
     ·simp only [Act.put,sIB,sc0,scs,i64_w,i32_w]
      rfl
     refine pur (i:=7) (N:=some 8) (v:=?_) (a':=?_) #[true,true,true,true,true,true,true,true,false] rfl (Or.inl ⟨by rfl,?_⟩) ?_ ?_
     rotate_left
     ·intro w'
      go_simp
      with_reducible rfl
     rotate_left
     ·simp only [Act.put,sIB,sc0,scs,i64_w,i32_w]
      rfl
     exact norm_ q21_0 (a5 (al,af,ap) _ ⟨hHeld,(pe (Kd.R_mono ag.out (fun _ hk=>⟨hk.1.2,hk.2⟩))),(pe (Kd.R_mono ah.out (fun _ hk=>⟨hk.2,hk.1⟩))),(pe (Kd.R_mono ai.out (fun _ hk=>⟨hk.2,hk.1⟩))),(pb aa.out),hq⟩)
   ·skip
    rintro ⟨al,ap⟩ w15 ⟨hS_,h0_,h1_,h2_,h3_⟩
    have n0_:Aside0 (Kd.R (Kd.int .i64) 2 w15 w.heap.size (fun k_=>some k_≠(ap:Value).ownBlock) al aj):=⟨h0_⟩;have n1_:Aside0 (Kd.R (Kd.int .i64) 2 w15 w.heap.size (fun k_=>some k_≠(al:Value).ownBlock) ap aw):=⟨h1_⟩;have n2_:Aside0 (w15.heap[ae]?=some (.cells #[.slice A0_0 l0_0.length c0_0] 27 (0,0))):=⟨h2_⟩;have n3_:Aside0 (Below w.heap.size w w15):=⟨h3_⟩;clear aa HB h0_ h1_ h2_ h3_;have ag:=n0_;have ai:=n1_;have aa:=n2_;have HB:=n3_;clear n0_ n1_ n2_ n3_;have hHeld:w15.cell? ⟨ae,0,none⟩=some (.slice A0_0 l0_0.length c0_0):=hS_
    refine norm_ (a':=?_) ?_ ?_
    rotate_left
    ·simp only [putAll,Act.put,List.setIfInBounds_toArray,List.set_cons_zero,List.set_cons_succ]
     rfl
    refine one_ (i:=4) (N:=some 25) #[true,true,true,true,true,true,true,false,false] rfl rfl (one_of HT_.out kr) dc (fun K hK=>?_)
    refine Kd.R_make_step (Kd.int .i64) _ 2 (by rfl) (N:=25) rfl 24 _ _ rfl (l1.length:Int) rfl rfl Tryz.underlying24 (.int .i64 0) 8 info2 rfl dc (by omega) 0 (ok:=fun _=>True) (okp:=fun _=>True) rfl (fun _ hk=>hk) trivial (od q21_1) (Nat.le_trans (Nat.mul_le_mul_right _ (od q21_1:(l1.length:Int).toNat≤35184372088832)) (by omega)) (Below.refl _ _) (Nat.le_refl _) ?_
    intro af w16 ho17 hb hg_ hnew_
    clear hg_ hnew_;(first|rw [← aE.out] at ho17|(simp only [Int.reduceToNat] at ho17;rw [← aE.out] at ho17));have n0_:=rn ag ho17 hb;have n1_:=rn ai ho17 hb;have n2_:=lw (nw (nw ho17 ag) ai);have n3_:=bb aa hb;have n4_:=hbs hb;clear ag ai aa HB;have ag:=n0_;have ai:=n1_;have ah:=n2_;have aa:=n3_;have HB:=n4_;clear n0_ n1_ n2_ n3_ n4_ hb ho17
    refine hK.out _ _ ((blk_cell aa.out 0).trans rfl) (fun hHeld=>?_)
    clear hK K
    refine norm_ (a':=?_) ?_ ?_
    rotate_left
    ·show Act.put _ (some 25) _=_;simp only [Act.put,sIB,sc0,scs,i64_w,i32_w]
     rfl
    refine pur (i:=7) (N:=some 8) (v:=?_) (a':=?_) #[true,true,true,true,true,true,true,true,false] rfl (Or.inl ⟨by rfl,?_⟩) ?_ ?_
    rotate_left
    ·intro w'
     go_simp
     with_reducible rfl
    rotate_left
    ·simp only [Act.put,sIB,sc0,scs,i64_w,i32_w]
     rfl
    exact norm_ q21_0 (a5 (al,af,ap) _ ⟨hHeld,(pe (Kd.R_mono ag.out (fun _ hk=>⟨hk.2,hk.1⟩))),(pe (Kd.R_mono ah.out (fun _ hk=>⟨hk.1.2,hk.2⟩))),(pe ai.out),(pb aa.out),hq⟩)
  ·skip
   rintro ⟨al,af⟩ w15 ⟨hS_,h0_,h1_,h2_,h3_⟩
   have n0_:Aside0 (Kd.R (Kd.int .i64) 2 w15 w.heap.size (fun k_=>some k_≠(af:Value).ownBlock) al aj):=⟨h0_⟩;have n1_:Aside0 (Kd.R (Kd.int .i64) 2 w15 w.heap.size (fun k_=>some k_≠(al:Value).ownBlock) af ay):=⟨h1_⟩;have n2_:Aside0 (w15.heap[ae]?=some (.cells #[.slice A0_0 l0_0.length c0_0] 27 (0,0))):=⟨h2_⟩;have n3_:Aside0 (Below w.heap.size w w15):=⟨h3_⟩;clear aa HB h0_ h1_ h2_ h3_;have ag:=n0_;have ah:=n1_;have aa:=n2_;have HB:=n3_;clear n0_ n1_ n2_ n3_;have hHeld:w15.cell? ⟨ae,0,none⟩=some (.slice A0_0 l0_0.length c0_0):=hS_
   refine norm_ (a':=?_) ?_ ?_
   rotate_left
   ·simp only [putAll,Act.put,List.setIfInBounds_toArray,List.set_cons_zero,List.set_cons_succ]
    rfl
   refine one_ (i:=5) (N:=some 26) #[true,true,true,true,true,true,true,true,false] rfl rfl (one_of HT_.out kr) dc (fun K hK=>?_)
   refine Kd.R_lit_step (Kd.int .i64) _ 2 ?hg (N:=26) ?hd (xs:=([]:List Int)) (inner:=[]) (ok:=fun _=>True) (okp:=fun _=>True) ?hr ?hp (fun _ hk=>hk) trivial (Below.refl _ _) (Nat.le_refl _) (by simp) ?_;(case hd=>rfl);(case hg=>rfl);(case hr=>exact gs);(case hp=>exact (Reps.none _ _))
   intro ap w16 ho17 hb hg_ hnew_
   clear hg_ hnew_;(first|rw [← aG.out] at ho17|(simp only [Int.reduceToNat] at ho17;rw [← aG.out] at ho17));have n0_:=rn ag ho17 hb;have n1_:=rn ah ho17 hb;have n2_:=lw (nw (nw ho17 ag) ah);have n3_:=bb aa hb;have n4_:=hbs hb;clear ag ah aa HB;have ag:=n0_;have ah:=n1_;have ai:=n2_;have aa:=n3_;have HB:=n4_;clear n0_ n1_ n2_ n3_ n4_ hb ho17
   refine hK.out _ _ ((blk_cell aa.out 0).trans rfl) (fun hHeld=>?_)
   clear hK K
   refine norm_ (a':=?_) ?_ ?_
   rotate_left
   ·show Act.put _ (some 26) _=_;simp only [Act.put,sIB,sc0,scs,i64_w,i32_w]
    rfl
   exact norm_ q21_0 (a5 (al,af,ap) _ ⟨hHeld,(pe ag.out),(pe ah.out),(pe (Kd.R_mono ai.out (fun _ hk=>⟨hk.1.2,hk.2⟩))),(pb aa.out),hq⟩)
 rintro ⟨al,af,ap⟩ w17 ⟨hS_,h0_,h1_,h2_,h3_,h4_⟩
 have n0_:Aside0 (Kd.R (Kd.int .i64) 2 w17 w.heap.size (fun k_=>some k_≠(af:Value).ownBlock∧some k_≠(ap:Value).ownBlock) al aj):=⟨h0_⟩;have n1_:Aside0 (Kd.R (Kd.int .i64) 2 w17 w.heap.size (fun k_=>some k_≠(al:Value).ownBlock∧some k_≠(ap:Value).ownBlock) af ay):=⟨h1_⟩;have n2_:Aside0 (Kd.R (Kd.int .i64) 2 w17 w.heap.size (fun k_=>some k_≠(al:Value).ownBlock∧some k_≠(af:Value).ownBlock) ap aw):=⟨h2_⟩;have n3_:Aside0 (w17.heap[ae]?=some (.cells #[.slice A0_0 l0_0.length c0_0] 27 (0,0))):=⟨h3_⟩;have n4_:Aside0 (Below w.heap.size w w17):=⟨h4_⟩;clear aa HB h0_ h1_ h2_ h3_ h4_;have ag:=n0_;have ah:=n1_;have ai:=n2_;have aa:=n3_;have HB:=n4_;clear n0_ n1_ n2_ n3_ n4_;have hHeld:w17.cell? ⟨ae,0,none⟩=some (.slice A0_0 l0_0.length c0_0):=hS_
 refine norm_ (a':=?_) ?_ ?_
 rotate_left
 ·simp only [putAll,Act.put,List.setIfInBounds_toArray,List.set_cons_zero,List.set_cons_succ]
  rfl
 refine pur (i:=8) (N:=some 9) (v:=?_) (a':=?_) #[true,true,true,true,true,true,true,true,true] rfl (Or.inl ⟨by rfl,?_⟩) ?_ ?_
 rotate_left
 ·intro w'
  go_simp
  with_reducible rfl
 rotate_left
 ·simp only [Act.put,sIB,sc0,scs,i64_w,i32_w]
  rfl
 refine done_ (done_of HT_.out kr) ?_
 try go_wp2
 go_loopg [10] k (fun kq v10 w'=>∃ (ad:List Int) (au:Int),v10=.int .i64 au∧Aside0 (spec_ListOfGrowth.l0 kq l1 aj ad aw au l0_0=some (r1,r2))∧Aside0 (kq≤k)∧Aside0 (Kd.R (Kd.int .i64) 2 w' w.heap.size (fun k_=>some k_≠(af:Value).ownBlock∧some k_≠(ap:Value).ownBlock) al aj)∧Aside0 (Kd.R (Kd.int .i64) 2 w' w.heap.size (fun k_=>some k_≠(al:Value).ownBlock∧some k_≠(ap:Value).ownBlock) af ad)∧Aside0 (Kd.R (Kd.int .i64) 2 w' w.heap.size (fun k_=>some k_≠(al:Value).ownBlock∧some k_≠(af:Value).ownBlock) ap aw)∧Aside0 (w'.heap[ae]?=some (.cells #[(.slice A0_0 l0_0.length c0_0)] 27 (0,0)))∧Aside0 (Below w.heap.size w w'))
 case atStart=>exact ⟨(ay),(0),q21_2,H',⟨Nat.le_refl _⟩,⟨pe ag.out⟩,⟨pe ah.out⟩,⟨pe ai.out⟩,⟨pb aa.out⟩,⟨hq⟩⟩
 case round =>
  clear H';obtain ⟨ad,au,rfl,HA,HK1,ax,ab,an,aa,HB⟩:=hrel
  cases gk with|zero=>exact absurd HA.out (by simp [spec_ListOfGrowth.l0])|succ k1=>?_
  have H:=HA.out;clear HA;simp only [spec_ListOfGrowth.l0] at H
  by_cases c18:au<(l1.length:Int)
  ·rw [if_pos c18] at H;have bO:=dt c18;clear c18;replace H:=ifs H;obtain ⟨c19,H⟩:=H;have cf:=dt c19;clear c19;replace H:=ifs H;obtain ⟨c20,H⟩:=H;have cg:=dt c20;clear c20;replace H:=ifs H;obtain ⟨c21,H⟩:=H;have ch:=dt c21;clear c21;obtain ⟨a6,hY⟩:∃ y_:List Int,y_=(ad.set ((rd l1 au):Int).toNat au):=⟨_,rfl⟩;replace H:(spec_ListOfGrowth.l0 k1 l1 aj a6 aw (wrap64 (au+1)) l0_0)=some (r1,r2):=hh;have bP:=ak hY;clear hY;have H':=ak H;clear H;have a7:0≤(au:Int):=od q21_1;have a8:au<(l1.length:Int):=od q21_1;obtain ⟨ci,bQ,a9⟩:=Kd.at_int HR1.out au a7 a8;cases bQ;replace a9:=(HB.out.cell (World.block_lt_of_cell? w _ a9)).trans a9;replace a7:=eq_true a7;replace a8:=eq_true a8;have p22:0≤((rd l1 au):Int):=od q21_1;have q22:((rd l1 au):Int)<((ad.length:Int):Int):=od q21_1;obtain ⟨aI,aX,bA,bB,gl22,cl22,bC⟩:=Kd.R_form ab.out (by omega);(first|cases bA|(injection bA with ea_ en_ ec_;(first|subst ea_|(injection ea_ with ea_;subst ea_));subst ec_;clear en_));have GB22:=ak bB;have cj:=ak bC;clear bB gl22 bC;obtain ⟨ck,cl⟩:=Kd.R_celln 0 ab.out ((rd l1 au):Int) p22 q22;replace p22:=eq_true p22;replace q22:=eq_true q22;have ba:=Kd.R_putg ab.out ((rd l1 au):Int) au
   go_wp2_with (first|((with_reducible refine gate_store (t:=2) (p:=39) rfl ?_);refine store_event (t:=2) (p:=39) (v:=?vo_w24) (w1:=(wr.setCell ⟨aI,((rd l1 au):Int).toNat,none⟩ (.int .i64 au))) ?hg ?ho ?hn ?hr ?_;(case ho=>rfl);(case hg=>rfl);(case hn=>rfl);(case hr=>exact gs);intro w24 hw;have hg:wr.grownBy w24 (some aI):=(by rw [hw];exact ba.2);have hp_:Kd.R (Kd.int .i64) 2 w24 w.heap.size (fun k_=>some k_≠(al:Value).ownBlock∧some k_≠(ap:Value).ownBlock) (.slice (some ⟨aI,0,none⟩) ad.length aX) a6:=(by rw [hw,bP.out];exact ba.1);clear ba;replace ax:=ak (Kd.R_after (v:=(.slice (some ⟨aI,0,none⟩) ad.length aX)) (v1:=(.slice (some ⟨aI,0,none⟩) ad.length aX)) (ok:=(fun k_=>some k_≠(ap:Value).ownBlock)) (pe (Kd.R_mono ax.out (fun _ hk=>⟨hk.2,hk.1⟩))) hg (.inl rfl));replace an:=ak (Kd.R_after (v:=(.slice (some ⟨aI,0,none⟩) ad.length aX)) (v1:=(.slice (some ⟨aI,0,none⟩) ad.length aX)) (ok:=(fun k_=>some k_≠(al:Value).ownBlock)) (pe an.out) hg (.inl rfl));replace aa:=ak (blk_grown (g:=ae) (o:=.cells #[.slice A0_0 l0_0.length c0_0] 27 (0,0)) (pb aa.out) hg (Kd.R_ne ab.out aa.out dc));replace ab:=ak (hp_);replace HB:=ak (by rw [hw];exact below_set (HB.out) GB22.out:Below w.heap.size w w24);clear hg hw hp_))
   go_roundg k1
   case measure=>have:=HK1.out;omega
   case rel=>exact ⟨(a6),(wrap64 (au+1)),q21_2,H',⟨by have:=HK1.out;omega⟩,⟨pe (Kd.R_mono ax.out (fun _ hk=>⟨hk.2,hk.1⟩))⟩,⟨pe ab.out⟩,⟨pe an.out⟩,⟨pb aa.out⟩,⟨hq⟩⟩
  rw [if_neg c18] at H;have bO:=df c18;clear c18;have H':=ak H;clear H;go_wp2
  go_loopg [9,11] k1 (fun kq v9 v11 w'=>∃ (aC:List Int) (av:Int),v11=.int .i64 av∧Aside0 (spec_ListOfGrowth.l1 kq l1 aj ad aC av l0_0=some (r1,r2))∧Aside0 (kq≤k1)∧Aside0 (Kd.R (Kd.int .i64) 2 w' w.heap.size (fun k_=>some k_≠(af:Value).ownBlock∧some k_≠(v9:Value).ownBlock) al aj)∧Aside0 (Kd.R (Kd.int .i64) 2 w' w.heap.size (fun k_=>some k_≠(al:Value).ownBlock∧some k_≠(v9:Value).ownBlock) af ad)∧Aside0 (Kd.R (Kd.int .i64) 2 w' w.heap.size (fun k_=>some k_≠(al:Value).ownBlock∧some k_≠(af:Value).ownBlock) v9 aC)∧Aside0 (w'.heap[ae]?=some (.cells #[(.slice A0_0 l0_0.length c0_0)] 27 (0,0)))∧Aside0 (Below w.heap.size w w'))
  case atStart=>exact ⟨(aw),(1),q21_2,H',⟨Nat.le_refl _⟩,⟨pe ax.out⟩,⟨pe ab.out⟩,⟨pe an.out⟩,⟨pb aa.out⟩,⟨hq⟩⟩
  case round =>
   clear H';obtain ⟨aC,av,rfl,HA,HK2,ax,ab,an,aa,HB⟩:=hrel
   cases gk with|zero=>exact absurd HA.out (by simp [spec_ListOfGrowth.l1])|succ k2=>?_
   have H:=HA.out;clear HA;simp only [spec_ListOfGrowth.l1] at H
   by_cases c25:av<(l1.length:Int)
   ·rw [if_pos c25] at H;have bR:=dt c25;clear c25;replace H:=ifs H;obtain ⟨c26,H⟩:=H;have cm:=dt c26;clear c26;replace H:=ifs H;obtain ⟨c27,H⟩:=H;have cn:=dt c27;clear c27;replace H:=ifs H;obtain ⟨c28,H⟩:=H;have co:=dt c28;clear c28;replace H:=ifs H;obtain ⟨c29,H⟩:=H;have cp:=dt c29;clear c29;replace H:=ifs H;obtain ⟨c30,H⟩:=H;have cq:=dt c30;clear c30;replace H:=ifs H;obtain ⟨c31,H⟩:=H;have bS:=ak c31;clear c31;obtain ⟨bD,hY⟩:∃ y_:List Int,y_=(aC++[rd ad (rd aj (rd l1 av))]):=⟨_,rfl⟩;replace H:(spec_ListOfGrowth.l1 k2 l1 aj ad bD (wrap64 (av+1)) l0_0)=some (r1,r2):=hh;have bT:=ak hY;clear hY;have H':=ak H;clear H;have bd:0≤(av:Int):=od q21_1;have bf:av<(l1.length:Int):=od q21_1;obtain ⟨cr,bU,bg⟩:=Kd.at_int HR1.out av bd bf;cases bU;replace bg:=(HB.out.cell (World.block_lt_of_cell? w _ bg)).trans bg;replace bd:=eq_true bd;replace bf:=eq_true bf;obtain ⟨ct,bE,bV⟩:=Kd.R_slice ax.out;subst bV;have bh:0≤((rd l1 av):Int):=od q21_1;have bi:(rd l1 av)<(aj.length:Int):=od q21_1;(try (obtain ⟨Aop_,cop_,eop_⟩:=Kd.R_slice ax.out;subst eop_));obtain ⟨bF,bW,cu⟩:=Kd.at_int (Kd.R_reads' ax.out).2.2 (rd l1 av) bh bi;cases bW;replace bh:=eq_true bh;replace bi:=eq_true bi;obtain ⟨cv,bG,bX⟩:=Kd.R_slice ab.out;subst bX;have bj:0≤((rd aj (rd l1 av)):Int):=od q21_1;have bk:(rd aj (rd l1 av))<(ad.length:Int):=od q21_1;(try (obtain ⟨Aop_,cop_,eop_⟩:=Kd.R_slice ab.out;subst eop_));obtain ⟨bH,bY,cw⟩:=Kd.at_int (Kd.R_reads' ab.out).2.2 (rd aj (rd l1 av)) bj bk;cases bY;replace bj:=eq_true bj;replace bk:=eq_true bk
    go_wp2_with (first|((with_reducible refine gate_builtin (b:=.append) (xs:=#[.tmp 46,.tmp 57]) rfl ?_);at_builtin;refine Kd.R_append (Kd.int .i64) (w0:=w) w.heap.size rfl (.tmp 46) (.tmp 57) 24 2 (.int .i64 0) 8 rfl Tryz.underlying24 info2 rfl dc (by omega) u9 aC (rd ad (rd aj (rd l1 av))) [.int .i64 (rd ad (rd aj (rd l1 av)))] (fun k_=>some k_≠(.slice (some bF) aj.length bE:Value).ownBlock∧some k_≠(.slice (some bH) ad.length bG:Value).ownBlock) (fun _=>False) rfl rfl ?aP (fun _ hk=>hk.elim) ?aF ?aO ?aB ?aS ?aL ?_;(case aP=>exact rfl);(case aB=>exact hq);(case aF=>exact (fun k_ hk=>⟨Kd.fresh' (Kd.R_lt (pe ax.out)) k_ hk,Kd.fresh' (Kd.R_lt (pe ab.out)) k_ hk⟩));(case aO=>exact (pe an.out));(case aS=>exact (below_size hq));(case aL=>have:=bS.out;omega);intro cx w34 ho hb hg hat;rw [← bT.out] at ho;replace ax:=ak (Kd.R_after (ok:=(fun k_=>some k_≠(.slice (some bH) ad.length bG:Value).ownBlock)) (pe ax.out) hg hat);replace ab:=ak (Kd.R_after (ok:=(fun k_=>some k_≠(.slice (some bF) aj.length bE:Value).ownBlock)) (pe ab.out) hg hat);replace aa:=ak (blk_grown (g:=ae) (o:=.cells #[.slice A0_0 l0_0.length c0_0] 27 (0,0)) (pb aa.out) hg (Kd.R_ne an.out aa.out dc));replace HB:=ak (hb);have bZ:=ak (ho);clear an;clear ho hb hg hat))
    go_roundg k2
    case measure=>have:=HK1.out;have:=HK2.out;omega
    case rel=>exact ⟨(bD),(wrap64 (av+1)),q21_2,H',⟨by have:=HK1.out;have:=HK2.out;omega⟩,⟨pe ax.out⟩,⟨pe ab.out⟩,⟨pe bZ.out⟩,⟨pb aa.out⟩,⟨hq⟩⟩
   rw [if_neg c25] at H;have bR:=df c25;clear c25;have H':=ak H;clear H;go_wp2
   go_loopg [12] k2 (fun kq v12 w'=>∃ (aH:Int),v12=.int .i64 aH∧Aside0 (spec_ListOfGrowth.l2 kq ad aC aH l0_0=some (r1,r2))∧Aside0 (kq≤k2)∧Aside0 (Kd.R (Kd.int .i64) 2 w' w.heap.size (fun k_=>some k_≠(u9:Value).ownBlock) af ad)∧Aside0 (Kd.R (Kd.int .i64) 2 w' w.heap.size (fun k_=>some k_≠(af:Value).ownBlock) u9 aC)∧Aside0 (w'.heap[ae]?=some (.cells #[(.slice A0_0 l0_0.length c0_0)] 27 (0,0)))∧Aside0 (Below w.heap.size w w'))
   case atStart=>exact ⟨(0),q21_2,H',⟨Nat.le_refl _⟩,⟨pe (Kd.R_mono ab.out (fun _ hk=>hk.2))⟩,⟨pe (Kd.R_mono an.out (fun _ hk=>hk.2))⟩,⟨pb aa.out⟩,⟨hq⟩⟩
   case round =>
    clear H';obtain ⟨aH,rfl,HA,HK3,ab,an,aa,HB⟩:=hrel
    cases gk with|zero=>exact absurd HA.out (by simp [spec_ListOfGrowth.l2])|succ k3=>?_
    have H:=HA.out;clear HA;simp only [spec_ListOfGrowth.l2] at H;replace H:=bs H;obtain ⟨bl,A35,H⟩:=H;(try dsimp only at H);obtain c36|c36:=nem (aH<bl)
    ·rw [if_neg c36] at H;have b0:=df c36;clear c36;simp only [Option.some.injEq,Prod.mk.injEq] at H;obtain ⟨rfl,rfl⟩:=H;have cy:=bc aa.out;have cz:=blk_frozen aa.out 0
     go_wp2_with (first|((with_reducible refine gate_callee (f:=80) rfl ?_);refine gl (some 61) Tryz.func80 #[.agg #[.slice A0_0 l0_0.length c0_0]] ?_;(with_reducible refine (spec_l01N.calls _ _ l0_0 bl _ (pc (Kd.C_below az.out HB.out)) aA.out A35.out).mono ?_);rintro e w60 ⟨rfl,hb⟩;refine ⟨_,rfl,?_⟩;replace ab:=rb ab hb;replace an:=rb an hb;replace aa:=bb aa hb;replace HB:=hbs hb;(try clear hb)))
     go_ret2
     exact ⟨_,ew,pe (Kd.R_mono an.out (fun _ hk=>trivial)),hq⟩
    rw [if_pos c36] at H;have b0:=dt c36;clear c36;replace H:=bs H;obtain ⟨ac,A37,H⟩:=H;(try dsimp only at H);have H':=ak H;clear H;have cA:=bc aa.out;have cB:=blk_frozen aa.out 0
    go_wp2_with (first|((with_reducible refine gate_callee (f:=80) rfl ?_);refine gl (some 61) Tryz.func80 #[.agg #[.slice A0_0 l0_0.length c0_0]] ?_;(with_reducible refine (spec_l01N.calls _ _ l0_0 bl _ (pc (Kd.C_below az.out HB.out)) aA.out A35.out).mono ?_);rintro e w39 ⟨rfl,hb⟩;refine ⟨_,rfl,?_⟩;replace ab:=rb ab hb;replace an:=rb an hb;replace aa:=bb aa hb;replace HB:=hbs hb;(try clear hb);(try clear hb2);(try clear hk);(try clear hi);have cC:=bc aa.out;have cD:=blk_frozen aa.out 0)|((with_reducible refine gate_callee (f:=81) rfl ?_);refine gl (some 67) Tryz.func81 #[.agg #[.slice A0_0 l0_0.length c0_0],.int .i64 aH] ?_;(with_reducible refine (spec_l01Children.calls k3 _ _ l0_0 aH ac _ (pc (Kd.C_below az.out HB.out)) aA.out A37.out).mono ?_);rintro e w41 ⟨bm,rfl,ho0,hb⟩;refine ⟨_,rfl,?_⟩;have b1:=lw (nw (nw ho0 ab) an);replace ab:=rn ab ho0 hb;replace an:=rn an ho0 hb;replace aa:=bb aa hb;replace HB:=hbs hb;(try clear hb ho0)))
    go_loopg [14] k3 (fun kq v14 w'=>∃ (ao:Int),v14=.int .i64 ao∧Aside0 (spec_ListOfGrowth.l3 kq ad aC aH ac ao l0_0=some (r1,r2))∧Aside0 (kq≤k3)∧Aside0 (Kd.R (Kd.int .i64) 2 w' w.heap.size (fun k_=>some k_≠(u9:Value).ownBlock∧some k_≠(bm:Value).ownBlock) af ad)∧Aside0 (Kd.R (Kd.int .i64) 2 w' w.heap.size (fun k_=>some k_≠(af:Value).ownBlock∧some k_≠(bm:Value).ownBlock) u9 aC)∧Aside0 (Kd.R (Kd.int .i64) 2 w' w.heap.size (fun k_=>some k_≠(af:Value).ownBlock∧some k_≠(u9:Value).ownBlock) bm ac)∧Aside0 (w'.heap[ae]?=some (.cells #[(.slice A0_0 l0_0.length c0_0)] 27 (0,0)))∧Aside0 (Below w.heap.size w w'))
    case atStart=>exact ⟨(1),q21_2,H',⟨Nat.le_refl _⟩,⟨pe ab.out⟩,⟨pe an.out⟩,⟨pe (Kd.R_mono b1.out (fun _ hk=>⟨hk.1.2,hk.2⟩))⟩,⟨pb aa.out⟩,⟨hq⟩⟩
    case round =>
     clear H';obtain ⟨ao,rfl,HA,HK4,ab,an,ar,aa,HB⟩:=hrel
     cases gk with|zero=>exact absurd HA.out (by simp [spec_ListOfGrowth.l3])|succ k4=>?_
     have H:=HA.out;clear HA;simp only [spec_ListOfGrowth.l3] at H;obtain c42|c42:=nem (ao<(ac.length:Int))
     ·rw [if_neg c42] at H;have b2:=df c42;clear c42;have H':=ak H;clear H;obtain ⟨cE,cF,b3⟩:=Kd.R_slice ar.out;subst b3;go_wp2
      go_roundg k4
      case measure=>have:=HK1.out;have:=HK2.out;have:=HK3.out;have:=HK4.out;omega
      case rel=>exact ⟨(wrap64 (aH+1)),q21_2,H',⟨by have:=HK1.out;have:=HK2.out;have:=HK3.out;have:=HK4.out;omega⟩,⟨pe (Kd.R_mono ab.out (fun _ hk=>hk.1))⟩,⟨pe (Kd.R_mono an.out (fun _ hk=>hk.1))⟩,⟨pb aa.out⟩,⟨hq⟩⟩
     rw [if_pos c42] at H;have b2:=dt c42;clear c42;obtain ⟨aq,a4⟩:∃ j_:Int,(wrap64 (ao - 1))=j_:=⟨_,rfl⟩;(first|rw [a4] at H|simp only [a4] at H);have hji43w:(IntKind.i64.wrap (ao - 1))=aq:=(i64_w _).trans a4;replace H:=ifs H;obtain ⟨c44,H⟩:=H;have cG:=dt c44;clear c44;replace H:=ifs H;obtain ⟨c45,H⟩:=H;have cH:=dt c45;clear c45;replace H:=ifs H;obtain ⟨c46,H⟩:=H;have cI:=dt c46;clear c46;replace H:=ifs H;obtain ⟨c47,H⟩:=H;have cJ:=dt c47;clear c47;replace H:=ifs H;obtain ⟨c48,H⟩:=H;have cK:=dt c48;clear c48;replace H:=ifs H;obtain ⟨c49,H⟩:=H;have cL:=dt c49;clear c49;replace H:=ifs H;obtain ⟨c50,H⟩:=H;have cM:=dt c50;clear c50
     by_cases c51:(rd ad (rd ac (aq)))>(rd ad (rd ac ao))
     ·rw [if_pos c51] at H;have b4:decide ((rd ad (rd ac ao))<(rd ad (rd ac (aq))))=true:=decide_eq_true c51;clear c51;simp only [Option.some.injEq,Prod.mk.injEq] at H;obtain ⟨rfl,rfl⟩:=H;obtain ⟨cN,cO,b5⟩:=Kd.R_slice ar.out;subst b5
      try go_wp2
      have n0_:=ak (Kd.R_drew ab.out);have n1_:=ak (Kd.R_drew an.out);have n2_:=ak (Kd.R_drew ar.out);have n3_:=ak (blk_drew aa.out);have n4_:=ak (below_drew1 HB.out);clear ab an ar aa HB;have ab:=n0_;have an:=n1_;have ar:=n2_;have aa:=n3_;have HB:=n4_;clear n0_ n1_ n2_ n3_ n4_;have aJ:0≤((aq):Int):=od q21_1;have aK:(aq)<(ac.length:Int):=od q21_1;(try (obtain ⟨Aop_,cop_,eop_⟩:=Kd.R_slice ar.out;subst eop_));obtain ⟨aM,bo,aY⟩:=Kd.at_int (Kd.R_reads' ar.out).2.2 (aq) aJ aK;cases bo;replace aJ:=eq_true aJ;replace aK:=eq_true aK;obtain ⟨cP,cQ,bI⟩:=Kd.R_slice ab.out;(first|subst bI|(injection bI with f1_ f2_ f3_;have f4_:=f1_.symm;have f5_:=f3_.symm;clear f1_ f2_ f3_;subst f4_;subst f5_));have aN:0≤((rd ac (aq)):Int):=od q21_1;have aQ:(rd ac (aq))<(ad.length:Int):=od q21_1;(try (obtain ⟨Aop_,cop_,eop_⟩:=Kd.R_slice ab.out;subst eop_));obtain ⟨aR,bp,aZ⟩:=Kd.at_int (Kd.R_reads' ab.out).2.2 (rd ac (aq)) aN aQ;cases bp;replace aN:=eq_true aN;replace aQ:=eq_true aQ;have aT:0≤(ao:Int):=od q21_1;have aU:ao<(ac.length:Int):=od q21_1;(try (obtain ⟨Aop_,cop_,eop_⟩:=Kd.R_slice ar.out;subst eop_));obtain ⟨bq,br,a2⟩:=Kd.at_int (Kd.R_reads' ar.out).2.2 ao aT aU;obtain rfl:aM=bq:=(by injection br);replace aT:=eq_true aT;replace aU:=eq_true aU;have aV:0≤((rd ac ao):Int):=od q21_1;have aW:(rd ac ao)<(ad.length:Int):=od q21_1;(try (obtain ⟨Aop_,cop_,eop_⟩:=Kd.R_slice ab.out;subst eop_));obtain ⟨bu,bv,a3⟩:=Kd.at_int (Kd.R_reads' ab.out).2.2 (rd ac ao) aV aW;obtain rfl:aR=bu:=(by injection bv);replace aV:=eq_true aV;replace aW:=eq_true aW
      refine start_ (n:=16) (S:=fun w'=>w'.cell? (aM.add (aq).toNat)=some (.int .i64 (rd ac (aq)))∧w'.cell? (aR.add (rd ac (aq)).toNat)=some (.int .i64 (rd ad (rd ac (aq))))∧w'.cell? (aM.add (ao).toNat)=some (.int .i64 (rd ac ao))∧w'.cell? (aR.add (rd ac ao).toNat)=some (.int .i64 (rd ad (rd ac ao)))) (ds:=[]) #[false,false,false,false,false,false,false,false,false,false,false,false,false,false,false,false] kr rfl rfl ⟨aY,aZ,a2,a3⟩ (fun hHeld=>?_);refine with_tabW spec_ListOfGrowth.tab20 spec_ListOfGrowth.bits20 (fun HT_ HW_=>?_)
      generalize wr.drew=w53 at ab an ar aa HB aY aZ a2 a3 hHeld ⊢
      refine pur (i:=0) (N:=some 74) (v:=?_) (a':=?_) (tf 1 15) rfl (Or.inl ⟨by rfl,?_⟩) ?_ ?_
      rotate_left
      ·intro w'
       go_simp
       with_reducible rfl
      rotate_left
      ·simp only [Act.put,sIB,sc0,scs,i64_w,i32_w]
       rfl
      refine pur (i:=1) (N:=some 75) (v:=?_) (a':=?_) (tf 2 14) rfl (Or.inl ⟨by rfl,?_⟩) ?_ ?_
      rotate_left
      ·intro w'
       go_simp
       with_reducible rfl
      rotate_left
      ·simp only [Act.put,sIB,sc0,scs,i64_w,i32_w]
       rfl
      refine pur (i:=2) (N:=some 76) (v:=?_) (a':=?_) (tf 3 13) rfl (Or.inl ⟨by rfl,?_⟩) ?_ ?_
      rotate_left
      ·intro w'
       go_simp
       with_reducible rfl
      rotate_left
      ·simp only [Act.put,sIB,sc0,scs,i64_w,i32_w]
       rfl
      refine pur (i:=3) (N:=some 77) (v:=?_) (a':=?_) (tf 4 12) rfl (Or.inl ⟨by rfl,?_⟩) ?_ ?_
      rotate_left
      ·intro w'
       go_simp
       with_reducible rfl
      rotate_left
      ·simp only [Act.put,sIB,sc0,scs,i64_w,i32_w]
       rfl
      refine pur (i:=4) (N:=some 78) (v:=?_) (a':=?_) (tf 5 11) rfl (Or.inl ⟨by rfl,?_⟩) ?_ ?_
      rotate_left
      ·intro w'
       go_simp
       with_reducible rfl
      rotate_left
      ·simp only [Act.put,sIB,sc0,scs,i64_w,i32_w]
       rfl
      refine pur (i:=8) (N:=some 82) (v:=?_) (a':=?_) #[true,true,true,true,true,false,false,false,true,false,false,false,false,false,false,false] rfl (Or.inl ⟨by rfl,?_⟩) ?_ ?_
      rotate_left
      ·intro w'
       go_simp
       with_reducible rfl
      rotate_left
      ·simp only [Act.put,sIB,sc0,scs,i64_w,i32_w]
       rfl
      refine pur (i:=9) (N:=some 83) (v:=?_) (a':=?_) #[true,true,true,true,true,false,false,false,true,true,false,false,false,false,false,false] rfl (Or.inl ⟨by rfl,?_⟩) ?_ ?_
      rotate_left
      ·intro w'
       go_simp
       with_reducible rfl
      rotate_left
      ·simp only [Act.put,sIB,sc0,scs,i64_w,i32_w]
       rfl
      refine pur (i:=10) (N:=some 84) (v:=?_) (a':=?_) #[true,true,true,true,true,false,false,false,true,true,true,false,false,false,false,false] rfl (Or.inl ⟨by rfl,?_⟩) ?_ ?_
      rotate_left
      ·intro w'
       go_simp
       with_reducible rfl
      rotate_left
      ·simp only [Act.put,sIB,sc0,scs,i64_w,i32_w]
       rfl
      refine pur (i:=11) (N:=some 85) (v:=?_) (a':=?_) #[true,true,true,true,true,false,false,false,true,true,true,true,false,false,false,false] rfl (Or.inl ⟨by rfl,?_⟩) ?_ ?_
      rotate_left
      ·intro w'
       go_simp
       with_reducible rfl
      rotate_left
      ·simp only [Act.put,sIB,sc0,scs,i64_w,i32_w]
       rfl
      refine take_ (i:=5) (N:=some 79) (v:=?_) (a':=?_) #[true,true,true,true,true,true,false,false,true,true,true,true,false,false,false,false] rfl rfl (take_ofW HT_.out HW_.out kr) (fun _ _ _ h=>h) (Or.inl ⟨by rfl,?_⟩) hHeld ?_ ?_
      rotate_left
      ·rintro w' ⟨s0,s1,s2,s3⟩
       go_simp
       with_reducible rfl
      rotate_left
      ·simp only [Act.put,sIB,sc0,scs,i64_w,i32_w]
       rfl
      refine pur (i:=6) (N:=some 80) (v:=?_) (a':=?_) #[true,true,true,true,true,true,true,false,true,true,true,true,false,false,false,false] rfl (Or.inl ⟨by rfl,?_⟩) ?_ ?_
      rotate_left
      ·intro w'
       go_simp
       with_reducible rfl
      rotate_left
      ·simp only [Act.put,sIB,sc0,scs,i64_w,i32_w]
       rfl
      refine take_ (i:=7) (N:=some 81) (v:=?_) (a':=?_) (tf 12 4) rfl rfl (take_ofW HT_.out HW_.out kr) (fun _ _ _ h=>h) (Or.inl ⟨by rfl,?_⟩) hHeld ?_ ?_
      rotate_left
      ·rintro w' ⟨s0,s1,s2,s3⟩
       go_simp
       with_reducible rfl
      rotate_left
      ·simp only [Act.put,sIB,sc0,scs,i64_w,i32_w]
       rfl
      refine take_ (i:=12) (N:=some 86) (v:=?_) (a':=?_) (tf 13 3) rfl rfl (take_ofW HT_.out HW_.out kr) (fun _ _ _ h=>h) (Or.inl ⟨by rfl,?_⟩) hHeld ?_ ?_
      rotate_left
      ·rintro w' ⟨s0,s1,s2,s3⟩
       go_simp
       with_reducible rfl
      rotate_left
      ·simp only [Act.put,sIB,sc0,scs,i64_w,i32_w]
       rfl
      refine pur (i:=13) (N:=some 87) (v:=?_) (a':=?_) (tf 14 2) rfl (Or.inl ⟨by rfl,?_⟩) ?_ ?_
      rotate_left
      ·intro w'
       go_simp
       with_reducible rfl
      rotate_left
      ·simp only [Act.put,sIB,sc0,scs,i64_w,i32_w]
       rfl
      refine take_ (i:=14) (N:=some 88) (v:=?_) (a':=?_) (tf 15 1) rfl rfl (take_ofW HT_.out HW_.out kr) (fun _ _ _ h=>h) (Or.inl ⟨by rfl,?_⟩) hHeld ?_ ?_
      rotate_left
      ·rintro w' ⟨s0,s1,s2,s3⟩
       go_simp
       with_reducible rfl
      rotate_left
      ·simp only [Act.put,sIB,sc0,scs,i64_w,i32_w]
       rfl
      refine pur (i:=15) (N:=some 89) (v:=?_) (a':=?_) (tf 16 0) rfl (Or.inl ⟨by rfl,?_⟩) ?_ ?_
      rotate_left
      ·intro w'
       go_simp
       with_reducible rfl
      rotate_left
      ·simp only [Act.put,sIB,sc0,scs,i64_w,i32_w]
       rfl
      refine done_ (done_of HT_.out kr) ?_
      try go_wp2
      go_ret2
      exact ⟨_,by first|rfl|(simp [errW_none,errW_some] <;> rfl)|(simp only [← a4];first|rfl|(simp [errW_none,errW_some] <;> rfl))|(simp [*,errW_none,errW_some] <;> rfl),q21_3,hq⟩
     rw [if_neg c51] at H;have b4:decide ((rd ad (rd ac ao))<(rd ad (rd ac (aq))))=false:=decide_eq_false c51;clear c51;have H':=ak H;clear H;obtain ⟨cR,cS,b6⟩:=Kd.R_slice ar.out;subst b6
     try go_wp2
     have n0_:=ak (Kd.R_drew ab.out);have n1_:=ak (Kd.R_drew an.out);have n2_:=ak (Kd.R_drew ar.out);have n3_:=ak (blk_drew aa.out);have n4_:=ak (below_drew1 HB.out);clear ab an ar aa HB;have ab:=n0_;have an:=n1_;have ar:=n2_;have aa:=n3_;have HB:=n4_;clear n0_ n1_ n2_ n3_ n4_;have aJ:0≤((aq):Int):=od q21_1;have aK:(aq)<(ac.length:Int):=od q21_1;(try (obtain ⟨Aop_,cop_,eop_⟩:=Kd.R_slice ar.out;subst eop_));obtain ⟨aM,bo,aY⟩:=Kd.at_int (Kd.R_reads' ar.out).2.2 (aq) aJ aK;cases bo;replace aJ:=eq_true aJ;replace aK:=eq_true aK;obtain ⟨cT,cU,bJ⟩:=Kd.R_slice ab.out;(first|subst bJ|(injection bJ with f1_ f2_ f3_;have f4_:=f1_.symm;have f5_:=f3_.symm;clear f1_ f2_ f3_;subst f4_;subst f5_));have aN:0≤((rd ac (aq)):Int):=od q21_1;have aQ:(rd ac (aq))<(ad.length:Int):=od q21_1;(try (obtain ⟨Aop_,cop_,eop_⟩:=Kd.R_slice ab.out;subst eop_));obtain ⟨aR,bp,aZ⟩:=Kd.at_int (Kd.R_reads' ab.out).2.2 (rd ac (aq)) aN aQ;cases bp;replace aN:=eq_true aN;replace aQ:=eq_true aQ;have aT:0≤(ao:Int):=od q21_1;have aU:ao<(ac.length:Int):=od q21_1;(try (obtain ⟨Aop_,cop_,eop_⟩:=Kd.R_slice ar.out;subst eop_));obtain ⟨bq,br,a2⟩:=Kd.at_int (Kd.R_reads' ar.out).2.2 ao aT aU;obtain rfl:aM=bq:=(by injection br);replace aT:=eq_true aT;replace aU:=eq_true aU;have aV:0≤((rd ac ao):Int):=od q21_1;have aW:(rd ac ao)<(ad.length:Int):=od q21_1;(try (obtain ⟨Aop_,cop_,eop_⟩:=Kd.R_slice ab.out;subst eop_));obtain ⟨bu,bv,a3⟩:=Kd.at_int (Kd.R_reads' ab.out).2.2 (rd ac ao) aV aW;obtain rfl:aR=bu:=(by injection bv);replace aV:=eq_true aV;replace aW:=eq_true aW
     refine start_ (n:=16) (S:=fun w'=>w'.cell? (aM.add (aq).toNat)=some (.int .i64 (rd ac (aq)))∧w'.cell? (aR.add (rd ac (aq)).toNat)=some (.int .i64 (rd ad (rd ac (aq))))∧w'.cell? (aM.add (ao).toNat)=some (.int .i64 (rd ac ao))∧w'.cell? (aR.add (rd ac ao).toNat)=some (.int .i64 (rd ad (rd ac ao)))) (ds:=[]) #[false,false,false,false,false,false,false,false,false,false,false,false,false,false,false,false] kr rfl rfl ⟨aY,aZ,a2,a3⟩ (fun hHeld=>?_);refine with_tabW spec_ListOfGrowth.tab20 spec_ListOfGrowth.bits20 (fun HT_ HW_=>?_)
     generalize wr.drew=w56 at ab an ar aa HB aY aZ a2 a3 hHeld ⊢
     refine pur (i:=0) (N:=some 74) (v:=?_) (a':=?_) (tf 1 15) rfl (Or.inl ⟨by rfl,?_⟩) ?_ ?_
     rotate_left
     ·intro w'
      go_simp
      with_reducible rfl
     rotate_left
     ·simp only [Act.put,sIB,sc0,scs,i64_w,i32_w]
      rfl
     refine pur (i:=1) (N:=some 75) (v:=?_) (a':=?_) (tf 2 14) rfl (Or.inl ⟨by rfl,?_⟩) ?_ ?_
     rotate_left
     ·intro w'
      go_simp
      with_reducible rfl
     rotate_left
     ·simp only [Act.put,sIB,sc0,scs,i64_w,i32_w]
      rfl
     refine pur (i:=2) (N:=some 76) (v:=?_) (a':=?_) (tf 3 13) rfl (Or.inl ⟨by rfl,?_⟩) ?_ ?_
     rotate_left
     ·intro w'
      go_simp
      with_reducible rfl
     rotate_left
     ·simp only [Act.put,sIB,sc0,scs,i64_w,i32_w]
      rfl
     refine pur (i:=3) (N:=some 77) (v:=?_) (a':=?_) (tf 4 12) rfl (Or.inl ⟨by rfl,?_⟩) ?_ ?_
     rotate_left
     ·intro w'
      go_simp
      with_reducible rfl
     rotate_left
     ·simp only [Act.put,sIB,sc0,scs,i64_w,i32_w]
      rfl
     refine pur (i:=4) (N:=some 78) (v:=?_) (a':=?_) (tf 5 11) rfl (Or.inl ⟨by rfl,?_⟩) ?_ ?_
     rotate_left
     ·intro w'
      go_simp
      with_reducible rfl
     rotate_left
     ·simp only [Act.put,sIB,sc0,scs,i64_w,i32_w]
      rfl
     refine pur (i:=8) (N:=some 82) (v:=?_) (a':=?_) #[true,true,true,true,true,false,false,false,true,false,false,false,false,false,false,false] rfl (Or.inl ⟨by rfl,?_⟩) ?_ ?_
     rotate_left
     ·intro w'
      go_simp
      with_reducible rfl
     rotate_left
     ·simp only [Act.put,sIB,sc0,scs,i64_w,i32_w]
      rfl
     refine pur (i:=9) (N:=some 83) (v:=?_) (a':=?_) #[true,true,true,true,true,false,false,false,true,true,false,false,false,false,false,false] rfl (Or.inl ⟨by rfl,?_⟩) ?_ ?_
     rotate_left
     ·intro w'
      go_simp
      with_reducible rfl
     rotate_left
     ·simp only [Act.put,sIB,sc0,scs,i64_w,i32_w]
      rfl
     refine pur (i:=10) (N:=some 84) (v:=?_) (a':=?_) #[true,true,true,true,true,false,false,false,true,true,true,false,false,false,false,false] rfl (Or.inl ⟨by rfl,?_⟩) ?_ ?_
     rotate_left
     ·intro w'
      go_simp
      with_reducible rfl
     rotate_left
     ·simp only [Act.put,sIB,sc0,scs,i64_w,i32_w]
      rfl
     refine pur (i:=11) (N:=some 85) (v:=?_) (a':=?_) #[true,true,true,true,true,false,false,false,true,true,true,true,false,false,false,false] rfl (Or.inl ⟨by rfl,?_⟩) ?_ ?_
     rotate_left
     ·intro w'
      go_simp
      with_reducible rfl
     rotate_left
     ·simp only [Act.put,sIB,sc0,scs,i64_w,i32_w]
      rfl
     refine take_ (i:=5) (N:=some 79) (v:=?_) (a':=?_) #[true,true,true,true,true,true,false,false,true,true,true,true,false,false,false,false] rfl rfl (take_ofW HT_.out HW_.out kr) (fun _ _ _ h=>h) (Or.inl ⟨by rfl,?_⟩) hHeld ?_ ?_
     rotate_left
     ·rintro w' ⟨s0,s1,s2,s3⟩
      go_simp
      with_reducible rfl
     rotate_left
     ·simp only [Act.put,sIB,sc0,scs,i64_w,i32_w]
      rfl
     refine pur (i:=6) (N:=some 80) (v:=?_) (a':=?_) #[true,true,true,true,true,true,true,false,true,true,true,true,false,false,false,false] rfl (Or.inl ⟨by rfl,?_⟩) ?_ ?_
     rotate_left
     ·intro w'
      go_simp
      with_reducible rfl
     rotate_left
     ·simp only [Act.put,sIB,sc0,scs,i64_w,i32_w]
      rfl
     refine take_ (i:=7) (N:=some 81) (v:=?_) (a':=?_) (tf 12 4) rfl rfl (take_ofW HT_.out HW_.out kr) (fun _ _ _ h=>h) (Or.inl ⟨by rfl,?_⟩) hHeld ?_ ?_
     rotate_left
     ·rintro w' ⟨s0,s1,s2,s3⟩
      go_simp
      with_reducible rfl
     rotate_left
     ·simp only [Act.put,sIB,sc0,scs,i64_w,i32_w]
      rfl
     refine take_ (i:=12) (N:=some 86) (v:=?_) (a':=?_) (tf 13 3) rfl rfl (take_ofW HT_.out HW_.out kr) (fun _ _ _ h=>h) (Or.inl ⟨by rfl,?_⟩) hHeld ?_ ?_
     rotate_left
     ·rintro w' ⟨s0,s1,s2,s3⟩
      go_simp
      with_reducible rfl
     rotate_left
     ·simp only [Act.put,sIB,sc0,scs,i64_w,i32_w]
      rfl
     refine pur (i:=13) (N:=some 87) (v:=?_) (a':=?_) (tf 14 2) rfl (Or.inl ⟨by rfl,?_⟩) ?_ ?_
     rotate_left
     ·intro w'
      go_simp
      with_reducible rfl
     rotate_left
     ·simp only [Act.put,sIB,sc0,scs,i64_w,i32_w]
      rfl
     refine take_ (i:=14) (N:=some 88) (v:=?_) (a':=?_) (tf 15 1) rfl rfl (take_ofW HT_.out HW_.out kr) (fun _ _ _ h=>h) (Or.inl ⟨by rfl,?_⟩) hHeld ?_ ?_
     rotate_left
     ·rintro w' ⟨s0,s1,s2,s3⟩
      go_simp
      with_reducible rfl
     rotate_left
     ·simp only [Act.put,sIB,sc0,scs,i64_w,i32_w]
      rfl
     refine pur (i:=15) (N:=some 89) (v:=?_) (a':=?_) (tf 16 0) rfl (Or.inl ⟨by rfl,?_⟩) ?_ ?_
     rotate_left
     ·intro w'
      go_simp
      with_reducible rfl
     rotate_left
     ·simp only [Act.put,sIB,sc0,scs,i64_w,i32_w]
      rfl
     refine done_ (done_of HT_.out kr) ?_
     try go_wp2
     go_roundg k4
     case measure=>have:=HK1.out;have:=HK2.out;have:=HK3.out;have:=HK4.out;omega
     case rel=>exact ⟨(wrap64 (ao+1)),q21_2,H',⟨by have:=HK1.out;have:=HK2.out;have:=HK3.out;have:=HK4.out;omega⟩,⟨pe ab.out⟩,⟨pe an.out⟩,⟨pe ar.out⟩,⟨pb aa.out⟩,⟨hq⟩⟩
end Go.Proofs.YtlppkilencpmeaaGreat.QFnGrowth
