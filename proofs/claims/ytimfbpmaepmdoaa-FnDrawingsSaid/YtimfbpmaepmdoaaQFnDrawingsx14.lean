/- Functions as Lean functions, with their contracts: written by a program of this claim over the translation; some contracts are proved by hand. -/
import Derived.Test.YtimfbpmaepmdoaaQFnDrawingsx0
import Derived.Test.YtimfbpmaepmdoaaQFnDrawingsx1
import Derived.Test.YtimfbpmaepmdoaaQFnDrawingsx2
import Derived.Test.YtimfbpmaepmdoaaQFnDrawingsx4
import Derived.Test.YtimfbpmaepmdoaaQFnDrawingsx6
import Derived.Test.YtimfbpmaepmdoaaQFnDrawingsx8
import Derived.Test.YtimfbpmaepmdoaaQFnDrawingsx9
namespace Go.Proofs.Ytimfbpmaepmdoaa.QFnDrawings
open Go.RowKit Go.Proofs.Ytimfbpmaepmdoaa.Gl Go.Proofs.YtimfbpmaepmdoaaW.PrintWords Go.Proofs.YtimfbpmaepmdoaaW.PrintLast Go.Proofs.YtimfbpmaepmdoaaW.PrintMore
attribute [local go_sem] max2_int min2_int max_two min_two max_three min_three max_four min_four   -- for this text's walks alone
set_option linter.unusedVariables false
set_option linter.unusedSimpArgs false
mutual
def spec_EvenColumns.l0:Nat→Int→List Int→Int→Int→List Int→Option (List Int × Int)
 | 0,_,_,_,_,_=>none
 | k+1,x4,x5,x6,x7,x565000=>if x7<x4 then (if 0≤x7 then (if x7<(x565000.length:Int) then (if (rd x565000 x7)=0 then (if x7<(x5.length:Int) then (spec_EvenColumns.l0 k x4 (x5.set (x7:Int).toNat (wrap64 (2*x6))) (wrap64 (x6+1)) (wrap64 (x7+1)) x565000) else (none)) else (spec_EvenColumns.l0 k x4 x5 x6 (wrap64 (x7+1)) x565000)) else (none)) else (none)) else (spec_EvenColumns.l1 k x5 (wrap64 (x4 - 1)) x565000)
def spec_EvenColumns.l1:Nat→List Int→Int→List Int→Option (List Int × Int)
 | 0,_,_,_=>none
 | k+1,x5,x8,x565000=>if x8≥0 then ((spec_l01Children.f k x565000 x8).bind fun t572=>(if (t572.length:Int)>0 then (if 0<(t572.length:Int) then (if 0≤(rd t572 0) then (if (rd t572 0)<(x5.length:Int) then (if 0≤(wrap64 ((t572.length:Int) - 1)) then (if (wrap64 ((t572.length:Int) - 1))<(t572.length:Int) then (if 0≤(rd t572 (wrap64 ((t572.length:Int) - 1))) then (if (rd t572 (wrap64 ((t572.length:Int) - 1)))<(x5.length:Int) then ((spec_l08Half.f (wrap64 ((rd x5 (rd t572 0))+(rd x5 (rd t572 (wrap64 ((t572.length:Int) - 1))))))).bind fun t579=>(if 0≤x8 then (if x8<(x5.length:Int) then (spec_EvenColumns.l1 k (x5.set (x8:Int).toNat t579) (wrap64 (x8 - 1)) x565000) else (none)) else (none))) else (none)) else (none)) else (none)) else (none)) else (none)) else (none)) else (none)) else (spec_EvenColumns.l1 k x5 (wrap64 (x8 - 1)) x565000))) else (some (x5,0))
end
def spec_EvenColumns.f (k:Nat) (l0_0:List Int):Option (List Int × Int):=(spec_l01Is.f k l0_0).bind fun t565=>(if t565=true then ((spec_l01N.f l0_0).bind fun t566=>(if 0≤t566 then (if (t566:Int).toNat≤35184372088832 then (spec_EvenColumns.l0 k t566 (List.replicate (t566:Int).toNat 0) 0 0 l0_0) else (none)) else (none))) else (some (([]:List Int),1)))
def spec_EvenColumns.T16:Bool × List (List Nat × List Nat):=(true,[([],[]),([],[]),([],[]),([],[]),([3],[3]),([4],[4]),([2,5],[2,5]),([6],[6]),([],[]),([],[]),([],[]),([10],[10]),([11],[11]),([9,12],[9,12]),([13],[13]),([8,14],[8,14]),([15],[15]),([7,16],[7,16]),([17],[17]),([0,1,0,1,2,3,4,5,6,7,8,9,10,11,12,13,14,15,16,17,18],[0,1]),([19,18,18,0,1,2,3,4,5,6,7,8,9,10,11,12,13,14,15,16,17,18],[18,19])])
def spec_EvenColumns.B16:List Nat:=[0,0,0,0,8,24,60,124,0,0,0,1024,3072,7680,15872,32512,65280,131068,262140,524287,1048575]
theorem spec_EvenColumns.tab16:rtab .any (opsOf Try.f16 16)=spec_EvenColumns.T16:=by kernel_rfl
theorem spec_EvenColumns.bits16:waitsOk spec_EvenColumns.T16.2 spec_EvenColumns.B16=true:=by kernel_rfl
set_option maxHeartbeats 8000000 in
set_option maxRecDepth 100000 in
theorem spec_EvenColumns.calls (k:Nat) (A0_0:Option Addr) (c0_0:Nat) (l0_0:List Int) (r1:List Int) (r2:Int) (w:World) (hr0_0:Kd.C (Kd.int .i64) w A0_0 l0_0.length l0_0) (hc0_0:l0_0.length≤c0_0) (h:spec_EvenColumns.f k l0_0=some (r1,r2)) :
  Calls Try.prog 16 #[.agg #[.slice A0_0 l0_0.length c0_0]] w fun e w'=>∃ v0_:Value,e=.returned (.tuple #[v0_,.int .i64 r2])∧Kd.R (Kd.int .i64) 2 w' w.heap.size (fun _=>True) v0_ r1∧Below w.heap.size w w':=by
 have hu28:=Try.underlying28
 have HR0_0:=Aside0.mk hr0_0
 have HC0_0:=Aside0.mk hc0_0
 clear hr0_0 hc0_0
 have HB:=Aside0.mk (Below.refl w.heap.size w)
 have H:((spec_l01Is.f k l0_0).bind fun t565=>(if t565=true then ((spec_l01N.f l0_0).bind fun t566=>(if 0≤t566 then (if (t566:Int).toNat≤35184372088832 then (spec_EvenColumns.l0 k t566 (List.replicate (t566:Int).toNat 0) 0 0 l0_0) else (none)) else (none))) else (some (([]:List Int),1))))=some (r1,r2):=h
 clear h
 replace H:=Option.bind_eq_some_iff.mp H
 obtain ⟨t565,A20,H⟩:=H
 replace H:(if t565=true then ((spec_l01N.f l0_0).bind fun t566=>(if 0≤t566 then (if (t566:Int).toNat≤35184372088832 then (spec_EvenColumns.l0 k t566 (List.replicate (t566:Int).toNat 0) 0 0 l0_0) else (none)) else (none))) else (some (([]:List Int),1)))=some (r1,r2):=H
 have A2:=Aside0.mk A20
 clear A20
 by_cases c3:t565=true
 ·subst c3
  have H1:((spec_l01N.f l0_0).bind fun t566=>(if 0≤t566 then (if (t566:Int).toNat≤35184372088832 then (spec_EvenColumns.l0 k t566 (List.replicate (t566:Int).toNat 0) 0 0 l0_0) else (none)) else (none)))=some (r1,r2):=by rw [if_pos rfl] at H;exact H
  clear H
  have H:=H1
  clear H1
  replace H:=Option.bind_eq_some_iff.mp H
  obtain ⟨t566,A40,H⟩:=H
  replace H:(if 0≤t566 then (if (t566:Int).toNat≤35184372088832 then (spec_EvenColumns.l0 k t566 (List.replicate (t566:Int).toNat 0) 0 0 l0_0) else (none)) else (none))=some (r1,r2):=H
  have A4:=Aside0.mk A40
  clear A40
  by_cases c5:0≤t566
  ·rw [if_pos c5] at H
   have c5b0:=eq_true c5
   have c5b1:decide (0≤t566)=true:=decide_eq_true c5
   clear c5
   by_cases c6:(t566:Int).toNat≤35184372088832
   ·rw [if_pos c6] at H
    have c6b0:=eq_true c6
    have c6b1:decide ((t566:Int).toNat≤35184372088832)=true:=decide_eq_true c6
    clear c6
    obtain ⟨y567,hy567⟩:∃ y_:List Int,y_=(List.replicate (t566:Int).toNat 0):=⟨_,rfl⟩
    replace H:(spec_EvenColumns.l0 k t566 y567 0 0 l0_0)=some (r1,r2):=by first|(rw [hy567];with_reducible exact H)|(have H2_:=(Option.bind_some _ _).symm.trans H;rw [hy567];with_reducible exact H2_)|(have H2_:=(Option.bind_some _ _).symm.trans H;with_reducible exact H2_)|with_reducible exact H|(rw [hy567];exact H)|exact H
    have Ny567:=Aside0.mk hy567
    clear hy567
    have H':=Aside0.mk H
    clear H
    go_enter Try.func16,Try.ntmps16
    go_wp2_with (first|((with_reducible refine gate_dst (N:=1) rfl ?_);refine box_event ?hg (N:=1) ?hd (cs:=#[.slice A0_0 l0_0.length c0_0]) (t:=28) ?hr ?_;(case hd=>rfl);(case hg=>rfl);(case hr=>first|(go_simp;done)|(go_simp;rfl));intro gb564 hg w7 hbox hb;have n0_:=Aside0.mk (below_step (by repeat (first|(with_reducible first|exact HB.out|apply below_alloc|apply pw_below_drewN|apply below_drew1)|exact HB.out)) hb);have n1_:=Aside0.mk (hbox);have n2_:=Aside0.mk ((by rw [hg];exact (below_size (by repeat (first|(with_reducible first|exact HB.out|apply below_alloc|apply pw_below_drewN|apply below_drew1)|exact HB.out))):w.heap.size≤gb564));have n3_:=Aside0.mk ((by rw [hg];exact (below_size (by repeat (first|(with_reducible first|exact HB.out|apply below_alloc|apply pw_below_drewN|apply below_drew1)|exact HB.out))):w.heap.size≤gb564));clear HB;have HB:=n0_;have BK564:=n1_;have GW564:=n2_;have GE564:=n3_;clear n0_ n1_ n2_ n3_;clear hb hbox hg;have hcz8_0:w7.cell? ⟨gb564,0,none⟩=some (.slice A0_0 l0_0.length c0_0):=(blk_cell BK564.out 0).trans rfl;have hfz8_0:=blk_frozen BK564.out 0)|((with_reducible refine gate_callee (f:=24) rfl ?_);refine goesL_ (some 11) rfl rfl Try.func24 (by kernel_rfl) rfl #[.agg #[.slice A0_0 l0_0.length c0_0]] rfl (by (try simp only [List.map_toArray,List.map_cons,List.map_nil]);first|done|rfl|(simp only [List.length_drop,List.length_take];rfl)) ?_;(with_reducible refine (spec_l01Is.calls k _ _ l0_0 true _ ?side1 ?side2 A2.out).mono ?_);(case side1=>repeat (first|exact (Kd.C_below HR0_0.out HB.out)|(with_reducible refine Kd.C_alloc ?_ _)|(with_reducible refine Kd.C_drewN ?_ _)|(with_reducible refine Kd.C_drew ?_)));(case side2=>exact HC0_0.out);rintro e w9 ⟨rfl,hb⟩;refine ⟨_,rfl,?_⟩;have n0_:=Aside0.mk (blk_below (g:=gb564) (o:=.cells #[.slice A0_0 l0_0.length c0_0] 28 (0,0)) (by (with_reducible repeat (first|refine blk_drewN ?_ _|refine blk_drew ?_|refine blk_alloc ?_ _));exact BK564.out) hb);have n1_:=Aside0.mk (below_step (by repeat (first|(with_reducible first|exact HB.out|apply below_alloc|apply pw_below_drewN|apply below_drew1|refine below_set ?_ GE564.out)|exact HB.out)) hb);clear BK564;clear HB;have BK564:=n0_;have HB:=n1_;clear n0_ n1_;(try clear hb);(try clear hb2);(try clear hk);(try clear hi);have hcz10_0:w9.cell? ⟨gb564,0,none⟩=some (.slice A0_0 l0_0.length c0_0):=(blk_cell BK564.out 0).trans rfl;have hfz10_0:=blk_frozen BK564.out 0)|((with_reducible refine gate_callee (f:=39) rfl ?_);refine goesL_ (some 14) rfl rfl Try.func39 (by kernel_rfl) rfl #[.agg #[.slice A0_0 l0_0.length c0_0]] rfl (by (try simp only [List.map_toArray,List.map_cons,List.map_nil]);first|done|rfl|(simp only [List.length_drop,List.length_take];rfl)) ?_;(with_reducible refine (spec_l01N.calls _ _ l0_0 t566 _ ?side1 ?side2 A4.out).mono ?_);(case side1=>repeat (first|exact (Kd.C_below HR0_0.out HB.out)|(with_reducible refine Kd.C_alloc ?_ _)|(with_reducible refine Kd.C_drewN ?_ _)|(with_reducible refine Kd.C_drew ?_)));(case side2=>exact HC0_0.out);rintro e w11 ⟨rfl,hb⟩;refine ⟨_,rfl,?_⟩;have n0_:=Aside0.mk (blk_below (g:=gb564) (o:=.cells #[.slice A0_0 l0_0.length c0_0] 28 (0,0)) (by (with_reducible repeat (first|refine blk_drewN ?_ _|refine blk_drew ?_|refine blk_alloc ?_ _));exact BK564.out) hb);have n1_:=Aside0.mk (below_step (by repeat (first|(with_reducible first|exact HB.out|apply below_alloc|apply pw_below_drewN|apply below_drew1|refine below_set ?_ GE564.out)|exact HB.out)) hb);clear BK564;clear HB;have BK564:=n0_;have HB:=n1_;clear n0_ n1_;(try clear hb);(try clear hb2);(try clear hk);(try clear hi))|((with_reducible refine gate_dst (N:=16) rfl ?_);refine Kd.R_make (Kd.int .i64) _ 2 rfl (N:=16) rfl 22 _ _ rfl t566 rfl rfl Try.underlying22 (.int .i64 0) 8 info2 rfl (by decide) (by omega) 0 (ok:=fun _=>True) (okp:=fun _=>True) rfl (fun _ hk=>hk) trivial (of_decide_eq_true (by first|(with_reducible assumption)|assumption)) (Nat.le_trans (Nat.mul_le_mul_right _ (of_decide_eq_true (by first|(with_reducible assumption)|assumption):t566.toNat≤35184372088832)) (by omega)) (Below.refl _ _) (Nat.le_refl _) ?_;intro v568 w12 ho13 hb hg_ hnew_;clear hg_ hnew_;(first|rw [← Ny567.out] at ho13|(simp only [Int.reduceToNat] at ho13;rw [← Ny567.out] at ho13));have n0_:=Aside0.mk (Kd.R_lower ho13 (below_size (by repeat (first|(with_reducible first|exact HB.out|apply below_alloc|apply pw_below_drewN|apply below_drew1|refine below_set ?_ GE564.out)|exact HB.out))));have n1_:=Aside0.mk (blk_below (g:=gb564) (o:=.cells #[.slice A0_0 l0_0.length c0_0] 28 (0,0)) (by (with_reducible repeat (first|refine blk_drewN ?_ _|refine blk_drew ?_|refine blk_alloc ?_ _));exact BK564.out) hb);have n2_:=Aside0.mk (below_step (by repeat (first|(with_reducible first|exact HB.out|apply below_alloc|apply pw_below_drewN|apply below_drew1|refine below_set ?_ GE564.out)|exact HB.out)) hb);clear BK564;clear HB;have HO569:=n0_;have BK564:=n1_;have HB:=n2_;clear n0_ n1_ n2_;clear hb ho13))
    go_loopg [6,7] k (fun kq v6 v7 w'=>∃ (x5_1:List Int) (x6_1:Int) (x7_1:Int),v6=.int .i64 x6_1∧v7=.int .i64 x7_1∧Aside0 (spec_EvenColumns.l0 kq t566 x5_1 x6_1 x7_1 l0_0=some (r1,r2))∧Aside0 (kq≤k)∧Aside0 (Kd.R (Kd.int .i64) 2 w' w.heap.size (fun _=>True) v568 x5_1)∧Aside0 (w'.heap[gb564]?=some (.cells #[(.slice A0_0 l0_0.length c0_0)] 28 (0,0)))∧Aside0 (Below w.heap.size w w'))
    case atStart=>exact ⟨(y567),(0),(0),(by first|rfl|(simp;done)|(simp [*];done)),(by first|rfl|(simp;done)|(simp [*];done)),H',⟨Nat.le_refl _⟩,⟨by (with_reducible repeat (first|apply Kd.R_alloc|apply Kd.R_drewN|apply Kd.R_drew));exact HO569.out⟩,⟨by (with_reducible repeat (first|refine blk_drewN ?_ _|refine blk_drew ?_|refine blk_alloc ?_ _));exact BK564.out⟩,⟨by repeat (first|(with_reducible first|exact HB.out|apply below_alloc|apply pw_below_drewN|apply below_drew1|refine below_set ?_ GE564.out)|exact HB.out)⟩⟩
    case round =>
     clear H'
     try clear c1
     try clear c2
     try clear p2
     try clear c3
     try clear c5
     try clear c5b0
     try clear c5b1
     try clear c6
     try clear c6b0
     try clear c6b1
     try clear hcz10_0
     try clear hcz8_0
     try clear hfz10_0
     try clear hfz8_0
     obtain ⟨x5_1,x6_1,x7_1,rfl,rfl,HA,HK1,HO_5,BK564,HB⟩:=hrel
     cases gk with
     | zero=>exact absurd HA.out (by simp [spec_EvenColumns.l0])
     | succ k1 =>
      have H:=HA.out
      clear HA
      simp only [spec_EvenColumns.l0] at H
      by_cases c14:x7_1<t566
      ·rw [if_pos c14] at H
       have c14b0:decide (x7_1<t566)=true:=decide_eq_true c14
       clear c14
       by_cases c15:0≤x7_1
       ·rw [if_pos c15] at H
        have c15b0:decide (0≤x7_1)=true:=decide_eq_true c15
        clear c15
        by_cases c16:x7_1<(l0_0.length:Int)
        ·rw [if_pos c16] at H
         have c16b0:decide (x7_1<(l0_0.length:Int))=true:=decide_eq_true c16
         clear c16
         by_cases c17:(rd l0_0 x7_1)=0
         ·rw [if_pos c17] at H
          have c17b0:((rd l0_0 x7_1) == 0)=true:=beq_iff_eq.mpr c17
          have c17b1:((rd l0_0 x7_1) != 0)=false:=bne_eq_false_iff_eq.mpr c17
          clear c17
          by_cases c18:x7_1<(x5_1.length:Int)
          ·rw [if_pos c18] at H
           have c18b0:decide (x7_1<(x5_1.length:Int))=true:=decide_eq_true c18
           clear c18
           obtain ⟨y571,hy571⟩:∃ y_:List Int,y_=(x5_1.set (x7_1:Int).toNat (wrap64 (2*x6_1))):=⟨_,rfl⟩
           replace H:(spec_EvenColumns.l0 k1 t566 y571 (wrap64 (x6_1+1)) (wrap64 (x7_1+1)) l0_0)=some (r1,r2):=by first|(rw [hy571];with_reducible exact H)|(have H2_:=(Option.bind_some _ _).symm.trans H;rw [hy571];with_reducible exact H2_)|(have H2_:=(Option.bind_some _ _).symm.trans H;with_reducible exact H2_)|with_reducible exact H|(rw [hy571];exact H)|exact H
           have Ny571:=Aside0.mk hy571
           clear hy571
           have H':=Aside0.mk H
           clear H
           have hcz20_0:wr.cell? ⟨gb564,0,none⟩=some (.slice A0_0 l0_0.length c0_0):=(blk_cell BK564.out 0).trans rfl
           have hfz20_0:=blk_frozen BK564.out 0
           have p570:0≤(x7_1:Int):=of_decide_eq_true (by first|(with_reducible assumption)|assumption)
           have q570:x7_1<(l0_0.length:Int):=of_decide_eq_true (by first|(with_reducible assumption)|assumption)
           obtain ⟨ad570,e570,hx570_0⟩:=Kd.at_int HR0_0.out x7_1 p570 q570
           cases e570
           replace hx570_0:=(HB.out.cell (World.block_lt_of_cell? w _ hx570_0)).trans hx570_0
           replace p570:=eq_true p570
           replace q570:=eq_true q570
           have p19:0≤(x7_1:Int):=of_decide_eq_true (by first|(with_reducible assumption)|assumption)
           have q19:(x7_1:Int)<((x5_1.length:Int):Int):=of_decide_eq_true (by first|(with_reducible assumption)|assumption)
           obtain ⟨go19,co19,eo19,gb19,gl19,cl19,HG19⟩:=Kd.R_form HO_5.out (by omega)
           (first|cases eo19|(injection eo19 with ea_ en_ ec_;(first|subst ea_|(injection ea_ with ea_;subst ea_));subst ec_;clear en_))
           have GB19:=Aside0.mk gb19
           have GG19:=Aside0.mk HG19
           clear gb19 gl19 HG19
           obtain ⟨hx19_0,hf19_0⟩:=Kd.R_celln 0 HO_5.out (x7_1:Int) p19 q19
           replace p19:=eq_true p19
           replace q19:=eq_true q19
           have HP21:=Kd.R_putg HO_5.out (x7_1:Int) (wrap64 (2*x6_1))
           go_wp2_with (first|((with_reducible refine gate_store (t:=2) (p:=32) rfl ?_);refine store_event (t:=2) (p:=32) (v:=?vo_w22) (w1:=(wr.setCell ⟨go19,(x7_1:Int).toNat,none⟩ (.int .i64 (wrap64 (2*x6_1))))) ?hg ?ho ?hn ?hr ?_;(case ho=>rfl);(case hg=>rfl);(case hn=>rfl);(case hr=>first|(go_simp;done)|(go_simp;rfl));intro w22 hw;have hg:wr.grownBy w22 (some go19):=(by rw [hw];exact HP21.2);have hp_:Kd.R (Kd.int .i64) 2 w22 w.heap.size (fun _=>True) (.slice (some ⟨go19,0,none⟩) x5_1.length co19) y571:=(by rw [hw,Ny571.out];exact HP21.1);clear HP21;have n0_:=Aside0.mk (hp_);have n1_:=Aside0.mk (blk_grown (g:=gb564) (o:=.cells #[.slice (some ad570) l0_0.length c0_0] 28 (0,0)) (by (with_reducible repeat (first|refine blk_drewN ?_ _|refine blk_drew ?_|refine blk_alloc ?_ _));exact BK564.out) hg (Kd.R_ne HO_5.out BK564.out (by decide)));have n2_:=Aside0.mk ((by rw [hw];exact below_set (HB.out) GB19.out:Below w.heap.size w w22));clear HO_5;clear BK564;clear HB;have HO_5:=n0_;have BK564:=n1_;have HB:=n2_;clear n0_ n1_ n2_;clear hg hw hp_))
           go_roundg k1
           case measure=>have:=HK1.out;omega
           case rel=>exact ⟨(y571),(wrap64 (x6_1+1)),(wrap64 (x7_1+1)),(by first|rfl|(simp;done)|(simp [*];done)),(by first|rfl|(simp;done)|(simp [*];done)),H',⟨by have:=HK1.out;omega⟩,⟨by (with_reducible repeat (first|apply Kd.R_alloc|apply Kd.R_drewN|apply Kd.R_drew));exact HO_5.out⟩,⟨by (with_reducible repeat (first|refine blk_drewN ?_ _|refine blk_drew ?_|refine blk_alloc ?_ _));exact BK564.out⟩,⟨by repeat (first|(with_reducible first|exact HB.out|apply below_alloc|apply pw_below_drewN|apply below_drew1|refine below_set ?_ GE564.out)|exact HB.out)⟩⟩
          ·rw [if_neg c18] at H
           exact absurd H (by simp)
         ·rw [if_neg c17] at H
          have c17b0:((rd l0_0 x7_1) == 0)=false:=beq_eq_false_iff_ne.mpr c17
          have c17b1:((rd l0_0 x7_1) != 0)=true:=bne_iff_ne.mpr c17
          have H':=Aside0.mk H
          clear H
          have hcz23_0:wr.cell? ⟨gb564,0,none⟩=some (.slice A0_0 l0_0.length c0_0):=(blk_cell BK564.out 0).trans rfl
          have hfz23_0:=blk_frozen BK564.out 0
          have p570:0≤(x7_1:Int):=of_decide_eq_true (by first|(with_reducible assumption)|assumption)
          have q570:x7_1<(l0_0.length:Int):=of_decide_eq_true (by first|(with_reducible assumption)|assumption)
          obtain ⟨ad570,e570,hx570_0⟩:=Kd.at_int HR0_0.out x7_1 p570 q570
          cases e570
          replace hx570_0:=(HB.out.cell (World.block_lt_of_cell? w _ hx570_0)).trans hx570_0
          replace p570:=eq_true p570
          replace q570:=eq_true q570
          go_wp2
          go_roundg k1
          case measure=>have:=HK1.out;omega
          case rel=>exact ⟨(x5_1),(x6_1),(wrap64 (x7_1+1)),(by first|rfl|(simp;done)|(simp [*];done)),(by first|rfl|(simp;done)|(simp [*];done)),H',⟨by have:=HK1.out;omega⟩,⟨by (with_reducible repeat (first|apply Kd.R_alloc|apply Kd.R_drewN|apply Kd.R_drew));exact HO_5.out⟩,⟨by (with_reducible repeat (first|refine blk_drewN ?_ _|refine blk_drew ?_|refine blk_alloc ?_ _));exact BK564.out⟩,⟨by repeat (first|(with_reducible first|exact HB.out|apply below_alloc|apply pw_below_drewN|apply below_drew1|refine below_set ?_ GE564.out)|exact HB.out)⟩⟩
        ·rw [if_neg c16] at H
         exact absurd H (by simp)
       ·rw [if_neg c15] at H
        exact absurd H (by simp)
      ·rw [if_neg c14] at H
       have c14b0:decide (x7_1<t566)=false:=decide_eq_false c14
       clear c14
       have H':=Aside0.mk H
       clear H
       go_wp2
       go_loopg [8] k1 (fun kq v8 w'=>∃ (x5_2:List Int) (x8_2:Int),v8=.int .i64 x8_2∧Aside0 (spec_EvenColumns.l1 kq x5_2 x8_2 l0_0=some (r1,r2))∧Aside0 (kq≤k1)∧Aside0 (Kd.R (Kd.int .i64) 2 w' w.heap.size (fun _=>True) v568 x5_2)∧Aside0 (w'.heap[gb564]?=some (.cells #[(.slice A0_0 l0_0.length c0_0)] 28 (0,0)))∧Aside0 (Below w.heap.size w w'))
       case atStart=>exact ⟨(x5_1),(wrap64 (t566 - 1)),(by first|rfl|(simp;done)|(simp [*];done)),H',⟨Nat.le_refl _⟩,⟨by (with_reducible repeat (first|apply Kd.R_alloc|apply Kd.R_drewN|apply Kd.R_drew));exact HO_5.out⟩,⟨by (with_reducible repeat (first|refine blk_drewN ?_ _|refine blk_drew ?_|refine blk_alloc ?_ _));exact BK564.out⟩,⟨by repeat (first|(with_reducible first|exact HB.out|apply below_alloc|apply pw_below_drewN|apply below_drew1|refine below_set ?_ GE564.out)|exact HB.out)⟩⟩
       case round =>
        clear H'
        try clear c1
        try clear p1
        try clear q1
        try clear hx1
        try clear hf1
        try clear c2
        try clear p2
        try clear c3
        try clear c5
        try clear c5b0
        try clear c5b1
        try clear p5
        try clear q5
        try clear hx5
        try clear c6
        try clear c6b0
        try clear c6b1
        try clear p6
        try clear c14
        try clear c14b0
        try clear c15
        try clear c15b0
        try clear c16
        try clear c16b0
        try clear c17
        try clear c17b0
        try clear c17b1
        try clear c18
        try clear c18b0
        try clear p19
        try clear q19
        try clear hx19
        try clear hf19
        try clear hcz10_0
        try clear hcz20_0
        try clear hcz23_0
        try clear hcz8_0
        try clear hfz10_0
        try clear hfz20_0
        try clear hfz23_0
        try clear hfz8_0
        try clear hx19_0
        try clear hx570_0
        try clear p19
        try clear p2
        try clear p570
        try clear q19
        try clear q570
        obtain ⟨x5_2,x8_2,rfl,HA,HK2,HO_5,BK564,HB⟩:=hrel
        cases gk with
        | zero=>exact absurd HA.out (by simp [spec_EvenColumns.l1])
        | succ k2 =>
         have H:=HA.out
         clear HA
         simp only [spec_EvenColumns.l1] at H
         by_cases c24:x8_2≥0
         ·rw [if_pos c24] at H
          have c24b0:decide (0≤x8_2)=true:=decide_eq_true c24
          clear c24
          replace H:=Option.bind_eq_some_iff.mp H
          obtain ⟨t572,A250,H⟩:=H
          replace H:(if (t572.length:Int)>0 then (if 0<(t572.length:Int) then (if 0≤(rd t572 0) then (if (rd t572 0)<(x5_2.length:Int) then (if 0≤(wrap64 ((t572.length:Int) - 1)) then (if (wrap64 ((t572.length:Int) - 1))<(t572.length:Int) then (if 0≤(rd t572 (wrap64 ((t572.length:Int) - 1))) then (if (rd t572 (wrap64 ((t572.length:Int) - 1)))<(x5_2.length:Int) then ((spec_l08Half.f (wrap64 ((rd x5_2 (rd t572 0))+(rd x5_2 (rd t572 (wrap64 ((t572.length:Int) - 1))))))).bind fun t579=>(if 0≤x8_2 then (if x8_2<(x5_2.length:Int) then (spec_EvenColumns.l1 k2 (x5_2.set (x8_2:Int).toNat t579) (wrap64 (x8_2 - 1)) l0_0) else (none)) else (none))) else (none)) else (none)) else (none)) else (none)) else (none)) else (none)) else (none)) else (spec_EvenColumns.l1 k2 x5_2 (wrap64 (x8_2 - 1)) l0_0))=some (r1,r2):=H
          have A25:=Aside0.mk A250
          clear A250
          by_cases c26:(t572.length:Int)>0
          ·rw [if_pos c26] at H
           have c26b0:decide (0<(t572.length:Int))=true:=decide_eq_true c26
           have c26b1:decide (0<t572.length)=true:=decide_eq_true (by omega)
           clear c26
           by_cases c27:0<(t572.length:Int)
           ·rw [if_pos c27] at H
            have c27b0:decide (0<(t572.length:Int))=true:=decide_eq_true c27
            have c27b1:decide (0<t572.length)=true:=decide_eq_true (by omega)
            clear c27
            by_cases c28:0≤(rd t572 0)
            ·rw [if_pos c28] at H
             have c28b0:decide (0≤(rd t572 0))=true:=decide_eq_true c28
             clear c28
             by_cases c29:(rd t572 0)<(x5_2.length:Int)
             ·rw [if_pos c29] at H
              have c29b0:decide ((rd t572 0)<(x5_2.length:Int))=true:=decide_eq_true c29
              clear c29
              obtain ⟨ji30,hji30⟩:∃ j_:Int,(wrap64 ((t572.length:Int) - 1))=j_:=⟨_,rfl⟩
              replace H:(if 0≤(ji30) then (if (ji30)<(t572.length:Int) then (if 0≤(rd t572 (ji30)) then (if (rd t572 (ji30))<(x5_2.length:Int) then ((spec_l08Half.f (wrap64 ((rd x5_2 (rd t572 0))+(rd x5_2 (rd t572 (ji30)))))).bind fun t579=>(if 0≤x8_2 then (if x8_2<(x5_2.length:Int) then (spec_EvenColumns.l1 k2 (x5_2.set (x8_2:Int).toNat t579) (wrap64 (x8_2 - 1)) l0_0) else (none)) else (none))) else (none)) else (none)) else (none)) else (none))=some (r1,r2):=by first|(rw [hji30] at H;exact H)|(simp only [hji30] at H ⊢;exact H)
              (try rw [hji30] at A25)
              have hji30w:(IntKind.i64.wrap ((t572.length:Int) - 1))=ji30:=(i64_w _).trans hji30
              by_cases c31:0≤(ji30)
              ·rw [if_pos c31] at H
               have c31b0:decide (0≤(ji30))=true:=decide_eq_true c31
               clear c31
               by_cases c32:(ji30)<(t572.length:Int)
               ·rw [if_pos c32] at H
                have c32b0:decide ((ji30)<(t572.length:Int))=true:=decide_eq_true c32
                clear c32
                by_cases c33:0≤(rd t572 (ji30))
                ·rw [if_pos c33] at H
                 have c33b0:decide (0≤(rd t572 (ji30)))=true:=decide_eq_true c33
                 clear c33
                 by_cases c34:(rd t572 (ji30))<(x5_2.length:Int)
                 ·rw [if_pos c34] at H
                  have c34b0:decide ((rd t572 (ji30))<(x5_2.length:Int))=true:=decide_eq_true c34
                  clear c34
                  replace H:=Option.bind_eq_some_iff.mp H
                  obtain ⟨t579,A350,H⟩:=H
                  replace H:(if 0≤x8_2 then (if x8_2<(x5_2.length:Int) then (spec_EvenColumns.l1 k2 (x5_2.set (x8_2:Int).toNat t579) (wrap64 (x8_2 - 1)) l0_0) else (none)) else (none))=some (r1,r2):=H
                  have A35:=Aside0.mk A350
                  clear A350
                  by_cases c36:0≤x8_2
                  ·rw [if_pos c36] at H
                   have c36b0:decide (0≤x8_2)=true:=decide_eq_true c36
                   clear c36
                   by_cases c37:x8_2<(x5_2.length:Int)
                   ·rw [if_pos c37] at H
                    have c37b0:decide (x8_2<(x5_2.length:Int))=true:=decide_eq_true c37
                    clear c37
                    obtain ⟨y580,hy580⟩:∃ y_:List Int,y_=(x5_2.set (x8_2:Int).toNat t579):=⟨_,rfl⟩
                    replace H:(spec_EvenColumns.l1 k2 y580 (wrap64 (x8_2 - 1)) l0_0)=some (r1,r2):=by first|(rw [hy580];with_reducible exact H)|(have H2_:=(Option.bind_some _ _).symm.trans H;rw [hy580];with_reducible exact H2_)|(have H2_:=(Option.bind_some _ _).symm.trans H;with_reducible exact H2_)|with_reducible exact H|(rw [hy580];exact H)|exact H
                    have Ny580:=Aside0.mk hy580
                    clear hy580
                    have H':=Aside0.mk H
                    clear H
                    have hcz39_0:wr.cell? ⟨gb564,0,none⟩=some (.slice A0_0 l0_0.length c0_0):=(blk_cell BK564.out 0).trans rfl
                    have hfz39_0:=blk_frozen BK564.out 0
                    try go_wp2_with (first|((with_reducible refine gate_callee (f:=40) rfl ?_);refine goesL_ (some 43) rfl rfl Try.func40 (by kernel_rfl) rfl #[.agg #[.slice A0_0 l0_0.length c0_0],.int .i64 x8_2] rfl (by (try simp only [List.map_toArray,List.map_cons,List.map_nil]);first|done|rfl|(simp only [List.length_drop,List.length_take];rfl)) ?_;(with_reducible refine (spec_l01Children.calls k2 _ _ l0_0 x8_2 t572 _ ?side1 ?side2 A25.out).mono ?_);(case side1=>repeat (first|exact (Kd.C_below HR0_0.out HB.out)|(with_reducible refine Kd.C_alloc ?_ _)|(with_reducible refine Kd.C_drewN ?_ _)|(with_reducible refine Kd.C_drew ?_)));(case side2=>exact HC0_0.out);rintro e w40 ⟨v573,rfl,ho0,hb⟩;refine ⟨_,rfl,?_⟩;have n0_:=Aside0.mk (Kd.R_elder' (by (with_reducible repeat (first|apply Kd.R_alloc|apply Kd.R_drewN|apply Kd.R_drew));exact HO_5.out) (Kd.R_base ho0) hb);have n1_:=Aside0.mk (Kd.R_lower (Kd.R_new' ho0 (Kd.R_lt (by (with_reducible repeat (first|apply Kd.R_alloc|apply Kd.R_drewN|apply Kd.R_drew));exact HO_5.out))) (below_size (by repeat (first|(with_reducible first|exact HB.out|apply below_alloc|apply pw_below_drewN|apply below_drew1|refine below_set ?_ GE564.out)|exact HB.out))));have n2_:=Aside0.mk (blk_below (g:=gb564) (o:=.cells #[.slice A0_0 l0_0.length c0_0] 28 (0,0)) (by (with_reducible repeat (first|refine blk_drewN ?_ _|refine blk_drew ?_|refine blk_alloc ?_ _));exact BK564.out) hb);have n3_:=Aside0.mk (below_step (by repeat (first|(with_reducible first|exact HB.out|apply below_alloc|apply pw_below_drewN|apply below_drew1|refine below_set ?_ GE564.out)|exact HB.out)) hb);clear HO_5;clear BK564;clear HB;have HO_5:=n0_;have HO574:=n1_;have BK564:=n2_;have HB:=n3_;clear n0_ n1_ n2_ n3_;(try clear hb);(try clear hb2);(try clear hk);(try clear hi);(try clear ho0);obtain ⟨Ao41,co41,eo41⟩:=Kd.R_slice HO574.out;subst eo41))
                    have n0_:=Aside0.mk (Kd.R_drew HO_5.out)
                    have n1_:=Aside0.mk (Kd.R_drew HO574.out)
                    have n2_:=Aside0.mk (blk_drew BK564.out)
                    have n3_:=Aside0.mk (below_drew1 HB.out)
                    clear HO_5
                    clear HO574
                    clear BK564
                    clear HB
                    have HO_5:=n0_
                    have HO574:=n1_
                    have BK564:=n2_
                    have HB:=n3_
                    clear n0_ n1_ n2_ n3_
                    have p575:0≤(0:Int):=(by omega)
                    have q575:0<(t572.length:Int):=of_decide_eq_true (by first|(with_reducible assumption)|assumption)
                    obtain ⟨ad575,e575,hx575_0⟩:=Kd.at_int (Kd.R_reads' HO574.out).2.2 0 p575 q575
                    cases e575
                    have qi575:(0<t572.length)=True:=eq_true (by omega)
                    (try rw [show ((0:Int)).toNat=0 from rfl] at hx575_0)
                    (try rw [Addr.add_zero'] at hx575_0)
                    replace p575:=eq_true p575
                    replace q575:=eq_true q575
                    obtain ⟨Ao43,co43,eo43⟩:=Kd.R_slice HO_5.out
                    (first|subst eo43|(injection eo43 with f1_ f2_ f3_;have f4_:=f1_.symm;have f5_:=f3_.symm;clear f1_ f2_ f3_;subst f4_;subst f5_))
                    have p576:0≤((rd t572 0):Int):=of_decide_eq_true (by first|(with_reducible assumption)|assumption)
                    have q576:(rd t572 0)<(x5_2.length:Int):=of_decide_eq_true (by first|(with_reducible assumption)|assumption)
                    (try (obtain ⟨Aop_,cop_,eop_⟩:=Kd.R_slice HO_5.out;subst eop_))
                    obtain ⟨ad576,e576,hx576_0⟩:=Kd.at_int (Kd.R_reads' HO_5.out).2.2 (rd t572 0) p576 q576
                    cases e576
                    replace p576:=eq_true p576
                    replace q576:=eq_true q576
                    have p577:0≤((ji30):Int):=of_decide_eq_true (by first|(with_reducible assumption)|assumption)
                    have q577:(ji30)<(t572.length:Int):=of_decide_eq_true (by first|(with_reducible assumption)|assumption)
                    obtain ⟨ad577,e577,hx577_0⟩:=Kd.at_int (Kd.R_reads' HO574.out).2.2 (ji30) p577 q577
                    obtain rfl:ad575=ad577:=(by injection e577)
                    replace p577:=eq_true p577
                    replace q577:=eq_true q577
                    have p578:0≤((rd t572 (ji30)):Int):=of_decide_eq_true (by first|(with_reducible assumption)|assumption)
                    have q578:(rd t572 (ji30))<(x5_2.length:Int):=of_decide_eq_true (by first|(with_reducible assumption)|assumption)
                    (try (obtain ⟨Aop_,cop_,eop_⟩:=Kd.R_slice HO_5.out;subst eop_))
                    obtain ⟨ad578,e578,hx578_0⟩:=Kd.at_int (Kd.R_reads' HO_5.out).2.2 (rd t572 (ji30)) p578 q578
                    obtain rfl:ad576=ad578:=(by injection e578)
                    replace p578:=eq_true p578
                    replace q578:=eq_true q578
                    refine start_ (n:=21) (S:=fun w'=>w'.cell? ad575=some (.int .i64 (rd t572 0))∧w'.cell? (ad576.add ((rd t572 0)).toNat)=some (.int .i64 (rd x5_2 (rd t572 0)))∧w'.cell? (ad575.add ((ji30)).toNat)=some (.int .i64 (rd t572 (ji30)))∧w'.cell? (ad576.add ((rd t572 (ji30))).toNat)=some (.int .i64 (rd x5_2 (rd t572 (ji30))))) (ds:=[20]) #[false,false,false,false,false,false,false,false,false,false,false,false,false,false,false,false,false,false,false,false,false] (by kernel_rfl) rfl rfl ⟨hx575_0,hx576_0,hx577_0,hx578_0⟩ (fun hHeld=>?_);refine with_tabW spec_EvenColumns.tab16 spec_EvenColumns.bits16 (fun HT_ HW_=>?_)
                    generalize w40.drew=w42 at HO_5 HO574 BK564 HB hx575_0 hx576_0 hx577_0 hx578_0 hHeld ⊢
                    refine pure_ (i:=0) (N:=some 47) (v:=?_) (a':=?_) (tf 1 20) rfl rfl (any_of HT_.out (by kernel_rfl)) (fun _ _ _ h=>h) (Or.inl ⟨by rfl,?_⟩) ?_ ?_
                    rotate_left
                    ·intro w'
                     go_simp
                     with_reducible rfl
                    rotate_left
                    ·simp only [Act.put,sIB,sc0,scs,i64_w,i32_w]
                     rfl
                    refine pure_ (i:=1) (N:=some 48) (v:=?_) (a':=?_) (tf 2 19) rfl rfl (any_of HT_.out (by kernel_rfl)) (fun _ _ _ h=>h) (Or.inl ⟨by rfl,?_⟩) ?_ ?_
                    rotate_left
                    ·intro w'
                     go_simp
                     with_reducible rfl
                    rotate_left
                    ·simp only [Act.put,sIB,sc0,scs,i64_w,i32_w]
                     rfl
                    refine pure_ (i:=2) (N:=some 49) (v:=?_) (a':=?_) (tf 3 18) rfl rfl (any_of HT_.out (by kernel_rfl)) (fun _ _ _ h=>h) (Or.inl ⟨by rfl,?_⟩) ?_ ?_
                    rotate_left
                    ·intro w'
                     go_simp
                     with_reducible rfl
                    rotate_left
                    ·simp only [Act.put,sIB,sc0,scs,i64_w,i32_w]
                     rfl
                    refine pure_ (i:=3) (N:=some 50) (v:=?_) (a':=?_) (tf 4 17) rfl rfl (any_of HT_.out (by kernel_rfl)) (fun _ _ _ h=>h) (Or.inl ⟨by rfl,?_⟩) ?_ ?_
                    rotate_left
                    ·intro w'
                     go_simp
                     with_reducible rfl
                    rotate_left
                    ·simp only [Act.put,sIB,sc0,scs,i64_w,i32_w]
                     rfl
                    refine pure_ (i:=4) (N:=some 51) (v:=?_) (a':=?_) (tf 5 16) rfl rfl (any_of HT_.out (by kernel_rfl)) (fun _ _ _ h=>h) (Or.inl ⟨by rfl,?_⟩) ?_ ?_
                    rotate_left
                    ·intro w'
                     go_simp
                     with_reducible rfl
                    rotate_left
                    ·simp only [Act.put,sIB,sc0,scs,i64_w,i32_w]
                     rfl
                    refine pure_ (i:=8) (N:=some 55) (v:=?_) (a':=?_) #[true,true,true,true,true,false,false,false,true,false,false,false,false,false,false,false,false,false,false,false,false] rfl rfl (any_of HT_.out (by kernel_rfl)) (fun _ _ _ h=>h) (Or.inl ⟨by rfl,?_⟩) ?_ ?_
                    rotate_left
                    ·intro w'
                     go_simp
                     with_reducible rfl
                    rotate_left
                    ·simp only [Act.put,sIB,sc0,scs,i64_w,i32_w]
                     rfl
                    refine pure_ (i:=9) (N:=some 56) (v:=?_) (a':=?_) #[true,true,true,true,true,false,false,false,true,true,false,false,false,false,false,false,false,false,false,false,false] rfl rfl (any_of HT_.out (by kernel_rfl)) (fun _ _ _ h=>h) (Or.inl ⟨by rfl,?_⟩) ?_ ?_
                    rotate_left
                    ·intro w'
                     go_simp
                     with_reducible rfl
                    rotate_left
                    ·simp only [Act.put,sIB,sc0,scs,i64_w,i32_w]
                     rfl
                    refine pure_ (i:=10) (N:=some 57) (v:=?_) (a':=?_) #[true,true,true,true,true,false,false,false,true,true,true,false,false,false,false,false,false,false,false,false,false] rfl rfl (any_of HT_.out (by kernel_rfl)) (fun _ _ _ h=>h) (Or.inl ⟨by rfl,?_⟩) ?_ ?_
                    rotate_left
                    ·intro w'
                     go_simp
                     with_reducible rfl
                    rotate_left
                    ·simp only [Act.put,sIB,sc0,scs,i64_w,i32_w]
                     rfl
                    refine pure_ (i:=11) (N:=some 58) (v:=?_) (a':=?_) #[true,true,true,true,true,false,false,false,true,true,true,true,false,false,false,false,false,false,false,false,false] rfl rfl (any_of HT_.out (by kernel_rfl)) (fun _ _ _ h=>h) (Or.inl ⟨by rfl,?_⟩) ?_ ?_
                    rotate_left
                    ·intro w'
                     go_simp
                     with_reducible rfl
                    rotate_left
                    ·simp only [Act.put,sIB,sc0,scs,i64_w,i32_w]
                     rfl
                    refine pure_ (i:=12) (N:=some 59) (v:=?_) (a':=?_) #[true,true,true,true,true,false,false,false,true,true,true,true,true,false,false,false,false,false,false,false,false] rfl rfl (any_of HT_.out (by kernel_rfl)) (fun _ _ _ h=>h) (Or.inl ⟨by rfl,?_⟩) ?_ ?_
                    rotate_left
                    ·intro w'
                     go_simp
                     with_reducible rfl
                    rotate_left
                    ·simp only [Act.put,sIB,sc0,scs,i64_w,i32_w]
                     rfl
                    refine pure_ (i:=13) (N:=some 60) (v:=?_) (a':=?_) #[true,true,true,true,true,false,false,false,true,true,true,true,true,true,false,false,false,false,false,false,false] rfl rfl (any_of HT_.out (by kernel_rfl)) (fun _ _ _ h=>h) (Or.inl ⟨by rfl,?_⟩) ?_ ?_
                    rotate_left
                    ·intro w'
                     go_simp
                     with_reducible rfl
                    rotate_left
                    ·simp only [Act.put,sIB,sc0,scs,i64_w,i32_w]
                     rfl
                    refine take_ (i:=5) (N:=some 52) (v:=?_) (a':=?_) #[true,true,true,true,true,true,false,false,true,true,true,true,true,true,false,false,false,false,false,false,false] rfl rfl (take_ofW HT_.out HW_.out (by kernel_rfl)) (fun _ _ _ h=>h) (Or.inl ⟨by rfl,?_⟩) hHeld ?_ ?_
                    rotate_left
                    ·rintro w' ⟨s0,s1,s2,s3⟩
                     go_simp
                     with_reducible rfl
                    rotate_left
                    ·simp only [Act.put,sIB,sc0,scs,i64_w,i32_w]
                     rfl
                    refine pure_ (i:=6) (N:=some 53) (v:=?_) (a':=?_) #[true,true,true,true,true,true,true,false,true,true,true,true,true,true,false,false,false,false,false,false,false] rfl rfl (any_of HT_.out (by kernel_rfl)) (fun _ _ _ h=>h) (Or.inl ⟨by rfl,?_⟩) ?_ ?_
                    rotate_left
                    ·intro w'
                     go_simp
                     with_reducible rfl
                    rotate_left
                    ·simp only [Act.put,sIB,sc0,scs,i64_w,i32_w]
                     rfl
                    refine take_ (i:=7) (N:=some 54) (v:=?_) (a':=?_) (tf 14 7) rfl rfl (take_ofW HT_.out HW_.out (by kernel_rfl)) (fun _ _ _ h=>h) (Or.inl ⟨by rfl,?_⟩) hHeld ?_ ?_
                    rotate_left
                    ·rintro w' ⟨s0,s1,s2,s3⟩
                     go_simp
                     with_reducible rfl
                    rotate_left
                    ·simp only [Act.put,sIB,sc0,scs,i64_w,i32_w]
                     rfl
                    refine take_ (i:=14) (N:=some 61) (v:=?_) (a':=?_) (tf 15 6) rfl rfl (take_ofW HT_.out HW_.out (by kernel_rfl)) (fun _ _ _ h=>h) (Or.inl ⟨by rfl,?_⟩) hHeld ?_ ?_
                    rotate_left
                    ·rintro w' ⟨s0,s1,s2,s3⟩
                     go_simp
                     with_reducible rfl
                    rotate_left
                    ·simp only [Act.put,sIB,sc0,scs,i64_w,i32_w]
                     rfl
                    refine pure_ (i:=15) (N:=some 62) (v:=?_) (a':=?_) (tf 16 5) rfl rfl (any_of HT_.out (by kernel_rfl)) (fun _ _ _ h=>h) (Or.inl ⟨by rfl,?_⟩) ?_ ?_
                    rotate_left
                    ·intro w'
                     go_simp
                     with_reducible rfl
                    rotate_left
                    ·simp only [Act.put,sIB,sc0,scs,i64_w,i32_w]
                     rfl
                    refine take_ (i:=16) (N:=some 63) (v:=?_) (a':=?_) (tf 17 4) rfl rfl (take_ofW HT_.out HW_.out (by kernel_rfl)) (fun _ _ _ h=>h) (Or.inl ⟨by rfl,?_⟩) hHeld ?_ ?_
                    rotate_left
                    ·rintro w' ⟨s0,s1,s2,s3⟩
                     go_simp
                     with_reducible rfl
                    rotate_left
                    ·simp only [Act.put,sIB,sc0,scs,i64_w,i32_w]
                     rfl
                    refine pure_ (i:=17) (N:=some 64) (v:=?_) (a':=?_) (tf 18 3) rfl rfl (any_of HT_.out (by kernel_rfl)) (fun _ _ _ h=>h) (Or.inl ⟨by rfl,?_⟩) ?_ ?_
                    rotate_left
                    ·intro w'
                     go_simp
                     with_reducible rfl
                    rotate_left
                    ·simp only [Act.put,sIB,sc0,scs,i64_w,i32_w]
                     rfl
                    refine one_ (i:=18) (N:=some 65) (tf 19 2) rfl rfl (one_of HT_.out (by kernel_rfl)) (by decide) (fun K hK=>?_)
                    refine goes_ Try.func41 (by kernel_rfl) rfl #[.int .i64 (wrap64 ((rd x5_2 (rd t572 0))+(rd x5_2 (rd t572 (ji30)))))] (by rfl) rfl rfl (by (try simp only [List.map_toArray,List.map_cons,List.map_nil]);first|done|(simp only [hji30];rfl)|rfl|(simp only [List.length_drop,List.length_take];rfl)) ?_
                    with_reducible refine (spec_l08Half.calls (wrap64 ((rd x5_2 (rd t572 0))+(rd x5_2 (rd t572 (ji30))))) t579 _ A35.out).mono ?_
                    rintro e w' ⟨rfl,⟨nd,rfl⟩⟩
                    refine ⟨_,rfl,?_⟩
                    have p38:0≤(x8_2:Int):=of_decide_eq_true (by first|(with_reducible assumption)|assumption)
                    have q38:(x8_2:Int)<((x5_2.length:Int):Int):=of_decide_eq_true (by first|(with_reducible assumption)|assumption)
                    obtain ⟨go38,co38,eo38,gb38,gl38,cl38,HG38⟩:=Kd.R_form HO_5.out (by omega)
                    (first|cases eo38|(injection eo38 with ea_ en_ ec_;(first|subst ea_|(injection ea_ with ea_;subst ea_));subst ec_;clear en_))
                    have GB38:=Aside0.mk gb38
                    have GG38:=Aside0.mk HG38
                    clear gb38 gl38 HG38
                    (first|simp only [add_plain] at hx576_0|skip)
                    (first|simp only [add_plain] at hx578_0|skip)
                    obtain ⟨hx38_0,hf38_0⟩:=Kd.R_celln 0 HO_5.out (x8_2:Int) p38 q38
                    replace p38:=eq_true p38
                    replace q38:=eq_true q38
                    have HP44:=Kd.R_putn HO_5.out (x8_2:Int) t579
                    rw [← Ny580.out] at HP44
                    have HQ44:=Aside0.mk HP44
                    clear HP44
                    refine hK.out _ _ ⟨hHeld.1,hHeld.2.1,hHeld.2.2.1,hHeld.2.2.2⟩ (fun hHeld=>?_)
                    clear hK K
                    refine norm_ (a':=?_) ?_ ?_
                    rotate_left
                    ·show Act.put _ (some 65) _=_
                     simp only [Act.put,sIB,sc0,scs,i64_w,i32_w]
                     rfl
                    refine pure_ (i:=19) (N:=some 66) (v:=?_) (a':=?_) (tf 20 1) rfl rfl (any_of HT_.out (by kernel_rfl)) (fun _ _ _ h=>h) (Or.inl ⟨by rfl,?_⟩) ?_ ?_
                    rotate_left
                    ·intro w'
                     go_simp
                     with_reducible rfl
                    rotate_left
                    ·simp only [Act.put,sIB,sc0,scs,i64_w,i32_w]
                     rfl
                    refine last_ (i:=20) (N:=none) #[true,true,true,true,true,true,true,true,true,true,true,true,true,true,true,true,true,true,true,true,true] rfl rfl (one_of HT_.out (by kernel_rfl)) (by decide) (fun K hK=>?_)
                    refine skip_ (w1:=?_) (by rfl) rfl ?_ ?_
                    rotate_left
                    ·go_simp
                     rfl
                    refine hK.out _ _ ?_
                    clear hK K
                    refine done_ (done_of HT_.out (by kernel_rfl)) ?_
                    try go_wp2
                    go_roundg k2
                    case measure=>have:=HK1.out;have:=HK2.out;omega
                    case rel=>exact ⟨(y580),(wrap64 (x8_2 - 1)),(by first|rfl|(simp;done)|(simp [*];done)),H',⟨by have:=HK1.out;have:=HK2.out;omega⟩,⟨by (with_reducible repeat (first|apply Kd.R_alloc|apply Kd.R_drewN|apply Kd.R_drew));exact Kd.R_mono HQ44.out (fun _ hk=>trivial)⟩,⟨by (with_reducible repeat (first|refine blk_drewN ?_ _|refine blk_drew ?_|refine blk_alloc ?_ _));refine blk_far ?_ (by have h_:=Kd.R_ne HO_5.out BK564.out (by decide);intro e_;exact h_ (by rw [e_];rfl)) _;(with_reducible repeat (first|refine blk_drewN ?_ _|refine blk_drew ?_|refine blk_alloc ?_ _));exact BK564.out⟩,⟨by repeat (first|(with_reducible first|exact HB.out|apply below_alloc|apply pw_below_drewN|apply below_drew1|refine below_set ?_ GB38.out|refine below_set ?_ GE564.out)|exact HB.out)⟩⟩
                   ·rw [if_neg c37] at H
                    exact absurd H (by simp)
                  ·rw [if_neg c36] at H
                   exact absurd H (by simp)
                 ·rw [if_neg c34] at H
                  exact absurd H (by simp)
                ·rw [if_neg c33] at H
                 exact absurd H (by simp)
               ·rw [if_neg c32] at H
                exact absurd H (by simp)
              ·rw [if_neg c31] at H
               exact absurd H (by simp)
             ·rw [if_neg c29] at H
              exact absurd H (by simp)
            ·rw [if_neg c28] at H
             exact absurd H (by simp)
           ·rw [if_neg c27] at H
            exact absurd H (by simp)
          ·rw [if_neg c26] at H
           have c26b0:decide (0<(t572.length:Int))=false:=decide_eq_false c26
           have c26b1:decide (0<t572.length)=false:=decide_eq_false (by omega)
           clear c26
           have H':=Aside0.mk H
           clear H
           have hcz45_0:wr.cell? ⟨gb564,0,none⟩=some (.slice A0_0 l0_0.length c0_0):=(blk_cell BK564.out 0).trans rfl
           have hfz45_0:=blk_frozen BK564.out 0
           go_wp2_with (first|((with_reducible refine gate_callee (f:=40) rfl ?_);refine goesL_ (some 43) rfl rfl Try.func40 (by kernel_rfl) rfl #[.agg #[.slice A0_0 l0_0.length c0_0],.int .i64 x8_2] rfl (by (try simp only [List.map_toArray,List.map_cons,List.map_nil]);first|done|rfl|(simp only [List.length_drop,List.length_take];rfl)) ?_;(with_reducible refine (spec_l01Children.calls k2 _ _ l0_0 x8_2 t572 _ ?side1 ?side2 A25.out).mono ?_);(case side1=>repeat (first|exact (Kd.C_below HR0_0.out HB.out)|(with_reducible refine Kd.C_alloc ?_ _)|(with_reducible refine Kd.C_drewN ?_ _)|(with_reducible refine Kd.C_drew ?_)));(case side2=>exact HC0_0.out);rintro e w46 ⟨v573,rfl,ho0,hb⟩;refine ⟨_,rfl,?_⟩;have n0_:=Aside0.mk (Kd.R_elder' (by (with_reducible repeat (first|apply Kd.R_alloc|apply Kd.R_drewN|apply Kd.R_drew));exact HO_5.out) (Kd.R_base ho0) hb);have n1_:=Aside0.mk (Kd.R_lower (Kd.R_new' ho0 (Kd.R_lt (by (with_reducible repeat (first|apply Kd.R_alloc|apply Kd.R_drewN|apply Kd.R_drew));exact HO_5.out))) (below_size (by repeat (first|(with_reducible first|exact HB.out|apply below_alloc|apply pw_below_drewN|apply below_drew1|refine below_set ?_ GE564.out)|exact HB.out))));have n2_:=Aside0.mk (blk_below (g:=gb564) (o:=.cells #[.slice A0_0 l0_0.length c0_0] 28 (0,0)) (by (with_reducible repeat (first|refine blk_drewN ?_ _|refine blk_drew ?_|refine blk_alloc ?_ _));exact BK564.out) hb);have n3_:=Aside0.mk (below_step (by repeat (first|(with_reducible first|exact HB.out|apply below_alloc|apply pw_below_drewN|apply below_drew1|refine below_set ?_ GE564.out)|exact HB.out)) hb);clear HO_5;clear BK564;clear HB;have HO_5:=n0_;have HO574:=n1_;have BK564:=n2_;have HB:=n3_;clear n0_ n1_ n2_ n3_;(try clear hb);(try clear hb2);(try clear hk);(try clear hi);(try clear ho0);obtain ⟨Ao47,co47,eo47⟩:=Kd.R_slice HO574.out;subst eo47))
           go_roundg k2
           case measure=>have:=HK1.out;have:=HK2.out;omega
           case rel=>exact ⟨(x5_2),(wrap64 (x8_2 - 1)),(by first|rfl|(simp;done)|(simp [*];done)),H',⟨by have:=HK1.out;have:=HK2.out;omega⟩,⟨by (with_reducible repeat (first|apply Kd.R_alloc|apply Kd.R_drewN|apply Kd.R_drew));exact Kd.R_mono HO_5.out (fun _ hk=>trivial)⟩,⟨by (with_reducible repeat (first|refine blk_drewN ?_ _|refine blk_drew ?_|refine blk_alloc ?_ _));exact BK564.out⟩,⟨by repeat (first|(with_reducible first|exact HB.out|apply below_alloc|apply pw_below_drewN|apply below_drew1|refine below_set ?_ GE564.out)|exact HB.out)⟩⟩
         ·rw [if_neg c24] at H
          have c24b0:decide (0≤x8_2)=false:=decide_eq_false c24
          clear c24
          simp only [Option.some.injEq,Prod.mk.injEq] at H
          obtain ⟨rfl,rfl⟩:=H
          go_wp2
          go_ret2
          exact ⟨_,by first|rfl|(simp [errW_none,errW_some] <;> rfl)|(simp [*,errW_none,errW_some] <;> rfl),by (with_reducible repeat (first|apply Kd.R_alloc|apply Kd.R_drewN|apply Kd.R_drew));exact HO_5.out,by repeat (first|(with_reducible first|exact HB.out|apply below_alloc|apply pw_below_drewN|apply below_drew1|refine below_set ?_ GE564.out)|exact HB.out)⟩
   ·rw [if_neg c6] at H
    exact absurd H (by simp)
  ·rw [if_neg c5] at H
   exact absurd H (by simp)
 ·replace c3:=Bool.eq_false_iff.mpr c3
  subst c3
  have H1:(some (([]:List Int),1))=some (r1,r2):=by rw [if_neg (show ¬ (false=true) by decide)] at H;exact H
  clear H
  have H:=H1
  clear H1
  simp only [Option.some.injEq,Prod.mk.injEq] at H
  obtain ⟨rfl,rfl⟩:=H
  go_enter Try.func16,Try.ntmps16
  go_wp2_with (first|((with_reducible refine gate_dst (N:=1) rfl ?_);refine box_event ?hg (N:=1) ?hd (cs:=#[.slice A0_0 l0_0.length c0_0]) (t:=28) ?hr ?_;(case hd=>rfl);(case hg=>rfl);(case hr=>first|(go_simp;done)|(go_simp;rfl));intro gb564 hg w48 hbox hb;have n0_:=Aside0.mk (below_step (by repeat (first|(with_reducible first|exact HB.out|apply below_alloc|apply pw_below_drewN|apply below_drew1)|exact HB.out)) hb);have n1_:=Aside0.mk (hbox);have n2_:=Aside0.mk ((by rw [hg];exact (below_size (by repeat (first|(with_reducible first|exact HB.out|apply below_alloc|apply pw_below_drewN|apply below_drew1)|exact HB.out))):w.heap.size≤gb564));have n3_:=Aside0.mk ((by rw [hg];exact (below_size (by repeat (first|(with_reducible first|exact HB.out|apply below_alloc|apply pw_below_drewN|apply below_drew1)|exact HB.out))):w.heap.size≤gb564));clear HB;have HB:=n0_;have BK564:=n1_;have GW564:=n2_;have GE564:=n3_;clear n0_ n1_ n2_ n3_;clear hb hbox hg;have hcz49_0:w48.cell? ⟨gb564,0,none⟩=some (.slice A0_0 l0_0.length c0_0):=(blk_cell BK564.out 0).trans rfl;have hfz49_0:=blk_frozen BK564.out 0)|((with_reducible refine gate_callee (f:=24) rfl ?_);refine goesL_ (some 11) rfl rfl Try.func24 (by kernel_rfl) rfl #[.agg #[.slice A0_0 l0_0.length c0_0]] rfl (by (try simp only [List.map_toArray,List.map_cons,List.map_nil]);first|done|rfl|(simp only [List.length_drop,List.length_take];rfl)) ?_;(with_reducible refine (spec_l01Is.calls k _ _ l0_0 false _ ?side1 ?side2 A2.out).mono ?_);(case side1=>repeat (first|exact (Kd.C_below HR0_0.out HB.out)|(with_reducible refine Kd.C_alloc ?_ _)|(with_reducible refine Kd.C_drewN ?_ _)|(with_reducible refine Kd.C_drew ?_)));(case side2=>exact HC0_0.out);rintro e w50 ⟨rfl,hb⟩;refine ⟨_,rfl,?_⟩;have n0_:=Aside0.mk (blk_below (g:=gb564) (o:=.cells #[.slice A0_0 l0_0.length c0_0] 28 (0,0)) (by (with_reducible repeat (first|refine blk_drewN ?_ _|refine blk_drew ?_|refine blk_alloc ?_ _));exact BK564.out) hb);have n1_:=Aside0.mk (below_step (by repeat (first|(with_reducible first|exact HB.out|apply below_alloc|apply pw_below_drewN|apply below_drew1|refine below_set ?_ GE564.out)|exact HB.out)) hb);clear BK564;clear HB;have BK564:=n0_;have HB:=n1_;clear n0_ n1_;(try clear hb);(try clear hb2);(try clear hk);(try clear hi)))
  go_ret2
  exact ⟨_,by first|rfl|(simp [errW_none,errW_some] <;> rfl)|(simp [*,errW_none,errW_some] <;> rfl),by first|exact Kd.R_nil _ _ _ _ _|exact Kd.N_nil _ _ _ _ _|exact Kd.V_nil _ _ _ _ _|exact Kd.Q_nil _ _ _ _ _|exact Kd.S_nil _ _ _ _ _,by repeat (first|(with_reducible first|exact HB.out|apply below_alloc|apply pw_below_drewN|apply below_drew1|refine below_set ?_ GE564.out)|exact HB.out)⟩
def impl_TidyWidth.f (k:Nat) (l0_0:List Int):Option (Int × Int):=(impl_IsTree.f k l0_0).bind fun t582=>(if t582=true then ((impl_tidy.f k l0_0).bind fun t583=>((slices_Max_int64_int64.f k t583).bind fun t586=>(some (t586,0)))) else (some (0,1)))
set_option maxHeartbeats 8000000 in
set_option maxRecDepth 100000 in
theorem impl_TidyWidth.calls (k:Nat) (A0_0:Option Addr) (c0_0:Nat) (l0_0:List Int) (r1:Int) (r2:Int) (w:World) (hr0_0:Kd.C (Kd.int .i64) w A0_0 l0_0.length l0_0) (hc0_0:l0_0.length≤c0_0) (h:impl_TidyWidth.f k l0_0=some (r1,r2)) :
  Calls Try.prog 17 #[.agg #[.slice A0_0 l0_0.length c0_0]] w fun e w'=>e=.returned (.tuple #[.int .i64 r1,.int .i64 r2])∧Below w.heap.size w w':=by
 have hu28:=Try.underlying28
 have HR0_0:=Aside0.mk hr0_0
 have HC0_0:=Aside0.mk hc0_0
 clear hr0_0 hc0_0
 have HB:=Aside0.mk (Below.refl w.heap.size w)
 have H:((impl_IsTree.f k l0_0).bind fun t582=>(if t582=true then ((impl_tidy.f k l0_0).bind fun t583=>((slices_Max_int64_int64.f k t583).bind fun t586=>(some (t586,0)))) else (some (0,1))))=some (r1,r2):=h
 clear h
 replace H:=Option.bind_eq_some_iff.mp H
 obtain ⟨t582,A20,H⟩:=H
 replace H:(if t582=true then ((impl_tidy.f k l0_0).bind fun t583=>((slices_Max_int64_int64.f k t583).bind fun t586=>(some (t586,0)))) else (some (0,1)))=some (r1,r2):=H
 have A2:=Aside0.mk A20
 clear A20
 by_cases c3:t582=true
 ·subst c3
  have H1:((impl_tidy.f k l0_0).bind fun t583=>((slices_Max_int64_int64.f k t583).bind fun t586=>(some (t586,0))))=some (r1,r2):=by rw [if_pos rfl] at H;exact H
  clear H
  have H:=H1
  clear H1
  replace H:=Option.bind_eq_some_iff.mp H
  obtain ⟨t583,A40,H⟩:=H
  replace H:((slices_Max_int64_int64.f k t583).bind fun t586=>(some (t586,0)))=some (r1,r2):=H
  have A4:=Aside0.mk A40
  clear A40
  replace H:=Option.bind_eq_some_iff.mp H
  obtain ⟨t586,A50,H⟩:=H
  replace H:(some (t586,0))=some (r1,r2):=H
  have A5:=Aside0.mk A50
  clear A50
  simp only [Option.some.injEq,Prod.mk.injEq] at H
  obtain ⟨rfl,rfl⟩:=H
  go_enter Try.func17,Try.ntmps17
  go_wp2_with (first|((with_reducible refine gate_dst (N:=1) rfl ?_);refine box_event ?hg (N:=1) ?hd (cs:=#[.slice A0_0 l0_0.length c0_0]) (t:=28) ?hr ?_;(case hd=>rfl);(case hg=>rfl);(case hr=>first|(go_simp;done)|(go_simp;rfl));intro gb581 hg w6 hbox hb;have n0_:=Aside0.mk (below_step (by repeat (first|(with_reducible first|exact HB.out|apply below_alloc|apply pw_below_drewN|apply below_drew1)|exact HB.out)) hb);have n1_:=Aside0.mk (hbox);have n2_:=Aside0.mk ((by rw [hg];exact (below_size (by repeat (first|(with_reducible first|exact HB.out|apply below_alloc|apply pw_below_drewN|apply below_drew1)|exact HB.out))):w.heap.size≤gb581));have n3_:=Aside0.mk ((by rw [hg];exact (below_size (by repeat (first|(with_reducible first|exact HB.out|apply below_alloc|apply pw_below_drewN|apply below_drew1)|exact HB.out))):w.heap.size≤gb581));clear HB;have HB:=n0_;have BK581:=n1_;have GW581:=n2_;have GE581:=n3_;clear n0_ n1_ n2_ n3_;clear hb hbox hg;have hcz7_0:w6.cell? ⟨gb581,0,none⟩=some (.slice A0_0 l0_0.length c0_0):=(blk_cell BK581.out 0).trans rfl;have hfz7_0:=blk_frozen BK581.out 0)|((with_reducible refine gate_callee (f:=29) rfl ?_);refine goesL_ (some 5) rfl rfl Try.func29 (by kernel_rfl) rfl #[.agg #[.slice A0_0 l0_0.length c0_0]] rfl (by (try simp only [List.map_toArray,List.map_cons,List.map_nil]);first|done|rfl|(simp only [List.length_drop,List.length_take];rfl)) ?_;(with_reducible refine (impl_IsTree.calls k _ _ l0_0 true _ ?side1 ?side2 A2.out).mono ?_);(case side1=>repeat (first|exact (Kd.C_below HR0_0.out HB.out)|(with_reducible refine Kd.C_alloc ?_ _)|(with_reducible refine Kd.C_drewN ?_ _)|(with_reducible refine Kd.C_drew ?_)));(case side2=>exact HC0_0.out);rintro e w8 ⟨rfl,hb⟩;refine ⟨_,rfl,?_⟩;have n0_:=Aside0.mk (blk_below (g:=gb581) (o:=.cells #[.slice A0_0 l0_0.length c0_0] 28 (0,0)) (by (with_reducible repeat (first|refine blk_drewN ?_ _|refine blk_drew ?_|refine blk_alloc ?_ _));exact BK581.out) hb);have n1_:=Aside0.mk (below_step (by repeat (first|(with_reducible first|exact HB.out|apply below_alloc|apply pw_below_drewN|apply below_drew1|refine below_set ?_ GE581.out)|exact HB.out)) hb);clear BK581;clear HB;have BK581:=n0_;have HB:=n1_;clear n0_ n1_;(try clear hb);(try clear hb2);(try clear hk);(try clear hi);have hcz9_0:w8.cell? ⟨gb581,0,none⟩=some (.slice A0_0 l0_0.length c0_0):=(blk_cell BK581.out 0).trans rfl;have hfz9_0:=blk_frozen BK581.out 0)|((with_reducible refine gate_callee (f:=30) rfl ?_);refine goesL_ (some 9) rfl rfl Try.func30 (by kernel_rfl) rfl #[.slice A0_0 l0_0.length c0_0] rfl (by (try simp only [List.map_toArray,List.map_cons,List.map_nil]);first|done|rfl|(simp only [List.length_drop,List.length_take];rfl)) ?_;(with_reducible refine (impl_tidy.calls k _ _ l0_0 t583 _ ?side1 ?side2 A4.out).mono ?_);(case side1=>repeat (first|exact (Kd.C_below HR0_0.out HB.out)|(with_reducible refine Kd.C_alloc ?_ _)|(with_reducible refine Kd.C_drewN ?_ _)|(with_reducible refine Kd.C_drew ?_)));(case side2=>exact HC0_0.out);rintro e w10 ⟨v584,rfl,ho0,hb⟩;refine ⟨_,rfl,?_⟩;have n0_:=Aside0.mk (Kd.R_lower ho0 (below_size (by repeat (first|(with_reducible first|exact HB.out|apply below_alloc|apply pw_below_drewN|apply below_drew1|refine below_set ?_ GE581.out)|exact HB.out))));have n1_:=Aside0.mk (blk_below (g:=gb581) (o:=.cells #[.slice A0_0 l0_0.length c0_0] 28 (0,0)) (by (with_reducible repeat (first|refine blk_drewN ?_ _|refine blk_drew ?_|refine blk_alloc ?_ _));exact BK581.out) hb);have n2_:=Aside0.mk (below_step (by repeat (first|(with_reducible first|exact HB.out|apply below_alloc|apply pw_below_drewN|apply below_drew1|refine below_set ?_ GE581.out)|exact HB.out)) hb);clear BK581;clear HB;have HO585:=n0_;have BK581:=n1_;have HB:=n2_;clear n0_ n1_ n2_;(try clear hb);(try clear hb2);(try clear hk);(try clear hi);(try clear ho0);obtain ⟨Ao11,co11,eo11⟩:=Kd.R_slice HO585.out;subst eo11)|((with_reducible refine gate_callee (f:=32) rfl ?_);refine goesL_ (some 10) rfl rfl Try.func32 (by kernel_rfl) rfl #[.slice Ao11 t583.length co11] rfl (by (try simp only [List.map_toArray,List.map_cons,List.map_nil]);first|done|rfl|(simp only [List.length_drop,List.length_take];rfl)) ?_;(with_reducible refine (slices_Max_int64_int64.calls k _ _ t583 t586 _ ?side1 ?side2 A5.out).mono ?_);(case side1=>repeat (first|exact (Kd.R_reads' HO585.out).2.2|(with_reducible refine Kd.C_alloc ?_ _)|(with_reducible refine Kd.C_drewN ?_ _)|(with_reducible refine Kd.C_drew ?_)));(case side2=>exact (Kd.R_reads' HO585.out).2.1);rintro e w12 ⟨rfl,hb⟩;refine ⟨_,rfl,?_⟩;have n0_:=Aside0.mk (Kd.R_below (by (with_reducible repeat (first|apply Kd.R_alloc|apply Kd.R_drewN|apply Kd.R_drew));exact HO585.out) hb);have n1_:=Aside0.mk (blk_below (g:=gb581) (o:=.cells #[.slice A0_0 l0_0.length c0_0] 28 (0,0)) (by (with_reducible repeat (first|refine blk_drewN ?_ _|refine blk_drew ?_|refine blk_alloc ?_ _));exact BK581.out) hb);have n2_:=Aside0.mk (below_step (by repeat (first|(with_reducible first|exact HB.out|apply below_alloc|apply pw_below_drewN|apply below_drew1|refine below_set ?_ GE581.out)|exact HB.out)) hb);clear HO585;clear BK581;clear HB;have HO585:=n0_;have BK581:=n1_;have HB:=n2_;clear n0_ n1_ n2_;(try clear hb);(try clear hb2);(try clear hk);(try clear hi)))
  go_ret2
  exact ⟨by first|rfl|(simp [errW_none,errW_some] <;> rfl)|(simp [*,errW_none,errW_some] <;> rfl),by repeat (first|(with_reducible first|exact HB.out|apply below_alloc|apply pw_below_drewN|apply below_drew1|refine below_set ?_ GE581.out)|exact HB.out)⟩
 ·replace c3:=Bool.eq_false_iff.mpr c3
  subst c3
  have H1:(some (0,1))=some (r1,r2):=by rw [if_neg (show ¬ (false=true) by decide)] at H;exact H
  clear H
  have H:=H1
  clear H1
  simp only [Option.some.injEq,Prod.mk.injEq] at H
  obtain ⟨rfl,rfl⟩:=H
  go_enter Try.func17,Try.ntmps17
  go_wp2_with (first|((with_reducible refine gate_dst (N:=1) rfl ?_);refine box_event ?hg (N:=1) ?hd (cs:=#[.slice A0_0 l0_0.length c0_0]) (t:=28) ?hr ?_;(case hd=>rfl);(case hg=>rfl);(case hr=>first|(go_simp;done)|(go_simp;rfl));intro gb581 hg w13 hbox hb;have n0_:=Aside0.mk (below_step (by repeat (first|(with_reducible first|exact HB.out|apply below_alloc|apply pw_below_drewN|apply below_drew1)|exact HB.out)) hb);have n1_:=Aside0.mk (hbox);have n2_:=Aside0.mk ((by rw [hg];exact (below_size (by repeat (first|(with_reducible first|exact HB.out|apply below_alloc|apply pw_below_drewN|apply below_drew1)|exact HB.out))):w.heap.size≤gb581));have n3_:=Aside0.mk ((by rw [hg];exact (below_size (by repeat (first|(with_reducible first|exact HB.out|apply below_alloc|apply pw_below_drewN|apply below_drew1)|exact HB.out))):w.heap.size≤gb581));clear HB;have HB:=n0_;have BK581:=n1_;have GW581:=n2_;have GE581:=n3_;clear n0_ n1_ n2_ n3_;clear hb hbox hg;have hcz14_0:w13.cell? ⟨gb581,0,none⟩=some (.slice A0_0 l0_0.length c0_0):=(blk_cell BK581.out 0).trans rfl;have hfz14_0:=blk_frozen BK581.out 0)|((with_reducible refine gate_callee (f:=29) rfl ?_);refine goesL_ (some 5) rfl rfl Try.func29 (by kernel_rfl) rfl #[.agg #[.slice A0_0 l0_0.length c0_0]] rfl (by (try simp only [List.map_toArray,List.map_cons,List.map_nil]);first|done|rfl|(simp only [List.length_drop,List.length_take];rfl)) ?_;(with_reducible refine (impl_IsTree.calls k _ _ l0_0 false _ ?side1 ?side2 A2.out).mono ?_);(case side1=>repeat (first|exact (Kd.C_below HR0_0.out HB.out)|(with_reducible refine Kd.C_alloc ?_ _)|(with_reducible refine Kd.C_drewN ?_ _)|(with_reducible refine Kd.C_drew ?_)));(case side2=>exact HC0_0.out);rintro e w15 ⟨rfl,hb⟩;refine ⟨_,rfl,?_⟩;have n0_:=Aside0.mk (blk_below (g:=gb581) (o:=.cells #[.slice A0_0 l0_0.length c0_0] 28 (0,0)) (by (with_reducible repeat (first|refine blk_drewN ?_ _|refine blk_drew ?_|refine blk_alloc ?_ _));exact BK581.out) hb);have n1_:=Aside0.mk (below_step (by repeat (first|(with_reducible first|exact HB.out|apply below_alloc|apply pw_below_drewN|apply below_drew1|refine below_set ?_ GE581.out)|exact HB.out)) hb);clear BK581;clear HB;have BK581:=n0_;have HB:=n1_;clear n0_ n1_;(try clear hb);(try clear hb2);(try clear hk);(try clear hi)))
  go_ret2
  exact ⟨by first|rfl|(simp [errW_none,errW_some] <;> rfl)|(simp [*,errW_none,errW_some] <;> rfl),by repeat (first|(with_reducible first|exact HB.out|apply below_alloc|apply pw_below_drewN|apply below_drew1|refine below_set ?_ GE581.out)|exact HB.out)⟩
def spec_TidyWidth.l0:Nat→List Int→Int→Int→Option (Int × Int)
 | 0,_,_,_=>none
 | k+1,x4,x5,x6=>if x6<(x4.length:Int) then (if 0≤x6 then (spec_TidyWidth.l0 k x4 (mx x5 (rd x4 x6)) (wrap64 (x6+1))) else (none)) else (some (x5,0))
def spec_TidyWidth.f (k:Nat) (l0_0:List Int):Option (Int × Int):=(spec_l01Is.f k l0_0).bind fun t588=>(if t588=true then ((spec_l08Columns.f k l0_0).bind fun t589=>(spec_TidyWidth.l0 k t589 0 0)) else (some (0,1)))
set_option maxHeartbeats 8000000 in
set_option maxRecDepth 100000 in
theorem spec_TidyWidth.calls (k:Nat) (A0_0:Option Addr) (c0_0:Nat) (l0_0:List Int) (r1:Int) (r2:Int) (w:World) (hr0_0:Kd.C (Kd.int .i64) w A0_0 l0_0.length l0_0) (hc0_0:l0_0.length≤c0_0) (h:spec_TidyWidth.f k l0_0=some (r1,r2)) :
  Calls Try.prog 18 #[.agg #[.slice A0_0 l0_0.length c0_0]] w fun e w'=>e=.returned (.tuple #[.int .i64 r1,.int .i64 r2])∧Below w.heap.size w w':=by
 have hu28:=Try.underlying28
 have HR0_0:=Aside0.mk hr0_0
 have HC0_0:=Aside0.mk hc0_0
 clear hr0_0 hc0_0
 have HB:=Aside0.mk (Below.refl w.heap.size w)
 have H:((spec_l01Is.f k l0_0).bind fun t588=>(if t588=true then ((spec_l08Columns.f k l0_0).bind fun t589=>(spec_TidyWidth.l0 k t589 0 0)) else (some (0,1))))=some (r1,r2):=h
 clear h
 replace H:=Option.bind_eq_some_iff.mp H
 obtain ⟨t588,A20,H⟩:=H
 replace H:(if t588=true then ((spec_l08Columns.f k l0_0).bind fun t589=>(spec_TidyWidth.l0 k t589 0 0)) else (some (0,1)))=some (r1,r2):=H
 have A2:=Aside0.mk A20
 clear A20
 by_cases c3:t588=true
 ·subst c3
  have H1:((spec_l08Columns.f k l0_0).bind fun t589=>(spec_TidyWidth.l0 k t589 0 0))=some (r1,r2):=by rw [if_pos rfl] at H;exact H
  clear H
  have H:=H1
  clear H1
  replace H:=Option.bind_eq_some_iff.mp H
  obtain ⟨t589,A40,H⟩:=H
  replace H:(spec_TidyWidth.l0 k t589 0 0)=some (r1,r2):=H
  have A4:=Aside0.mk A40
  clear A40
  have H':=Aside0.mk H
  clear H
  go_enter Try.func18,Try.ntmps18
  go_wp2_with (first|((with_reducible refine gate_dst (N:=1) rfl ?_);refine box_event ?hg (N:=1) ?hd (cs:=#[.slice A0_0 l0_0.length c0_0]) (t:=28) ?hr ?_;(case hd=>rfl);(case hg=>rfl);(case hr=>first|(go_simp;done)|(go_simp;rfl));intro gb587 hg w5 hbox hb;have n0_:=Aside0.mk (below_step (by repeat (first|(with_reducible first|exact HB.out|apply below_alloc|apply pw_below_drewN|apply below_drew1)|exact HB.out)) hb);have n1_:=Aside0.mk (hbox);have n2_:=Aside0.mk ((by rw [hg];exact (below_size (by repeat (first|(with_reducible first|exact HB.out|apply below_alloc|apply pw_below_drewN|apply below_drew1)|exact HB.out))):w.heap.size≤gb587));have n3_:=Aside0.mk ((by rw [hg];exact (below_size (by repeat (first|(with_reducible first|exact HB.out|apply below_alloc|apply pw_below_drewN|apply below_drew1)|exact HB.out))):w.heap.size≤gb587));clear HB;have HB:=n0_;have BK587:=n1_;have GW587:=n2_;have GE587:=n3_;clear n0_ n1_ n2_ n3_;clear hb hbox hg;have hcz6_0:w5.cell? ⟨gb587,0,none⟩=some (.slice A0_0 l0_0.length c0_0):=(blk_cell BK587.out 0).trans rfl;have hfz6_0:=blk_frozen BK587.out 0)|((with_reducible refine gate_callee (f:=24) rfl ?_);refine goesL_ (some 8) rfl rfl Try.func24 (by kernel_rfl) rfl #[.agg #[.slice A0_0 l0_0.length c0_0]] rfl (by (try simp only [List.map_toArray,List.map_cons,List.map_nil]);first|done|rfl|(simp only [List.length_drop,List.length_take];rfl)) ?_;(with_reducible refine (spec_l01Is.calls k _ _ l0_0 true _ ?side1 ?side2 A2.out).mono ?_);(case side1=>repeat (first|exact (Kd.C_below HR0_0.out HB.out)|(with_reducible refine Kd.C_alloc ?_ _)|(with_reducible refine Kd.C_drewN ?_ _)|(with_reducible refine Kd.C_drew ?_)));(case side2=>exact HC0_0.out);rintro e w7 ⟨rfl,hb⟩;refine ⟨_,rfl,?_⟩;have n0_:=Aside0.mk (blk_below (g:=gb587) (o:=.cells #[.slice A0_0 l0_0.length c0_0] 28 (0,0)) (by (with_reducible repeat (first|refine blk_drewN ?_ _|refine blk_drew ?_|refine blk_alloc ?_ _));exact BK587.out) hb);have n1_:=Aside0.mk (below_step (by repeat (first|(with_reducible first|exact HB.out|apply below_alloc|apply pw_below_drewN|apply below_drew1|refine below_set ?_ GE587.out)|exact HB.out)) hb);clear BK587;clear HB;have BK587:=n0_;have HB:=n1_;clear n0_ n1_;(try clear hb);(try clear hb2);(try clear hk);(try clear hi);have hcz8_0:w7.cell? ⟨gb587,0,none⟩=some (.slice A0_0 l0_0.length c0_0):=(blk_cell BK587.out 0).trans rfl;have hfz8_0:=blk_frozen BK587.out 0)|((with_reducible refine gate_callee (f:=25) rfl ?_);refine goesL_ (some 11) rfl rfl Try.func25 (by kernel_rfl) rfl #[.agg #[.slice A0_0 l0_0.length c0_0]] rfl (by (try simp only [List.map_toArray,List.map_cons,List.map_nil]);first|done|rfl|(simp only [List.length_drop,List.length_take];rfl)) ?_;(with_reducible refine (spec_l08Columns.calls k _ _ l0_0 t589 _ ?side1 ?side2 A4.out).mono ?_);(case side1=>repeat (first|exact (Kd.C_below HR0_0.out HB.out)|(with_reducible refine Kd.C_alloc ?_ _)|(with_reducible refine Kd.C_drewN ?_ _)|(with_reducible refine Kd.C_drew ?_)));(case side2=>exact HC0_0.out);rintro e w9 ⟨v590,rfl,ho0,hb⟩;refine ⟨_,rfl,?_⟩;have n0_:=Aside0.mk (Kd.R_lower ho0 (below_size (by repeat (first|(with_reducible first|exact HB.out|apply below_alloc|apply pw_below_drewN|apply below_drew1|refine below_set ?_ GE587.out)|exact HB.out))));have n1_:=Aside0.mk (blk_below (g:=gb587) (o:=.cells #[.slice A0_0 l0_0.length c0_0] 28 (0,0)) (by (with_reducible repeat (first|refine blk_drewN ?_ _|refine blk_drew ?_|refine blk_alloc ?_ _));exact BK587.out) hb);have n2_:=Aside0.mk (below_step (by repeat (first|(with_reducible first|exact HB.out|apply below_alloc|apply pw_below_drewN|apply below_drew1|refine below_set ?_ GE587.out)|exact HB.out)) hb);clear BK587;clear HB;have HO591:=n0_;have BK587:=n1_;have HB:=n2_;clear n0_ n1_ n2_;(try clear hb);(try clear hb2);(try clear hk);(try clear hi);(try clear ho0)))
  go_loopg [5,6] k (fun kq v5 v6 w'=>∃ (x5_1:Int) (x6_1:Int),v5=.int .i64 x5_1∧v6=.int .i64 x6_1∧Aside0 (spec_TidyWidth.l0 kq t589 x5_1 x6_1=some (r1,r2))∧Aside0 (kq≤k)∧Aside0 (Kd.R (Kd.int .i64) 2 w' w.heap.size (fun _=>True) v590 t589)∧Aside0 (w'.heap[gb587]?=some (.cells #[(.slice A0_0 l0_0.length c0_0)] 28 (0,0)))∧Aside0 (Below w.heap.size w w'))
  case atStart=>exact ⟨(0),(0),(by first|rfl|(simp;done)|(simp [*];done)),(by first|rfl|(simp;done)|(simp [*];done)),H',⟨Nat.le_refl _⟩,⟨by (with_reducible repeat (first|apply Kd.R_alloc|apply Kd.R_drewN|apply Kd.R_drew));exact HO591.out⟩,⟨by (with_reducible repeat (first|refine blk_drewN ?_ _|refine blk_drew ?_|refine blk_alloc ?_ _));exact BK587.out⟩,⟨by repeat (first|(with_reducible first|exact HB.out|apply below_alloc|apply pw_below_drewN|apply below_drew1|refine below_set ?_ GE587.out)|exact HB.out)⟩⟩
  case round =>
   clear H'
   try clear c1
   try clear c2
   try clear p2
   try clear c3
   try clear hcz6_0
   try clear hcz8_0
   try clear hfz6_0
   try clear hfz8_0
   obtain ⟨x5_1,x6_1,rfl,rfl,HA,HK1,HO_4,BK587,HB⟩:=hrel
   cases gk with
   | zero=>exact absurd HA.out (by simp [spec_TidyWidth.l0])
   | succ k1 =>
    have H:=HA.out
    clear HA
    simp only [spec_TidyWidth.l0] at H
    by_cases c10:x6_1<(t589.length:Int)
    ·rw [if_pos c10] at H
     have c10b0:decide (x6_1<(t589.length:Int))=true:=decide_eq_true c10
     clear c10
     by_cases c11:0≤x6_1
     ·rw [if_pos c11] at H
      have c11b0:decide (0≤x6_1)=true:=decide_eq_true c11
      clear c11
      obtain ⟨ji12,hji12⟩:∃ j_:Int,(mx x5_1 (rd t589 x6_1))=j_:=⟨_,rfl⟩
      replace H:(spec_TidyWidth.l0 k1 t589 ji12 (wrap64 (x6_1+1)))=some (r1,r2):=by first|(rw [hji12] at H;exact H)|(simp only [hji12] at H ⊢;exact H)
      have hji12_:(if x5_1<(rd t589 x6_1) then (rd t589 x6_1) else x5_1)=ji12:=hji12
      have H':=Aside0.mk H
      clear H
      obtain ⟨Ao13,co13,eo13⟩:=Kd.R_slice HO_4.out
      subst eo13
      have p592:0≤(x6_1:Int):=of_decide_eq_true (by first|(with_reducible assumption)|assumption)
      have q592:x6_1<(t589.length:Int):=of_decide_eq_true (by first|(with_reducible assumption)|assumption)
      (try (obtain ⟨Aop_,cop_,eop_⟩:=Kd.R_slice HO_4.out;subst eop_))
      obtain ⟨ad592,e592,hx592_0⟩:=Kd.at_int (Kd.R_reads' HO_4.out).2.2 x6_1 p592 q592
      cases e592
      replace p592:=eq_true p592
      replace q592:=eq_true q592
      go_wp2
      go_roundg k1
      case measure=>have:=HK1.out;omega
      case rel=>exact ⟨(ji12),(wrap64 (x6_1+1)),(by first|rfl|(simp;done)|(simp only [← hji12] <;> (first|rfl|simp))|(simp [*];done)),(by first|rfl|(simp;done)|(simp [*];done)),H',⟨by have:=HK1.out;omega⟩,⟨by (with_reducible repeat (first|apply Kd.R_alloc|apply Kd.R_drewN|apply Kd.R_drew));exact HO_4.out⟩,⟨by (with_reducible repeat (first|refine blk_drewN ?_ _|refine blk_drew ?_|refine blk_alloc ?_ _));exact BK587.out⟩,⟨by repeat (first|(with_reducible first|exact HB.out|apply below_alloc|apply pw_below_drewN|apply below_drew1|refine below_set ?_ GE587.out)|exact HB.out)⟩⟩
     ·rw [if_neg c11] at H
      exact absurd H (by simp)
    ·rw [if_neg c10] at H
     have c10b0:decide (x6_1<(t589.length:Int))=false:=decide_eq_false c10
     clear c10
     simp only [Option.some.injEq,Prod.mk.injEq] at H
     obtain ⟨rfl,rfl⟩:=H
     obtain ⟨Ao14,co14,eo14⟩:=Kd.R_slice HO_4.out
     subst eo14
     go_wp2
     go_ret2
     exact ⟨by first|rfl|(simp [errW_none,errW_some] <;> rfl)|(simp [*,errW_none,errW_some] <;> rfl),by repeat (first|(with_reducible first|exact HB.out|apply below_alloc|apply pw_below_drewN|apply below_drew1|refine below_set ?_ GE587.out)|exact HB.out)⟩
 ·replace c3:=Bool.eq_false_iff.mpr c3
  subst c3
  have H1:(some (0,1))=some (r1,r2):=by rw [if_neg (show ¬ (false=true) by decide)] at H;exact H
  clear H
  have H:=H1
  clear H1
  simp only [Option.some.injEq,Prod.mk.injEq] at H
  obtain ⟨rfl,rfl⟩:=H
  go_enter Try.func18,Try.ntmps18
  go_wp2_with (first|((with_reducible refine gate_dst (N:=1) rfl ?_);refine box_event ?hg (N:=1) ?hd (cs:=#[.slice A0_0 l0_0.length c0_0]) (t:=28) ?hr ?_;(case hd=>rfl);(case hg=>rfl);(case hr=>first|(go_simp;done)|(go_simp;rfl));intro gb587 hg w15 hbox hb;have n0_:=Aside0.mk (below_step (by repeat (first|(with_reducible first|exact HB.out|apply below_alloc|apply pw_below_drewN|apply below_drew1)|exact HB.out)) hb);have n1_:=Aside0.mk (hbox);have n2_:=Aside0.mk ((by rw [hg];exact (below_size (by repeat (first|(with_reducible first|exact HB.out|apply below_alloc|apply pw_below_drewN|apply below_drew1)|exact HB.out))):w.heap.size≤gb587));have n3_:=Aside0.mk ((by rw [hg];exact (below_size (by repeat (first|(with_reducible first|exact HB.out|apply below_alloc|apply pw_below_drewN|apply below_drew1)|exact HB.out))):w.heap.size≤gb587));clear HB;have HB:=n0_;have BK587:=n1_;have GW587:=n2_;have GE587:=n3_;clear n0_ n1_ n2_ n3_;clear hb hbox hg;have hcz16_0:w15.cell? ⟨gb587,0,none⟩=some (.slice A0_0 l0_0.length c0_0):=(blk_cell BK587.out 0).trans rfl;have hfz16_0:=blk_frozen BK587.out 0)|((with_reducible refine gate_callee (f:=24) rfl ?_);refine goesL_ (some 8) rfl rfl Try.func24 (by kernel_rfl) rfl #[.agg #[.slice A0_0 l0_0.length c0_0]] rfl (by (try simp only [List.map_toArray,List.map_cons,List.map_nil]);first|done|rfl|(simp only [List.length_drop,List.length_take];rfl)) ?_;(with_reducible refine (spec_l01Is.calls k _ _ l0_0 false _ ?side1 ?side2 A2.out).mono ?_);(case side1=>repeat (first|exact (Kd.C_below HR0_0.out HB.out)|(with_reducible refine Kd.C_alloc ?_ _)|(with_reducible refine Kd.C_drewN ?_ _)|(with_reducible refine Kd.C_drew ?_)));(case side2=>exact HC0_0.out);rintro e w17 ⟨rfl,hb⟩;refine ⟨_,rfl,?_⟩;have n0_:=Aside0.mk (blk_below (g:=gb587) (o:=.cells #[.slice A0_0 l0_0.length c0_0] 28 (0,0)) (by (with_reducible repeat (first|refine blk_drewN ?_ _|refine blk_drew ?_|refine blk_alloc ?_ _));exact BK587.out) hb);have n1_:=Aside0.mk (below_step (by repeat (first|(with_reducible first|exact HB.out|apply below_alloc|apply pw_below_drewN|apply below_drew1|refine below_set ?_ GE587.out)|exact HB.out)) hb);clear BK587;clear HB;have BK587:=n0_;have HB:=n1_;clear n0_ n1_;(try clear hb);(try clear hb2);(try clear hk);(try clear hi)))
  go_ret2
  exact ⟨by first|rfl|(simp [errW_none,errW_some] <;> rfl)|(simp [*,errW_none,errW_some] <;> rfl),by repeat (first|(with_reducible first|exact HB.out|apply below_alloc|apply pw_below_drewN|apply below_drew1|refine below_set ?_ GE587.out)|exact HB.out)⟩
end Go.Proofs.Ytimfbpmaepmdoaa.QFnDrawings
