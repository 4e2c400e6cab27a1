/- Functions as Lean functions, with their contracts: written by a program of this claim over the translation; some contracts are proved by hand. -/
import Derived.Test.YtimfbpmaepmdoaaQFnDrawingsx0
import Derived.Test.YtimfbpmaepmdoaaQFnDrawingsx1
import Derived.Test.YtimfbpmaepmdoaaQFnDrawingsx2
namespace Go.Proofs.Ytimfbpmaepmdoaa.QFnDrawings
open Go.RowKit Go.Proofs.Ytimfbpmaepmdoaa.Gl Go.Proofs.YtimfbpmaepmdoaaW.PrintWords Go.Proofs.YtimfbpmaepmdoaaW.PrintLast Go.Proofs.YtimfbpmaepmdoaaW.PrintMore
attribute [local go_sem] max2_int min2_int max_two min_two max_three min_three max_four min_four   -- for this text's walks alone
set_option linter.unusedVariables false
set_option linter.unusedSimpArgs false
mutual
def spec_l08Tidy.l0:Nat→List Int→Int→List Int→List Int→Int→List Int→Option (List Int)
 | 0,_,_,_,_,_,_=>none
 | k+1,x1,x2,x7,x8,x9,x143000=>if x9<(x8.length:Int) then (if 0≤x9 then ((spec_l08Tidy.f k x143000 x1 (rd x8 x9)).bind fun t155=>(spec_l08Tidy.l1 k x1 x2 x7 x8 x9 t155 0 true 1 x143000)) else (none)) else (if (x8.length:Int)>0 then (if 1<(x7.length:Int) then (if 0≤(wrap64 ((x8.length:Int) - 1)) then (if (wrap64 ((x8.length:Int) - 1))<(x8.length:Int) then (if 0≤(wrap64 ((rd x8 (wrap64 ((x8.length:Int) - 1))) - x2)) then (if (wrap64 ((rd x8 (wrap64 ((x8.length:Int) - 1))) - x2))<(x7.length:Int) then ((spec_l08Half.f (wrap64 ((rd x7 1)+(rd x7 (wrap64 ((rd x8 (wrap64 ((x8.length:Int) - 1))) - x2)))))).bind fun t152=>(if 0<(x7.length:Int) then (some (x7.set (0:Int).toNat t152)) else (none))) else (none)) else (none)) else (none)) else (none)) else (none)) else (some x7))
def spec_l08Tidy.l1:Nat→List Int→Int→List Int→List Int→Int→List Int→Int→Bool→Int→List Int→Option (List Int)
 | 0,_,_,_,_,_,_,_,_,_,_=>none
 | k+1,x1,x2,x7,x8,x9,x10,x11,x12,x13,x143000=>if x13<(x7.length:Int) then (spec_l08Tidy.l2 k x1 x2 x7 x8 x9 x10 x11 x12 x13 0 x143000) else (spec_l08Tidy.l3 k x1 x2 x7 x8 x9 x10 x11 0 x143000)
def spec_l08Tidy.l2:Nat→List Int→Int→List Int→List Int→Int→List Int→Int→Bool→Int→Int→List Int→Option (List Int)
 | 0,_,_,_,_,_,_,_,_,_,_,_=>none
 | k+1,x1,x2,x7,x8,x9,x10,x11,x12,x13,x14,x143000=>if x14<(x10.length:Int) then (if 0≤(wrap64 (x2+x13)) then (if (wrap64 (x2+x13))<(x1.length:Int) then (if 0≤x9 then (if x9<(x8.length:Int) then (if 0≤(wrap64 ((rd x8 x9)+x14)) then (if (wrap64 ((rd x8 x9)+x14))<(x1.length:Int) then (if (rd x1 (wrap64 (x2+x13)))=(rd x1 (wrap64 ((rd x8 x9)+x14))) then (if 0≤x13 then (if x13<(x7.length:Int) then (if 0≤x14 then (if x12=true then (spec_l08Tidy.l2 k x1 x2 x7 x8 x9 x10 (wrap64 ((wrap64 ((rd x7 x13)+2)) - (rd x10 x14))) false x13 (wrap64 (x14+1)) x143000) else (if (wrap64 ((wrap64 ((rd x7 x13)+2)) - (rd x10 x14)))>x11 then (spec_l08Tidy.l2 k x1 x2 x7 x8 x9 x10 (wrap64 ((wrap64 ((rd x7 x13)+2)) - (rd x10 x14))) false x13 (wrap64 (x14+1)) x143000) else (spec_l08Tidy.l2 k x1 x2 x7 x8 x9 x10 x11 x12 x13 (wrap64 (x14+1)) x143000))) else (none)) else (none)) else (none)) else (spec_l08Tidy.l2 k x1 x2 x7 x8 x9 x10 x11 x12 x13 (wrap64 (x14+1)) x143000)) else (none)) else (none)) else (none)) else (none)) else (none)) else (none)) else (spec_l08Tidy.l1 k x1 x2 x7 x8 x9 x10 x11 x12 (wrap64 (x13+1)) x143000)
def spec_l08Tidy.l3:Nat→List Int→Int→List Int→List Int→Int→List Int→Int→Int→List Int→Option (List Int)
 | 0,_,_,_,_,_,_,_,_,_=>none
 | k+1,x1,x2,x7,x8,x9,x10,x11,x16,x143000=>if x16<(x10.length:Int) then (if 0≤x16 then (if x7.length<17592186044416 then (spec_l08Tidy.l3 k x1 x2 (x7++[wrap64 ((rd x10 x16)+x11)]) x8 x9 x10 x11 (wrap64 (x16+1)) x143000) else (none)) else (none)) else (spec_l08Tidy.l0 k x1 x2 x7 x8 (wrap64 (x9+1)) x143000)
def spec_l08Tidy.f:Nat→List Int→List Int→Int→Option (List Int)
 | 0,_,_,_=>none
 | k+1,l0_0,l1,a2=>(spec_l01Children.f k l0_0 a2).bind fun t146=>(spec_l08Tidy.l0 k l1 a2 (([0]:List Int)) t146 0 l0_0)
end
def spec_l08Tidy.T5:Bool × List (List Nat × List Nat):=(true,[([],[]),([],[]),([],[]),([],[]),([2,3],[2,3]),([4],[4]),([0,1,5],[0,1,5]),([6,6,0,1,2,3,4,5,6],[6]),([7,0,1,2,3,4,5,6,7],[])])
def spec_l08Tidy.B5:List Nat:=[0,0,0,0,12,28,63,127,255]
theorem spec_l08Tidy.tab5:rtab .any (opsOf Try.f44 5)=spec_l08Tidy.T5:=by kernel_rfl
theorem spec_l08Tidy.bits5:waitsOk spec_l08Tidy.T5.2 spec_l08Tidy.B5=true:=by kernel_rfl
def spec_l08Tidy.T13:Bool × List (List Nat × List Nat):=(true,[([],[]),([],[]),([],[]),([1,2],[1,2]),([0,3],[0,3]),([4],[4]),([],[]),([],[]),([],[]),([7,8],[7,8]),([9],[9]),([],[]),([10,11],[10,11]),([6,12],[6,12]),([13],[13]),([5,14],[5,14])])
def spec_l08Tidy.B13:List Nat:=[0,0,0,6,15,31,0,0,0,384,896,0,3968,8128,16320,32767]
theorem spec_l08Tidy.tab13:rtab .any (opsOf Try.f44 13)=spec_l08Tidy.T13:=by kernel_rfl
theorem spec_l08Tidy.bits13:waitsOk spec_l08Tidy.T13.2 spec_l08Tidy.B13=true:=by kernel_rfl
def spec_l08Tidy.T14:Bool × List (List Nat × List Nat):=(true,[([],[]),([],[]),([0,1],[0,1]),([2],[2]),([3],[3]),([],[]),([],[]),([5,6],[5,6]),([7],[7]),([4,8],[4,8]),([9,0,1,2,3,4,5,6,7,8,9],[9])])
def spec_l08Tidy.B14:List Nat:=[0,0,3,7,15,0,0,96,224,511,1023]
theorem spec_l08Tidy.tab14:rtab .any (opsOf Try.f44 14)=spec_l08Tidy.T14:=by kernel_rfl
theorem spec_l08Tidy.bits14:waitsOk spec_l08Tidy.T14.2 spec_l08Tidy.B14=true:=by kernel_rfl
def spec_l08Tidy.T23:Bool × List (List Nat × List Nat):=(true,[([],[]),([],[]),([1],[1]),([2],[2]),([],[]),([],[]),([],[]),([6],[6]),([7],[7]),([5,8],[5,8]),([9],[9]),([],[]),([10,11],[10,11]),([4,12],[4,12]),([13],[13]),([3,14],[3,14]),([15],[15]),([0,0,1,2,3,4,5,6,7,8,9,10,11,12,13,14,15,16],[0]),([17,16,16,0,1,2,3,4,5,6,7,8,9,10,11,12,13,14,15,16],[16,17])])
def spec_l08Tidy.B23:List Nat:=[0,0,2,6,0,0,0,64,192,480,992,0,4064,8176,16368,32766,65534,131071,262143]
theorem spec_l08Tidy.tab23:rtab .any (opsOf Try.f44 23)=spec_l08Tidy.T23:=by kernel_rfl
theorem spec_l08Tidy.bits23:waitsOk spec_l08Tidy.T23.2 spec_l08Tidy.B23=true:=by kernel_rfl
set_option maxHeartbeats 8000000 in
set_option maxRecDepth 100000 in
theorem spec_l08Tidy.calls (k:Nat):∀ (A0_0:Option Addr) (c0_0:Nat) (l0_0:List Int) (A1:Option Addr) (c1:Nat) (l1:List Int) (a2:Int) (r:List Int) (w:World) (hr0_0:Kd.C (Kd.int .i64) w A0_0 l0_0.length l0_0) (hc0_0:l0_0.length≤c0_0) (hr1:Kd.C (Kd.int .i64) w A1 l1.length l1) (hc1:l1.length≤c1) (h:spec_l08Tidy.f k l0_0 l1 a2=some r),
  Calls Try.prog 44 #[.agg #[.slice A0_0 l0_0.length c0_0],.slice A1 l1.length c1,.int .i64 a2] w fun e w'=>∃ v0_:Value,e=.returned (v0_)∧Kd.R (Kd.int .i64) 2 w' w.heap.size (fun _=>True) v0_ r∧Below w.heap.size w w':=by
 induction k using Nat.strongRecOn with
 | _ k ih =>
 intro A0_0 c0_0 l0_0 A1 c1 l1 a2 r w hr0_0 hc0_0 hr1 hc1 h
 cases k with
 | zero=>exact absurd h (by simp [spec_l08Tidy.f])
 | succ k =>
 simp only [spec_l08Tidy.f] at h
 have hu28:=Try.underlying28
 have HR0_0:=Aside0.mk hr0_0
 have HC0_0:=Aside0.mk hc0_0
 clear hr0_0 hc0_0
 have HR1:=Aside0.mk hr1
 have HC1:=Aside0.mk hc1
 clear hr1 hc1
 have HB:=Aside0.mk (Below.refl w.heap.size w)
 have H:((spec_l01Children.f k l0_0 a2).bind fun t146=>(spec_l08Tidy.l0 k l1 a2 (([0]:List Int)) t146 0 l0_0))=some r:=h
 clear h
 obtain ⟨y143,hy143⟩:∃ y_:List Int,y_=(([0]:List Int)):=⟨_,rfl⟩
 replace H:((spec_l01Children.f k l0_0 a2).bind fun t146=>(spec_l08Tidy.l0 k l1 a2 y143 t146 0 l0_0))=some r:=by first|(rw [hy143];with_reducible exact H)|(have H2_:=(Option.bind_some _ _).symm.trans H;rw [hy143];with_reducible exact H2_)|(have H2_:=(Option.bind_some _ _).symm.trans H;with_reducible exact H2_)|with_reducible exact H|(rw [hy143];exact H)|exact H
 have Ny143:=Aside0.mk hy143
 clear hy143
 replace H:=Option.bind_eq_some_iff.mp H
 obtain ⟨t146,A40,H⟩:=H
 replace H:(spec_l08Tidy.l0 k l1 a2 y143 t146 0 l0_0)=some r:=H
 have A4:=Aside0.mk A40
 clear A40
 have H':=Aside0.mk H
 clear H
 go_enter Try.func44,Try.ntmps44
 go_wp2_with (first|((with_reducible refine gate_dst (N:=3) rfl ?_);refine box_event ?hg (N:=3) ?hd (cs:=#[.slice A0_0 l0_0.length c0_0]) (t:=28) ?hr ?_;(case hd=>rfl);(case hg=>rfl);(case hr=>first|(go_simp;done)|(go_simp;rfl));intro gb142 hg w5 hbox hb;have n0_:=Aside0.mk (below_step (by repeat (first|(with_reducible first|exact HB.out|apply below_alloc|apply pw_below_drewN|apply below_drew1)|exact HB.out)) hb);have n1_:=Aside0.mk (hbox);have n2_:=Aside0.mk ((by rw [hg];exact (below_size (by repeat (first|(with_reducible first|exact HB.out|apply below_alloc|apply pw_below_drewN|apply below_drew1)|exact HB.out))):w.heap.size≤gb142));have n3_:=Aside0.mk ((by rw [hg];exact (below_size (by repeat (first|(with_reducible first|exact HB.out|apply below_alloc|apply pw_below_drewN|apply below_drew1)|exact HB.out))):w.heap.size≤gb142));clear HB;have HB:=n0_;have BK142:=n1_;have GW142:=n2_;have GE142:=n3_;clear n0_ n1_ n2_ n3_;clear hb hbox hg)|((with_reducible refine gate_dst (N:=17) rfl ?_);refine Kd.R_lit (Kd.int .i64) _ 2 ?hg (N:=17) ?hd (xs:=([0]:List Int)) (inner:=[.int .i64 0]) (ok:=fun _=>True) (okp:=fun _=>True) ?hr ?hp (fun _ hk=>hk) trivial (Below.refl _ _) (Nat.le_refl _) (by simp) ?_;(case hd=>rfl);(case hg=>rfl);(case hr=>first|(go_simp;done)|(go_simp;rfl));(case hp=>exact (Reps.one (show Kd.M (Kd.int .i64) _ _ _ 0 [.int .i64 0] from rfl) (Reps.none _ _)));intro v144 w6 ho7 hb hg_ hnew_;clear hg_ hnew_;(first|rw [← Ny143.out] at ho7|(simp only [Int.reduceToNat] at ho7;rw [← Ny143.out] at ho7));have n0_:=Aside0.mk (Kd.R_lower ho7 (below_size (by repeat (first|(with_reducible first|exact HB.out|apply below_alloc|apply pw_below_drewN|apply below_drew1|refine below_set ?_ GE142.out)|exact HB.out))));have n1_:=Aside0.mk (blk_below (g:=gb142) (o:=.cells #[.slice A0_0 l0_0.length c0_0] 28 (0,0)) (by (with_reducible repeat (first|refine blk_drewN ?_ _|refine blk_drew ?_|refine blk_alloc ?_ _));exact BK142.out) hb);have n2_:=Aside0.mk (below_step (by repeat (first|(with_reducible first|exact HB.out|apply below_alloc|apply pw_below_drewN|apply below_drew1|refine below_set ?_ GE142.out)|exact HB.out)) hb);clear BK142;clear HB;have HO145:=n0_;have BK142:=n1_;have HB:=n2_;clear n0_ n1_ n2_;clear hb ho7;have hcz8_0:w6.cell? ⟨gb142,0,none⟩=some (.slice A0_0 l0_0.length c0_0):=(blk_cell BK142.out 0).trans rfl;have hfz8_0:=blk_frozen BK142.out 0)|((with_reducible refine gate_callee (f:=40) rfl ?_);refine goesL_ (some 20) rfl rfl Try.func40 (by kernel_rfl) rfl #[.agg #[.slice A0_0 l0_0.length c0_0],.int .i64 a2] rfl (by (try simp only [List.map_toArray,List.map_cons,List.map_nil]);first|done|rfl|(simp only [List.length_drop,List.length_take];rfl)) ?_;(with_reducible refine (spec_l01Children.calls k _ _ l0_0 a2 t146 _ ?side1 ?side2 A4.out).mono ?_);(case side1=>repeat (first|exact (Kd.C_below HR0_0.out HB.out)|(with_reducible refine Kd.C_alloc ?_ _)|(with_reducible refine Kd.C_drewN ?_ _)|(with_reducible refine Kd.C_drew ?_)));(case side2=>exact HC0_0.out);rintro e w9 ⟨v147,rfl,ho0,hb⟩;refine ⟨_,rfl,?_⟩;have n0_:=Aside0.mk (Kd.R_elder' (by (with_reducible repeat (first|apply Kd.R_alloc|apply Kd.R_drewN|apply Kd.R_drew));exact HO145.out) (Kd.R_base ho0) hb);have n1_:=Aside0.mk (Kd.R_lower (Kd.R_new' ho0 (Kd.R_lt (by (with_reducible repeat (first|apply Kd.R_alloc|apply Kd.R_drewN|apply Kd.R_drew));exact HO145.out))) (below_size (by repeat (first|(with_reducible first|exact HB.out|apply below_alloc|apply pw_below_drewN|apply below_drew1|refine below_set ?_ GE142.out)|exact HB.out))));have n2_:=Aside0.mk (blk_below (g:=gb142) (o:=.cells #[.slice A0_0 l0_0.length c0_0] 28 (0,0)) (by (with_reducible repeat (first|refine blk_drewN ?_ _|refine blk_drew ?_|refine blk_alloc ?_ _));exact BK142.out) hb);have n3_:=Aside0.mk (below_step (by repeat (first|(with_reducible first|exact HB.out|apply below_alloc|apply pw_below_drewN|apply below_drew1|refine below_set ?_ GE142.out)|exact HB.out)) hb);clear HO145;clear BK142;clear HB;have HO145:=n0_;have HO148:=n1_;have BK142:=n2_;have HB:=n3_;clear n0_ n1_ n2_ n3_;(try clear hb);(try clear hb2);(try clear hk);(try clear hi);(try clear ho0)))
 go_loopg [7,9] k (fun kq v7 v9 w'=>∃ (x7_1:List Int) (x9_1:Int),v9=.int .i64 x9_1∧Aside0 (spec_l08Tidy.l0 kq l1 a2 x7_1 t146 x9_1 l0_0=some r)∧Aside0 (kq≤k)∧Aside0 (Kd.R (Kd.int .i64) 2 w' w.heap.size (fun k_=>some k_≠(v147:Value).ownBlock) v7 x7_1)∧Aside0 (Kd.R (Kd.int .i64) 2 w' w.heap.size (fun k_=>some k_≠(v7:Value).ownBlock) v147 t146)∧Aside0 (w'.heap[gb142]?=some (.cells #[(.slice A0_0 l0_0.length c0_0)] 28 (0,0)))∧Aside0 (Below w.heap.size w w'))
 case atStart=>exact ⟨(y143),(0),(by first|rfl|(simp;done)|(simp [*];done)),H',⟨Nat.le_refl _⟩,⟨by (with_reducible repeat (first|apply Kd.R_alloc|apply Kd.R_drewN|apply Kd.R_drew));exact Kd.R_mono HO145.out (fun _ hk=>hk.2)⟩,⟨by (with_reducible repeat (first|apply Kd.R_alloc|apply Kd.R_drewN|apply Kd.R_drew));exact Kd.R_mono HO148.out (fun _ hk=>hk.2)⟩,⟨by (with_reducible repeat (first|refine blk_drewN ?_ _|refine blk_drew ?_|refine blk_alloc ?_ _));exact BK142.out⟩,⟨by repeat (first|(with_reducible first|exact HB.out|apply below_alloc|apply pw_below_drewN|apply below_drew1|refine below_set ?_ GE142.out)|exact HB.out)⟩⟩
 case round =>
  clear H'
  try clear c1
  try clear p2
  try clear c4
  try clear hcz8_0
  try clear hfz8_0
  obtain ⟨x7_1,x9_1,rfl,HA,HK1,HO_7,HO_8,BK142,HB⟩:=hrel
  cases gk with
  | zero=>exact absurd HA.out (by simp [spec_l08Tidy.l0])
  | succ k1 =>
   have H:=HA.out
   clear HA
   simp only [spec_l08Tidy.l0] at H
   by_cases c10:x9_1<(t146.length:Int)
   ·rw [if_pos c10] at H
    have c10b0:decide (x9_1<(t146.length:Int))=true:=decide_eq_true c10
    clear c10
    by_cases c11:0≤x9_1
    ·rw [if_pos c11] at H
     have c11b0:decide (0≤x9_1)=true:=decide_eq_true c11
     clear c11
     replace H:=Option.bind_eq_some_iff.mp H
     obtain ⟨t155,A120,H⟩:=H
     replace H:(spec_l08Tidy.l1 k1 l1 a2 x7_1 t146 x9_1 t155 0 true 1 l0_0)=some r:=H
     have A12:=Aside0.mk A120
     clear A120
     have H':=Aside0.mk H
     clear H
     obtain ⟨Ao13,co13,eo13⟩:=Kd.R_slice HO_8.out
     subst eo13
     try go_wp2
     have n0_:=Aside0.mk (Kd.R_drew HO_7.out)
     have n1_:=Aside0.mk (Kd.R_drew HO_8.out)
     have n2_:=Aside0.mk (blk_drew BK142.out)
     have n3_:=Aside0.mk (below_drew1 HB.out)
     clear HO_7
     clear HO_8
     clear BK142
     clear HB
     have HO_7:=n0_
     have HO_8:=n1_
     have BK142:=n2_
     have HB:=n3_
     clear n0_ n1_ n2_ n3_
     have p154:0≤(x9_1:Int):=of_decide_eq_true (by first|(with_reducible assumption)|assumption)
     have q154:x9_1<(t146.length:Int):=of_decide_eq_true (by first|(with_reducible assumption)|assumption)
     (try (obtain ⟨Aop_,cop_,eop_⟩:=Kd.R_slice HO_8.out;subst eop_))
     obtain ⟨ad154,e154,hx154_0⟩:=Kd.at_int (Kd.R_reads' HO_8.out).2.2 x9_1 p154 q154
     cases e154
     replace p154:=eq_true p154
     replace q154:=eq_true q154
     refine start_ (n:=9) (S:=fun w'=>w'.cell? ⟨gb142,0,none⟩=some (.slice A0_0 l0_0.length c0_0)∧w'.cell? (ad154.add (x9_1).toNat)=some (.int .i64 (rd t146 x9_1))) (ds:=[]) #[false,false,false,false,false,false,false,false,false] (by kernel_rfl) rfl rfl ⟨(blk_cell BK142.out 0).trans rfl,hx154_0⟩ (fun hHeld=>?_);refine with_tabW spec_l08Tidy.tab5 spec_l08Tidy.bits5 (fun HT_ HW_=>?_)
     generalize wr.drew=w14 at HO_7 HO_8 BK142 HB hx154_0 hHeld ⊢
     refine pure_ (i:=1) (N:=some 28) (v:=?_) (a':=?_) #[false,true,false,false,false,false,false,false,false] rfl rfl (any_of HT_.out (by kernel_rfl)) (fun _ _ _ h=>h) (Or.inl ⟨by rfl,?_⟩) ?_ ?_
     rotate_left
     ·intro w'
      go_simp
      with_reducible rfl
     rotate_left
     ·simp only [Act.put,sIB,sc0,scs,i64_w,i32_w]
      rfl
     refine pure_ (i:=2) (N:=some 29) (v:=?_) (a':=?_) #[false,true,true,false,false,false,false,false,false] rfl rfl (any_of HT_.out (by kernel_rfl)) (fun _ _ _ h=>h) (Or.inl ⟨by rfl,?_⟩) ?_ ?_
     rotate_left
     ·intro w'
      go_simp
      with_reducible rfl
     rotate_left
     ·simp only [Act.put,sIB,sc0,scs,i64_w,i32_w]
      rfl
     refine pure_ (i:=3) (N:=some 30) (v:=?_) (a':=?_) #[false,true,true,true,false,false,false,false,false] rfl rfl (any_of HT_.out (by kernel_rfl)) (fun _ _ _ h=>h) (Or.inl ⟨by rfl,?_⟩) ?_ ?_
     rotate_left
     ·intro w'
      go_simp
      with_reducible rfl
     rotate_left
     ·simp only [Act.put,sIB,sc0,scs,i64_w,i32_w]
      rfl
     refine pure_ (i:=4) (N:=some 31) (v:=?_) (a':=?_) #[false,true,true,true,true,false,false,false,false] rfl rfl (any_of HT_.out (by kernel_rfl)) (fun _ _ _ h=>h) (Or.inl ⟨by rfl,?_⟩) ?_ ?_
     rotate_left
     ·intro w'
      go_simp
      with_reducible rfl
     rotate_left
     ·simp only [Act.put,sIB,sc0,scs,i64_w,i32_w]
      rfl
     refine take_ (i:=0) (N:=some 27) (v:=?_) (a':=?_) #[true,true,true,true,true,false,false,false,false] rfl rfl (take_ofW HT_.out HW_.out (by kernel_rfl)) (fun _ _ _ h=>h) (Or.inl ⟨by rfl,?_⟩) hHeld ?_ ?_
     rotate_left
     ·rintro w' ⟨s0,s1⟩
      go_simp
      with_reducible rfl
     rotate_left
     ·simp only [Act.put,sIB,sc0,scs,i64_w,i32_w]
      rfl
     refine take_ (i:=5) (N:=some 32) (v:=?_) (a':=?_) #[true,true,true,true,true,true,false,false,false] rfl rfl (take_ofW HT_.out HW_.out (by kernel_rfl)) (fun _ _ _ h=>h) (Or.inl ⟨by rfl,?_⟩) hHeld ?_ ?_
     rotate_left
     ·rintro w' ⟨s0,s1⟩
      go_simp
      with_reducible rfl
     rotate_left
     ·simp only [Act.put,sIB,sc0,scs,i64_w,i32_w]
      rfl
     refine one_ (i:=6) (N:=some 33) #[true,true,true,true,true,true,true,false,false] rfl rfl (one_of HT_.out (by kernel_rfl)) (by decide) (fun K hK=>?_)
     refine goes_ Try.func44 (by kernel_rfl) rfl #[.agg #[.slice A0_0 l0_0.length c0_0],.slice A1 l1.length c1,.int .i64 (rd t146 x9_1)] (by rfl) rfl rfl (by (try simp only [List.map_toArray,List.map_cons,List.map_nil]);first|done|rfl|(simp only [List.length_drop,List.length_take];rfl)) ?_
     with_reducible refine (ih k1 (by have:=HK1.out;omega) _ _ l0_0 _ _ l1 (rd t146 x9_1) t155 _ ?side1 ?side2 ?side3 ?side4 A12.out).mono ?_
     (case side1=>repeat (first|exact (Kd.C_below HR0_0.out HB.out)|(with_reducible refine Kd.C_alloc ?_ _)|(with_reducible refine Kd.C_drewN ?_ _)|(with_reducible refine Kd.C_drew ?_)))
     (case side2=>exact HC0_0.out)
     (case side3=>repeat (first|exact (Kd.C_below HR1.out HB.out)|(with_reducible refine Kd.C_alloc ?_ _)|(with_reducible refine Kd.C_drewN ?_ _)|(with_reducible refine Kd.C_drew ?_)))
     (case side4=>exact HC1.out)
     rintro e w15 ⟨v156,rfl,ho0,hb⟩
     have HS1_:=(hb.cell (World.block_lt_of_cell? _ _ (hHeld.2))).trans (hHeld.2)
     refine ⟨_,rfl,?_⟩
     have n0_:=Aside0.mk (Kd.R_elder' (by (with_reducible repeat (first|apply Kd.R_alloc|apply Kd.R_drewN|apply Kd.R_drew));exact HO_7.out) (Kd.R_base ho0) hb)
     have n1_:=Aside0.mk (Kd.R_elder' (by (with_reducible repeat (first|apply Kd.R_alloc|apply Kd.R_drewN|apply Kd.R_drew));exact HO_8.out) (Kd.R_base ho0) hb)
     have n2_:=Aside0.mk (Kd.R_lower (Kd.R_new' (Kd.R_new' ho0 (Kd.R_lt (by (with_reducible repeat (first|apply Kd.R_alloc|apply Kd.R_drewN|apply Kd.R_drew));exact HO_7.out))) (Kd.R_lt (by (with_reducible repeat (first|apply Kd.R_alloc|apply Kd.R_drewN|apply Kd.R_drew));exact HO_8.out))) (below_size (by repeat (first|(with_reducible first|exact HB.out|apply below_alloc|apply pw_below_drewN|apply below_drew1|refine below_set ?_ GE142.out)|exact HB.out))))
     have n3_:=Aside0.mk (blk_below (g:=gb142) (o:=.cells #[.slice A0_0 l0_0.length c0_0] 28 (0,0)) (by (with_reducible repeat (first|refine blk_drewN ?_ _|refine blk_drew ?_|refine blk_alloc ?_ _));exact BK142.out) hb)
     have n4_:=Aside0.mk (below_step (by repeat (first|(with_reducible first|exact HB.out|apply below_alloc|apply pw_below_drewN|apply below_drew1|refine below_set ?_ GE142.out)|exact HB.out)) hb)
     clear HO_7
     clear HO_8
     clear BK142
     clear HB
     have HO_7:=n0_
     have HO_8:=n1_
     have HO157:=n2_
     have BK142:=n3_
     have HB:=n4_
     clear n0_ n1_ n2_ n3_ n4_
     (try clear hb)
     (try clear hb2)
     (try clear hk)
     (try clear hi)
     (try clear ho0)
     refine hK.out _ _ ⟨(blk_cell BK142.out 0).trans rfl,HS1_⟩ (fun hHeld=>?_)
     clear hK K
     refine norm_ (a':=?_) ?_ ?_
     rotate_left
     ·show Act.put _ (some 33) _=_
      simp only [Act.put,sIB,sc0,scs,i64_w,i32_w]
      rfl
     refine pure_ (i:=7) (N:=some 10) (v:=?_) (a':=?_) #[true,true,true,true,true,true,true,true,false] rfl rfl (any_of HT_.out (by kernel_rfl)) (fun _ _ _ h=>h) (Or.inl ⟨by rfl,?_⟩) ?_ ?_
     rotate_left
     ·intro w'
      go_simp
      with_reducible rfl
     rotate_left
     ·simp only [Act.put,sIB,sc0,scs,i64_w,i32_w]
      rfl
     refine pure_ (i:=8) (N:=some 11) (v:=?_) (a':=?_) #[true,true,true,true,true,true,true,true,true] rfl rfl (any_of HT_.out (by kernel_rfl)) (fun _ _ _ h=>h) (Or.inl ⟨by rfl,?_⟩) ?_ ?_
     rotate_left
     ·intro w'
      go_simp
      with_reducible rfl
     rotate_left
     ·simp only [Act.put,sIB,sc0,scs,i64_w,i32_w]
      rfl
     refine done_ (done_of HT_.out (by kernel_rfl)) ?_
     try go_wp2
     go_loopg [11,12,13] k1 (fun kq v11 v12 v13 w'=>∃ (x11_2:Int) (x12_2:Bool) (x13_2:Int),v11=.int .i64 x11_2∧v12=.bool x12_2∧v13=.int .i64 x13_2∧Aside0 (spec_l08Tidy.l1 kq l1 a2 x7_1 t146 x9_1 t155 x11_2 x12_2 x13_2 l0_0=some r)∧Aside0 (kq≤k1)∧Aside0 (Kd.R (Kd.int .i64) 2 w' w.heap.size (fun k_=>some k_≠((.slice (some ad154) t146.length co13):Value).ownBlock∧some k_≠(v156:Value).ownBlock) u7 x7_1)∧Aside0 (Kd.R (Kd.int .i64) 2 w' w.heap.size (fun k_=>some k_≠(u7:Value).ownBlock∧some k_≠(v156:Value).ownBlock) (.slice (some ad154) t146.length co13) t146)∧Aside0 (Kd.R (Kd.int .i64) 2 w' w.heap.size (fun k_=>some k_≠(u7:Value).ownBlock∧some k_≠((.slice (some ad154) t146.length co13):Value).ownBlock) v156 t155)∧Aside0 (w'.heap[gb142]?=some (.cells #[(.slice A0_0 l0_0.length c0_0)] 28 (0,0)))∧Aside0 (Below w.heap.size w w'))
     case atStart=>exact ⟨(0),(true),(1),(by first|rfl|(simp;done)|(simp [*];done)),(by first|rfl|(simp;done)|(simp [*];done)),(by first|rfl|(simp;done)|(simp [*];done)),H',⟨Nat.le_refl _⟩,⟨by (with_reducible repeat (first|apply Kd.R_alloc|apply Kd.R_drewN|apply Kd.R_drew));exact HO_7.out⟩,⟨by (with_reducible repeat (first|apply Kd.R_alloc|apply Kd.R_drewN|apply Kd.R_drew));exact HO_8.out⟩,⟨by (with_reducible repeat (first|apply Kd.R_alloc|apply Kd.R_drewN|apply Kd.R_drew));exact Kd.R_mono HO157.out (fun _ hk=>⟨hk.1.2,hk.2⟩)⟩,⟨by (with_reducible repeat (first|refine blk_drewN ?_ _|refine blk_drew ?_|refine blk_alloc ?_ _));exact BK142.out⟩,⟨by repeat (first|(with_reducible first|exact HB.out|apply below_alloc|apply pw_below_drewN|apply below_drew1|refine below_set ?_ GE142.out)|exact HB.out)⟩⟩
     case round =>
      clear H'
      try clear c1
      try clear p1
      try clear q1
      try clear hx1
      try clear p2
      try clear c4
      try clear c10
      try clear c10b0
      try clear c11
      try clear c11b0
      try clear p15
      try clear q15
      try clear hx15
      try clear hcz8_0
      try clear hfz8_0
      try clear hx154_0
      try clear p154
      try clear p2
      try clear q154
      obtain ⟨x11_2,x12_2,x13_2,rfl,rfl,rfl,HA,HK2,HO_7,HO_8,HO_10,BK142,HB⟩:=hrel
      cases gk with
      | zero=>exact absurd HA.out (by simp [spec_l08Tidy.l1])
      | succ k2 =>
       have H:=HA.out
       clear HA
       simp only [spec_l08Tidy.l1] at H
       by_cases c16:x13_2<(x7_1.length:Int)
       ·rw [if_pos c16] at H
        have c16b0:decide (x13_2<(x7_1.length:Int))=true:=decide_eq_true c16
        clear c16
        have H':=Aside0.mk H
        clear H
        obtain ⟨Ao17,co17,eo17⟩:=Kd.R_slice HO_7.out
        subst eo17
        go_wp2
        go_loopg [11,12,14] k2 (fun kq v11 v12 v14 w'=>∃ (x11_3:Int) (x12_3:Bool) (x14_3:Int),v11=.int .i64 x11_3∧v12=.bool x12_3∧v14=.int .i64 x14_3∧Aside0 (spec_l08Tidy.l2 kq l1 a2 x7_1 t146 x9_1 t155 x11_3 x12_3 x13_2 x14_3 l0_0=some r)∧Aside0 (kq≤k2)∧Aside0 (Kd.R (Kd.int .i64) 2 w' w.heap.size (fun k_=>some k_≠((.slice (some ad154) t146.length co13):Value).ownBlock∧some k_≠(v156:Value).ownBlock) (.slice Ao17 x7_1.length co17) x7_1)∧Aside0 (Kd.R (Kd.int .i64) 2 w' w.heap.size (fun k_=>some k_≠((.slice Ao17 x7_1.length co17):Value).ownBlock∧some k_≠(v156:Value).ownBlock) (.slice (some ad154) t146.length co13) t146)∧Aside0 (Kd.R (Kd.int .i64) 2 w' w.heap.size (fun k_=>some k_≠((.slice Ao17 x7_1.length co17):Value).ownBlock∧some k_≠((.slice (some ad154) t146.length co13):Value).ownBlock) v156 t155)∧Aside0 (w'.heap[gb142]?=some (.cells #[(.slice A0_0 l0_0.length c0_0)] 28 (0,0)))∧Aside0 (Below w.heap.size w w'))
        case atStart=>exact ⟨(x11_2),(x12_2),(0),(by first|rfl|(simp;done)|(simp [*];done)),(by first|rfl|(simp;done)|(simp [*];done)),(by first|rfl|(simp;done)|(simp [*];done)),H',⟨Nat.le_refl _⟩,⟨by (with_reducible repeat (first|apply Kd.R_alloc|apply Kd.R_drewN|apply Kd.R_drew));exact HO_7.out⟩,⟨by (with_reducible repeat (first|apply Kd.R_alloc|apply Kd.R_drewN|apply Kd.R_drew));exact HO_8.out⟩,⟨by (with_reducible repeat (first|apply Kd.R_alloc|apply Kd.R_drewN|apply Kd.R_drew));exact HO_10.out⟩,⟨by (with_reducible repeat (first|refine blk_drewN ?_ _|refine blk_drew ?_|refine blk_alloc ?_ _));exact BK142.out⟩,⟨by repeat (first|(with_reducible first|exact HB.out|apply below_alloc|apply pw_below_drewN|apply below_drew1|refine below_set ?_ GE142.out)|exact HB.out)⟩⟩
        case round =>
         clear H'
         try clear c1
         try clear p1
         try clear q1
         try clear hx1
         try clear p2
         try clear c4
         try clear c10
         try clear c10b0
         try clear c11
         try clear c11b0
         try clear p15
         try clear q15
         try clear hx15
         try clear c16
         try clear c16b0
         try clear hcz8_0
         try clear hfz8_0
         try clear hx154_0
         try clear p1
         try clear p15
         try clear p154
         try clear p2
         try clear q1
         try clear q15
         try clear q154
         obtain ⟨x11_3,x12_3,x14_3,rfl,rfl,rfl,HA,HK3,HO_7,HO_8,HO_10,BK142,HB⟩:=hrel
         cases gk with
         | zero=>exact absurd HA.out (by simp [spec_l08Tidy.l2])
         | succ k3 =>
          have H:=HA.out
          clear HA
          simp only [spec_l08Tidy.l2] at H
          by_cases c18:x14_3<(t155.length:Int)
          ·rw [if_pos c18] at H
           have c18b0:decide (x14_3<(t155.length:Int))=true:=decide_eq_true c18
           clear c18
           obtain ⟨ji19,hji19⟩:∃ j_:Int,(wrap64 (a2+x13_2))=j_:=⟨_,rfl⟩
           replace H:(if 0≤(ji19) then (if (ji19)<(l1.length:Int) then (if 0≤x9_1 then (if x9_1<(t146.length:Int) then (if 0≤(wrap64 ((rd t146 x9_1)+x14_3)) then (if (wrap64 ((rd t146 x9_1)+x14_3))<(l1.length:Int) then (if (rd l1 (ji19))=(rd l1 (wrap64 ((rd t146 x9_1)+x14_3))) then (if 0≤x13_2 then (if x13_2<(x7_1.length:Int) then (if 0≤x14_3 then (if x12_3=true then (spec_l08Tidy.l2 k3 l1 a2 x7_1 t146 x9_1 t155 (wrap64 ((wrap64 ((rd x7_1 x13_2)+2)) - (rd t155 x14_3))) false x13_2 (wrap64 (x14_3+1)) l0_0) else (if (wrap64 ((wrap64 ((rd x7_1 x13_2)+2)) - (rd t155 x14_3)))>x11_3 then (spec_l08Tidy.l2 k3 l1 a2 x7_1 t146 x9_1 t155 (wrap64 ((wrap64 ((rd x7_1 x13_2)+2)) - (rd t155 x14_3))) false x13_2 (wrap64 (x14_3+1)) l0_0) else (spec_l08Tidy.l2 k3 l1 a2 x7_1 t146 x9_1 t155 x11_3 x12_3 x13_2 (wrap64 (x14_3+1)) l0_0))) else (none)) else (none)) else (none)) else (spec_l08Tidy.l2 k3 l1 a2 x7_1 t146 x9_1 t155 x11_3 x12_3 x13_2 (wrap64 (x14_3+1)) l0_0)) else (none)) else (none)) else (none)) else (none)) else (none)) else (none))=some r:=by first|(rw [hji19] at H;exact H)|(simp only [hji19] at H ⊢;exact H)
           have hji19w:(IntKind.i64.wrap (a2+x13_2))=ji19:=(i64_w _).trans hji19
           by_cases c20:0≤(ji19)
           ·rw [if_pos c20] at H
            have c20b0:decide (0≤(ji19))=true:=decide_eq_true c20
            clear c20
            by_cases c21:(ji19)<(l1.length:Int)
            ·rw [if_pos c21] at H
             have c21b0:decide ((ji19)<(l1.length:Int))=true:=decide_eq_true c21
             clear c21
             by_cases c22:0≤x9_1
             ·rw [if_pos c22] at H
              have c22b0:decide (0≤x9_1)=true:=decide_eq_true c22
              clear c22
              by_cases c23:x9_1<(t146.length:Int)
              ·rw [if_pos c23] at H
               have c23b0:decide (x9_1<(t146.length:Int))=true:=decide_eq_true c23
               clear c23
               obtain ⟨ji24,hji24⟩:∃ j_:Int,(wrap64 ((rd t146 x9_1)+x14_3))=j_:=⟨_,rfl⟩
               replace H:(if 0≤(ji24) then (if (ji24)<(l1.length:Int) then (if (rd l1 (ji19))=(rd l1 (ji24)) then (if 0≤x13_2 then (if x13_2<(x7_1.length:Int) then (if 0≤x14_3 then (if x12_3=true then (spec_l08Tidy.l2 k3 l1 a2 x7_1 t146 x9_1 t155 (wrap64 ((wrap64 ((rd x7_1 x13_2)+2)) - (rd t155 x14_3))) false x13_2 (wrap64 (x14_3+1)) l0_0) else (if (wrap64 ((wrap64 ((rd x7_1 x13_2)+2)) - (rd t155 x14_3)))>x11_3 then (spec_l08Tidy.l2 k3 l1 a2 x7_1 t146 x9_1 t155 (wrap64 ((wrap64 ((rd x7_1 x13_2)+2)) - (rd t155 x14_3))) false x13_2 (wrap64 (x14_3+1)) l0_0) else (spec_l08Tidy.l2 k3 l1 a2 x7_1 t146 x9_1 t155 x11_3 x12_3 x13_2 (wrap64 (x14_3+1)) l0_0))) else (none)) else (none)) else (none)) else (spec_l08Tidy.l2 k3 l1 a2 x7_1 t146 x9_1 t155 x11_3 x12_3 x13_2 (wrap64 (x14_3+1)) l0_0)) else (none)) else (none))=some r:=by first|(rw [hji24] at H;exact H)|(simp only [hji24] at H ⊢;exact H)
               have hji24w:(IntKind.i64.wrap ((rd t146 x9_1)+x14_3))=ji24:=(i64_w _).trans hji24
               by_cases c25:0≤(ji24)
               ·rw [if_pos c25] at H
                have c25b0:decide (0≤(ji24))=true:=decide_eq_true c25
                clear c25
                by_cases c26:(ji24)<(l1.length:Int)
                ·rw [if_pos c26] at H
                 have c26b0:decide ((ji24)<(l1.length:Int))=true:=decide_eq_true c26
                 clear c26
                 by_cases c27:(rd l1 (ji19))=(rd l1 (ji24))
                 ·rw [if_pos c27] at H
                  have c27b0:((rd l1 (ji19)) == (rd l1 (ji24)))=true:=beq_iff_eq.mpr c27
                  have c27b1:((rd l1 (ji19)) != (rd l1 (ji24)))=false:=bne_eq_false_iff_eq.mpr c27
                  clear c27
                  by_cases c28:0≤x13_2
                  ·rw [if_pos c28] at H
                   have c28b0:decide (0≤x13_2)=true:=decide_eq_true c28
                   clear c28
                   by_cases c29:x13_2<(x7_1.length:Int)
                   ·rw [if_pos c29] at H
                    have c29b0:decide (x13_2<(x7_1.length:Int))=true:=decide_eq_true c29
                    clear c29
                    by_cases c30:0≤x14_3
                    ·rw [if_pos c30] at H
                     have c30b0:decide (0≤x14_3)=true:=decide_eq_true c30
                     clear c30
                     by_cases c31:x12_3=true
                     ·subst c31
                      have H1:(spec_l08Tidy.l2 k3 l1 a2 x7_1 t146 x9_1 t155 (wrap64 ((wrap64 ((rd x7_1 x13_2)+2)) - (rd t155 x14_3))) false x13_2 (wrap64 (x14_3+1)) l0_0)=some r:=by rw [if_pos rfl] at H;exact H
                      clear H
                      have H:=H1
                      clear H1
                      have H':=Aside0.mk H
                      clear H
                      obtain ⟨Ao32,co32,eo32⟩:=Kd.R_slice HO_10.out
                      subst eo32
                      try go_wp2
                      have n0_:=Aside0.mk (Kd.R_drew HO_7.out)
                      have n1_:=Aside0.mk (Kd.R_drew HO_8.out)
                      have n2_:=Aside0.mk (Kd.R_drew HO_10.out)
                      have n3_:=Aside0.mk (blk_drew BK142.out)
                      have n4_:=Aside0.mk (below_drew1 HB.out)
                      clear HO_7
                      clear HO_8
                      clear HO_10
                      clear BK142
                      clear HB
                      have HO_7:=n0_
                      have HO_8:=n1_
                      have HO_10:=n2_
                      have BK142:=n3_
                      have HB:=n4_
                      clear n0_ n1_ n2_ n3_ n4_
                      have p158:0≤((ji19):Int):=of_decide_eq_true (by first|(with_reducible assumption)|assumption)
                      have q158:(ji19)<(l1.length:Int):=of_decide_eq_true (by first|(with_reducible assumption)|assumption)
                      obtain ⟨ad158,e158,hx158_0⟩:=Kd.at_int HR1.out (ji19) p158 q158
                      have hw158_0:=hx158_0
                      cases e158
                      replace hx158_0:=(HB.out.cell (World.block_lt_of_cell? w _ hx158_0)).trans hx158_0
                      replace p158:=eq_true p158
                      replace q158:=eq_true q158
                      have p159:0≤(x9_1:Int):=of_decide_eq_true (by first|(with_reducible assumption)|assumption)
                      have q159:x9_1<(t146.length:Int):=of_decide_eq_true (by first|(with_reducible assumption)|assumption)
                      (try (obtain ⟨Aop_,cop_,eop_⟩:=Kd.R_slice HO_8.out;subst eop_))
                      obtain ⟨ad159,e159,hx159_0⟩:=Kd.at_int (Kd.R_reads' HO_8.out).2.2 x9_1 p159 q159
                      obtain rfl:ad154=ad159:=(by injection e159)
                      replace p159:=eq_true p159
                      replace q159:=eq_true q159
                      have p160:0≤((ji24):Int):=of_decide_eq_true (by first|(with_reducible assumption)|assumption)
                      have q160:(ji24)<(l1.length:Int):=of_decide_eq_true (by first|(with_reducible assumption)|assumption)
                      obtain ⟨ad160,e160,hx160_0⟩:=Kd.at_int HR1.out (ji24) p160 q160
                      have hw160_0:=hx160_0
                      obtain rfl:ad158=ad160:=(by injection e160)
                      replace hx160_0:=(HB.out.cell (World.block_lt_of_cell? w _ hx160_0)).trans hx160_0
                      replace p160:=eq_true p160
                      replace q160:=eq_true q160
                      refine start_ (n:=16) (S:=fun w'=>w'.cell? (ad158.add ((ji19)).toNat)=some (.int .i64 (rd l1 (ji19)))∧w'.cell? (ad154.add (x9_1).toNat)=some (.int .i64 (rd t146 x9_1))∧w'.cell? (ad158.add ((ji24)).toNat)=some (.int .i64 (rd l1 (ji24)))) (ds:=[]) #[false,false,false,false,false,false,false,false,false,false,false,false,false,false,false,false] (by kernel_rfl) rfl rfl ⟨((HB.out.cell (World.block_lt_of_cell? w _ hw158_0)).trans hw158_0),hx159_0,((HB.out.cell (World.block_lt_of_cell? w _ hw160_0)).trans hw160_0)⟩ (fun hHeld=>?_);refine with_tabW spec_l08Tidy.tab13 spec_l08Tidy.bits13 (fun HT_ HW_=>?_)
                      generalize wr.drew=w33 at HO_7 HO_8 HO_10 BK142 HB hx158_0 hx159_0 hx160_0 hHeld ⊢
                      refine pure_ (i:=0) (N:=some 46) (v:=?_) (a':=?_) (tf 1 15) rfl rfl (any_of HT_.out (by kernel_rfl)) (fun _ _ _ h=>h) (Or.inl ⟨by rfl,?_⟩) ?_ ?_
                      rotate_left
                      ·intro w'
                       go_simp
                       with_reducible rfl
                      rotate_left
                      ·simp only [Act.put,sIB,sc0,scs,i64_w,i32_w]
                       rfl
                      refine pure_ (i:=1) (N:=some 47) (v:=?_) (a':=?_) (tf 2 14) rfl rfl (any_of HT_.out (by kernel_rfl)) (fun _ _ _ h=>h) (Or.inl ⟨by rfl,?_⟩) ?_ ?_
                      rotate_left
                      ·intro w'
                       go_simp
                       with_reducible rfl
                      rotate_left
                      ·simp only [Act.put,sIB,sc0,scs,i64_w,i32_w]
                       rfl
                      refine pure_ (i:=2) (N:=some 48) (v:=?_) (a':=?_) (tf 3 13) rfl rfl (any_of HT_.out (by kernel_rfl)) (fun _ _ _ h=>h) (Or.inl ⟨by rfl,?_⟩) ?_ ?_
                      rotate_left
                      ·intro w'
                       go_simp
                       with_reducible rfl
                      rotate_left
                      ·simp only [Act.put,sIB,sc0,scs,i64_w,i32_w]
                       rfl
                      refine pure_ (i:=3) (N:=some 49) (v:=?_) (a':=?_) (tf 4 12) rfl rfl (any_of HT_.out (by kernel_rfl)) (fun _ _ _ h=>h) (Or.inl ⟨by rfl,?_⟩) ?_ ?_
                      rotate_left
                      ·intro w'
                       go_simp
                       with_reducible rfl
                      rotate_left
                      ·simp only [Act.put,sIB,sc0,scs,i64_w,i32_w]
                       rfl
                      refine pure_ (i:=4) (N:=some 50) (v:=?_) (a':=?_) (tf 5 11) rfl rfl (any_of HT_.out (by kernel_rfl)) (fun _ _ _ h=>h) (Or.inl ⟨by rfl,?_⟩) ?_ ?_
                      rotate_left
                      ·intro w'
                       go_simp
                       with_reducible rfl
                      rotate_left
                      ·simp only [Act.put,sIB,sc0,scs,i64_w,i32_w]
                       rfl
                      refine pure_ (i:=6) (N:=some 52) (v:=?_) (a':=?_) #[true,true,true,true,true,false,true,false,false,false,false,false,false,false,false,false] rfl rfl (any_of HT_.out (by kernel_rfl)) (fun _ _ _ h=>h) (Or.inl ⟨by rfl,?_⟩) ?_ ?_
                      rotate_left
                      ·intro w'
                       go_simp
                       with_reducible rfl
                      rotate_left
                      ·simp only [Act.put,sIB,sc0,scs,i64_w,i32_w]
                       rfl
                      refine pure_ (i:=7) (N:=some 53) (v:=?_) (a':=?_) #[true,true,true,true,true,false,true,true,false,false,false,false,false,false,false,false] rfl rfl (any_of HT_.out (by kernel_rfl)) (fun _ _ _ h=>h) (Or.inl ⟨by rfl,?_⟩) ?_ ?_
                      rotate_left
                      ·intro w'
                       go_simp
                       with_reducible rfl
                      rotate_left
                      ·simp only [Act.put,sIB,sc0,scs,i64_w,i32_w]
                       rfl
                      refine pure_ (i:=8) (N:=some 54) (v:=?_) (a':=?_) #[true,true,true,true,true,false,true,true,true,false,false,false,false,false,false,false] rfl rfl (any_of HT_.out (by kernel_rfl)) (fun _ _ _ h=>h) (Or.inl ⟨by rfl,?_⟩) ?_ ?_
                      rotate_left
                      ·intro w'
                       go_simp
                       with_reducible rfl
                      rotate_left
                      ·simp only [Act.put,sIB,sc0,scs,i64_w,i32_w]
                       rfl
                      refine pure_ (i:=9) (N:=some 55) (v:=?_) (a':=?_) #[true,true,true,true,true,false,true,true,true,true,false,false,false,false,false,false] rfl rfl (any_of HT_.out (by kernel_rfl)) (fun _ _ _ h=>h) (Or.inl ⟨by rfl,?_⟩) ?_ ?_
                      rotate_left
                      ·intro w'
                       go_simp
                       with_reducible rfl
                      rotate_left
                      ·simp only [Act.put,sIB,sc0,scs,i64_w,i32_w]
                       rfl
                      refine pure_ (i:=11) (N:=some 57) (v:=?_) (a':=?_) #[true,true,true,true,true,false,true,true,true,true,false,true,false,false,false,false] rfl rfl (any_of HT_.out (by kernel_rfl)) (fun _ _ _ h=>h) (Or.inl ⟨by rfl,?_⟩) ?_ ?_
                      rotate_left
                      ·intro w'
                       go_simp
                       with_reducible rfl
                      rotate_left
                      ·simp only [Act.put,sIB,sc0,scs,i64_w,i32_w]
                       rfl
                      refine take_ (i:=5) (N:=some 51) (v:=?_) (a':=?_) #[true,true,true,true,true,true,true,true,true,true,false,true,false,false,false,false] rfl rfl (take_ofW HT_.out HW_.out (by kernel_rfl)) (fun _ _ _ h=>h) (Or.inl ⟨by rfl,?_⟩) hHeld ?_ ?_
                      rotate_left
                      ·rintro w' ⟨s0,s1,s2⟩
                       go_simp
                       with_reducible rfl
                      rotate_left
                      ·simp only [Act.put,sIB,sc0,scs,i64_w,i32_w]
                       rfl
                      refine take_ (i:=10) (N:=some 56) (v:=?_) (a':=?_) (tf 12 4) rfl rfl (take_ofW HT_.out HW_.out (by kernel_rfl)) (fun _ _ _ h=>h) (Or.inl ⟨by rfl,?_⟩) hHeld ?_ ?_
                      rotate_left
                      ·rintro w' ⟨s0,s1,s2⟩
                       go_simp
                       with_reducible rfl
                      rotate_left
                      ·simp only [Act.put,sIB,sc0,scs,i64_w,i32_w]
                       rfl
                      refine pure_ (i:=12) (N:=some 58) (v:=?_) (a':=?_) (tf 13 3) rfl rfl (any_of HT_.out (by kernel_rfl)) (fun _ _ _ h=>h) (Or.inl ⟨by rfl,?_⟩) ?_ ?_
                      rotate_left
                      ·intro w'
                       go_simp
                       with_reducible rfl
                      rotate_left
                      ·simp only [Act.put,sIB,sc0,scs,i64_w,i32_w]
                       rfl
                      refine pure_ (i:=13) (N:=some 59) (v:=?_) (a':=?_) (tf 14 2) rfl rfl (any_of HT_.out (by kernel_rfl)) (fun _ _ _ h=>h) (Or.inl ⟨by rfl,?_⟩) ?_ ?_
                      rotate_left
                      ·intro w'
                       go_simp
                       with_reducible rfl
                      rotate_left
                      ·simp only [Act.put,sIB,sc0,scs,i64_w,i32_w]
                       rfl
                      refine take_ (i:=14) (N:=some 60) (v:=?_) (a':=?_) (tf 15 1) rfl rfl (take_ofW HT_.out HW_.out (by kernel_rfl)) (fun _ _ _ h=>h) (Or.inl ⟨by rfl,?_⟩) hHeld ?_ ?_
                      rotate_left
                      ·rintro w' ⟨s0,s1,s2⟩
                       go_simp
                       with_reducible rfl
                      rotate_left
                      ·simp only [Act.put,sIB,sc0,scs,i64_w,i32_w]
                       rfl
                      refine pure_ (i:=15) (N:=some 61) (v:=?_) (a':=?_) (tf 16 0) rfl rfl (any_of HT_.out (by kernel_rfl)) (fun _ _ _ h=>h) (Or.inl ⟨by rfl,?_⟩) ?_ ?_
                      rotate_left
                      ·intro w'
                       go_simp
                       with_reducible rfl
                      rotate_left
                      ·simp only [Act.put,sIB,sc0,scs,i64_w,i32_w]
                       rfl
                      refine done_ (done_of HT_.out (by kernel_rfl)) ?_
                      try go_wp2
                      have n0_:=Aside0.mk (Kd.R_drew HO_7.out)
                      have n1_:=Aside0.mk (Kd.R_drew HO_8.out)
                      have n2_:=Aside0.mk (Kd.R_drew HO_10.out)
                      have n3_:=Aside0.mk (blk_drew BK142.out)
                      have n4_:=Aside0.mk (below_drew1 HB.out)
                      clear HO_7
                      clear HO_8
                      clear HO_10
                      clear BK142
                      clear HB
                      have HO_7:=n0_
                      have HO_8:=n1_
                      have HO_10:=n2_
                      have BK142:=n3_
                      have HB:=n4_
                      clear n0_ n1_ n2_ n3_ n4_
                      have p161:0≤(x13_2:Int):=of_decide_eq_true (by first|(with_reducible assumption)|assumption)
                      have q161:x13_2<(x7_1.length:Int):=of_decide_eq_true (by first|(with_reducible assumption)|assumption)
                      (try (obtain ⟨Aop_,cop_,eop_⟩:=Kd.R_slice HO_7.out;subst eop_))
                      obtain ⟨ad161,e161,hx161_0⟩:=Kd.at_int (Kd.R_reads' HO_7.out).2.2 x13_2 p161 q161
                      cases e161
                      replace p161:=eq_true p161
                      replace q161:=eq_true q161
                      have p162:0≤(x14_3:Int):=of_decide_eq_true (by first|(with_reducible assumption)|assumption)
                      have q162:x14_3<(t155.length:Int):=of_decide_eq_true (by first|(with_reducible assumption)|assumption)
                      (try (obtain ⟨Aop_,cop_,eop_⟩:=Kd.R_slice HO_10.out;subst eop_))
                      obtain ⟨ad162,e162,hx162_0⟩:=Kd.at_int (Kd.R_reads' HO_10.out).2.2 x14_3 p162 q162
                      cases e162
                      replace p162:=eq_true p162
                      replace q162:=eq_true q162
                      refine start_ (n:=11) (S:=fun w'=>w'.cell? (ad161.add (x13_2).toNat)=some (.int .i64 (rd x7_1 x13_2))∧w'.cell? (ad162.add (x14_3).toNat)=some (.int .i64 (rd t155 x14_3))) (ds:=[]) #[false,false,false,false,false,false,false,false,false,false,false] (by kernel_rfl) rfl rfl ⟨hx161_0,hx162_0⟩ (fun hHeld=>?_);refine with_tabW spec_l08Tidy.tab14 spec_l08Tidy.bits14 (fun HT_ HW_=>?_)
                      generalize w33.drew=w34 at HO_7 HO_8 HO_10 BK142 HB hx161_0 hx162_0 hHeld ⊢
                      refine pure_ (i:=0) (N:=some 62) (v:=?_) (a':=?_) #[true,false,false,false,false,false,false,false,false,false,false] rfl rfl (any_of HT_.out (by kernel_rfl)) (fun _ _ _ h=>h) (Or.inl ⟨by rfl,?_⟩) ?_ ?_
                      rotate_left
                      ·intro w'
                       go_simp
                       with_reducible rfl
                      rotate_left
                      ·simp only [Act.put,sIB,sc0,scs,i64_w,i32_w]
                       rfl
                      refine pure_ (i:=1) (N:=some 63) (v:=?_) (a':=?_) #[true,true,false,false,false,false,false,false,false,false,false] rfl rfl (any_of HT_.out (by kernel_rfl)) (fun _ _ _ h=>h) (Or.inl ⟨by rfl,?_⟩) ?_ ?_
                      rotate_left
                      ·intro w'
                       go_simp
                       with_reducible rfl
                      rotate_left
                      ·simp only [Act.put,sIB,sc0,scs,i64_w,i32_w]
                       rfl
                      refine pure_ (i:=2) (N:=some 64) (v:=?_) (a':=?_) #[true,true,true,false,false,false,false,false,false,false,false] rfl rfl (any_of HT_.out (by kernel_rfl)) (fun _ _ _ h=>h) (Or.inl ⟨by rfl,?_⟩) ?_ ?_
                      rotate_left
                      ·intro w'
                       go_simp
                       with_reducible rfl
                      rotate_left
                      ·simp only [Act.put,sIB,sc0,scs,i64_w,i32_w]
                       rfl
                      refine pure_ (i:=5) (N:=some 67) (v:=?_) (a':=?_) #[true,true,true,false,false,true,false,false,false,false,false] rfl rfl (any_of HT_.out (by kernel_rfl)) (fun _ _ _ h=>h) (Or.inl ⟨by rfl,?_⟩) ?_ ?_
                      rotate_left
                      ·intro w'
                       go_simp
                       with_reducible rfl
                      rotate_left
                      ·simp only [Act.put,sIB,sc0,scs,i64_w,i32_w]
                       rfl
                      refine pure_ (i:=6) (N:=some 68) (v:=?_) (a':=?_) #[true,true,true,false,false,true,true,false,false,false,false] rfl rfl (any_of HT_.out (by kernel_rfl)) (fun _ _ _ h=>h) (Or.inl ⟨by rfl,?_⟩) ?_ ?_
                      rotate_left
                      ·intro w'
                       go_simp
                       with_reducible rfl
                      rotate_left
                      ·simp only [Act.put,sIB,sc0,scs,i64_w,i32_w]
                       rfl
                      refine pure_ (i:=7) (N:=some 69) (v:=?_) (a':=?_) #[true,true,true,false,false,true,true,true,false,false,false] rfl rfl (any_of HT_.out (by kernel_rfl)) (fun _ _ _ h=>h) (Or.inl ⟨by rfl,?_⟩) ?_ ?_
                      rotate_left
                      ·intro w'
                       go_simp
                       with_reducible rfl
                      rotate_left
                      ·simp only [Act.put,sIB,sc0,scs,i64_w,i32_w]
                       rfl
                      refine take_ (i:=3) (N:=some 65) (v:=?_) (a':=?_) #[true,true,true,true,false,true,true,true,false,false,false] rfl rfl (take_ofW HT_.out HW_.out (by kernel_rfl)) (fun _ _ _ h=>h) (Or.inl ⟨by rfl,?_⟩) hHeld ?_ ?_
                      rotate_left
                      ·rintro w' ⟨s0,s1⟩
                       go_simp
                       with_reducible rfl
                      rotate_left
                      ·simp only [Act.put,sIB,sc0,scs,i64_w,i32_w]
                       rfl
                      refine pure_ (i:=4) (N:=some 66) (v:=?_) (a':=?_) #[true,true,true,true,true,true,true,true,false,false,false] rfl rfl (any_of HT_.out (by kernel_rfl)) (fun _ _ _ h=>h) (Or.inl ⟨by rfl,?_⟩) ?_ ?_
                      rotate_left
                      ·intro w'
                       go_simp
                       with_reducible rfl
                      rotate_left
                      ·simp only [Act.put,sIB,sc0,scs,i64_w,i32_w]
                       rfl
                      refine take_ (i:=8) (N:=some 70) (v:=?_) (a':=?_) #[true,true,true,true,true,true,true,true,true,false,false] rfl rfl (take_ofW HT_.out HW_.out (by kernel_rfl)) (fun _ _ _ h=>h) (Or.inl ⟨by rfl,?_⟩) hHeld ?_ ?_
                      rotate_left
                      ·rintro w' ⟨s0,s1⟩
                       go_simp
                       with_reducible rfl
                      rotate_left
                      ·simp only [Act.put,sIB,sc0,scs,i64_w,i32_w]
                       rfl
                      refine pure_ (i:=9) (N:=some 71) (v:=?_) (a':=?_) #[true,true,true,true,true,true,true,true,true,true,false] rfl rfl (any_of HT_.out (by kernel_rfl)) (fun _ _ _ h=>h) (Or.inl ⟨by rfl,?_⟩) ?_ ?_
                      rotate_left
                      ·intro w'
                       go_simp
                       with_reducible rfl
                      rotate_left
                      ·simp only [Act.put,sIB,sc0,scs,i64_w,i32_w]
                       rfl
                      refine pure_ (i:=10) (N:=some 15) (v:=?_) (a':=?_) #[true,true,true,true,true,true,true,true,true,true,true] rfl rfl (any_of HT_.out (by kernel_rfl)) (fun _ _ _ h=>h) (Or.inl ⟨by rfl,?_⟩) ?_ ?_
                      rotate_left
                      ·intro w'
                       go_simp
                       with_reducible rfl
                      rotate_left
                      ·simp only [Act.put,sIB,sc0,scs,i64_w,i32_w]
                       rfl
                      refine done_ (done_of HT_.out (by kernel_rfl)) ?_
                      try go_wp2
                      go_roundg k3
                      case measure=>have:=HK1.out;have:=HK2.out;have:=HK3.out;omega
                      case rel=>exact ⟨(wrap64 ((wrap64 ((rd x7_1 x13_2)+2)) - (rd t155 x14_3))),(false),(wrap64 (x14_3+1)),(by first|rfl|(simp;done)|(simp [*];done)),(by first|rfl|(simp;done)|(simp [*];done)),(by first|rfl|(simp;done)|(simp [*];done)),H',⟨by have:=HK1.out;have:=HK2.out;have:=HK3.out;omega⟩,⟨by (with_reducible repeat (first|apply Kd.R_alloc|apply Kd.R_drewN|apply Kd.R_drew));exact HO_7.out⟩,⟨by (with_reducible repeat (first|apply Kd.R_alloc|apply Kd.R_drewN|apply Kd.R_drew));exact HO_8.out⟩,⟨by (with_reducible repeat (first|apply Kd.R_alloc|apply Kd.R_drewN|apply Kd.R_drew));exact HO_10.out⟩,⟨by (with_reducible repeat (first|refine blk_drewN ?_ _|refine blk_drew ?_|refine blk_alloc ?_ _));exact BK142.out⟩,⟨by repeat (first|(with_reducible first|exact HB.out|apply below_alloc|apply pw_below_drewN|apply below_drew1|refine below_set ?_ GE142.out)|exact HB.out)⟩⟩
                     ·replace c31:=Bool.eq_false_iff.mpr c31
                      subst c31
                      have H1:(if (wrap64 ((wrap64 ((rd x7_1 x13_2)+2)) - (rd t155 x14_3)))>x11_3 then (spec_l08Tidy.l2 k3 l1 a2 x7_1 t146 x9_1 t155 (wrap64 ((wrap64 ((rd x7_1 x13_2)+2)) - (rd t155 x14_3))) false x13_2 (wrap64 (x14_3+1)) l0_0) else (spec_l08Tidy.l2 k3 l1 a2 x7_1 t146 x9_1 t155 x11_3 false x13_2 (wrap64 (x14_3+1)) l0_0))=some r:=by rw [if_neg (show ¬ (false=true) by decide)] at H;exact H
                      clear H
                      have H:=H1
                      clear H1
                      by_cases c35:(wrap64 ((wrap64 ((rd x7_1 x13_2)+2)) - (rd t155 x14_3)))>x11_3
                      ·rw [if_pos c35] at H
                       have c35b0:decide (x11_3<(wrap64 ((wrap64 ((rd x7_1 x13_2)+2)) - (rd t155 x14_3))))=true:=decide_eq_true c35
                       clear c35
                       have H':=Aside0.mk H
                       clear H
                       obtain ⟨Ao36,co36,eo36⟩:=Kd.R_slice HO_10.out
                       subst eo36
                       try go_wp2
                       have n0_:=Aside0.mk (Kd.R_drew HO_7.out)
                       have n1_:=Aside0.mk (Kd.R_drew HO_8.out)
                       have n2_:=Aside0.mk (Kd.R_drew HO_10.out)
                       have n3_:=Aside0.mk (blk_drew BK142.out)
                       have n4_:=Aside0.mk (below_drew1 HB.out)
                       clear HO_7
                       clear HO_8
                       clear HO_10
                       clear BK142
                       clear HB
                       have HO_7:=n0_
                       have HO_8:=n1_
                       have HO_10:=n2_
                       have BK142:=n3_
                       have HB:=n4_
                       clear n0_ n1_ n2_ n3_ n4_
                       have p158:0≤((ji19):Int):=of_decide_eq_true (by first|(with_reducible assumption)|assumption)
                       have q158:(ji19)<(l1.length:Int):=of_decide_eq_true (by first|(with_reducible assumption)|assumption)
                       obtain ⟨ad158,e158,hx158_0⟩:=Kd.at_int HR1.out (ji19) p158 q158
                       have hw158_0:=hx158_0
                       cases e158
                       replace hx158_0:=(HB.out.cell (World.block_lt_of_cell? w _ hx158_0)).trans hx158_0
                       replace p158:=eq_true p158
                       replace q158:=eq_true q158
                       have p159:0≤(x9_1:Int):=of_decide_eq_true (by first|(with_reducible assumption)|assumption)
                       have q159:x9_1<(t146.length:Int):=of_decide_eq_true (by first|(with_reducible assumption)|assumption)
                       (try (obtain ⟨Aop_,cop_,eop_⟩:=Kd.R_slice HO_8.out;subst eop_))
                       obtain ⟨ad159,e159,hx159_0⟩:=Kd.at_int (Kd.R_reads' HO_8.out).2.2 x9_1 p159 q159
                       obtain rfl:ad154=ad159:=(by injection e159)
                       replace p159:=eq_true p159
                       replace q159:=eq_true q159
                       have p160:0≤((ji24):Int):=of_decide_eq_true (by first|(with_reducible assumption)|assumption)
                       have q160:(ji24)<(l1.length:Int):=of_decide_eq_true (by first|(with_reducible assumption)|assumption)
                       obtain ⟨ad160,e160,hx160_0⟩:=Kd.at_int HR1.out (ji24) p160 q160
                       have hw160_0:=hx160_0
                       obtain rfl:ad158=ad160:=(by injection e160)
                       replace hx160_0:=(HB.out.cell (World.block_lt_of_cell? w _ hx160_0)).trans hx160_0
                       replace p160:=eq_true p160
                       replace q160:=eq_true q160
                       refine start_ (n:=16) (S:=fun w'=>w'.cell? (ad158.add ((ji19)).toNat)=some (.int .i64 (rd l1 (ji19)))∧w'.cell? (ad154.add (x9_1).toNat)=some (.int .i64 (rd t146 x9_1))∧w'.cell? (ad158.add ((ji24)).toNat)=some (.int .i64 (rd l1 (ji24)))) (ds:=[]) #[false,false,false,false,false,false,false,false,false,false,false,false,false,false,false,false] (by kernel_rfl) rfl rfl ⟨((HB.out.cell (World.block_lt_of_cell? w _ hw158_0)).trans hw158_0),hx159_0,((HB.out.cell (World.block_lt_of_cell? w _ hw160_0)).trans hw160_0)⟩ (fun hHeld=>?_);refine with_tabW spec_l08Tidy.tab13 spec_l08Tidy.bits13 (fun HT_ HW_=>?_)
                       generalize wr.drew=w37 at HO_7 HO_8 HO_10 BK142 HB hx158_0 hx159_0 hx160_0 hHeld ⊢
                       refine pure_ (i:=0) (N:=some 46) (v:=?_) (a':=?_) (tf 1 15) rfl rfl (any_of HT_.out (by kernel_rfl)) (fun _ _ _ h=>h) (Or.inl ⟨by rfl,?_⟩) ?_ ?_
                       rotate_left
                       ·intro w'
                        go_simp
                        with_reducible rfl
                       rotate_left
                       ·simp only [Act.put,sIB,sc0,scs,i64_w,i32_w]
                        rfl
                       refine pure_ (i:=1) (N:=some 47) (v:=?_) (a':=?_) (tf 2 14) rfl rfl (any_of HT_.out (by kernel_rfl)) (fun _ _ _ h=>h) (Or.inl ⟨by rfl,?_⟩) ?_ ?_
                       rotate_left
                       ·intro w'
                        go_simp
                        with_reducible rfl
                       rotate_left
                       ·simp only [Act.put,sIB,sc0,scs,i64_w,i32_w]
                        rfl
                       refine pure_ (i:=2) (N:=some 48) (v:=?_) (a':=?_) (tf 3 13) rfl rfl (any_of HT_.out (by kernel_rfl)) (fun _ _ _ h=>h) (Or.inl ⟨by rfl,?_⟩) ?_ ?_
                       rotate_left
                       ·intro w'
                        go_simp
                        with_reducible rfl
                       rotate_left
                       ·simp only [Act.put,sIB,sc0,scs,i64_w,i32_w]
                        rfl
                       refine pure_ (i:=3) (N:=some 49) (v:=?_) (a':=?_) (tf 4 12) rfl rfl (any_of HT_.out (by kernel_rfl)) (fun _ _ _ h=>h) (Or.inl ⟨by rfl,?_⟩) ?_ ?_
                       rotate_left
                       ·intro w'
                        go_simp
                        with_reducible rfl
                       rotate_left
                       ·simp only [Act.put,sIB,sc0,scs,i64_w,i32_w]
                        rfl
                       refine pure_ (i:=4) (N:=some 50) (v:=?_) (a':=?_) (tf 5 11) rfl rfl (any_of HT_.out (by kernel_rfl)) (fun _ _ _ h=>h) (Or.inl ⟨by rfl,?_⟩) ?_ ?_
                       rotate_left
                       ·intro w'
                        go_simp
                        with_reducible rfl
                       rotate_left
                       ·simp only [Act.put,sIB,sc0,scs,i64_w,i32_w]
                        rfl
                       refine pure_ (i:=6) (N:=some 52) (v:=?_) (a':=?_) #[true,true,true,true,true,false,true,false,false,false,false,false,false,false,false,false] rfl rfl (any_of HT_.out (by kernel_rfl)) (fun _ _ _ h=>h) (Or.inl ⟨by rfl,?_⟩) ?_ ?_
                       rotate_left
                       ·intro w'
                        go_simp
                        with_reducible rfl
                       rotate_left
                       ·simp only [Act.put,sIB,sc0,scs,i64_w,i32_w]
                        rfl
                       refine pure_ (i:=7) (N:=some 53) (v:=?_) (a':=?_) #[true,true,true,true,true,false,true,true,false,false,false,false,false,false,false,false] rfl rfl (any_of HT_.out (by kernel_rfl)) (fun _ _ _ h=>h) (Or.inl ⟨by rfl,?_⟩) ?_ ?_
                       rotate_left
                       ·intro w'
                        go_simp
                        with_reducible rfl
                       rotate_left
                       ·simp only [Act.put,sIB,sc0,scs,i64_w,i32_w]
                        rfl
                       refine pure_ (i:=8) (N:=some 54) (v:=?_) (a':=?_) #[true,true,true,true,true,false,true,true,true,false,false,false,false,false,false,false] rfl rfl (any_of HT_.out (by kernel_rfl)) (fun _ _ _ h=>h) (Or.inl ⟨by rfl,?_⟩) ?_ ?_
                       rotate_left
                       ·intro w'
                        go_simp
                        with_reducible rfl
                       rotate_left
                       ·simp only [Act.put,sIB,sc0,scs,i64_w,i32_w]
                        rfl
                       refine pure_ (i:=9) (N:=some 55) (v:=?_) (a':=?_) #[true,true,true,true,true,false,true,true,true,true,false,false,false,false,false,false] rfl rfl (any_of HT_.out (by kernel_rfl)) (fun _ _ _ h=>h) (Or.inl ⟨by rfl,?_⟩) ?_ ?_
                       rotate_left
                       ·intro w'
                        go_simp
                        with_reducible rfl
                       rotate_left
                       ·simp only [Act.put,sIB,sc0,scs,i64_w,i32_w]
                        rfl
                       refine pure_ (i:=11) (N:=some 57) (v:=?_) (a':=?_) #[true,true,true,true,true,false,true,true,true,true,false,true,false,false,false,false] rfl rfl (any_of HT_.out (by kernel_rfl)) (fun _ _ _ h=>h) (Or.inl ⟨by rfl,?_⟩) ?_ ?_
                       rotate_left
                       ·intro w'
                        go_simp
                        with_reducible rfl
                       rotate_left
                       ·simp only [Act.put,sIB,sc0,scs,i64_w,i32_w]
                        rfl
                       refine take_ (i:=5) (N:=some 51) (v:=?_) (a':=?_) #[true,true,true,true,true,true,true,true,true,true,false,true,false,false,false,false] rfl rfl (take_ofW HT_.out HW_.out (by kernel_rfl)) (fun _ _ _ h=>h) (Or.inl ⟨by rfl,?_⟩) hHeld ?_ ?_
                       rotate_left
                       ·rintro w' ⟨s0,s1,s2⟩
                        go_simp
                        with_reducible rfl
                       rotate_left
                       ·simp only [Act.put,sIB,sc0,scs,i64_w,i32_w]
                        rfl
                       refine take_ (i:=10) (N:=some 56) (v:=?_) (a':=?_) (tf 12 4) rfl rfl (take_ofW HT_.out HW_.out (by kernel_rfl)) (fun _ _ _ h=>h) (Or.inl ⟨by rfl,?_⟩) hHeld ?_ ?_
                       rotate_left
                       ·rintro w' ⟨s0,s1,s2⟩
                        go_simp
                        with_reducible rfl
                       rotate_left
                       ·simp only [Act.put,sIB,sc0,scs,i64_w,i32_w]
                        rfl
                       refine pure_ (i:=12) (N:=some 58) (v:=?_) (a':=?_) (tf 13 3) rfl rfl (any_of HT_.out (by kernel_rfl)) (fun _ _ _ h=>h) (Or.inl ⟨by rfl,?_⟩) ?_ ?_
                       rotate_left
                       ·intro w'
                        go_simp
                        with_reducible rfl
                       rotate_left
                       ·simp only [Act.put,sIB,sc0,scs,i64_w,i32_w]
                        rfl
                       refine pure_ (i:=13) (N:=some 59) (v:=?_) (a':=?_) (tf 14 2) rfl rfl (any_of HT_.out (by kernel_rfl)) (fun _ _ _ h=>h) (Or.inl ⟨by rfl,?_⟩) ?_ ?_
                       rotate_left
                       ·intro w'
                        go_simp
                        with_reducible rfl
                       rotate_left
                       ·simp only [Act.put,sIB,sc0,scs,i64_w,i32_w]
                        rfl
                       refine take_ (i:=14) (N:=some 60) (v:=?_) (a':=?_) (tf 15 1) rfl rfl (take_ofW HT_.out HW_.out (by kernel_rfl)) (fun _ _ _ h=>h) (Or.inl ⟨by rfl,?_⟩) hHeld ?_ ?_
                       rotate_left
                       ·rintro w' ⟨s0,s1,s2⟩
                        go_simp
                        with_reducible rfl
                       rotate_left
                       ·simp only [Act.put,sIB,sc0,scs,i64_w,i32_w]
                        rfl
                       refine pure_ (i:=15) (N:=some 61) (v:=?_) (a':=?_) (tf 16 0) rfl rfl (any_of HT_.out (by kernel_rfl)) (fun _ _ _ h=>h) (Or.inl ⟨by rfl,?_⟩) ?_ ?_
                       rotate_left
                       ·intro w'
                        go_simp
                        with_reducible rfl
                       rotate_left
                       ·simp only [Act.put,sIB,sc0,scs,i64_w,i32_w]
                        rfl
                       refine done_ (done_of HT_.out (by kernel_rfl)) ?_
                       try go_wp2
                       have n0_:=Aside0.mk (Kd.R_drew HO_7.out)
                       have n1_:=Aside0.mk (Kd.R_drew HO_8.out)
                       have n2_:=Aside0.mk (Kd.R_drew HO_10.out)
                       have n3_:=Aside0.mk (blk_drew BK142.out)
                       have n4_:=Aside0.mk (below_drew1 HB.out)
                       clear HO_7
                       clear HO_8
                       clear HO_10
                       clear BK142
                       clear HB
                       have HO_7:=n0_
                       have HO_8:=n1_
                       have HO_10:=n2_
                       have BK142:=n3_
                       have HB:=n4_
                       clear n0_ n1_ n2_ n3_ n4_
                       have p161:0≤(x13_2:Int):=of_decide_eq_true (by first|(with_reducible assumption)|assumption)
                       have q161:x13_2<(x7_1.length:Int):=of_decide_eq_true (by first|(with_reducible assumption)|assumption)
                       (try (obtain ⟨Aop_,cop_,eop_⟩:=Kd.R_slice HO_7.out;subst eop_))
                       obtain ⟨ad161,e161,hx161_0⟩:=Kd.at_int (Kd.R_reads' HO_7.out).2.2 x13_2 p161 q161
                       cases e161
                       replace p161:=eq_true p161
                       replace q161:=eq_true q161
                       have p162:0≤(x14_3:Int):=of_decide_eq_true (by first|(with_reducible assumption)|assumption)
                       have q162:x14_3<(t155.length:Int):=of_decide_eq_true (by first|(with_reducible assumption)|assumption)
                       (try (obtain ⟨Aop_,cop_,eop_⟩:=Kd.R_slice HO_10.out;subst eop_))
                       obtain ⟨ad162,e162,hx162_0⟩:=Kd.at_int (Kd.R_reads' HO_10.out).2.2 x14_3 p162 q162
                       cases e162
                       replace p162:=eq_true p162
                       replace q162:=eq_true q162
                       refine start_ (n:=11) (S:=fun w'=>w'.cell? (ad161.add (x13_2).toNat)=some (.int .i64 (rd x7_1 x13_2))∧w'.cell? (ad162.add (x14_3).toNat)=some (.int .i64 (rd t155 x14_3))) (ds:=[]) #[false,false,false,false,false,false,false,false,false,false,false] (by kernel_rfl) rfl rfl ⟨hx161_0,hx162_0⟩ (fun hHeld=>?_);refine with_tabW spec_l08Tidy.tab14 spec_l08Tidy.bits14 (fun HT_ HW_=>?_)
                       generalize w37.drew=w38 at HO_7 HO_8 HO_10 BK142 HB hx161_0 hx162_0 hHeld ⊢
                       refine pure_ (i:=0) (N:=some 62) (v:=?_) (a':=?_) #[true,false,false,false,false,false,false,false,false,false,false] rfl rfl (any_of HT_.out (by kernel_rfl)) (fun _ _ _ h=>h) (Or.inl ⟨by rfl,?_⟩) ?_ ?_
                       rotate_left
                       ·intro w'
                        go_simp
                        with_reducible rfl
                       rotate_left
                       ·simp only [Act.put,sIB,sc0,scs,i64_w,i32_w]
                        rfl
                       refine pure_ (i:=1) (N:=some 63) (v:=?_) (a':=?_) #[true,true,false,false,false,false,false,false,false,false,false] rfl rfl (any_of HT_.out (by kernel_rfl)) (fun _ _ _ h=>h) (Or.inl ⟨by rfl,?_⟩) ?_ ?_
                       rotate_left
                       ·intro w'
                        go_simp
                        with_reducible rfl
                       rotate_left
                       ·simp only [Act.put,sIB,sc0,scs,i64_w,i32_w]
                        rfl
                       refine pure_ (i:=2) (N:=some 64) (v:=?_) (a':=?_) #[true,true,true,false,false,false,false,false,false,false,false] rfl rfl (any_of HT_.out (by kernel_rfl)) (fun _ _ _ h=>h) (Or.inl ⟨by rfl,?_⟩) ?_ ?_
                       rotate_left
                       ·intro w'
                        go_simp
                        with_reducible rfl
                       rotate_left
                       ·simp only [Act.put,sIB,sc0,scs,i64_w,i32_w]
                        rfl
                       refine pure_ (i:=5) (N:=some 67) (v:=?_) (a':=?_) #[true,true,true,false,false,true,false,false,false,false,false] rfl rfl (any_of HT_.out (by kernel_rfl)) (fun _ _ _ h=>h) (Or.inl ⟨by rfl,?_⟩) ?_ ?_
                       rotate_left
                       ·intro w'
                        go_simp
                        with_reducible rfl
                       rotate_left
                       ·simp only [Act.put,sIB,sc0,scs,i64_w,i32_w]
                        rfl
                       refine pure_ (i:=6) (N:=some 68) (v:=?_) (a':=?_) #[true,true,true,false,false,true,true,false,false,false,false] rfl rfl (any_of HT_.out (by kernel_rfl)) (fun _ _ _ h=>h) (Or.inl ⟨by rfl,?_⟩) ?_ ?_
                       rotate_left
                       ·intro w'
                        go_simp
                        with_reducible rfl
                       rotate_left
                       ·simp only [Act.put,sIB,sc0,scs,i64_w,i32_w]
                        rfl
                       refine pure_ (i:=7) (N:=some 69) (v:=?_) (a':=?_) #[true,true,true,false,false,true,true,true,false,false,false] rfl rfl (any_of HT_.out (by kernel_rfl)) (fun _ _ _ h=>h) (Or.inl ⟨by rfl,?_⟩) ?_ ?_
                       rotate_left
                       ·intro w'
                        go_simp
                        with_reducible rfl
                       rotate_left
                       ·simp only [Act.put,sIB,sc0,scs,i64_w,i32_w]
                        rfl
                       refine take_ (i:=3) (N:=some 65) (v:=?_) (a':=?_) #[true,true,true,true,false,true,true,true,false,false,false] rfl rfl (take_ofW HT_.out HW_.out (by kernel_rfl)) (fun _ _ _ h=>h) (Or.inl ⟨by rfl,?_⟩) hHeld ?_ ?_
                       rotate_left
                       ·rintro w' ⟨s0,s1⟩
                        go_simp
                        with_reducible rfl
                       rotate_left
                       ·simp only [Act.put,sIB,sc0,scs,i64_w,i32_w]
                        rfl
                       refine pure_ (i:=4) (N:=some 66) (v:=?_) (a':=?_) #[true,true,true,true,true,true,true,true,false,false,false] rfl rfl (any_of HT_.out (by kernel_rfl)) (fun _ _ _ h=>h) (Or.inl ⟨by rfl,?_⟩) ?_ ?_
                       rotate_left
                       ·intro w'
                        go_simp
                        with_reducible rfl
                       rotate_left
                       ·simp only [Act.put,sIB,sc0,scs,i64_w,i32_w]
                        rfl
                       refine take_ (i:=8) (N:=some 70) (v:=?_) (a':=?_) #[true,true,true,true,true,true,true,true,true,false,false] rfl rfl (take_ofW HT_.out HW_.out (by kernel_rfl)) (fun _ _ _ h=>h) (Or.inl ⟨by rfl,?_⟩) hHeld ?_ ?_
                       rotate_left
                       ·rintro w' ⟨s0,s1⟩
                        go_simp
                        with_reducible rfl
                       rotate_left
                       ·simp only [Act.put,sIB,sc0,scs,i64_w,i32_w]
                        rfl
                       refine pure_ (i:=9) (N:=some 71) (v:=?_) (a':=?_) #[true,true,true,true,true,true,true,true,true,true,false] rfl rfl (any_of HT_.out (by kernel_rfl)) (fun _ _ _ h=>h) (Or.inl ⟨by rfl,?_⟩) ?_ ?_
                       rotate_left
                       ·intro w'
                        go_simp
                        with_reducible rfl
                       rotate_left
                       ·simp only [Act.put,sIB,sc0,scs,i64_w,i32_w]
                        rfl
                       refine pure_ (i:=10) (N:=some 15) (v:=?_) (a':=?_) #[true,true,true,true,true,true,true,true,true,true,true] rfl rfl (any_of HT_.out (by kernel_rfl)) (fun _ _ _ h=>h) (Or.inl ⟨by rfl,?_⟩) ?_ ?_
                       rotate_left
                       ·intro w'
                        go_simp
                        with_reducible rfl
                       rotate_left
                       ·simp only [Act.put,sIB,sc0,scs,i64_w,i32_w]
                        rfl
                       refine done_ (done_of HT_.out (by kernel_rfl)) ?_
                       try go_wp2
                       go_roundg k3
                       case measure=>have:=HK1.out;have:=HK2.out;have:=HK3.out;omega
                       case rel=>exact ⟨(wrap64 ((wrap64 ((rd x7_1 x13_2)+2)) - (rd t155 x14_3))),(false),(wrap64 (x14_3+1)),(by first|rfl|(simp;done)|(simp [*];done)),(by first|rfl|(simp;done)|(simp [*];done)),(by first|rfl|(simp;done)|(simp [*];done)),H',⟨by have:=HK1.out;have:=HK2.out;have:=HK3.out;omega⟩,⟨by (with_reducible repeat (first|apply Kd.R_alloc|apply Kd.R_drewN|apply Kd.R_drew));exact HO_7.out⟩,⟨by (with_reducible repeat (first|apply Kd.R_alloc|apply Kd.R_drewN|apply Kd.R_drew));exact HO_8.out⟩,⟨by (with_reducible repeat (first|apply Kd.R_alloc|apply Kd.R_drewN|apply Kd.R_drew));exact HO_10.out⟩,⟨by (with_reducible repeat (first|refine blk_drewN ?_ _|refine blk_drew ?_|refine blk_alloc ?_ _));exact BK142.out⟩,⟨by repeat (first|(with_reducible first|exact HB.out|apply below_alloc|apply pw_below_drewN|apply below_drew1|refine below_set ?_ GE142.out)|exact HB.out)⟩⟩
                      ·rw [if_neg c35] at H
                       have c35b0:decide (x11_3<(wrap64 ((wrap64 ((rd x7_1 x13_2)+2)) - (rd t155 x14_3))))=false:=decide_eq_false c35
                       clear c35
                       have H':=Aside0.mk H
                       clear H
                       obtain ⟨Ao39,co39,eo39⟩:=Kd.R_slice HO_10.out
                       subst eo39
                       try go_wp2
                       have n0_:=Aside0.mk (Kd.R_drew HO_7.out)
                       have n1_:=Aside0.mk (Kd.R_drew HO_8.out)
                       have n2_:=Aside0.mk (Kd.R_drew HO_10.out)
                       have n3_:=Aside0.mk (blk_drew BK142.out)
                       have n4_:=Aside0.mk (below_drew1 HB.out)
                       clear HO_7
                       clear HO_8
                       clear HO_10
                       clear BK142
                       clear HB
                       have HO_7:=n0_
                       have HO_8:=n1_
                       have HO_10:=n2_
                       have BK142:=n3_
                       have HB:=n4_
                       clear n0_ n1_ n2_ n3_ n4_
                       have p158:0≤((ji19):Int):=of_decide_eq_true (by first|(with_reducible assumption)|assumption)
                       have q158:(ji19)<(l1.length:Int):=of_decide_eq_true (by first|(with_reducible assumption)|assumption)
                       obtain ⟨ad158,e158,hx158_0⟩:=Kd.at_int HR1.out (ji19) p158 q158
                       have hw158_0:=hx158_0
                       cases e158
                       replace hx158_0:=(HB.out.cell (World.block_lt_of_cell? w _ hx158_0)).trans hx158_0
                       replace p158:=eq_true p158
                       replace q158:=eq_true q158
                       have p159:0≤(x9_1:Int):=of_decide_eq_true (by first|(with_reducible assumption)|assumption)
                       have q159:x9_1<(t146.length:Int):=of_decide_eq_true (by first|(with_reducible assumption)|assumption)
                       (try (obtain ⟨Aop_,cop_,eop_⟩:=Kd.R_slice HO_8.out;subst eop_))
                       obtain ⟨ad159,e159,hx159_0⟩:=Kd.at_int (Kd.R_reads' HO_8.out).2.2 x9_1 p159 q159
                       obtain rfl:ad154=ad159:=(by injection e159)
                       replace p159:=eq_true p159
                       replace q159:=eq_true q159
                       have p160:0≤((ji24):Int):=of_decide_eq_true (by first|(with_reducible assumption)|assumption)
                       have q160:(ji24)<(l1.length:Int):=of_decide_eq_true (by first|(with_reducible assumption)|assumption)
                       obtain ⟨ad160,e160,hx160_0⟩:=Kd.at_int HR1.out (ji24) p160 q160
                       have hw160_0:=hx160_0
                       obtain rfl:ad158=ad160:=(by injection e160)
                       replace hx160_0:=(HB.out.cell (World.block_lt_of_cell? w _ hx160_0)).trans hx160_0
                       replace p160:=eq_true p160
                       replace q160:=eq_true q160
                       refine start_ (n:=16) (S:=fun w'=>w'.cell? (ad158.add ((ji19)).toNat)=some (.int .i64 (rd l1 (ji19)))∧w'.cell? (ad154.add (x9_1).toNat)=some (.int .i64 (rd t146 x9_1))∧w'.cell? (ad158.add ((ji24)).toNat)=some (.int .i64 (rd l1 (ji24)))) (ds:=[]) #[false,false,false,false,false,false,false,false,false,false,false,false,false,false,false,false] (by kernel_rfl) rfl rfl ⟨((HB.out.cell (World.block_lt_of_cell? w _ hw158_0)).trans hw158_0),hx159_0,((HB.out.cell (World.block_lt_of_cell? w _ hw160_0)).trans hw160_0)⟩ (fun hHeld=>?_);refine with_tabW spec_l08Tidy.tab13 spec_l08Tidy.bits13 (fun HT_ HW_=>?_)
                       generalize wr.drew=w40 at HO_7 HO_8 HO_10 BK142 HB hx158_0 hx159_0 hx160_0 hHeld ⊢
                       refine pure_ (i:=0) (N:=some 46) (v:=?_) (a':=?_) (tf 1 15) rfl rfl (any_of HT_.out (by kernel_rfl)) (fun _ _ _ h=>h) (Or.inl ⟨by rfl,?_⟩) ?_ ?_
                       rotate_left
                       ·intro w'
                        go_simp
                        with_reducible rfl
                       rotate_left
                       ·simp only [Act.put,sIB,sc0,scs,i64_w,i32_w]
                        rfl
                       refine pure_ (i:=1) (N:=some 47) (v:=?_) (a':=?_) (tf 2 14) rfl rfl (any_of HT_.out (by kernel_rfl)) (fun _ _ _ h=>h) (Or.inl ⟨by rfl,?_⟩) ?_ ?_
                       rotate_left
                       ·intro w'
                        go_simp
                        with_reducible rfl
                       rotate_left
                       ·simp only [Act.put,sIB,sc0,scs,i64_w,i32_w]
                        rfl
                       refine pure_ (i:=2) (N:=some 48) (v:=?_) (a':=?_) (tf 3 13) rfl rfl (any_of HT_.out (by kernel_rfl)) (fun _ _ _ h=>h) (Or.inl ⟨by rfl,?_⟩) ?_ ?_
                       rotate_left
                       ·intro w'
                        go_simp
                        with_reducible rfl
                       rotate_left
                       ·simp only [Act.put,sIB,sc0,scs,i64_w,i32_w]
                        rfl
                       refine pure_ (i:=3) (N:=some 49) (v:=?_) (a':=?_) (tf 4 12) rfl rfl (any_of HT_.out (by kernel_rfl)) (fun _ _ _ h=>h) (Or.inl ⟨by rfl,?_⟩) ?_ ?_
                       rotate_left
                       ·intro w'
                        go_simp
                        with_reducible rfl
                       rotate_left
                       ·simp only [Act.put,sIB,sc0,scs,i64_w,i32_w]
                        rfl
                       refine pure_ (i:=4) (N:=some 50) (v:=?_) (a':=?_) (tf 5 11) rfl rfl (any_of HT_.out (by kernel_rfl)) (fun _ _ _ h=>h) (Or.inl ⟨by rfl,?_⟩) ?_ ?_
                       rotate_left
                       ·intro w'
                        go_simp
                        with_reducible rfl
                       rotate_left
                       ·simp only [Act.put,sIB,sc0,scs,i64_w,i32_w]
                        rfl
                       refine pure_ (i:=6) (N:=some 52) (v:=?_) (a':=?_) #[true,true,true,true,true,false,true,false,false,false,false,false,false,false,false,false] rfl rfl (any_of HT_.out (by kernel_rfl)) (fun _ _ _ h=>h) (Or.inl ⟨by rfl,?_⟩) ?_ ?_
                       rotate_left
                       ·intro w'
                        go_simp
                        with_reducible rfl
                       rotate_left
                       ·simp only [Act.put,sIB,sc0,scs,i64_w,i32_w]
                        rfl
                       refine pure_ (i:=7) (N:=some 53) (v:=?_) (a':=?_) #[true,true,true,true,true,false,true,true,false,false,false,false,false,false,false,false] rfl rfl (any_of HT_.out (by kernel_rfl)) (fun _ _ _ h=>h) (Or.inl ⟨by rfl,?_⟩) ?_ ?_
                       rotate_left
                       ·intro w'
                        go_simp
                        with_reducible rfl
                       rotate_left
                       ·simp only [Act.put,sIB,sc0,scs,i64_w,i32_w]
                        rfl
                       refine pure_ (i:=8) (N:=some 54) (v:=?_) (a':=?_) #[true,true,true,true,true,false,true,true,true,false,false,false,false,false,false,false] rfl rfl (any_of HT_.out (by kernel_rfl)) (fun _ _ _ h=>h) (Or.inl ⟨by rfl,?_⟩) ?_ ?_
                       rotate_left
                       ·intro w'
                        go_simp
                        with_reducible rfl
                       rotate_left
                       ·simp only [Act.put,sIB,sc0,scs,i64_w,i32_w]
                        rfl
                       refine pure_ (i:=9) (N:=some 55) (v:=?_) (a':=?_) #[true,true,true,true,true,false,true,true,true,true,false,false,false,false,false,false] rfl rfl (any_of HT_.out (by kernel_rfl)) (fun _ _ _ h=>h) (Or.inl ⟨by rfl,?_⟩) ?_ ?_
                       rotate_left
                       ·intro w'
                        go_simp
                        with_reducible rfl
                       rotate_left
                       ·simp only [Act.put,sIB,sc0,scs,i64_w,i32_w]
                        rfl
                       refine pure_ (i:=11) (N:=some 57) (v:=?_) (a':=?_) #[true,true,true,true,true,false,true,true,true,true,false,true,false,false,false,false] rfl rfl (any_of HT_.out (by kernel_rfl)) (fun _ _ _ h=>h) (Or.inl ⟨by rfl,?_⟩) ?_ ?_
                       rotate_left
                       ·intro w'
                        go_simp
                        with_reducible rfl
                       rotate_left
                       ·simp only [Act.put,sIB,sc0,scs,i64_w,i32_w]
                        rfl
                       refine take_ (i:=5) (N:=some 51) (v:=?_) (a':=?_) #[true,true,true,true,true,true,true,true,true,true,false,true,false,false,false,false] rfl rfl (take_ofW HT_.out HW_.out (by kernel_rfl)) (fun _ _ _ h=>h) (Or.inl ⟨by rfl,?_⟩) hHeld ?_ ?_
                       rotate_left
                       ·rintro w' ⟨s0,s1,s2⟩
                        go_simp
                        with_reducible rfl
                       rotate_left
                       ·simp only [Act.put,sIB,sc0,scs,i64_w,i32_w]
                        rfl
                       refine take_ (i:=10) (N:=some 56) (v:=?_) (a':=?_) (tf 12 4) rfl rfl (take_ofW HT_.out HW_.out (by kernel_rfl)) (fun _ _ _ h=>h) (Or.inl ⟨by rfl,?_⟩) hHeld ?_ ?_
                       rotate_left
                       ·rintro w' ⟨s0,s1,s2⟩
                        go_simp
                        with_reducible rfl
                       rotate_left
                       ·simp only [Act.put,sIB,sc0,scs,i64_w,i32_w]
                        rfl
                       refine pure_ (i:=12) (N:=some 58) (v:=?_) (a':=?_) (tf 13 3) rfl rfl (any_of HT_.out (by kernel_rfl)) (fun _ _ _ h=>h) (Or.inl ⟨by rfl,?_⟩) ?_ ?_
                       rotate_left
                       ·intro w'
                        go_simp
                        with_reducible rfl
                       rotate_left
                       ·simp only [Act.put,sIB,sc0,scs,i64_w,i32_w]
                        rfl
                       refine pure_ (i:=13) (N:=some 59) (v:=?_) (a':=?_) (tf 14 2) rfl rfl (any_of HT_.out (by kernel_rfl)) (fun _ _ _ h=>h) (Or.inl ⟨by rfl,?_⟩) ?_ ?_
                       rotate_left
                       ·intro w'
                        go_simp
                        with_reducible rfl
                       rotate_left
                       ·simp only [Act.put,sIB,sc0,scs,i64_w,i32_w]
                        rfl
                       refine take_ (i:=14) (N:=some 60) (v:=?_) (a':=?_) (tf 15 1) rfl rfl (take_ofW HT_.out HW_.out (by kernel_rfl)) (fun _ _ _ h=>h) (Or.inl ⟨by rfl,?_⟩) hHeld ?_ ?_
                       rotate_left
                       ·rintro w' ⟨s0,s1,s2⟩
                        go_simp
                        with_reducible rfl
                       rotate_left
                       ·simp only [Act.put,sIB,sc0,scs,i64_w,i32_w]
                        rfl
                       refine pure_ (i:=15) (N:=some 61) (v:=?_) (a':=?_) (tf 16 0) rfl rfl (any_of HT_.out (by kernel_rfl)) (fun _ _ _ h=>h) (Or.inl ⟨by rfl,?_⟩) ?_ ?_
                       rotate_left
                       ·intro w'
                        go_simp
                        with_reducible rfl
                       rotate_left
                       ·simp only [Act.put,sIB,sc0,scs,i64_w,i32_w]
                        rfl
                       refine done_ (done_of HT_.out (by kernel_rfl)) ?_
                       try go_wp2
                       have n0_:=Aside0.mk (Kd.R_drew HO_7.out)
                       have n1_:=Aside0.mk (Kd.R_drew HO_8.out)
                       have n2_:=Aside0.mk (Kd.R_drew HO_10.out)
                       have n3_:=Aside0.mk (blk_drew BK142.out)
                       have n4_:=Aside0.mk (below_drew1 HB.out)
                       clear HO_7
                       clear HO_8
                       clear HO_10
                       clear BK142
                       clear HB
                       have HO_7:=n0_
                       have HO_8:=n1_
                       have HO_10:=n2_
                       have BK142:=n3_
                       have HB:=n4_
                       clear n0_ n1_ n2_ n3_ n4_
                       have p161:0≤(x13_2:Int):=of_decide_eq_true (by first|(with_reducible assumption)|assumption)
                       have q161:x13_2<(x7_1.length:Int):=of_decide_eq_true (by first|(with_reducible assumption)|assumption)
                       (try (obtain ⟨Aop_,cop_,eop_⟩:=Kd.R_slice HO_7.out;subst eop_))
                       obtain ⟨ad161,e161,hx161_0⟩:=Kd.at_int (Kd.R_reads' HO_7.out).2.2 x13_2 p161 q161
                       cases e161
                       replace p161:=eq_true p161
                       replace q161:=eq_true q161
                       have p162:0≤(x14_3:Int):=of_decide_eq_true (by first|(with_reducible assumption)|assumption)
                       have q162:x14_3<(t155.length:Int):=of_decide_eq_true (by first|(with_reducible assumption)|assumption)
                       (try (obtain ⟨Aop_,cop_,eop_⟩:=Kd.R_slice HO_10.out;subst eop_))
                       obtain ⟨ad162,e162,hx162_0⟩:=Kd.at_int (Kd.R_reads' HO_10.out).2.2 x14_3 p162 q162
                       cases e162
                       replace p162:=eq_true p162
                       replace q162:=eq_true q162
                       refine start_ (n:=11) (S:=fun w'=>w'.cell? (ad161.add (x13_2).toNat)=some (.int .i64 (rd x7_1 x13_2))∧w'.cell? (ad162.add (x14_3).toNat)=some (.int .i64 (rd t155 x14_3))) (ds:=[]) #[false,false,false,false,false,false,false,false,false,false,false] (by kernel_rfl) rfl rfl ⟨hx161_0,hx162_0⟩ (fun hHeld=>?_);refine with_tabW spec_l08Tidy.tab14 spec_l08Tidy.bits14 (fun HT_ HW_=>?_)
                       generalize w40.drew=w41 at HO_7 HO_8 HO_10 BK142 HB hx161_0 hx162_0 hHeld ⊢
                       refine pure_ (i:=0) (N:=some 62) (v:=?_) (a':=?_) #[true,false,false,false,false,false,false,false,false,false,false] rfl rfl (any_of HT_.out (by kernel_rfl)) (fun _ _ _ h=>h) (Or.inl ⟨by rfl,?_⟩) ?_ ?_
                       rotate_left
                       ·intro w'
                        go_simp
                        with_reducible rfl
                       rotate_left
                       ·simp only [Act.put,sIB,sc0,scs,i64_w,i32_w]
                        rfl
                       refine pure_ (i:=1) (N:=some 63) (v:=?_) (a':=?_) #[true,true,false,false,false,false,false,false,false,false,false] rfl rfl (any_of HT_.out (by kernel_rfl)) (fun _ _ _ h=>h) (Or.inl ⟨by rfl,?_⟩) ?_ ?_
                       rotate_left
                       ·intro w'
                        go_simp
                        with_reducible rfl
                       rotate_left
                       ·simp only [Act.put,sIB,sc0,scs,i64_w,i32_w]
                        rfl
                       refine pure_ (i:=2) (N:=some 64) (v:=?_) (a':=?_) #[true,true,true,false,false,false,false,false,false,false,false] rfl rfl (any_of HT_.out (by kernel_rfl)) (fun _ _ _ h=>h) (Or.inl ⟨by rfl,?_⟩) ?_ ?_
                       rotate_left
                       ·intro w'
                        go_simp
                        with_reducible rfl
                       rotate_left
                       ·simp only [Act.put,sIB,sc0,scs,i64_w,i32_w]
                        rfl
                       refine pure_ (i:=5) (N:=some 67) (v:=?_) (a':=?_) #[true,true,true,false,false,true,false,false,false,false,false] rfl rfl (any_of HT_.out (by kernel_rfl)) (fun _ _ _ h=>h) (Or.inl ⟨by rfl,?_⟩) ?_ ?_
                       rotate_left
                       ·intro w'
                        go_simp
                        with_reducible rfl
                       rotate_left
                       ·simp only [Act.put,sIB,sc0,scs,i64_w,i32_w]
                        rfl
                       refine pure_ (i:=6) (N:=some 68) (v:=?_) (a':=?_) #[true,true,true,false,false,true,true,false,false,false,false] rfl rfl (any_of HT_.out (by kernel_rfl)) (fun _ _ _ h=>h) (Or.inl ⟨by rfl,?_⟩) ?_ ?_
                       rotate_left
                       ·intro w'
                        go_simp
                        with_reducible rfl
                       rotate_left
                       ·simp only [Act.put,sIB,sc0,scs,i64_w,i32_w]
                        rfl
                       refine pure_ (i:=7) (N:=some 69) (v:=?_) (a':=?_) #[true,true,true,false,false,true,true,true,false,false,false] rfl rfl (any_of HT_.out (by kernel_rfl)) (fun _ _ _ h=>h) (Or.inl ⟨by rfl,?_⟩) ?_ ?_
                       rotate_left
                       ·intro w'
                        go_simp
                        with_reducible rfl
                       rotate_left
                       ·simp only [Act.put,sIB,sc0,scs,i64_w,i32_w]
                        rfl
                       refine take_ (i:=3) (N:=some 65) (v:=?_) (a':=?_) #[true,true,true,true,false,true,true,true,false,false,false] rfl rfl (take_ofW HT_.out HW_.out (by kernel_rfl)) (fun _ _ _ h=>h) (Or.inl ⟨by rfl,?_⟩) hHeld ?_ ?_
                       rotate_left
                       ·rintro w' ⟨s0,s1⟩
                        go_simp
                        with_reducible rfl
                       rotate_left
                       ·simp only [Act.put,sIB,sc0,scs,i64_w,i32_w]
                        rfl
                       refine pure_ (i:=4) (N:=some 66) (v:=?_) (a':=?_) #[true,true,true,true,true,true,true,true,false,false,false] rfl rfl (any_of HT_.out (by kernel_rfl)) (fun _ _ _ h=>h) (Or.inl ⟨by rfl,?_⟩) ?_ ?_
                       rotate_left
                       ·intro w'
                        go_simp
                        with_reducible rfl
                       rotate_left
                       ·simp only [Act.put,sIB,sc0,scs,i64_w,i32_w]
                        rfl
                       refine take_ (i:=8) (N:=some 70) (v:=?_) (a':=?_) #[true,true,true,true,true,true,true,true,true,false,false] rfl rfl (take_ofW HT_.out HW_.out (by kernel_rfl)) (fun _ _ _ h=>h) (Or.inl ⟨by rfl,?_⟩) hHeld ?_ ?_
                       rotate_left
                       ·rintro w' ⟨s0,s1⟩
                        go_simp
                        with_reducible rfl
                       rotate_left
                       ·simp only [Act.put,sIB,sc0,scs,i64_w,i32_w]
                        rfl
                       refine pure_ (i:=9) (N:=some 71) (v:=?_) (a':=?_) #[true,true,true,true,true,true,true,true,true,true,false] rfl rfl (any_of HT_.out (by kernel_rfl)) (fun _ _ _ h=>h) (Or.inl ⟨by rfl,?_⟩) ?_ ?_
                       rotate_left
                       ·intro w'
                        go_simp
                        with_reducible rfl
                       rotate_left
                       ·simp only [Act.put,sIB,sc0,scs,i64_w,i32_w]
                        rfl
                       refine pure_ (i:=10) (N:=some 15) (v:=?_) (a':=?_) #[true,true,true,true,true,true,true,true,true,true,true] rfl rfl (any_of HT_.out (by kernel_rfl)) (fun _ _ _ h=>h) (Or.inl ⟨by rfl,?_⟩) ?_ ?_
                       rotate_left
                       ·intro w'
                        go_simp
                        with_reducible rfl
                       rotate_left
                       ·simp only [Act.put,sIB,sc0,scs,i64_w,i32_w]
                        rfl
                       refine done_ (done_of HT_.out (by kernel_rfl)) ?_
                       try go_wp2
                       go_roundg k3
                       case measure=>have:=HK1.out;have:=HK2.out;have:=HK3.out;omega
                       case rel=>exact ⟨(x11_3),(false),(wrap64 (x14_3+1)),(by first|rfl|(simp;done)|(simp [*];done)),(by first|rfl|(simp;done)|(simp [*];done)),(by first|rfl|(simp;done)|(simp [*];done)),H',⟨by have:=HK1.out;have:=HK2.out;have:=HK3.out;omega⟩,⟨by (with_reducible repeat (first|apply Kd.R_alloc|apply Kd.R_drewN|apply Kd.R_drew));exact HO_7.out⟩,⟨by (with_reducible repeat (first|apply Kd.R_alloc|apply Kd.R_drewN|apply Kd.R_drew));exact HO_8.out⟩,⟨by (with_reducible repeat (first|apply Kd.R_alloc|apply Kd.R_drewN|apply Kd.R_drew));exact HO_10.out⟩,⟨by (with_reducible repeat (first|refine blk_drewN ?_ _|refine blk_drew ?_|refine blk_alloc ?_ _));exact BK142.out⟩,⟨by repeat (first|(with_reducible first|exact HB.out|apply below_alloc|apply pw_below_drewN|apply below_drew1|refine below_set ?_ GE142.out)|exact HB.out)⟩⟩
                    ·rw [if_neg c30] at H
                     exact absurd H (by simp)
                   ·rw [if_neg c29] at H
                    exact absurd H (by simp)
                  ·rw [if_neg c28] at H
                   exact absurd H (by simp)
                 ·rw [if_neg c27] at H
                  have c27b0:((rd l1 (ji19)) == (rd l1 (ji24)))=false:=beq_eq_false_iff_ne.mpr c27
                  have c27b1:((rd l1 (ji19)) != (rd l1 (ji24)))=true:=bne_iff_ne.mpr c27
                  have H':=Aside0.mk H
                  clear H
                  obtain ⟨Ao42,co42,eo42⟩:=Kd.R_slice HO_10.out
                  subst eo42
                  try go_wp2
                  have n0_:=Aside0.mk (Kd.R_drew HO_7.out)
                  have n1_:=Aside0.mk (Kd.R_drew HO_8.out)
                  have n2_:=Aside0.mk (Kd.R_drew HO_10.out)
                  have n3_:=Aside0.mk (blk_drew BK142.out)
                  have n4_:=Aside0.mk (below_drew1 HB.out)
                  clear HO_7
                  clear HO_8
                  clear HO_10
                  clear BK142
                  clear HB
                  have HO_7:=n0_
                  have HO_8:=n1_
                  have HO_10:=n2_
                  have BK142:=n3_
                  have HB:=n4_
                  clear n0_ n1_ n2_ n3_ n4_
                  have p158:0≤((ji19):Int):=of_decide_eq_true (by first|(with_reducible assumption)|assumption)
                  have q158:(ji19)<(l1.length:Int):=of_decide_eq_true (by first|(with_reducible assumption)|assumption)
                  obtain ⟨ad158,e158,hx158_0⟩:=Kd.at_int HR1.out (ji19) p158 q158
                  have hw158_0:=hx158_0
                  cases e158
                  replace hx158_0:=(HB.out.cell (World.block_lt_of_cell? w _ hx158_0)).trans hx158_0
                  replace p158:=eq_true p158
                  replace q158:=eq_true q158
                  have p159:0≤(x9_1:Int):=of_decide_eq_true (by first|(with_reducible assumption)|assumption)
                  have q159:x9_1<(t146.length:Int):=of_decide_eq_true (by first|(with_reducible assumption)|assumption)
                  (try (obtain ⟨Aop_,cop_,eop_⟩:=Kd.R_slice HO_8.out;subst eop_))
                  obtain ⟨ad159,e159,hx159_0⟩:=Kd.at_int (Kd.R_reads' HO_8.out).2.2 x9_1 p159 q159
                  obtain rfl:ad154=ad159:=(by injection e159)
                  replace p159:=eq_true p159
                  replace q159:=eq_true q159
                  have p160:0≤((ji24):Int):=of_decide_eq_true (by first|(with_reducible assumption)|assumption)
                  have q160:(ji24)<(l1.length:Int):=of_decide_eq_true (by first|(with_reducible assumption)|assumption)
                  obtain ⟨ad160,e160,hx160_0⟩:=Kd.at_int HR1.out (ji24) p160 q160
                  have hw160_0:=hx160_0
                  obtain rfl:ad158=ad160:=(by injection e160)
                  replace hx160_0:=(HB.out.cell (World.block_lt_of_cell? w _ hx160_0)).trans hx160_0
                  replace p160:=eq_true p160
                  replace q160:=eq_true q160
                  refine start_ (n:=16) (S:=fun w'=>w'.cell? (ad158.add ((ji19)).toNat)=some (.int .i64 (rd l1 (ji19)))∧w'.cell? (ad154.add (x9_1).toNat)=some (.int .i64 (rd t146 x9_1))∧w'.cell? (ad158.add ((ji24)).toNat)=some (.int .i64 (rd l1 (ji24)))) (ds:=[]) #[false,false,false,false,false,false,false,false,false,false,false,false,false,false,false,false] (by kernel_rfl) rfl rfl ⟨((HB.out.cell (World.block_lt_of_cell? w _ hw158_0)).trans hw158_0),hx159_0,((HB.out.cell (World.block_lt_of_cell? w _ hw160_0)).trans hw160_0)⟩ (fun hHeld=>?_);refine with_tabW spec_l08Tidy.tab13 spec_l08Tidy.bits13 (fun HT_ HW_=>?_)
                  generalize wr.drew=w43 at HO_7 HO_8 HO_10 BK142 HB hx158_0 hx159_0 hx160_0 hHeld ⊢
                  refine pure_ (i:=0) (N:=some 46) (v:=?_) (a':=?_) (tf 1 15) rfl rfl (any_of HT_.out (by kernel_rfl)) (fun _ _ _ h=>h) (Or.inl ⟨by rfl,?_⟩) ?_ ?_
                  rotate_left
                  ·intro w'
                   go_simp
                   with_reducible rfl
                  rotate_left
                  ·simp only [Act.put,sIB,sc0,scs,i64_w,i32_w]
                   rfl
                  refine pure_ (i:=1) (N:=some 47) (v:=?_) (a':=?_) (tf 2 14) rfl rfl (any_of HT_.out (by kernel_rfl)) (fun _ _ _ h=>h) (Or.inl ⟨by rfl,?_⟩) ?_ ?_
                  rotate_left
                  ·intro w'
                   go_simp
                   with_reducible rfl
                  rotate_left
                  ·simp only [Act.put,sIB,sc0,scs,i64_w,i32_w]
                   rfl
                  refine pure_ (i:=2) (N:=some 48) (v:=?_) (a':=?_) (tf 3 13) rfl rfl (any_of HT_.out (by kernel_rfl)) (fun _ _ _ h=>h) (Or.inl ⟨by rfl,?_⟩) ?_ ?_
                  rotate_left
                  ·intro w'
                   go_simp
                   with_reducible rfl
                  rotate_left
                  ·simp only [Act.put,sIB,sc0,scs,i64_w,i32_w]
                   rfl
                  refine pure_ (i:=3) (N:=some 49) (v:=?_) (a':=?_) (tf 4 12) rfl rfl (any_of HT_.out (by kernel_rfl)) (fun _ _ _ h=>h) (Or.inl ⟨by rfl,?_⟩) ?_ ?_
                  rotate_left
                  ·intro w'
                   go_simp
                   with_reducible rfl
                  rotate_left
                  ·simp only [Act.put,sIB,sc0,scs,i64_w,i32_w]
                   rfl
                  refine pure_ (i:=4) (N:=some 50) (v:=?_) (a':=?_) (tf 5 11) rfl rfl (any_of HT_.out (by kernel_rfl)) (fun _ _ _ h=>h) (Or.inl ⟨by rfl,?_⟩) ?_ ?_
                  rotate_left
                  ·intro w'
                   go_simp
                   with_reducible rfl
                  rotate_left
                  ·simp only [Act.put,sIB,sc0,scs,i64_w,i32_w]
                   rfl
                  refine pure_ (i:=6) (N:=some 52) (v:=?_) (a':=?_) #[true,true,true,true,true,false,true,false,false,false,false,false,false,false,false,false] rfl rfl (any_of HT_.out (by kernel_rfl)) (fun _ _ _ h=>h) (Or.inl ⟨by rfl,?_⟩) ?_ ?_
                  rotate_left
                  ·intro w'
                   go_simp
                   with_reducible rfl
                  rotate_left
                  ·simp only [Act.put,sIB,sc0,scs,i64_w,i32_w]
                   rfl
                  refine pure_ (i:=7) (N:=some 53) (v:=?_) (a':=?_) #[true,true,true,true,true,false,true,true,false,false,false,false,false,false,false,false] rfl rfl (any_of HT_.out (by kernel_rfl)) (fun _ _ _ h=>h) (Or.inl ⟨by rfl,?_⟩) ?_ ?_
                  rotate_left
                  ·intro w'
                   go_simp
                   with_reducible rfl
                  rotate_left
                  ·simp only [Act.put,sIB,sc0,scs,i64_w,i32_w]
                   rfl
                  refine pure_ (i:=8) (N:=some 54) (v:=?_) (a':=?_) #[true,true,true,true,true,false,true,true,true,false,false,false,false,false,false,false] rfl rfl (any_of HT_.out (by kernel_rfl)) (fun _ _ _ h=>h) (Or.inl ⟨by rfl,?_⟩) ?_ ?_
                  rotate_left
                  ·intro w'
                   go_simp
                   with_reducible rfl
                  rotate_left
                  ·simp only [Act.put,sIB,sc0,scs,i64_w,i32_w]
                   rfl
                  refine pure_ (i:=9) (N:=some 55) (v:=?_) (a':=?_) #[true,true,true,true,true,false,true,true,true,true,false,false,false,false,false,false] rfl rfl (any_of HT_.out (by kernel_rfl)) (fun _ _ _ h=>h) (Or.inl ⟨by rfl,?_⟩) ?_ ?_
                  rotate_left
                  ·intro w'
                   go_simp
                   with_reducible rfl
                  rotate_left
                  ·simp only [Act.put,sIB,sc0,scs,i64_w,i32_w]
                   rfl
                  refine pure_ (i:=11) (N:=some 57) (v:=?_) (a':=?_) #[true,true,true,true,true,false,true,true,true,true,false,true,false,false,false,false] rfl rfl (any_of HT_.out (by kernel_rfl)) (fun _ _ _ h=>h) (Or.inl ⟨by rfl,?_⟩) ?_ ?_
                  rotate_left
                  ·intro w'
                   go_simp
                   with_reducible rfl
                  rotate_left
                  ·simp only [Act.put,sIB,sc0,scs,i64_w,i32_w]
                   rfl
                  refine take_ (i:=5) (N:=some 51) (v:=?_) (a':=?_) #[true,true,true,true,true,true,true,true,true,true,false,true,false,false,false,false] rfl rfl (take_ofW HT_.out HW_.out (by kernel_rfl)) (fun _ _ _ h=>h) (Or.inl ⟨by rfl,?_⟩) hHeld ?_ ?_
                  rotate_left
                  ·rintro w' ⟨s0,s1,s2⟩
                   go_simp
                   with_reducible rfl
                  rotate_left
                  ·simp only [Act.put,sIB,sc0,scs,i64_w,i32_w]
                   rfl
                  refine take_ (i:=10) (N:=some 56) (v:=?_) (a':=?_) (tf 12 4) rfl rfl (take_ofW HT_.out HW_.out (by kernel_rfl)) (fun _ _ _ h=>h) (Or.inl ⟨by rfl,?_⟩) hHeld ?_ ?_
                  rotate_left
                  ·rintro w' ⟨s0,s1,s2⟩
                   go_simp
                   with_reducible rfl
                  rotate_left
                  ·simp only [Act.put,sIB,sc0,scs,i64_w,i32_w]
                   rfl
                  refine pure_ (i:=12) (N:=some 58) (v:=?_) (a':=?_) (tf 13 3) rfl rfl (any_of HT_.out (by kernel_rfl)) (fun _ _ _ h=>h) (Or.inl ⟨by rfl,?_⟩) ?_ ?_
                  rotate_left
                  ·intro w'
                   go_simp
                   with_reducible rfl
                  rotate_left
                  ·simp only [Act.put,sIB,sc0,scs,i64_w,i32_w]
                   rfl
                  refine pure_ (i:=13) (N:=some 59) (v:=?_) (a':=?_) (tf 14 2) rfl rfl (any_of HT_.out (by kernel_rfl)) (fun _ _ _ h=>h) (Or.inl ⟨by rfl,?_⟩) ?_ ?_
                  rotate_left
                  ·intro w'
                   go_simp
                   with_reducible rfl
                  rotate_left
                  ·simp only [Act.put,sIB,sc0,scs,i64_w,i32_w]
                   rfl
                  refine take_ (i:=14) (N:=some 60) (v:=?_) (a':=?_) (tf 15 1) rfl rfl (take_ofW HT_.out HW_.out (by kernel_rfl)) (fun _ _ _ h=>h) (Or.inl ⟨by rfl,?_⟩) hHeld ?_ ?_
                  rotate_left
                  ·rintro w' ⟨s0,s1,s2⟩
                   go_simp
                   with_reducible rfl
                  rotate_left
                  ·simp only [Act.put,sIB,sc0,scs,i64_w,i32_w]
                   rfl
                  refine pure_ (i:=15) (N:=some 61) (v:=?_) (a':=?_) (tf 16 0) rfl rfl (any_of HT_.out (by kernel_rfl)) (fun _ _ _ h=>h) (Or.inl ⟨by rfl,?_⟩) ?_ ?_
                  rotate_left
                  ·intro w'
                   go_simp
                   with_reducible rfl
                  rotate_left
                  ·simp only [Act.put,sIB,sc0,scs,i64_w,i32_w]
                   rfl
                  refine done_ (done_of HT_.out (by kernel_rfl)) ?_
                  try go_wp2
                  go_roundg k3
                  case measure=>have:=HK1.out;have:=HK2.out;have:=HK3.out;omega
                  case rel=>exact ⟨(x11_3),(x12_3),(wrap64 (x14_3+1)),(by first|rfl|(simp;done)|(simp [*];done)),(by first|rfl|(simp;done)|(simp [*];done)),(by first|rfl|(simp;done)|(simp [*];done)),H',⟨by have:=HK1.out;have:=HK2.out;have:=HK3.out;omega⟩,⟨by (with_reducible repeat (first|apply Kd.R_alloc|apply Kd.R_drewN|apply Kd.R_drew));exact HO_7.out⟩,⟨by (with_reducible repeat (first|apply Kd.R_alloc|apply Kd.R_drewN|apply Kd.R_drew));exact HO_8.out⟩,⟨by (with_reducible repeat (first|apply Kd.R_alloc|apply Kd.R_drewN|apply Kd.R_drew));exact HO_10.out⟩,⟨by (with_reducible repeat (first|refine blk_drewN ?_ _|refine blk_drew ?_|refine blk_alloc ?_ _));exact BK142.out⟩,⟨by repeat (first|(with_reducible first|exact HB.out|apply below_alloc|apply pw_below_drewN|apply below_drew1|refine below_set ?_ GE142.out)|exact HB.out)⟩⟩
                ·rw [if_neg c26] at H
                 exact absurd H (by simp)
               ·rw [if_neg c25] at H
                exact absurd H (by simp)
              ·rw [if_neg c23] at H
               exact absurd H (by simp)
             ·rw [if_neg c22] at H
              exact absurd H (by simp)
            ·rw [if_neg c21] at H
             exact absurd H (by simp)
           ·rw [if_neg c20] at H
            exact absurd H (by simp)
          ·rw [if_neg c18] at H
           have c18b0:decide (x14_3<(t155.length:Int))=false:=decide_eq_false c18
           clear c18
           have H':=Aside0.mk H
           clear H
           obtain ⟨Ao44,co44,eo44⟩:=Kd.R_slice HO_10.out
           subst eo44
           go_wp2
           go_roundg k3
           case measure=>have:=HK1.out;have:=HK2.out;have:=HK3.out;omega
           case rel=>exact ⟨(x11_3),(x12_3),(wrap64 (x13_2+1)),(by first|rfl|(simp;done)|(simp [*];done)),(by first|rfl|(simp;done)|(simp [*];done)),(by first|rfl|(simp;done)|(simp [*];done)),H',⟨by have:=HK1.out;have:=HK2.out;have:=HK3.out;omega⟩,⟨by (with_reducible repeat (first|apply Kd.R_alloc|apply Kd.R_drewN|apply Kd.R_drew));exact HO_7.out⟩,⟨by (with_reducible repeat (first|apply Kd.R_alloc|apply Kd.R_drewN|apply Kd.R_drew));exact HO_8.out⟩,⟨by (with_reducible repeat (first|apply Kd.R_alloc|apply Kd.R_drewN|apply Kd.R_drew));exact HO_10.out⟩,⟨by (with_reducible repeat (first|refine blk_drewN ?_ _|refine blk_drew ?_|refine blk_alloc ?_ _));exact BK142.out⟩,⟨by repeat (first|(with_reducible first|exact HB.out|apply below_alloc|apply pw_below_drewN|apply below_drew1|refine below_set ?_ GE142.out)|exact HB.out)⟩⟩
       ·rw [if_neg c16] at H
        have c16b0:decide (x13_2<(x7_1.length:Int))=false:=decide_eq_false c16
        clear c16
        have H':=Aside0.mk H
        clear H
        obtain ⟨Ao45,co45,eo45⟩:=Kd.R_slice HO_7.out
        subst eo45
        go_wp2
        go_loopg [7,16] k2 (fun kq v7 v16 w'=>∃ (x7_3:List Int) (x16_3:Int),v16=.int .i64 x16_3∧Aside0 (spec_l08Tidy.l3 kq l1 a2 x7_3 t146 x9_1 t155 x11_2 x16_3 l0_0=some r)∧Aside0 (kq≤k2)∧Aside0 (Kd.R (Kd.int .i64) 2 w' w.heap.size (fun k_=>some k_≠((.slice (some ad154) t146.length co13):Value).ownBlock∧some k_≠(v156:Value).ownBlock) v7 x7_3)∧Aside0 (Kd.R (Kd.int .i64) 2 w' w.heap.size (fun k_=>some k_≠(v7:Value).ownBlock∧some k_≠(v156:Value).ownBlock) (.slice (some ad154) t146.length co13) t146)∧Aside0 (Kd.R (Kd.int .i64) 2 w' w.heap.size (fun k_=>some k_≠(v7:Value).ownBlock∧some k_≠((.slice (some ad154) t146.length co13):Value).ownBlock) v156 t155)∧Aside0 (w'.heap[gb142]?=some (.cells #[(.slice A0_0 l0_0.length c0_0)] 28 (0,0)))∧Aside0 (Below w.heap.size w w'))
        case atStart=>exact ⟨(x7_1),(0),(by first|rfl|(simp;done)|(simp [*];done)),H',⟨Nat.le_refl _⟩,⟨by (with_reducible repeat (first|apply Kd.R_alloc|apply Kd.R_drewN|apply Kd.R_drew));exact HO_7.out⟩,⟨by (with_reducible repeat (first|apply Kd.R_alloc|apply Kd.R_drewN|apply Kd.R_drew));exact HO_8.out⟩,⟨by (with_reducible repeat (first|apply Kd.R_alloc|apply Kd.R_drewN|apply Kd.R_drew));exact HO_10.out⟩,⟨by (with_reducible repeat (first|refine blk_drewN ?_ _|refine blk_drew ?_|refine blk_alloc ?_ _));exact BK142.out⟩,⟨by repeat (first|(with_reducible first|exact HB.out|apply below_alloc|apply pw_below_drewN|apply below_drew1|refine below_set ?_ GE142.out)|exact HB.out)⟩⟩
        case round =>
         clear H'
         try clear c1
         try clear p1
         try clear q1
         try clear hx1
         try clear c2
         try clear p2
         try clear c3
         try clear p6
         try clear p15
         try clear q15
         try clear hx15
         try clear c16
         try clear c16b0
         try clear p16
         try clear q16
         try clear hx16
         try clear c18
         try clear c18b0
         try clear c20
         try clear c21
         try clear c22
         try clear c23
         try clear c25
         try clear c26
         try clear c27
         try clear c27b0
         try clear c27b1
         try clear c28
         try clear c29
         try clear c30
         try clear c35
         try clear c35b0
         try clear hx158_0
         try clear hx159_0
         try clear hx160_0
         try clear hx161_0
         try clear hx162_0
         try clear p158
         try clear p159
         try clear p160
         try clear p161
         try clear p162
         try clear q158
         try clear q159
         try clear q160
         try clear q161
         try clear q162
         obtain ⟨x7_3,x16_3,rfl,HA,HK3,HO_7,HO_8,HO_10,BK142,HB⟩:=hrel
         cases gk with
         | zero=>exact absurd HA.out (by simp [spec_l08Tidy.l3])
         | succ k3 =>
          have H:=HA.out
          clear HA
          simp only [spec_l08Tidy.l3] at H
          by_cases c46:x16_3<(t155.length:Int)
          ·rw [if_pos c46] at H
           have c46b0:decide (x16_3<(t155.length:Int))=true:=decide_eq_true c46
           clear c46
           by_cases c47:0≤x16_3
           ·rw [if_pos c47] at H
            have c47b0:decide (0≤x16_3)=true:=decide_eq_true c47
            clear c47
            by_cases c48:x7_3.length<17592186044416
            ·rw [if_pos c48] at H
             have LMc48:=Aside0.mk c48
             clear c48
             obtain ⟨y164,hy164⟩:∃ y_:List Int,y_=(x7_3++[wrap64 ((rd t155 x16_3)+x11_2)]):=⟨_,rfl⟩
             replace H:(spec_l08Tidy.l3 k3 l1 a2 y164 t146 x9_1 t155 x11_2 (wrap64 (x16_3+1)) l0_0)=some r:=by first|(rw [hy164];with_reducible exact H)|(have H2_:=(Option.bind_some _ _).symm.trans H;rw [hy164];with_reducible exact H2_)|(have H2_:=(Option.bind_some _ _).symm.trans H;with_reducible exact H2_)|with_reducible exact H|(rw [hy164];exact H)|exact H
             have Ny164:=Aside0.mk hy164
             clear hy164
             have H':=Aside0.mk H
             clear H
             obtain ⟨Ao49,co49,eo49⟩:=Kd.R_slice HO_10.out
             subst eo49
             have p163:0≤(x16_3:Int):=of_decide_eq_true (by first|(with_reducible assumption)|assumption)
             have q163:x16_3<(t155.length:Int):=of_decide_eq_true (by first|(with_reducible assumption)|assumption)
             (try (obtain ⟨Aop_,cop_,eop_⟩:=Kd.R_slice HO_10.out;subst eop_))
             obtain ⟨ad163,e163,hx163_0⟩:=Kd.at_int (Kd.R_reads' HO_10.out).2.2 x16_3 p163 q163
             cases e163
             replace p163:=eq_true p163
             replace q163:=eq_true q163
             go_wp2_with (first|((with_reducible refine gate_builtin (b:=.append) (xs:=#[.tmp 85,.tmp 92]) rfl ?_);at_builtin;refine Kd.R_append (Kd.int .i64) (w0:=w) w.heap.size rfl (.tmp 85) (.tmp 92) 22 2 (.int .i64 0) 8 rfl Try.underlying22 info2 rfl (by decide) (by omega) u7 x7_3 (wrap64 ((rd t155 x16_3)+x11_2)) [.int .i64 (wrap64 ((rd t155 x16_3)+x11_2))] (fun k_=>some k_≠(.slice (some ad154) t146.length co13:Value).ownBlock∧some k_≠(.slice (some ad163) t155.length co49:Value).ownBlock) (fun _=>False) rfl rfl ?aP (fun _ hk=>hk.elim) ?aF ?aO ?aB ?aS ?aL ?_;(case aP=>exact rfl);(case aB=>exact (by repeat (first|(with_reducible first|exact HB.out|apply below_alloc|apply pw_below_drewN|apply below_drew1|refine below_set ?_ GE142.out)|exact HB.out)));(case aF=>exact (fun k_ hk=>⟨Kd.fresh' (Kd.R_lt (by (with_reducible repeat (first|apply Kd.R_alloc|apply Kd.R_drewN|apply Kd.R_drew));exact HO_8.out)) k_ hk,Kd.fresh' (Kd.R_lt (by (with_reducible repeat (first|apply Kd.R_alloc|apply Kd.R_drewN|apply Kd.R_drew));exact HO_10.out)) k_ hk⟩));(case aO=>exact (by (with_reducible repeat (first|apply Kd.R_alloc|apply Kd.R_drewN|apply Kd.R_drew));exact HO_7.out));(case aS=>exact (below_size (by repeat (first|(with_reducible first|exact HB.out|apply below_alloc|apply pw_below_drewN|apply below_drew1|refine below_set ?_ GE142.out)|exact HB.out))));(case aL=>have:=LMc48.out;omega);intro v165 w50 ho hb hg hat;rw [← Ny164.out] at ho;have n0_:=Aside0.mk (Kd.R_after (ok:=(fun k_=>some k_≠(.slice (some ad163) t155.length co49:Value).ownBlock)) (by (with_reducible repeat (first|apply Kd.R_alloc|apply Kd.R_drewN|apply Kd.R_drew));exact Kd.R_mono HO_8.out (fun _ hk=>⟨hk.2,hk.1⟩)) hg hat);have n1_:=Aside0.mk (Kd.R_after (ok:=(fun k_=>some k_≠(.slice (some ad154) t146.length co13:Value).ownBlock)) (by (with_reducible repeat (first|apply Kd.R_alloc|apply Kd.R_drewN|apply Kd.R_drew));exact Kd.R_mono HO_10.out (fun _ hk=>⟨hk.2,hk.1⟩)) hg hat);have n2_:=Aside0.mk (blk_grown (g:=gb142) (o:=.cells #[.slice A0_0 l0_0.length c0_0] 28 (0,0)) (by (with_reducible repeat (first|refine blk_drewN ?_ _|refine blk_drew ?_|refine blk_alloc ?_ _));exact BK142.out) hg (Kd.R_ne HO_7.out BK142.out (by decide)));have n3_:=Aside0.mk (hb);have n4_:=Aside0.mk (ho);clear HO_8;clear HO_10;clear BK142;clear HB;clear HO_7;have HO_8:=n0_;have HO_10:=n1_;have BK142:=n2_;have HB:=n3_;have HO166:=n4_;clear n0_ n1_ n2_ n3_ n4_;clear ho hb hg hat))
             go_roundg k3
             case measure=>have:=HK1.out;have:=HK2.out;have:=HK3.out;omega
             case rel=>exact ⟨(y164),(wrap64 (x16_3+1)),(by first|rfl|(simp;done)|(simp [*];done)),H',⟨by have:=HK1.out;have:=HK2.out;have:=HK3.out;omega⟩,⟨by (with_reducible repeat (first|apply Kd.R_alloc|apply Kd.R_drewN|apply Kd.R_drew));exact HO166.out⟩,⟨by (with_reducible repeat (first|apply Kd.R_alloc|apply Kd.R_drewN|apply Kd.R_drew));exact Kd.R_mono HO_8.out (fun _ hk=>⟨hk.2,hk.1⟩)⟩,⟨by (with_reducible repeat (first|apply Kd.R_alloc|apply Kd.R_drewN|apply Kd.R_drew));exact Kd.R_mono HO_10.out (fun _ hk=>⟨hk.2,hk.1⟩)⟩,⟨by (with_reducible repeat (first|refine blk_drewN ?_ _|refine blk_drew ?_|refine blk_alloc ?_ _));exact BK142.out⟩,⟨by repeat (first|(with_reducible first|exact HB.out|apply below_alloc|apply pw_below_drewN|apply below_drew1|refine below_set ?_ GE142.out)|exact HB.out)⟩⟩
            ·rw [if_neg c48] at H
             exact absurd H (by simp)
           ·rw [if_neg c47] at H
            exact absurd H (by simp)
          ·rw [if_neg c46] at H
           have c46b0:decide (x16_3<(t155.length:Int))=false:=decide_eq_false c46
           clear c46
           have H':=Aside0.mk H
           clear H
           obtain ⟨Ao51,co51,eo51⟩:=Kd.R_slice HO_10.out
           subst eo51
           go_wp2
           go_roundg k3
           case measure=>have:=HK1.out;have:=HK2.out;have:=HK3.out;omega
           case rel=>exact ⟨(x7_3),(wrap64 (x9_1+1)),(by first|rfl|(simp;done)|(simp [*];done)),H',⟨by have:=HK1.out;have:=HK2.out;have:=HK3.out;omega⟩,⟨by (with_reducible repeat (first|apply Kd.R_alloc|apply Kd.R_drewN|apply Kd.R_drew));exact Kd.R_mono HO_7.out (fun _ hk=>hk.1)⟩,⟨by (with_reducible repeat (first|apply Kd.R_alloc|apply Kd.R_drewN|apply Kd.R_drew));exact Kd.R_mono HO_8.out (fun _ hk=>hk.1)⟩,⟨by (with_reducible repeat (first|refine blk_drewN ?_ _|refine blk_drew ?_|refine blk_alloc ?_ _));exact BK142.out⟩,⟨by repeat (first|(with_reducible first|exact HB.out|apply below_alloc|apply pw_below_drewN|apply below_drew1|refine below_set ?_ GE142.out)|exact HB.out)⟩⟩
    ·rw [if_neg c11] at H
     exact absurd H (by simp)
   ·rw [if_neg c10] at H
    have c10b0:decide (x9_1<(t146.length:Int))=false:=decide_eq_false c10
    clear c10
    by_cases c52:(t146.length:Int)>0
    ·rw [if_pos c52] at H
     have c52b0:decide (0<(t146.length:Int))=true:=decide_eq_true c52
     have c52b1:decide (0<t146.length)=true:=decide_eq_true (by omega)
     clear c52
     by_cases c53:1<(x7_1.length:Int)
     ·rw [if_pos c53] at H
      have c53b0:decide (1<(x7_1.length:Int))=true:=decide_eq_true c53
      have c53b1:decide (1<x7_1.length)=true:=decide_eq_true (by omega)
      clear c53
      obtain ⟨ji54,hji54⟩:∃ j_:Int,(wrap64 ((t146.length:Int) - 1))=j_:=⟨_,rfl⟩
      replace H:(if 0≤(ji54) then (if (ji54)<(t146.length:Int) then (if 0≤(wrap64 ((rd t146 (ji54)) - a2)) then (if (wrap64 ((rd t146 (ji54)) - a2))<(x7_1.length:Int) then ((spec_l08Half.f (wrap64 ((rd x7_1 1)+(rd x7_1 (wrap64 ((rd t146 (ji54)) - a2)))))).bind fun t152=>(if 0<(x7_1.length:Int) then (some (x7_1.set (0:Int).toNat t152)) else (none))) else (none)) else (none)) else (none)) else (none))=some r:=by first|(rw [hji54] at H;exact H)|(simp only [hji54] at H ⊢;exact H)
      have hji54w:(IntKind.i64.wrap ((t146.length:Int) - 1))=ji54:=(i64_w _).trans hji54
      by_cases c55:0≤(ji54)
      ·rw [if_pos c55] at H
       have c55b0:decide (0≤(ji54))=true:=decide_eq_true c55
       clear c55
       by_cases c56:(ji54)<(t146.length:Int)
       ·rw [if_pos c56] at H
        have c56b0:decide ((ji54)<(t146.length:Int))=true:=decide_eq_true c56
        clear c56
        obtain ⟨ji57,hji57⟩:∃ j_:Int,(wrap64 ((rd t146 (ji54)) - a2))=j_:=⟨_,rfl⟩
        replace H:(if 0≤(ji57) then (if (ji57)<(x7_1.length:Int) then ((spec_l08Half.f (wrap64 ((rd x7_1 1)+(rd x7_1 (ji57))))).bind fun t152=>(if 0<(x7_1.length:Int) then (some (x7_1.set (0:Int).toNat t152)) else (none))) else (none)) else (none))=some r:=by first|(rw [hji57] at H;exact H)|(simp only [hji57] at H ⊢;exact H)
        have hji57w:(IntKind.i64.wrap ((rd t146 (ji54)) - a2))=ji57:=(i64_w _).trans hji57
        by_cases c58:0≤(ji57)
        ·rw [if_pos c58] at H
         have c58b0:decide (0≤(ji57))=true:=decide_eq_true c58
         clear c58
         by_cases c59:(ji57)<(x7_1.length:Int)
         ·rw [if_pos c59] at H
          have c59b0:decide ((ji57)<(x7_1.length:Int))=true:=decide_eq_true c59
          clear c59
          replace H:=Option.bind_eq_some_iff.mp H
          obtain ⟨t152,A600,H⟩:=H
          replace H:(if 0<(x7_1.length:Int) then (some (x7_1.set (0:Int).toNat t152)) else (none))=some r:=H
          have A60:=Aside0.mk A600
          clear A600
          by_cases c61:0<(x7_1.length:Int)
          ·rw [if_pos c61] at H
           have c61b0:decide (0<(x7_1.length:Int))=true:=decide_eq_true c61
           have c61b1:decide (0<x7_1.length)=true:=decide_eq_true (by omega)
           clear c61
           obtain ⟨y153,hy153⟩:∃ y_:List Int,y_=(x7_1.set (0:Int).toNat t152):=⟨_,rfl⟩
           replace H:(some y153)=some r:=by first|(rw [hy153];with_reducible exact H)|(have H2_:=(Option.bind_some _ _).symm.trans H;rw [hy153];with_reducible exact H2_)|(have H2_:=(Option.bind_some _ _).symm.trans H;with_reducible exact H2_)|with_reducible exact H|(rw [hy153];exact H)|exact H
           have Ny153:=Aside0.mk hy153
           clear hy153
           obtain rfl:=Option.some.inj H
           obtain ⟨Ao63,co63,eo63⟩:=Kd.R_slice HO_8.out
           subst eo63
           try go_wp2
           have n0_:=Aside0.mk (Kd.R_drew HO_7.out)
           have n1_:=Aside0.mk (Kd.R_drew HO_8.out)
           have n2_:=Aside0.mk (blk_drew BK142.out)
           have n3_:=Aside0.mk (below_drew1 HB.out)
           clear HO_7
           clear HO_8
           clear BK142
           clear HB
           have HO_7:=n0_
           have HO_8:=n1_
           have BK142:=n2_
           have HB:=n3_
           clear n0_ n1_ n2_ n3_
           obtain ⟨Ao65,co65,eo65⟩:=Kd.R_slice HO_7.out
           (first|subst eo65|(injection eo65 with f1_ f2_ f3_;have f4_:=f1_.symm;have f5_:=f3_.symm;clear f1_ f2_ f3_;subst f4_;subst f5_))
           have p149:0≤(1:Int):=(by omega)
           have q149:1<(x7_1.length:Int):=of_decide_eq_true (by first|(with_reducible assumption)|assumption)
           (try (obtain ⟨Aop_,cop_,eop_⟩:=Kd.R_slice HO_7.out;subst eop_))
           obtain ⟨ad149,e149,hx149_0⟩:=Kd.at_int (Kd.R_reads' HO_7.out).2.2 1 p149 q149
           cases e149
           (try simp only [show (1:Int).toNat=1 from rfl,Nat.reduceMul,Nat.reduceEqDiff,Go.Addr.add,↓reduceIte] at hx149_0)
           have qi149:(1<x7_1.length)=True:=eq_true (by omega)
           (try rw [show ((1:Int)).toNat=1 from rfl] at hx149_0)
           replace p149:=eq_true p149
           replace q149:=eq_true q149
           have p150:0≤((ji54):Int):=of_decide_eq_true (by first|(with_reducible assumption)|assumption)
           have q150:(ji54)<(t146.length:Int):=of_decide_eq_true (by first|(with_reducible assumption)|assumption)
           (try (obtain ⟨Aop_,cop_,eop_⟩:=Kd.R_slice HO_8.out;subst eop_))
           obtain ⟨ad150,e150,hx150_0⟩:=Kd.at_int (Kd.R_reads' HO_8.out).2.2 (ji54) p150 q150
           cases e150
           replace p150:=eq_true p150
           replace q150:=eq_true q150
           have p151:0≤((ji57):Int):=of_decide_eq_true (by first|(with_reducible assumption)|assumption)
           have q151:(ji57)<(x7_1.length:Int):=of_decide_eq_true (by first|(with_reducible assumption)|assumption)
           (try (obtain ⟨Aop_,cop_,eop_⟩:=Kd.R_slice HO_7.out;subst eop_))
           obtain ⟨ad151,e151,hx151_0⟩:=Kd.at_int (Kd.R_reads' HO_7.out).2.2 (ji57) p151 q151
           obtain rfl:ad149=ad151:=(by injection e151)
           replace p151:=eq_true p151
           replace q151:=eq_true q151
           refine start_ (n:=19) (S:=fun w'=>w'.cell? ⟨ad149.block,ad149.off+1,none⟩=some (.int .i64 (rd x7_1 1))∧w'.cell? (ad150.add ((ji54)).toNat)=some (.int .i64 (rd t146 (ji54)))∧w'.cell? (ad149.add ((ji57)).toNat)=some (.int .i64 (rd x7_1 (ji57)))) (ds:=[18]) #[false,false,false,false,false,false,false,false,false,false,false,false,false,false,false,false,false,false,false] (by kernel_rfl) rfl rfl ⟨hx149_0,hx150_0,hx151_0⟩ (fun hHeld=>?_);refine with_tabW spec_l08Tidy.tab23 spec_l08Tidy.bits23 (fun HT_ HW_=>?_)
           generalize wr.drew=w64 at HO_7 HO_8 BK142 HB hx149_0 hx150_0 hx151_0 hHeld ⊢
           refine pure_ (i:=0) (N:=some 97) (v:=?_) (a':=?_) (tf 1 18) rfl rfl (any_of HT_.out (by kernel_rfl)) (fun _ _ _ h=>h) (Or.inl ⟨by rfl,?_⟩) ?_ ?_
           rotate_left
           ·intro w'
            go_simp
            with_reducible rfl
           rotate_left
           ·simp only [Act.put,sIB,sc0,scs,i64_w,i32_w]
            rfl
           refine pure_ (i:=1) (N:=some 98) (v:=?_) (a':=?_) (tf 2 17) rfl rfl (any_of HT_.out (by kernel_rfl)) (fun _ _ _ h=>h) (Or.inl ⟨by rfl,?_⟩) ?_ ?_
           rotate_left
           ·intro w'
            go_simp
            with_reducible rfl
           rotate_left
           ·simp only [Act.put,sIB,sc0,scs,i64_w,i32_w]
            rfl
           refine pure_ (i:=2) (N:=some 99) (v:=?_) (a':=?_) (tf 3 16) rfl rfl (any_of HT_.out (by kernel_rfl)) (fun _ _ _ h=>h) (Or.inl ⟨by rfl,?_⟩) ?_ ?_
           rotate_left
           ·intro w'
            go_simp
            with_reducible rfl
           rotate_left
           ·simp only [Act.put,sIB,sc0,scs,i64_w,i32_w]
            rfl
           refine pure_ (i:=4) (N:=some 101) (v:=?_) (a':=?_) #[true,true,true,false,true,false,false,false,false,false,false,false,false,false,false,false,false,false,false] rfl rfl (any_of HT_.out (by kernel_rfl)) (fun _ _ _ h=>h) (Or.inl ⟨by rfl,?_⟩) ?_ ?_
           rotate_left
           ·intro w'
            go_simp
            with_reducible rfl
           rotate_left
           ·simp only [Act.put,sIB,sc0,scs,i64_w,i32_w]
            rfl
           refine pure_ (i:=5) (N:=some 102) (v:=?_) (a':=?_) #[true,true,true,false,true,true,false,false,false,false,false,false,false,false,false,false,false,false,false] rfl rfl (any_of HT_.out (by kernel_rfl)) (fun _ _ _ h=>h) (Or.inl ⟨by rfl,?_⟩) ?_ ?_
           rotate_left
           ·intro w'
            go_simp
            with_reducible rfl
           rotate_left
           ·simp only [Act.put,sIB,sc0,scs,i64_w,i32_w]
            rfl
           refine pure_ (i:=6) (N:=some 103) (v:=?_) (a':=?_) #[true,true,true,false,true,true,true,false,false,false,false,false,false,false,false,false,false,false,false] rfl rfl (any_of HT_.out (by kernel_rfl)) (fun _ _ _ h=>h) (Or.inl ⟨by rfl,?_⟩) ?_ ?_
           rotate_left
           ·intro w'
            go_simp
            with_reducible rfl
           rotate_left
           ·simp only [Act.put,sIB,sc0,scs,i64_w,i32_w]
            rfl
           refine pure_ (i:=7) (N:=some 104) (v:=?_) (a':=?_) #[true,true,true,false,true,true,true,true,false,false,false,false,false,false,false,false,false,false,false] rfl rfl (any_of HT_.out (by kernel_rfl)) (fun _ _ _ h=>h) (Or.inl ⟨by rfl,?_⟩) ?_ ?_
           rotate_left
           ·intro w'
            go_simp
            with_reducible rfl
           rotate_left
           ·simp only [Act.put,sIB,sc0,scs,i64_w,i32_w]
            rfl
           refine pure_ (i:=8) (N:=some 105) (v:=?_) (a':=?_) #[true,true,true,false,true,true,true,true,true,false,false,false,false,false,false,false,false,false,false] rfl rfl (any_of HT_.out (by kernel_rfl)) (fun _ _ _ h=>h) (Or.inl ⟨by rfl,?_⟩) ?_ ?_
           rotate_left
           ·intro w'
            go_simp
            with_reducible rfl
           rotate_left
           ·simp only [Act.put,sIB,sc0,scs,i64_w,i32_w]
            rfl
           refine pure_ (i:=9) (N:=some 106) (v:=?_) (a':=?_) #[true,true,true,false,true,true,true,true,true,true,false,false,false,false,false,false,false,false,false] rfl rfl (any_of HT_.out (by kernel_rfl)) (fun _ _ _ h=>h) (Or.inl ⟨by rfl,?_⟩) ?_ ?_
           rotate_left
           ·intro w'
            go_simp
            with_reducible rfl
           rotate_left
           ·simp only [Act.put,sIB,sc0,scs,i64_w,i32_w]
            rfl
           refine pure_ (i:=11) (N:=some 108) (v:=?_) (a':=?_) #[true,true,true,false,true,true,true,true,true,true,false,true,false,false,false,false,false,false,false] rfl rfl (any_of HT_.out (by kernel_rfl)) (fun _ _ _ h=>h) (Or.inl ⟨by rfl,?_⟩) ?_ ?_
           rotate_left
           ·intro w'
            go_simp
            with_reducible rfl
           rotate_left
           ·simp only [Act.put,sIB,sc0,scs,i64_w,i32_w]
            rfl
           refine take_ (i:=3) (N:=some 100) (v:=?_) (a':=?_) #[true,true,true,true,true,true,true,true,true,true,false,true,false,false,false,false,false,false,false] rfl rfl (take_ofW HT_.out HW_.out (by kernel_rfl)) (fun _ _ _ h=>h) (Or.inl ⟨by rfl,?_⟩) hHeld ?_ ?_
           rotate_left
           ·rintro w' ⟨s0,s1,s2⟩
            go_simp
            with_reducible rfl
           rotate_left
           ·simp only [Act.put,sIB,sc0,scs,i64_w,i32_w]
            rfl
           refine take_ (i:=10) (N:=some 107) (v:=?_) (a':=?_) (tf 12 7) rfl rfl (take_ofW HT_.out HW_.out (by kernel_rfl)) (fun _ _ _ h=>h) (Or.inl ⟨by rfl,?_⟩) hHeld ?_ ?_
           rotate_left
           ·rintro w' ⟨s0,s1,s2⟩
            go_simp
            with_reducible rfl
           rotate_left
           ·simp only [Act.put,sIB,sc0,scs,i64_w,i32_w]
            rfl
           refine pure_ (i:=12) (N:=some 109) (v:=?_) (a':=?_) (tf 13 6) rfl rfl (any_of HT_.out (by kernel_rfl)) (fun _ _ _ h=>h) (Or.inl ⟨by rfl,?_⟩) ?_ ?_
           rotate_left
           ·intro w'
            go_simp
            with_reducible rfl
           rotate_left
           ·simp only [Act.put,sIB,sc0,scs,i64_w,i32_w]
            rfl
           refine pure_ (i:=13) (N:=some 110) (v:=?_) (a':=?_) (tf 14 5) rfl rfl (any_of HT_.out (by kernel_rfl)) (fun _ _ _ h=>h) (Or.inl ⟨by rfl,?_⟩) ?_ ?_
           rotate_left
           ·intro w'
            go_simp
            with_reducible rfl
           rotate_left
           ·simp only [Act.put,sIB,sc0,scs,i64_w,i32_w]
            rfl
           refine take_ (i:=14) (N:=some 111) (v:=?_) (a':=?_) (tf 15 4) rfl rfl (take_ofW HT_.out HW_.out (by kernel_rfl)) (fun _ _ _ h=>h) (Or.inl ⟨by rfl,?_⟩) hHeld ?_ ?_
           rotate_left
           ·rintro w' ⟨s0,s1,s2⟩
            go_simp
            with_reducible rfl
           rotate_left
           ·simp only [Act.put,sIB,sc0,scs,i64_w,i32_w]
            rfl
           refine pure_ (i:=15) (N:=some 112) (v:=?_) (a':=?_) (tf 16 3) rfl rfl (any_of HT_.out (by kernel_rfl)) (fun _ _ _ h=>h) (Or.inl ⟨by rfl,?_⟩) ?_ ?_
           rotate_left
           ·intro w'
            go_simp
            with_reducible rfl
           rotate_left
           ·simp only [Act.put,sIB,sc0,scs,i64_w,i32_w]
            rfl
           refine one_ (i:=16) (N:=some 113) (tf 17 2) rfl rfl (one_of HT_.out (by kernel_rfl)) (by decide) (fun K hK=>?_)
           refine goes_ Try.func41 (by kernel_rfl) rfl #[.int .i64 (wrap64 ((rd x7_1 1)+(rd x7_1 (ji57))))] (by rfl) rfl rfl (by (try simp only [List.map_toArray,List.map_cons,List.map_nil]);first|done|(simp only [hji57];rfl)|rfl|(simp only [List.length_drop,List.length_take];rfl)) ?_
           with_reducible refine (spec_l08Half.calls (wrap64 ((rd x7_1 1)+(rd x7_1 (ji57)))) t152 _ A60.out).mono ?_
           rintro e w' ⟨rfl,⟨nd,rfl⟩⟩
           refine ⟨_,rfl,?_⟩
           have p62:0≤(0:Int):=(by omega)
           have q62:(0:Int)<((x7_1.length:Int):Int):=of_decide_eq_true (by first|(with_reducible assumption)|assumption)
           have qi62:(0<x7_1.length)=True:=eq_true (by omega)
           obtain ⟨go62,co62,eo62,gb62,gl62,cl62,HG62⟩:=Kd.R_form HO_7.out (by omega)
           (first|cases eo62|(injection eo62 with ea_ en_ ec_;(first|subst ea_|(injection ea_ with ea_;subst ea_));subst ec_;clear en_))
           have GB62:=Aside0.mk gb62
           have GG62:=Aside0.mk HG62
           clear gb62 gl62 HG62
           (first|simp only [add_plain] at hx149_0|skip)
           (first|simp only [add_plain] at hx151_0|skip)
           obtain ⟨hx62_0,hf62_0⟩:=Kd.R_celln 0 HO_7.out (0:Int) p62 q62
           (try rw [show ((0:Int)).toNat=0 from rfl] at hx62_0)
           (try simp only [Nat.reduceMul,Nat.zero_mul,Nat.zero_add,Nat.reduceAdd] at hx62_0)
           (try rw [show ((0:Int)).toNat=0 from rfl] at hf62_0)
           (try simp only [Nat.reduceMul,Nat.zero_mul,Nat.zero_add,Nat.reduceAdd] at hf62_0)
           replace p62:=eq_true p62
           replace q62:=eq_true q62
           have HP66:=Kd.R_putn HO_7.out (0:Int) t152
           rw [← Ny153.out] at HP66
           have HQ66:=Aside0.mk HP66
           clear HP66
           refine hK.out _ _ ⟨hHeld.1,hHeld.2.1,hHeld.2.2⟩ (fun hHeld=>?_)
           clear hK K
           refine norm_ (a':=?_) ?_ ?_
           rotate_left
           ·show Act.put _ (some 113) _=_
            simp only [Act.put,sIB,sc0,scs,i64_w,i32_w]
            rfl
           refine pure_ (i:=17) (N:=some 114) (v:=?_) (a':=?_) (tf 18 1) rfl rfl (any_of HT_.out (by kernel_rfl)) (fun _ _ _ h=>h) (Or.inl ⟨by rfl,?_⟩) ?_ ?_
           rotate_left
           ·intro w'
            go_simp
            with_reducible rfl
           rotate_left
           ·simp only [Act.put,sIB,sc0,scs,i64_w,i32_w]
            rfl
           refine last_ (i:=18) (N:=none) #[true,true,true,true,true,true,true,true,true,true,true,true,true,true,true,true,true,true,true] rfl rfl (one_of HT_.out (by kernel_rfl)) (by decide) (fun K hK=>?_)
           refine skip_ (w1:=?_) (by rfl) rfl ?_ ?_
           rotate_left
           ·go_simp
            rfl
           refine hK.out _ _ ?_
           clear hK K
           refine done_ (done_of HT_.out (by kernel_rfl)) ?_
           try go_wp2
           go_ret
           exact ⟨_,by first|rfl|(simp [errW_none,errW_some] <;> rfl)|(simp only [← hji54,← hji57];first|rfl|(simp [errW_none,errW_some] <;> rfl))|(simp [*,errW_none,errW_some] <;> rfl),by (with_reducible repeat (first|apply Kd.R_alloc|apply Kd.R_drewN|apply Kd.R_drew));exact Kd.R_mono HQ66.out (fun _ hk=>trivial),by repeat (first|(with_reducible first|exact HB.out|apply below_alloc|apply pw_below_drewN|apply below_drew1|refine below_set ?_ GB62.out|refine below_set ?_ GE142.out)|exact HB.out)⟩
          ·rw [if_neg c61] at H
           exact absurd H (by simp)
         ·rw [if_neg c59] at H
          exact absurd H (by simp)
        ·rw [if_neg c58] at H
         exact absurd H (by simp)
       ·rw [if_neg c56] at H
        exact absurd H (by simp)
      ·rw [if_neg c55] at H
       exact absurd H (by simp)
     ·rw [if_neg c53] at H
      exact absurd H (by simp)
    ·rw [if_neg c52] at H
     have c52b0:decide (0<(t146.length:Int))=false:=decide_eq_false c52
     have c52b1:decide (0<t146.length)=false:=decide_eq_false (by omega)
     clear c52
     obtain rfl:=Option.some.inj H
     obtain ⟨Ao67,co67,eo67⟩:=Kd.R_slice HO_8.out
     subst eo67
     go_wp2
     go_ret
     exact ⟨_,by first|rfl|(simp [errW_none,errW_some] <;> rfl)|(simp [*,errW_none,errW_some] <;> rfl),by (with_reducible repeat (first|apply Kd.R_alloc|apply Kd.R_drewN|apply Kd.R_drew));exact Kd.R_mono HO_7.out (fun _ hk=>trivial),by repeat (first|(with_reducible first|exact HB.out|apply below_alloc|apply pw_below_drewN|apply below_drew1|refine below_set ?_ GE142.out)|exact HB.out)⟩
end Go.Proofs.Ytimfbpmaepmdoaa.QFnDrawings
