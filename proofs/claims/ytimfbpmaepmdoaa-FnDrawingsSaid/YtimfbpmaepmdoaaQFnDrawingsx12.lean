/- Functions as Lean functions, with their contracts: written by a program of this claim over the translation; some contracts are proved by hand. -/
import Derived.Test.YtimfbpmaepmdoaaQFnDrawingsx0
import Derived.Test.YtimfbpmaepmdoaaQFnDrawingsx1
import Derived.Test.YtimfbpmaepmdoaaQFnDrawingsx4
import Derived.Test.YtimfbpmaepmdoaaQFnDrawingsx6
import Derived.Test.YtimfbpmaepmdoaaQFnDrawingsx8
import Derived.Test.YtimfbpmaepmdoaaQFnDrawingsx9
import Derived.Test.YtimfbpmaepmdoaaQFnDrawingsx11
namespace Go.Proofs.Ytimfbpmaepmdoaa.QFnDrawings
open Go.RowKit Go.Proofs.Ytimfbpmaepmdoaa.Gl Go.Proofs.Ytimfbpmaepmdoaa.Sz Go.Proofs.YtimfbpmaepmdoaaW.PrintWords Go.Proofs.YtimfbpmaepmdoaaW.PrintLast Go.Proofs.YtimfbpmaepmdoaaW.PrintMore
attribute [local go_sem] max2_int min2_int max_two min_two max_three min_three max_four min_four   -- for this text's walks alone
set_option linter.unusedVariables false
set_option linter.unusedSimpArgs false
theorem q12_0 {P:Prop} (h:P:=by repeat (first|(with_reducible first|exact HBW.out|apply below_alloc|apply pw_below_drewN|apply below_drew1|refine below_set ?_ av.out)|exact HBW.out)):P:=h
theorem q12_1 {P:Prop} (h:P:=by repeat (first|(with_reducible first|exact HB.out|apply below_alloc|apply pw_below_drewN|apply below_drew1|refine below_set ?_ (IsS79.ge aq.out)|refine below_set ?_ (Aside0.out (by with_reducible assumption)))|exact HB.out)):P:=h
theorem q12_2 {P:Prop} (h:P:=by first|(with_reducible assumption)|assumption):P:=h
theorem q12_3 {P:Prop} (h:P:=by first|rfl|(simp;done)|(simp [*];done)):P:=h
theorem q12_4 {P:Prop} (h:P:=by repeat (first|exact Drawn0.refl _|apply Drawn0.step)):P:=h
theorem q12_5 {P:Prop} (h:P:=by rw [hg];exact (below_size (by repeat (first|(with_reducible first|exact HBW.out|apply below_alloc|apply pw_below_drewN|apply below_drew1)|exact HBW.out)))):P:=h
theorem q12_6 {P:Prop} (h:P:=by first|exact Kd.R_nil _ _ _ _ _|exact Kd.N_nil _ _ _ _ _|exact Kd.V_nil _ _ _ _ _|exact Kd.Q_nil _ _ _ _ _|exact Kd.S_nil _ _ _ _ _):P:=h
set_option maxHeartbeats 8000000
set_option maxRecDepth 100000
def spec_l01From.l0:Nat→List Int→Int→List Int→Int→Int→Option (List Int × Int × Int)
 | 0,_,_,_,_,_=>none
 | k+1,x0,x4,x523000,x523001,x523002=>if x4<(x0.length:Int) then (if x4<4096 then (if 0≤x4 then (spec_l01From.l0 k x0 (wrap64 (x4+1)) x523000 x523001 (IntKind.u64.wrap ((IntKind.u64.wrap ((IntKind.u64.wrap (x523002*1099511628211))+(IntKind.u64.wrap (rd x0 x4))))+233))) else (none)) else (some (x523000,x523001,x523002))) else (some (x523000,x523001,x523002))
def spec_l01From.f (k:Nat) (l0:List Int):Option (List Int × Int × Int):=spec_l01From.l0 k l0 0 l0 0 (IntKind.u64.wrap (13911+(IntKind.u64.wrap (l0.length:Int))))
def spec_l01From.T5:Bool × List (List Nat × List Nat):=(true,[([],[]),([],[]),([1],[1]),([2],[2]),([3],[3]),([4],[4]),([],[]),([],[]),([6,7],[6,7]),([8],[8]),([9],[9]),([5,10],[5,10]),([11],[11]),([0,0,1,2,3,4,5,6,7,8,9,10,11,12],[0]),([13,0,1,2,3,4,5,6,7,8,9,10,11,12],[13]),([14,12,0,1,2,3,4,5,6,7,8,9,10,11,12],[12,14])])
def spec_l01From.B5:List Nat:=[0,0,2,6,14,30,0,0,192,448,960,2046,4094,8191,16383,32767]
theorem spec_l01From.tab5:rtab .any (opsOf Try.f37 5)=spec_l01From.T5:=by kernel_rfl
theorem spec_l01From.bits5:waitsOk spec_l01From.T5.2 spec_l01From.B5=true:=by kernel_rfl
theorem spec_l01From.calls (k:Nat) (A0:Option Addr) (c0:Nat) (l0:List Int) (r1:List Int) (r2:Int) (r3:Int) (w0 w:World) (hB:Below w0.heap.size w0 w) (hr0:Kd.C (Kd.int .u8) w0 A0 l0.length l0) (hc0:l0.length≤c0) (h:spec_l01From.f k l0=some (r1,r2,r3)) :
  Calls Try.prog 37 #[.slice A0 l0.length c0] w fun e w'=>∃ g_:Nat,e=.returned (.pointer (some ⟨g_,0,none⟩))∧IsS79 w0 w' g_ r1 r2 r3∧Below w0.heap.size w0 w'∧Below w.heap.size w w':=by
 have hu79:=Try.underlying79;have HR0:=ak hr0;have HC0:=ak hc0;clear hr0 hc0;have HBW:=ak (Below.refl w.heap.size w);have HW0:=ak hB.size;have HB:=ak hB;clear hB;have H:(spec_l01From.l0 k l0 0 l0 0 (IntKind.u64.wrap (13911+(IntKind.u64.wrap (l0.length:Int)))))=some (r1,r2,r3):=h;clear h;have H':=ak H;clear H
 go_enter Try.func37,Try.ntmps37
 go_wp2_with (first|((with_reducible refine gate_dst (N:=11) rfl ?_);refine bev (N:=11) (cs:=#[.slice A0 l0.length c0,.int .i64 0,.int .u64 (IntKind.u64.wrap (13911+(IntKind.u64.wrap (l0.length:Int))))]) (t:=79) ?_;intro af hg w2 hbox hb;replace HB:=hbs hb;have ab:=ak (hbox);have av:=ak (q12_5:w.heap.size≤af);have aJ:=ak (Nat.le_trans HW0.out (q12_5:w.heap.size≤af):w0.heap.size≤af);replace HBW:=ak (below_step HBW.out hb);clear hb hbox hg))
 go_loopg [4] k (fun kq v4 w'=>∃ (ae:Int) (ah:Int),v4=.int .i64 ae∧Aside0 (spec_l01From.l0 kq l0 ae l0 0 ah=some (r1,r2,r3))∧Aside0 (kq≤k)∧Aside0 (w'.heap[af]?=some (.cells #[(.slice A0 l0.length c0),.int .i64 0,.int .u64 ah] 79 (0,0)))∧Aside0 (Below w0.heap.size w0 w')∧Aside0 (Below w.heap.size w w'))
 case atStart=>exact ⟨(0),(IntKind.u64.wrap (13911+(IntKind.u64.wrap (l0.length:Int)))),q12_3,H',⟨Nat.le_refl _⟩,⟨pb ab.out⟩,⟨hq⟩,⟨q12_0⟩⟩
 case round =>
  clear H'
  try clear p2
  obtain ⟨ae,ah,rfl,HA,HK1,ab,HB,HBW⟩:=hrel
  cases gk with|zero=>exact absurd HA.out (by simp [spec_l01From.l0])|succ k1=>?_
  have H:=HA.out;clear HA;simp only [spec_l01From.l0] at H;obtain c3|c3:=nem (ae<(l0.length:Int))
  ·rw [if_neg c3] at H;have ax:=df c3;clear c3;simp only [Option.some.injEq,Prod.mk.injEq] at H;obtain ⟨rfl,rfl,rfl⟩:=H;go_wp2
   go_ret
   exact ⟨_,rfl,(show IsS79 w0 _ af l0 0 ah from ⟨_,_,pb ab.out,aJ.out,HR0.out⟩),hq,q12_0⟩
  rw [if_pos c3] at H;have ax:=dt c3;clear c3;obtain c4|c4:=nem (ae<4096)
  ·rw [if_neg c4] at H;have ay:=df c4;clear c4;simp only [Option.some.injEq,Prod.mk.injEq] at H;obtain ⟨rfl,rfl,rfl⟩:=H;go_wp2
   go_ret
   exact ⟨_,rfl,(show IsS79 w0 _ af l0 0 ah from ⟨_,_,pb ab.out,aJ.out,HR0.out⟩),hq,q12_0⟩
  rw [if_pos c4] at H;have ay:=dt c4;clear c4;replace H:=ifs H;obtain ⟨c5,H⟩:=H;have aQ:=dt c5;clear c5;have H':=ak H;clear H
  try go_wp2
  have n0_:=ak (blk_drew ab.out);have n1_:=ak (below_drew1 HB.out);have nW_:=ak (below_drew1 HBW.out);clear HBW;have HBW:=nW_;clear ab HB;have ab:=n0_;have HB:=n1_;clear n0_ n1_;have az:0≤(ae:Int):=od q12_2;have aA:ae<(l0.length:Int):=od q12_2;obtain ⟨aB,aR,aw⟩:=Kd.at_int HR0.out ae az aA;have hw523_0:=aw;cases aR;replace aw:=pw_cell_below HB.out aw;replace az:=eq_true az;replace aA:=eq_true aA
  refine start_ (n:=16) (S:=fun w'=>w'.cell? ⟨af,0,none⟩=some (.slice (some aB) l0.length c0)∧w'.cell? ⟨af,1,none⟩=some (.int .i64 0)∧w'.cell? ⟨af,2,none⟩=some (.int .u64 ah)∧w'.cell? (aB.add (ae).toNat)=some (.int .u8 (rd l0 ae))) (ds:=[15]) #[false,false,false,false,false,false,false,false,false,false,false,false,false,false,false,false] kr rfl rfl ⟨(blk_cell ab.out 0).trans rfl,(blk_cell ab.out 1).trans rfl,(blk_cell ab.out 2).trans rfl,((HB.out.cell (World.block_lt_of_cell? w0 _ hw523_0)).trans hw523_0)⟩ (fun hHeld=>?_);refine with_tabW spec_l01From.tab5 spec_l01From.bits5 (fun HT_ HW_=>?_)
  generalize wr.drew=w6 at ab HB HBW aw hHeld ⊢
  refine pur (i:=0) (N:=some 22) (v:=?_) (a':=?_) (tf 1 15) rfl (Or.inl ⟨by rfl,?_⟩) ?_ ?_
  rotate_left
  ·intro w'
   go_simp
   with_reducible rfl
  rotate_left
  ·simp only [Act.put,sIB,sc0,scs,i64_w,i32_w]
   rfl
  refine pur (i:=1) (N:=some 23) (v:=?_) (a':=?_) (tf 2 14) rfl (Or.inl ⟨by rfl,?_⟩) ?_ ?_
  rotate_left
  ·intro w'
   go_simp
   with_reducible rfl
  rotate_left
  ·simp only [Act.put,sIB,sc0,scs,i64_w,i32_w]
   rfl
  refine pur (i:=2) (N:=some 24) (v:=?_) (a':=?_) (tf 3 13) rfl (Or.inl ⟨by rfl,?_⟩) ?_ ?_
  rotate_left
  ·intro w'
   go_simp
   with_reducible rfl
  rotate_left
  ·simp only [Act.put,sIB,sc0,scs,i64_w,i32_w]
   rfl
  refine pur (i:=3) (N:=some 25) (v:=?_) (a':=?_) (tf 4 12) rfl (Or.inl ⟨by rfl,?_⟩) ?_ ?_
  rotate_left
  ·intro w'
   go_simp
   with_reducible rfl
  rotate_left
  ·simp only [Act.put,sIB,sc0,scs,i64_w,i32_w]
   rfl
  refine pur (i:=6) (N:=some 28) (v:=?_) (a':=?_) #[true,true,true,true,false,false,true,false,false,false,false,false,false,false,false,false] rfl (Or.inl ⟨by rfl,?_⟩) ?_ ?_
  rotate_left
  ·intro w'
   go_simp
   with_reducible rfl
  rotate_left
  ·simp only [Act.put,sIB,sc0,scs,i64_w,i32_w]
   rfl
  refine pur (i:=7) (N:=some 29) (v:=?_) (a':=?_) #[true,true,true,true,false,false,true,true,false,false,false,false,false,false,false,false] rfl (Or.inl ⟨by rfl,?_⟩) ?_ ?_
  rotate_left
  ·intro w'
   go_simp
   with_reducible rfl
  rotate_left
  ·simp only [Act.put,sIB,sc0,scs,i64_w,i32_w]
   rfl
  refine pur (i:=8) (N:=some 30) (v:=?_) (a':=?_) #[true,true,true,true,false,false,true,true,true,false,false,false,false,false,false,false] rfl (Or.inl ⟨by rfl,?_⟩) ?_ ?_
  rotate_left
  ·intro w'
   go_simp
   with_reducible rfl
  rotate_left
  ·simp only [Act.put,sIB,sc0,scs,i64_w,i32_w]
   rfl
  refine take_ (i:=4) (N:=some 26) (v:=?_) (a':=?_) #[true,true,true,true,true,false,true,true,true,false,false,false,false,false,false,false] rfl rfl (take_ofW HT_.out HW_.out kr) (fun _ _ _ h=>h) (Or.inl ⟨by rfl,?_⟩) hHeld ?_ ?_
  rotate_left
  ·rintro w' ⟨s0,s1,s2,s3⟩
   go_simp
   with_reducible rfl
  rotate_left
  ·simp only [Act.put,sIB,sc0,scs,i64_w,i32_w]
   rfl
  refine pur (i:=5) (N:=some 27) (v:=?_) (a':=?_) (tf 9 7) rfl (Or.inl ⟨by rfl,?_⟩) ?_ ?_
  rotate_left
  ·intro w'
   go_simp
   with_reducible rfl
  rotate_left
  ·simp only [Act.put,sIB,sc0,scs,i64_w,i32_w]
   rfl
  refine take_ (i:=9) (N:=some 31) (v:=?_) (a':=?_) (tf 10 6) rfl rfl (take_ofW HT_.out HW_.out kr) (fun _ _ _ h=>h) (Or.inl ⟨by rfl,?_⟩) hHeld ?_ ?_
  rotate_left
  ·rintro w' ⟨s0,s1,s2,s3⟩
   go_simp
   with_reducible rfl
  rotate_left
  ·simp only [Act.put,sIB,sc0,scs,i64_w,i32_w]
   rfl
  refine pur (i:=10) (N:=some 32) (v:=?_) (a':=?_) (tf 11 5) rfl (Or.inl ⟨by rfl,?_⟩) ?_ ?_
  rotate_left
  ·intro w'
   go_simp
   with_reducible rfl
  rotate_left
  ·simp only [Act.put,sIB,sc0,scs,i64_w,i32_w]
   rfl
  refine pur (i:=11) (N:=some 33) (v:=?_) (a':=?_) (tf 12 4) rfl (Or.inl ⟨by rfl,?_⟩) ?_ ?_
  rotate_left
  ·intro w'
   go_simp
   with_reducible rfl
  rotate_left
  ·simp only [Act.put,sIB,sc0,scs,i64_w,i32_w]
   rfl
  refine pur (i:=12) (N:=some 34) (v:=?_) (a':=?_) (tf 13 3) rfl (Or.inl ⟨by rfl,?_⟩) ?_ ?_
  rotate_left
  ·intro w'
   go_simp
   with_reducible rfl
  rotate_left
  ·simp only [Act.put,sIB,sc0,scs,i64_w,i32_w]
   rfl
  refine pur (i:=13) (N:=some 35) (v:=?_) (a':=?_) (tf 14 2) rfl (Or.inl ⟨by rfl,?_⟩) ?_ ?_
  rotate_left
  ·intro w'
   go_simp
   with_reducible rfl
  rotate_left
  ·simp only [Act.put,sIB,sc0,scs,i64_w,i32_w]
   rfl
  refine pur (i:=14) (N:=some 36) (v:=?_) (a':=?_) (tf 15 1) rfl (Or.inl ⟨by rfl,?_⟩) ?_ ?_
  rotate_left
  ·intro w'
   go_simp
   with_reducible rfl
  rotate_left
  ·simp only [Act.put,sIB,sc0,scs,i64_w,i32_w]
   rfl
  refine last_ (i:=15) (N:=none) #[true,true,true,true,true,true,true,true,true,true,true,true,true,true,true,true] rfl rfl (one_of HT_.out kr) dc (fun K hK=>?_)
  have hs7:w6.cell? ⟨af,2,none⟩=some (.int .u64 ah):=(blk_cell ab.out 2).trans rfl;have hfs7:=blk_frozen ab.out 2
  refine skip_ (w1:=?_) (by rfl) rfl ?_ ?_
  rotate_left
  ·go_simp
   rfl
  refine hK.out _ _ ?_
  clear hK K
  refine done_ (done_of HT_.out kr) ?_
  try go_wp2
  go_roundg k1
  case measure=>have:=HK1.out;omega
  case rel=>exact ⟨(wrap64 (ae+1)),(IntKind.u64.wrap ((IntKind.u64.wrap ((IntKind.u64.wrap (ah*1099511628211))+(IntKind.u64.wrap (rd l0 ae))))+233)),q12_3,H',⟨by have:=HK1.out;omega⟩,⟨by (with_reducible repeat (first|refine blk_drewN ?_ _|refine blk_drew ?_|refine blk_alloc ?_ _));refine blk_put (cs:=#[.slice (some aB) l0.length c0,.int .i64 0,.int .u64 ah]) ?_ 2 _ rfl;exact pb ab.out⟩,⟨hq⟩,⟨q12_0⟩⟩
def spec_DrawTidyColumns.f (k:Nat) (l0:List Int):Option (List Int):=(spec_l01From.f k l0).bind fun bt525=>((spec_l01Spoil.f k bt525.1 bt525.2.1 bt525.2.2).bind fun bt529=>(some bt529.1))
theorem spec_DrawTidyColumns.calls (k:Nat) (A0:Option Addr) (c0:Nat) (l0:List Int) (r:List Int) (w:World) (hr0:Kd.C (Kd.int .u8) w A0 l0.length l0) (hc0:l0.length≤c0) (h:spec_DrawTidyColumns.f k l0=some r) :
  Calls Try.prog 11 #[.slice A0 l0.length c0] w fun e w'=>∃ v0_:Value,e=.returned (.agg #[v0_])∧Kd.R (Kd.int .i64) 2 w' w.heap.size (fun _=>True) v0_ r∧Below w.heap.size w w':=by
 have hu28:=Try.underlying28;have HR0:=ak hr0;have HC0:=ak hc0;clear hr0 hc0;have HB:=ak (Below.refl w.heap.size w);have H:((spec_l01From.f k l0).bind fun aC=>((spec_l01Spoil.f k aC.1 aC.2.1 aC.2.2).bind fun aS=>(some aS.1)))=some r:=h;clear h;replace H:=bs H;obtain ⟨⟨aK,aL,aM⟩,A2,H⟩:=H;(try dsimp only at H);replace H:=bs H;obtain ⟨⟨aD,aT,aU⟩,A3,H⟩:=H;(try dsimp only at H);obtain rfl:=Option.some.inj H
 go_enter Try.func11,Try.ntmps11
 go_wp2_with (first|((with_reducible refine gate_dst (N:=2) rfl ?_);refine bev (N:=2) (cs:=#[.slice none 0 0]) (t:=28) ?_;intro aE hg w4 hbox hb;have ag:=ak (hbox);have bo:=gbe hg;have bp:=gbe hg;replace HB:=hbs hb;clear hb hbox hg)|((with_reducible refine gate_callee (f:=37) rfl ?_);refine gl (some 4) Try.func37 #[.slice A0 l0.length c0] ?_;(with_reducible refine (spec_l01From.calls k _ _ l0 aK aL aM w _ ?side1 HR0.out HC0.out A2.out).mono ?_);(case side1=>exact hq);rintro e w5 ⟨aN,rfl,hi,hb,hb2⟩;refine ⟨_,rfl,?_⟩;replace HB:=ak (hb);have aq:=ak (hi);have aV:=ak (IsS79.ne_blk hi (blk_below (pb ag.out) hb2) dc);have aO:=ak (Ne.symm (IsS79.ne_blk hi (blk_below (pb ag.out) hb2) dc));replace ag:=ak (blk_below (pb ag.out) hb2);(try clear hb hb2 hi))|((with_reducible refine gate_callee (f:=36) rfl ?_);refine gl (some 5) Try.func36 #[.pointer (some ⟨aN,0,none⟩)] ?_;(with_reducible refine (spec_l01Spoil.calls k aN aK aL aM aD aT aU w _ ?side1 ?side2 A3.out).mono ?_);(case side1=>exact (by repeat (first|(with_reducible first|exact aq.out|apply IsS79.alloc|apply IsS79.drewN|apply IsS79.drew|apply IsS79.set_1|apply IsS79.set_2|refine IsS79.far ?_ (Aside0.out (by with_reducible assumption)) _)|exact aq.out)));(case side2=>exact q12_1);rintro e w6 ⟨bq,rfl,ho0,hi,hb,hk⟩;refine ⟨_,rfl,?_⟩;replace ag:=ak (KeepBut.blk hk (g':=aE) (o:=.cells #[.slice none 0 0] 28 (0,0)) (pb ag.out) aO.out (by simp));have aP:=ak (Kd.R_lower ho0 (below_size q12_1));replace HB:=ak (hb);replace aq:=ak (hi);(try clear hb);(try clear hb2);(try clear hk);(try clear hi);(try clear ho0);obtain ⟨Ao7,co7,eo7⟩:=Kd.R_slice aP.out;subst eo7;have br:=aO.out;have bu:=aV.out;have bv:=bc ag.out;have bw:=blk_frozen ag.out 0))
 refine bodyPost_ret (results_cell_row rfl _ _ aE 28 #[.slice Ao7 aD.length co7] (0,0) _ rfl (by (with_reducible repeat (first|refine blk_drewN ?_ _|refine blk_drew ?_|refine blk_alloc ?_ _));refine blk_put (cs:=#[.slice none 0 0]) ?_ 0 _ rfl;exact pb ag.out) Try.underlying28 rfl kr) rfl ?_
 exact ⟨_,ew,pe (Kd.R_mono (Kd.R_far (p:=⟨aE,0,none⟩) (Kd.R_types aP.out ag.out dc) (fun _ hk=>hk.2) (.slice Ao7 aD.length co7)) (fun _ hk=>trivial)),q12_1⟩
def impl_TidyColumns.f (k:Nat) (l0_0:List Int):Option (List Int × Int):=(impl_IsTree.f k l0_0).bind fun t535=>(if t535=true then ((impl_tidy.f k l0_0).bind fun t536=>(some (t536,0))) else (some (([]:List Int),1)))
theorem impl_TidyColumns.calls (k:Nat) (A0_0:Option Addr) (c0_0:Nat) (l0_0:List Int) (r1:List Int) (r2:Int) (w:World) (hr0_0:Kd.C (Kd.int .i64) w A0_0 l0_0.length l0_0) (hc0_0:l0_0.length≤c0_0) (h:impl_TidyColumns.f k l0_0=some (r1,r2)) :
  Calls Try.prog 12 #[.agg #[.slice A0_0 l0_0.length c0_0]] w fun e w'=>∃ v0_:Value,e=.returned (.tuple #[v0_,.int .i64 r2])∧Kd.R (Kd.int .i64) 2 w' w.heap.size (fun _=>True) v0_ r1∧Below w.heap.size w w':=by
 have hu28:=Try.underlying28;have ai:=ak hr0_0;have aj:=ak hc0_0;clear hr0_0 hc0_0;have HB:=ak (Below.refl w.heap.size w);have H:((impl_IsTree.f k l0_0).bind fun aF=>(if aF=true then ((impl_tidy.f k l0_0).bind fun ar=>(some (ar,0))) else (some (([]:List Int),1))))=some (r1,r2):=h;clear h;replace H:=bs H;obtain ⟨aF,A2,H⟩:=H;(try dsimp only at H);obtain c3|c3:=nem (aF=true)
 ·replace c3:=Bool.eq_false_iff.mpr c3;subst c3;have H1:(some (([]:List Int),1))=some (r1,r2):=by rw [if_neg (show ¬ (false=true) by decide)] at H;exact H
  clear H;have H:=H1;clear H1;simp only [Option.some.injEq,Prod.mk.injEq] at H;obtain ⟨rfl,rfl⟩:=H
  go_enter Try.func12,Try.ntmps12
  go_wp2_with (first|((with_reducible refine gate_dst (N:=1) rfl ?_);refine bev (N:=1) (cs:=#[.slice A0_0 l0_0.length c0_0]) (t:=28) ?_;intro aW hg w10 hbox hb;have ac:=ak (hbox);have aX:=gbe hg;have aY:=gbe hg;replace HB:=hbs hb;clear hb hbox hg;have aZ:=bc ac.out;have a2:=blk_frozen ac.out 0)|((with_reducible refine gate_callee (f:=29) rfl ?_);refine gl (some 5) Try.func29 #[.agg #[.slice A0_0 l0_0.length c0_0]] ?_;(with_reducible refine (impl_IsTree.calls k _ _ l0_0 false _ (pc (Kd.C_below ai.out HB.out)) aj.out A2.out).mono ?_);rintro e w12 ⟨rfl,hb⟩;refine ⟨_,rfl,?_⟩;replace ac:=bb ac hb;replace HB:=hbs hb;(try clear hb)))
  go_ret2
  exact ⟨_,ew,q12_6,hq⟩
 subst c3;replace H:((impl_tidy.f k l0_0).bind fun ar=>(some (ar,0)))=some (r1,r2):=by rw [if_pos rfl] at H;exact H
 replace H:=bs H;obtain ⟨ar,A4,H⟩:=H;(try dsimp only at H);simp only [Option.some.injEq,Prod.mk.injEq] at H;obtain ⟨rfl,rfl⟩:=H
 go_enter Try.func12,Try.ntmps12
 go_wp2_with (first|((with_reducible refine gate_dst (N:=1) rfl ?_);refine bev (N:=1) (cs:=#[.slice A0_0 l0_0.length c0_0]) (t:=28) ?_;intro aW hg w5 hbox hb;have ac:=ak (hbox);have aX:=gbe hg;have aY:=gbe hg;replace HB:=hbs hb;clear hb hbox hg;have a3:=bc ac.out;have a4:=blk_frozen ac.out 0)|((with_reducible refine gate_callee (f:=29) rfl ?_);refine gl (some 5) Try.func29 #[.agg #[.slice A0_0 l0_0.length c0_0]] ?_;(with_reducible refine (impl_IsTree.calls k _ _ l0_0 true _ (pc (Kd.C_below ai.out HB.out)) aj.out A2.out).mono ?_);rintro e w7 ⟨rfl,hb⟩;refine ⟨_,rfl,?_⟩;replace ac:=bb ac hb;replace HB:=hbs hb;(try clear hb);(try clear hb2);(try clear hk);(try clear hi);have a5:=bc ac.out;have a6:=blk_frozen ac.out 0)|((with_reducible refine gate_callee (f:=30) rfl ?_);refine gl (some 9) Try.func30 #[.slice A0_0 l0_0.length c0_0] ?_;(with_reducible refine (impl_tidy.calls k _ _ l0_0 ar _ (pc (Kd.C_below ai.out HB.out)) aj.out A4.out).mono ?_);rintro e w9 ⟨bx,rfl,ho0,hb⟩;refine ⟨_,rfl,?_⟩;have a7:=lw ho0;replace ac:=bb ac hb;replace HB:=hbs hb;(try clear hb ho0)))
 go_ret2
 exact ⟨_,ew,pe a7.out,hq⟩
def spec_TidyColumns.f (k:Nat) (l0_0:List Int):Option (List Int × Int):=(spec_l01Is.f k l0_0).bind fun t540=>(if t540=true then ((spec_l08Columns.f k l0_0).bind fun t541=>(some (t541,0))) else (some (([]:List Int),1)))
theorem spec_TidyColumns.calls (k:Nat) (A0_0:Option Addr) (c0_0:Nat) (l0_0:List Int) (r1:List Int) (r2:Int) (w:World) (hr0_0:Kd.C (Kd.int .i64) w A0_0 l0_0.length l0_0) (hc0_0:l0_0.length≤c0_0) (h:spec_TidyColumns.f k l0_0=some (r1,r2)) :
  Calls Try.prog 13 #[.agg #[.slice A0_0 l0_0.length c0_0]] w fun e w'=>∃ v0_:Value,e=.returned (.tuple #[v0_,.int .i64 r2])∧Kd.R (Kd.int .i64) 2 w' w.heap.size (fun _=>True) v0_ r1∧Below w.heap.size w w':=by
 have hu28:=Try.underlying28;have ai:=ak hr0_0;have aj:=ak hc0_0;clear hr0_0 hc0_0;have HB:=ak (Below.refl w.heap.size w);have H:((spec_l01Is.f k l0_0).bind fun aG=>(if aG=true then ((spec_l08Columns.f k l0_0).bind fun au=>(some (au,0))) else (some (([]:List Int),1))))=some (r1,r2):=h;clear h;replace H:=bs H;obtain ⟨aG,A2,H⟩:=H;(try dsimp only at H);obtain c3|c3:=nem (aG=true)
 ·replace c3:=Bool.eq_false_iff.mpr c3;subst c3;have H1:(some (([]:List Int),1))=some (r1,r2):=by rw [if_neg (show ¬ (false=true) by decide)] at H;exact H
  clear H;have H:=H1;clear H1;simp only [Option.some.injEq,Prod.mk.injEq] at H;obtain ⟨rfl,rfl⟩:=H
  go_enter Try.func13,Try.ntmps13
  go_wp2_with (first|((with_reducible refine gate_dst (N:=1) rfl ?_);refine bev (N:=1) (cs:=#[.slice A0_0 l0_0.length c0_0]) (t:=28) ?_;intro a8 hg w10 hbox hb;have ad:=ak (hbox);have a9:=gbe hg;have ba:=gbe hg;replace HB:=hbs hb;clear hb hbox hg;have aZ:=bc ad.out;have a2:=blk_frozen ad.out 0)|((with_reducible refine gate_callee (f:=24) rfl ?_);refine gl (some 5) Try.func24 #[.agg #[.slice A0_0 l0_0.length c0_0]] ?_;(with_reducible refine (spec_l01Is.calls k _ _ l0_0 false _ (pc (Kd.C_below ai.out HB.out)) aj.out A2.out).mono ?_);rintro e w12 ⟨rfl,hb⟩;refine ⟨_,rfl,?_⟩;replace ad:=bb ad hb;replace HB:=hbs hb;(try clear hb)))
  go_ret2
  exact ⟨_,ew,q12_6,hq⟩
 subst c3;replace H:((spec_l08Columns.f k l0_0).bind fun au=>(some (au,0)))=some (r1,r2):=by rw [if_pos rfl] at H;exact H
 replace H:=bs H;obtain ⟨au,A4,H⟩:=H;(try dsimp only at H);simp only [Option.some.injEq,Prod.mk.injEq] at H;obtain ⟨rfl,rfl⟩:=H
 go_enter Try.func13,Try.ntmps13
 go_wp2_with (first|((with_reducible refine gate_dst (N:=1) rfl ?_);refine bev (N:=1) (cs:=#[.slice A0_0 l0_0.length c0_0]) (t:=28) ?_;intro a8 hg w5 hbox hb;have ad:=ak (hbox);have a9:=gbe hg;have ba:=gbe hg;replace HB:=hbs hb;clear hb hbox hg;have a3:=bc ad.out;have a4:=blk_frozen ad.out 0)|((with_reducible refine gate_callee (f:=24) rfl ?_);refine gl (some 5) Try.func24 #[.agg #[.slice A0_0 l0_0.length c0_0]] ?_;(with_reducible refine (spec_l01Is.calls k _ _ l0_0 true _ (pc (Kd.C_below ai.out HB.out)) aj.out A2.out).mono ?_);rintro e w7 ⟨rfl,hb⟩;refine ⟨_,rfl,?_⟩;replace ad:=bb ad hb;replace HB:=hbs hb;(try clear hb);(try clear hb2);(try clear hk);(try clear hi);have a5:=bc ad.out;have a6:=blk_frozen ad.out 0)|((with_reducible refine gate_callee (f:=25) rfl ?_);refine gl (some 8) Try.func25 #[.agg #[.slice A0_0 l0_0.length c0_0]] ?_;(with_reducible refine (spec_l08Columns.calls k _ _ l0_0 au _ (pc (Kd.C_below ai.out HB.out)) aj.out A4.out).mono ?_);rintro e w9 ⟨bz,rfl,ho0,hb⟩;refine ⟨_,rfl,?_⟩;have bd:=lw ho0;replace ad:=bb ad hb;replace HB:=hbs hb;(try clear hb ho0)))
 go_ret2
 exact ⟨_,ew,pe bd.out,hq⟩
def laws_likeInts.l0:Nat→List Int→List Int→Int→Option (Bool)
 | 0,_,_,_=>none
 | k+1,x0,x1,x5=>if x5<(x0.length:Int) then (if 0≤x5 then (if x5<(x1.length:Int) then (if (rd x0 x5)=(rd x1 x5) then (laws_likeInts.l0 k x0 x1 (wrap64 (x5+1))) else (some false)) else (none)) else (none)) else (some true)
def laws_likeInts.f (k:Nat) (l0:List Int) (l1:List Int):Option (Bool):=if (l0.length:Int)=(l1.length:Int) then (laws_likeInts.l0 k l0 l1 0) else (some false)
theorem laws_likeInts.calls (k:Nat) (A0:Option Addr) (c0:Nat) (l0:List Int) (A1:Option Addr) (c1:Nat) (l1:List Int) (r:Bool) (w:World) (hr0:Kd.C (Kd.int .i64) w A0 l0.length l0) (hc0:l0.length≤c0) (hr1:Kd.C (Kd.int .i64) w A1 l1.length l1) (hc1:l1.length≤c1) (h:laws_likeInts.f k l0 l1=some r) :
  Calls Try.prog 14 #[.slice A0 l0.length c0,.slice A1 l1.length c1] w fun e w'=>e=.returned (.bool r)∧Drawn0 w w':=by
 have HR0:=ak hr0;have HC0:=ak hc0;clear hr0 hc0;have HR1:=ak hr1;have HC1:=ak hc1;clear hr1 hc1;have H:(if (l0.length:Int)=(l1.length:Int) then (laws_likeInts.l0 k l0 l1 0) else (some false))=some r:=h;clear h;obtain c3|c3:=nem ((l0.length:Int)=(l1.length:Int))
 ·rw [if_neg c3] at H;have ax:((l0.length:Int) == (l1.length:Int))=false:=beq_eq_false_iff_ne.mpr c3;have bf:((l0.length:Int) != (l1.length:Int))=true:=bne_iff_ne.mpr c3;have bg:(l0.length == l1.length)=false:=by first|simpa using c3|(simp at c3 ⊢;omega)
  obtain rfl:=Option.some.inj H
  go_enter Try.func14,Try.ntmps14
  go_wp2
  repeat (go_quiet (fail);try go_wp2)
  go_ret
  exact ⟨q12_3,q12_4⟩
 rw [if_pos c3] at H;have ax:((l0.length:Int) == (l1.length:Int))=true:=beq_iff_eq.mpr c3;have bf:((l0.length:Int) != (l1.length:Int))=false:=bne_eq_false_iff_eq.mpr c3;have bg:(l0.length == l1.length)=true:=by first|simpa using c3|(simp at c3 ⊢;omega)
 clear c3;have H':=ak H;clear H
 go_enter Try.func14,Try.ntmps14
 go_wp2
 repeat (go_quiet (fail);try go_wp2)
 go_loopg [5] k (fun kq v5 w'=>∃ (aa:Int),v5=.int .i64 aa∧Aside0 (laws_likeInts.l0 kq l0 l1 aa=some r)∧Aside0 (kq≤k)∧Drawn0 w w')
 case atStart=>exact ⟨(0),q12_3,H',⟨Nat.le_refl _⟩,q12_4⟩
 case round =>
  clear H';obtain ⟨aa,rfl,HA,HK1,⟨m1,rfl⟩⟩:=hrel
  cases gk with|zero=>exact absurd HA.out (by simp [laws_likeInts.l0])|succ k1=>?_
  have H:=HA.out;clear HA;simp only [laws_likeInts.l0] at H;obtain c4|c4:=nem (aa<(l0.length:Int))
  ·rw [if_neg c4] at H;have ay:=df c4;clear c4;obtain rfl:=Option.some.inj H;go_wp2
   repeat (go_quiet (fail);try go_wp2)
   go_ret
   exact ⟨q12_3,q12_4⟩
  rw [if_pos c4] at H;have ay:=dt c4;clear c4;replace H:=ifs H;obtain ⟨c5,H⟩:=H;have aQ:=dt c5;clear c5;replace H:=ifs H;obtain ⟨c6,H⟩:=H;have bA:=dt c6;clear c6;obtain c7|c7:=nem ((rd l0 aa)=(rd l1 aa))
  ·rw [if_neg c7] at H;have bh:((rd l0 aa) == (rd l1 aa))=false:=beq_eq_false_iff_ne.mpr c7;have bi:((rd l0 aa) != (rd l1 aa))=true:=bne_iff_ne.mpr c7;obtain rfl:=Option.some.inj H;have al:0≤(aa:Int):=od q12_2;have an:aa<(l0.length:Int):=od q12_2;obtain ⟨bj,aH,bk⟩:=Kd.at_int HR0.out aa al an;cases aH;replace al:=eq_true al;replace an:=eq_true an;have ao:0≤(aa:Int):=od q12_2;have ap:aa<(l1.length:Int):=od q12_2;obtain ⟨bl,aI,bm⟩:=Kd.at_int HR1.out aa ao ap;cases aI;replace ao:=eq_true ao;replace ap:=eq_true ap;go_wp2
   repeat (go_quiet (fail);try go_wp2)
   go_ret
   exact ⟨q12_3,q12_4⟩
  rw [if_pos c7] at H;have bh:((rd l0 aa) == (rd l1 aa))=true:=beq_iff_eq.mpr c7;have bi:((rd l0 aa) != (rd l1 aa))=false:=bne_eq_false_iff_eq.mpr c7;clear c7;have H':=ak H;clear H;have al:0≤(aa:Int):=od q12_2;have an:aa<(l0.length:Int):=od q12_2;obtain ⟨bj,aH,bk⟩:=Kd.at_int HR0.out aa al an;cases aH;replace al:=eq_true al;replace an:=eq_true an;have ao:0≤(aa:Int):=od q12_2;have ap:aa<(l1.length:Int):=od q12_2;obtain ⟨bl,aI,bm⟩:=Kd.at_int HR1.out aa ao ap;cases aI;replace ao:=eq_true ao;replace ap:=eq_true ap;go_wp2
  repeat (go_quiet (fail);try go_wp2)
  go_roundg k1
  case measure=>have:=HK1.out;omega
  case rel=>exact ⟨(wrap64 (aa+1)),q12_3,H',⟨by have:=HK1.out;omega⟩,q12_4⟩
end Go.Proofs.Ytimfbpmaepmdoaa.QFnDrawings
