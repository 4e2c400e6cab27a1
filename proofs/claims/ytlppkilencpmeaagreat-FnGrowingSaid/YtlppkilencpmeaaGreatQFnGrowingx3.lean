import Derived.Test.YtlppkilencpmeaaGreatQFnGrowingx0
/- Functions as Lean functions, with their contracts: written by a program of this claim over the translation; some contracts are proved by hand. -/
namespace Go.Proofs.YtlppkilencpmeaaGreat.QFnGrowing
open Go.RowKit Go.Proofs.YtlppkilencpmeaaGreat.Gl Go.Proofs.YtlppkilencpmeaaGreat.Sz Go.Proofs.YtlppkilencpmeaaGreatW.PrintWords Go.Proofs.YtlppkilencpmeaaGreatW.PrintLast Go.Proofs.YtlppkilencpmeaaGreatW.PrintMore
attribute [local go_sem] max2_int min2_int max_two min_two max_three min_three max_four min_four   -- for this text's walks alone
set_option linter.unusedVariables false
set_option linter.unusedSimpArgs false
theorem q3_0 {P:Prop} (h:P:=by repeat (first|(with_reducible first|exact HB.out|apply below_alloc|apply pw_below_drewN|apply below_drew1|refine below_set ?_ (IsS90.ge HI0.out))|exact HB.out)):P:=h
theorem q3_1 {P:Prop} (h:P:=by repeat (first|(with_reducible first|exact HI0.out|apply IsS90.alloc|apply IsS90.drewN|apply IsS90.drew|apply IsS90.set_1|apply IsS90.set_2)|exact HI0.out)):P:=h
theorem q3_2 {P:Prop} (h:P:=by repeat (first|(with_reducible first|exact HK.out|apply KeepBut.set_|apply keep_drewN|apply keep_drew|apply keep_alloc)|exact HK.out)):P:=h
theorem q3_3 {P:Prop} (h:P:=by repeat (first|(with_reducible first|exact HBW.out|apply below_alloc|apply pw_below_drewN|apply below_drew1|refine below_set ?_ ai.out)|exact HBW.out)):P:=h
theorem q3_4 {P:Prop} (h:P:=by first|(with_reducible assumption)|assumption):P:=h
theorem q3_5 {P:Prop} (h:P:=by rw [hg];exact (below_size (by repeat (first|(with_reducible first|exact HBW.out|apply below_alloc|apply pw_below_drewN|apply below_drew1)|exact HBW.out)))):P:=h
set_option maxHeartbeats 8000000
set_option maxRecDepth 100000
def IsS90 (w0 W:World) (g:Nat) (f0:List Int) (f1:Int) (f2:Int):Prop:=∃ A0 c0,W.heap[g]?=some (.cells #[.slice A0 f0.length c0,.int .i64 f1,.int .u64 f2] 90 (0,0))∧w0.heap.size≤g∧Kd.C (Kd.int .u8) w0 A0 f0.length f0
theorem IsS90.grown {w0 W:World} {g:Nat} {f0:List Int} {f1:Int} {f2:Int} {W1:World} {row:Option Nat} (h:IsS90 w0 W g f0 f1 f2) (hw:W.grownBy W1 row) (hne:some g≠row):IsS90 w0 W1 g f0 f1 f2:=by
 obtain ⟨A0,c0,hb,hg,hr0⟩:=h
 exact ⟨A0,c0,blk_grown hb hw hne,hg,hr0⟩
theorem IsS90.below {w0 W:World} {g:Nat} {f0:List Int} {f1:Int} {f2:Int} {W1:World} (h:IsS90 w0 W g f0 f1 f2) (hw:Below W.heap.size W W1):IsS90 w0 W1 g f0 f1 f2:=h.grown (grown_of_below hw none) (by simp)
theorem IsS90.drewN {w0 W:World} {g:Nat} {f0:List Int} {f1:Int} {f2:Int} (h:IsS90 w0 W g f0 f1 f2) (m:Nat):IsS90 w0 (W.drewN m) g f0 f1 f2:=h
theorem IsS90.drew {w0 W:World} {g:Nat} {f0:List Int} {f1:Int} {f2:Int} (h:IsS90 w0 W g f0 f1 f2):IsS90 w0 W.drew g f0 f1 f2:=h
theorem IsS90.apart {w0 W:World} {g:Nat} {f0:List Int} {f1:Int} {f2:Int} {α:Type} {d:Kd α} {e:Nat} {base:Nat} {ok:Nat→Prop} {v:Value} {xs:List α} (h:IsS90 w0 W g f0 f1 f2) (ho:d.R e W base ok v xs) (ht:∀ q,q∈e :: d.E→q≠90):d.R e W base (fun k=>ok k∧k≠g) v xs:=by
 obtain ⟨A0,c0,hb,hg,hr0⟩:=h
 exact Kd.R_types ho hb ht
theorem IsS90.own_ne {w0 W:World} {g:Nat} {f0:List Int} {f1:Int} {f2:Int} {α:Type} {d:Kd α} {e:Nat} {base:Nat} {ok:Nat→Prop} {v:Value} {xs:List α} (h:IsS90 w0 W g f0 f1 f2) (ho:d.R e W base ok v xs) (ht:e≠90):some g≠v.ownBlock:=by
 obtain ⟨A0,c0,hb,hg,hr0⟩:=h
 exact Kd.R_ne ho hb ht
theorem IsS90.lt {w0 W:World} {g:Nat} {f0:List Int} {f1:Int} {f2:Int} (h:IsS90 w0 W g f0 f1 f2):g<W.heap.size:=by
 obtain ⟨A0,c0,hb,hg,hr0⟩:=h
 exact blk_lt hb
theorem IsS90.ge {w0 W:World} {g:Nat} {f0:List Int} {f1:Int} {f2:Int} (h:IsS90 w0 W g f0 f1 f2):w0.heap.size≤g:=by
 obtain ⟨A0,c0,hb,hg,hr0⟩:=h
 exact hg
theorem IsS90.ne_blk {w0 W:World} {g:Nat} {f0:List Int} {f1:Int} {f2:Int} {a:Nat} {cs:Array Value} {t:TypeId} {fr:Nat × Nat} (h:IsS90 w0 W g f0 f1 f2) (hb2:W.heap[a]?=some (.cells cs t fr)) (ht:t≠90):g≠a:=by
 obtain ⟨A0,c0,hb,hg,hr0⟩:=h
 rintro rfl
 rw [hb] at hb2
 injection hb2 with hb2
 injection hb2 with _ ht2
 exact ht ht2.symm
theorem IsS90.far {w0 W:World} {g:Nat} {f0:List Int} {f1:Int} {f2:Int} {p:Addr} (h:IsS90 w0 W g f0 f1 f2) (hne:g≠p.block) (u:Value):IsS90 w0 (W.setCell p u) g f0 f1 f2:=by
 obtain ⟨A0,c0,hb,hg,hr0⟩:=h
 exact ⟨A0,c0,blk_far hb hne u,hg,hr0⟩
theorem cellS90_0 {W:World} {g:Nat} {A0:Option Addr} {c0:Nat} {f0:List Int} {f1:Int} {f2:Int} (h:W.heap[g]?=some (.cells #[.slice A0 f0.length c0,.int .i64 f1,.int .u64 f2] 90 (0,0))):W.cell? ⟨g,0,none⟩=some (.slice A0 f0.length c0):=(blk_cell h 0).trans rfl
theorem cellS90_1 {W:World} {g:Nat} {A0:Option Addr} {c0:Nat} {f0:List Int} {f1:Int} {f2:Int} (h:W.heap[g]?=some (.cells #[.slice A0 f0.length c0,.int .i64 f1,.int .u64 f2] 90 (0,0))):W.cell? ⟨g,1,none⟩=some (.int .i64 f1):=(blk_cell h 1).trans rfl
theorem IsS90.set_1 {w0 W:World} {g:Nat} {f0:List Int} {f1:Int} {f2:Int} (h:IsS90 w0 W g f0 f1 f2) (x:Int):IsS90 w0 (W.setCell ⟨g,1,none⟩ (.int .i64 x)) g f0 x f2:=by
 obtain ⟨A0,c0,hb,hg,hr0⟩:=h
 exact ⟨A0,c0,by simpa using blk_set hb 1 (.int .i64 x),hg,hr0⟩
theorem cellS90_2 {W:World} {g:Nat} {A0:Option Addr} {c0:Nat} {f0:List Int} {f1:Int} {f2:Int} (h:W.heap[g]?=some (.cells #[.slice A0 f0.length c0,.int .i64 f1,.int .u64 f2] 90 (0,0))):W.cell? ⟨g,2,none⟩=some (.int .u64 f2):=(blk_cell h 2).trans rfl
theorem IsS90.set_2 {w0 W:World} {g:Nat} {f0:List Int} {f1:Int} {f2:Int} (h:IsS90 w0 W g f0 f1 f2) (x:Int):IsS90 w0 (W.setCell ⟨g,2,none⟩ (.int .u64 x)) g f0 f1 x:=by
 obtain ⟨A0,c0,hb,hg,hr0⟩:=h
 exact ⟨A0,c0,by simpa using blk_set hb 2 (.int .u64 x),hg,hr0⟩
def spec_l01From.l0:Nat→List Int→Int→List Int→Int→Int→Option (List Int × Int × Int)
 | 0,_,_,_,_,_=>none
 | k+1,x0,x4,x153000,x153001,x153002=>if x4<(x0.length:Int) then (if x4<4096 then (if 0≤x4 then (spec_l01From.l0 k x0 (wrap64 (x4+1)) x153000 x153001 (IntKind.u64.wrap ((IntKind.u64.wrap ((IntKind.u64.wrap (x153002*1099511628211))+(IntKind.u64.wrap (rd x0 x4))))+233))) else (none)) else (some (x153000,x153001,x153002))) else (some (x153000,x153001,x153002))
def spec_l01From.f (k:Nat) (l0:List Int):Option (List Int × Int × Int):=spec_l01From.l0 k l0 0 l0 0 (IntKind.u64.wrap (13911+(IntKind.u64.wrap (l0.length:Int))))
def spec_l01From.T5:Bool × List (List Nat × List Nat):=(true,[([],[]),([],[]),([1],[1]),([2],[2]),([3],[3]),([4],[4]),([],[]),([],[]),([6,7],[6,7]),([8],[8]),([9],[9]),([5,10],[5,10]),([11],[11]),([0,0,1,2,3,4,5,6,7,8,9,10,11,12],[0]),([13,0,1,2,3,4,5,6,7,8,9,10,11,12],[13]),([14,12,0,1,2,3,4,5,6,7,8,9,10,11,12],[12,14])])
def spec_l01From.B5:List Nat:=[0,0,2,6,14,30,0,0,192,448,960,2046,4094,8191,16383,32767]
theorem spec_l01From.tab5:rtab .any (opsOf Tryz.f49 5)=spec_l01From.T5:=by kernel_rfl
theorem spec_l01From.bits5:waitsOk spec_l01From.T5.2 spec_l01From.B5=true:=by kernel_rfl
theorem spec_l01From.calls (k:Nat) (A0:Option Addr) (c0:Nat) (l0:List Int) (r1:List Int) (r2:Int) (r3:Int) (w0 w:World) (hB:Below w0.heap.size w0 w) (hr0:Kd.C (Kd.int .u8) w0 A0 l0.length l0) (hc0:l0.length≤c0) (h:spec_l01From.f k l0=some (r1,r2,r3)) :
  Calls Tryz.prog 49 #[.slice A0 l0.length c0] w fun e w'=>∃ g_:Nat,e=.returned (.pointer (some ⟨g_,0,none⟩))∧IsS90 w0 w' g_ r1 r2 r3∧Below w0.heap.size w0 w'∧Below w.heap.size w w':=by
 have hu90:=Tryz.underlying90;have HR0:=ak hr0;have HC0:=ak hc0;clear hr0 hc0;have HBW:=ak (Below.refl w.heap.size w);have HW0:=ak hB.size;have HB:=ak hB;clear hB;have H:(spec_l01From.l0 k l0 0 l0 0 (IntKind.u64.wrap (13911+(IntKind.u64.wrap (l0.length:Int)))))=some (r1,r2,r3):=h;clear h;have H':=ak H;clear H
 go_enter Tryz.func49,Tryz.ntmps49
 go_wp2_with (first|((with_reducible refine gate_dst (N:=11) rfl ?_);refine bev (N:=11) (cs:=#[.slice A0 l0.length c0,.int .i64 0,.int .u64 (IntKind.u64.wrap (13911+(IntKind.u64.wrap (l0.length:Int))))]) (t:=90) ?_;intro ac hg w2 hbox hb;replace HB:=hbs hb;have aa:=ak (hbox);have ai:=ak (q3_5:w.heap.size≤ac);have ay:=ak (Nat.le_trans HW0.out (q3_5:w.heap.size≤ac):w0.heap.size≤ac);replace HBW:=ak (below_step HBW.out hb);clear hb hbox hg))
 go_loopg [4] k (fun kq v4 w'=>∃ (ab:Int) (ae:Int),v4=.int .i64 ab∧Aside0 (spec_l01From.l0 kq l0 ab l0 0 ae=some (r1,r2,r3))∧Aside0 (kq≤k)∧Aside0 (w'.heap[ac]?=some (.cells #[(.slice A0 l0.length c0),.int .i64 0,.int .u64 ae] 90 (0,0)))∧Aside0 (Below w0.heap.size w0 w')∧Aside0 (Below w.heap.size w w'))
 case atStart=>exact ⟨(0),(IntKind.u64.wrap (13911+(IntKind.u64.wrap (l0.length:Int)))),(by first|rfl|(simp;done)|(simp [*];done)),H',⟨Nat.le_refl _⟩,⟨pb aa.out⟩,⟨hq⟩,⟨q3_3⟩⟩
 case round =>
  clear H'
  try clear p2
  obtain ⟨ab,ae,rfl,HA,HK1,aa,HB,HBW⟩:=hrel
  cases gk with|zero=>exact absurd HA.out (by simp [spec_l01From.l0])|succ k1=>?_
  have H:=HA.out;clear HA;simp only [spec_l01From.l0] at H;obtain c3|c3:=nem (ab<(l0.length:Int))
  ·rw [if_neg c3] at H;have ao:=df c3;clear c3;simp only [Option.some.injEq,Prod.mk.injEq] at H;obtain ⟨rfl,rfl,rfl⟩:=H;go_wp2
   go_ret
   exact ⟨_,rfl,(show IsS90 w0 _ ac l0 0 ae from ⟨_,_,pb aa.out,ay.out,HR0.out⟩),hq,q3_3⟩
  rw [if_pos c3] at H;have ao:=dt c3;clear c3;obtain c4|c4:=nem (ab<4096)
  ·rw [if_neg c4] at H;have aj:=df c4;clear c4;simp only [Option.some.injEq,Prod.mk.injEq] at H;obtain ⟨rfl,rfl,rfl⟩:=H;go_wp2
   go_ret
   exact ⟨_,rfl,(show IsS90 w0 _ ac l0 0 ae from ⟨_,_,pb aa.out,ay.out,HR0.out⟩),hq,q3_3⟩
  rw [if_pos c4] at H;have aj:=dt c4;clear c4;replace H:=ifs H;obtain ⟨c5,H⟩:=H;have az:=dt c5;clear c5;have H':=ak H;clear H
  try go_wp2
  have n0_:=ak (blk_drew aa.out);have n1_:=ak (below_drew1 HB.out);have nW_:=ak (below_drew1 HBW.out);clear HBW;have HBW:=nW_;clear aa HB;have aa:=n0_;have HB:=n1_;clear n0_ n1_;have ap:0≤(ab:Int):=od q3_4;have aq:ab<(l0.length:Int):=od q3_4;obtain ⟨ar,aE,al⟩:=Kd.at_int HR0.out ab ap aq;have hw153_0:=al;cases aE;replace al:=pw_cell_below HB.out al;replace ap:=eq_true ap;replace aq:=eq_true aq
  refine start_ (n:=16) (S:=fun w'=>w'.cell? ⟨ac,0,none⟩=some (.slice (some ar) l0.length c0)∧w'.cell? ⟨ac,1,none⟩=some (.int .i64 0)∧w'.cell? ⟨ac,2,none⟩=some (.int .u64 ae)∧w'.cell? (ar.add (ab).toNat)=some (.int .u8 (rd l0 ab))) (ds:=[15]) #[false,false,false,false,false,false,false,false,false,false,false,false,false,false,false,false] kr rfl rfl ⟨(blk_cell aa.out 0).trans rfl,(blk_cell aa.out 1).trans rfl,(blk_cell aa.out 2).trans rfl,((HB.out.cell (World.block_lt_of_cell? w0 _ hw153_0)).trans hw153_0)⟩ (fun hHeld=>?_);refine with_tabW spec_l01From.tab5 spec_l01From.bits5 (fun HT_ HW_=>?_)
  generalize wr.drew=w6 at aa HB HBW al hHeld ⊢
  refine pur (i:=0) (N:=some 22) (v:=?_) (a':=?_) (tf 1 15) rfl (Or.inl ⟨by rfl,?_⟩) ?_ ?_
  rotate_left
  ·intro w'
   go_simp
   with_reducible rfl
  rotate_left
  ·simp only [Act.put,sIB,sc0,scs,i64_w,i32_w]
   rfl
  refine pur (i:=1) (N:=some 23) (v:=?_) (a':=?_) (tf 2 14) rfl (Or.inl ⟨by rfl,?_⟩) ?_ ?_
  rotate_left
  ·intro w'
   go_simp
   with_reducible rfl
  rotate_left
  ·simp only [Act.put,sIB,sc0,scs,i64_w,i32_w]
   rfl
  refine pur (i:=2) (N:=some 24) (v:=?_) (a':=?_) (tf 3 13) rfl (Or.inl ⟨by rfl,?_⟩) ?_ ?_
  rotate_left
  ·intro w'
   go_simp
   with_reducible rfl
  rotate_left
  ·simp only [Act.put,sIB,sc0,scs,i64_w,i32_w]
   rfl
  refine pur (i:=3) (N:=some 25) (v:=?_) (a':=?_) (tf 4 12) rfl (Or.inl ⟨by rfl,?_⟩) ?_ ?_
  rotate_left
  ·intro w'
   go_simp
   with_reducible rfl
  rotate_left
  ·simp only [Act.put,sIB,sc0,scs,i64_w,i32_w]
   rfl
  refine pur (i:=6) (N:=some 28) (v:=?_) (a':=?_) #[true,true,true,true,false,false,true,false,false,false,false,false,false,false,false,false] rfl (Or.inl ⟨by rfl,?_⟩) ?_ ?_
  rotate_left
  ·intro w'
   go_simp
   with_reducible rfl
  rotate_left
  ·simp only [Act.put,sIB,sc0,scs,i64_w,i32_w]
   rfl
  refine pur (i:=7) (N:=some 29) (v:=?_) (a':=?_) #[true,true,true,true,false,false,true,true,false,false,false,false,false,false,false,false] rfl (Or.inl ⟨by rfl,?_⟩) ?_ ?_
  rotate_left
  ·intro w'
   go_simp
   with_reducible rfl
  rotate_left
  ·simp only [Act.put,sIB,sc0,scs,i64_w,i32_w]
   rfl
  refine pur (i:=8) (N:=some 30) (v:=?_) (a':=?_) #[true,true,true,true,false,false,true,true,true,false,false,false,false,false,false,false] rfl (Or.inl ⟨by rfl,?_⟩) ?_ ?_
  rotate_left
  ·intro w'
   go_simp
   with_reducible rfl
  rotate_left
  ·simp only [Act.put,sIB,sc0,scs,i64_w,i32_w]
   rfl
  refine take_ (i:=4) (N:=some 26) (v:=?_) (a':=?_) #[true,true,true,true,true,false,true,true,true,false,false,false,false,false,false,false] rfl rfl (take_ofW HT_.out HW_.out kr) (fun _ _ _ h=>h) (Or.inl ⟨by rfl,?_⟩) hHeld ?_ ?_
  rotate_left
  ·rintro w' ⟨s0,s1,s2,s3⟩
   go_simp
   with_reducible rfl
  rotate_left
  ·simp only [Act.put,sIB,sc0,scs,i64_w,i32_w]
   rfl
  refine pur (i:=5) (N:=some 27) (v:=?_) (a':=?_) (tf 9 7) rfl (Or.inl ⟨by rfl,?_⟩) ?_ ?_
  rotate_left
  ·intro w'
   go_simp
   with_reducible rfl
  rotate_left
  ·simp only [Act.put,sIB,sc0,scs,i64_w,i32_w]
   rfl
  refine take_ (i:=9) (N:=some 31) (v:=?_) (a':=?_) (tf 10 6) rfl rfl (take_ofW HT_.out HW_.out kr) (fun _ _ _ h=>h) (Or.inl ⟨by rfl,?_⟩) hHeld ?_ ?_
  rotate_left
  ·rintro w' ⟨s0,s1,s2,s3⟩
   go_simp
   with_reducible rfl
  rotate_left
  ·simp only [Act.put,sIB,sc0,scs,i64_w,i32_w]
   rfl
  refine pur (i:=10) (N:=some 32) (v:=?_) (a':=?_) (tf 11 5) rfl (Or.inl ⟨by rfl,?_⟩) ?_ ?_
  rotate_left
  ·intro w'
   go_simp
   with_reducible rfl
  rotate_left
  ·simp only [Act.put,sIB,sc0,scs,i64_w,i32_w]
   rfl
  refine pur (i:=11) (N:=some 33) (v:=?_) (a':=?_) (tf 12 4) rfl (Or.inl ⟨by rfl,?_⟩) ?_ ?_
  rotate_left
  ·intro w'
   go_simp
   with_reducible rfl
  rotate_left
  ·simp only [Act.put,sIB,sc0,scs,i64_w,i32_w]
   rfl
  refine pur (i:=12) (N:=some 34) (v:=?_) (a':=?_) (tf 13 3) rfl (Or.inl ⟨by rfl,?_⟩) ?_ ?_
  rotate_left
  ·intro w'
   go_simp
   with_reducible rfl
  rotate_left
  ·simp only [Act.put,sIB,sc0,scs,i64_w,i32_w]
   rfl
  refine pur (i:=13) (N:=some 35) (v:=?_) (a':=?_) (tf 14 2) rfl (Or.inl ⟨by rfl,?_⟩) ?_ ?_
  rotate_left
  ·intro w'
   go_simp
   with_reducible rfl
  rotate_left
  ·simp only [Act.put,sIB,sc0,scs,i64_w,i32_w]
   rfl
  refine pur (i:=14) (N:=some 36) (v:=?_) (a':=?_) (tf 15 1) rfl (Or.inl ⟨by rfl,?_⟩) ?_ ?_
  rotate_left
  ·intro w'
   go_simp
   with_reducible rfl
  rotate_left
  ·simp only [Act.put,sIB,sc0,scs,i64_w,i32_w]
   rfl
  refine last_ (i:=15) (N:=none) #[true,true,true,true,true,true,true,true,true,true,true,true,true,true,true,true] rfl rfl (one_of HT_.out kr) dc (fun K hK=>?_)
  have hs7:w6.cell? ⟨ac,2,none⟩=some (.int .u64 ae):=(blk_cell aa.out 2).trans rfl;have hfs7:=blk_frozen aa.out 2
  refine skip_ (w1:=?_) (by rfl) rfl ?_ ?_
  rotate_left
  ·go_simp
   rfl
  refine hK.out _ _ ?_
  clear hK K
  refine done_ (done_of HT_.out kr) ?_
  try go_wp2
  go_roundg k1
  case measure=>have:=HK1.out;omega
  case rel=>exact ⟨(wrap64 (ab+1)),(IntKind.u64.wrap ((IntKind.u64.wrap ((IntKind.u64.wrap (ae*1099511628211))+(IntKind.u64.wrap (rd l0 ab))))+233)),(by first|rfl|(simp;done)|(simp [*];done)),H',⟨by have:=HK1.out;omega⟩,⟨by (with_reducible repeat (first|refine blk_drewN ?_ _|refine blk_drew ?_|refine blk_alloc ?_ _));refine blk_put (cs:=#[.slice (some ar) l0.length c0,.int .i64 0,.int .u64 ae]) ?_ 2 _ rfl;exact pb aa.out⟩,⟨hq⟩,⟨q3_3⟩⟩
def spec_l01Next.f (s0_0:List Int) (s0_1:Int) (s0_2:Int) (a1:Int):Option (Int × Int × Int):=if a1<1 then (some (0,s0_1,s0_2)) else (if s0_1<(s0_0.length:Int) then (if 0≤s0_1 then (if a1=0 then (none) else (some (Int.tmod (wrap64 ((wrap64 (Go.bits .and .u64 ((IntKind.u64.wrap ((IntKind.u64.wrap (s0_2*6364136223846793005))+1442695040888963407)) / 8589934592) 16777215))+(wrap64 (rd s0_0 s0_1)))) a1,wrap64 (s0_1+1),IntKind.u64.wrap ((IntKind.u64.wrap (s0_2*6364136223846793005))+1442695040888963407)))) else (none)) else (if a1=0 then (none) else (some (Int.tmod (wrap64 (Go.bits .and .u64 ((IntKind.u64.wrap ((IntKind.u64.wrap (s0_2*6364136223846793005))+1442695040888963407)) / 8589934592) 16777215)) a1,s0_1,IntKind.u64.wrap ((IntKind.u64.wrap (s0_2*6364136223846793005))+1442695040888963407)))))
theorem spec_l01Next.calls (g:Nat) (s0_0:List Int) (s0_1:Int) (s0_2:Int) (a1:Int) (r1:Int) (r2:Int) (r3:Int) (w0 w:World) (hI:IsS90 w0 w g s0_0 s0_1 s0_2) (hB:Below w0.heap.size w0 w) (h:spec_l01Next.f s0_0 s0_1 s0_2 a1=some (r1,r2,r3)) :
  Calls Tryz.prog 50 #[.pointer (some ⟨g,0,none⟩),.int .i64 a1] w fun e w'=>e=.returned (.int .i64 r1)∧IsS90 w0 w' g s0_0 r2 r3∧Below w0.heap.size w0 w'∧KeepBut w w' g none:=by
 have HI0:=ak hI;have HK:=ak (KeepBut.refl w g none);have HL:=ak hB.size;clear hI;have HW0:=ak hB.size;have HB:=ak hB;clear hB;have H:(if a1<1 then (some (0,s0_1,s0_2)) else (if s0_1<(s0_0.length:Int) then (if 0≤s0_1 then (if a1=0 then (none) else (some (Int.tmod (wrap64 ((wrap64 (Go.bits .and .u64 ((IntKind.u64.wrap ((IntKind.u64.wrap (s0_2*6364136223846793005))+1442695040888963407)) / 8589934592) 16777215))+(wrap64 (rd s0_0 s0_1)))) a1,wrap64 (s0_1+1),IntKind.u64.wrap ((IntKind.u64.wrap (s0_2*6364136223846793005))+1442695040888963407)))) else (none)) else (if a1=0 then (none) else (some (Int.tmod (wrap64 (Go.bits .and .u64 ((IntKind.u64.wrap ((IntKind.u64.wrap (s0_2*6364136223846793005))+1442695040888963407)) / 8589934592) 16777215)) a1,s0_1,IntKind.u64.wrap ((IntKind.u64.wrap (s0_2*6364136223846793005))+1442695040888963407))))))=some (r1,r2,r3):=h;clear h
 by_cases c3:a1<1
 ·rw [if_pos c3] at H;have ao:=dt c3;clear c3;simp only [Option.some.injEq,Prod.mk.injEq] at H;obtain ⟨rfl,rfl,rfl⟩:=H
  go_enter Tryz.func50,Tryz.ntmps50
  go_wp2
  repeat (go_quiet (fail);try go_wp2)
  go_ret
  exact ⟨ew,q3_1,q3_0,q3_2⟩
 rw [if_neg c3] at H;have ao:=df c3;clear c3;obtain c4|c4:=nem (s0_1<(s0_0.length:Int))
 ·rw [if_neg c4] at H;have aj:=df c4;clear c4
  by_cases c8:a1=0
  ·rw [if_pos c8] at H
   exact absurd H (by simp)
  rw [if_neg c8] at H;have aV:(a1 == 0)=false:=beq_eq_false_iff_ne.mpr c8;have aW:(a1 != 0)=true:=bne_iff_ne.mpr c8;simp only [Option.some.injEq,Prod.mk.injEq] at H;obtain ⟨rfl,rfl,rfl⟩:=H;obtain ⟨ASz9_0,cSz9_0,HGz9,hgz9,HSz9_0⟩:=HI0.out;have aX:=cellS90_0 HGz9;have aY:=cellS90_1 HGz9;have aZ:=cellS90_2 HGz9;have a2:=blk_frozen HGz9 1;have a3:=blk_frozen HGz9 2;clear HGz9 hgz9
  go_enter Tryz.func50,Tryz.ntmps50
  go_wp2
  repeat (go_quiet (fail);try go_wp2)
  go_ret
  exact ⟨ew,q3_1,q3_0,q3_2⟩
 rw [if_pos c4] at H;have aj:=dt c4;clear c4;replace H:=ifs H;obtain ⟨c5,H⟩:=H;have az:=dt c5;clear c5
 by_cases c6:a1=0
 ·rw [if_pos c6] at H
  exact absurd H (by simp)
 rw [if_neg c6] at H;have a4:(a1 == 0)=false:=beq_eq_false_iff_ne.mpr c6;have a5:(a1 != 0)=true:=bne_iff_ne.mpr c6;simp only [Option.some.injEq,Prod.mk.injEq] at H;obtain ⟨rfl,rfl,rfl⟩:=H;obtain ⟨ASz7_0,cSz7_0,HGz7,hgz7,HSz7_0⟩:=HI0.out;have a6:=cellS90_0 HGz7;have a7:=cellS90_1 HGz7;have a8:=cellS90_2 HGz7;have a9:=blk_frozen HGz7 1;have ba:=blk_frozen HGz7 2;clear HGz7 hgz7;have au:0≤(s0_1:Int):=od q3_4;have av:s0_1<(s0_0.length:Int):=od q3_4;obtain ⟨aG,aH,ag⟩:=Kd.at_int HSz7_0 s0_1 au av;cases aH;have hn154_0:aG.block≠g:=Nat.ne_of_lt (Nat.lt_of_lt_of_le (by have:=World.block_lt_of_cell? _ _ ag;first|rwa [add_block] at this|exact this) (IsS90.ge HI0.out));replace ag:=pw_cell_below HB.out ag;replace ag:=(cell_far (p:=⟨g,2,none⟩) (by first|(rw [add_block];exact hn154_0)|(show (Addr.add _ _).block≠_;rw [add_block];exact hn154_0)|exact hn154_0) (.int .u64 (IntKind.u64.wrap ((IntKind.u64.wrap (s0_2*6364136223846793005))+1442695040888963407)))).trans ag;(try have bd:=fun (n_:Nat)=>(show ((w.drewN n_).setCell ⟨g,2,none⟩ (.int .u64 (IntKind.u64.wrap ((IntKind.u64.wrap (s0_2*6364136223846793005))+1442695040888963407)))).cell? _=some _ from ag));clear hn154_0;replace au:=eq_true au;replace av:=eq_true av
 go_enter Tryz.func50,Tryz.ntmps50
 go_wp2
 repeat (go_quiet (fail);try go_wp2)
 go_ret
 exact ⟨ew,q3_1,q3_0,q3_2⟩
def spec_l01Pick.f (s0_0:List Int) (s0_1:Int) (s0_2:Int) (l1:List Int):Option (Int × Int × Int):=(spec_l01Next.f s0_0 s0_1 s0_2 (l1.length:Int)).bind fun bt155=>(if 0≤bt155.1 then (if bt155.1<(l1.length:Int) then (some (rd l1 bt155.1,bt155.2.1,bt155.2.2)) else (none)) else (none))
theorem spec_l01Pick.calls (g:Nat) (s0_0:List Int) (s0_1:Int) (s0_2:Int) (A1:Option Addr) (c1:Nat) (l1:List Int) (r1:Int) (r2:Int) (r3:Int) (w0 w:World) (hI:IsS90 w0 w g s0_0 s0_1 s0_2) (hB:Below w0.heap.size w0 w) (hr1:Kd.C (Kd.int .i64) w A1 l1.length l1) (hc1:l1.length≤c1) (hf1:∀ ad,A1=some ad→0<l1.length→ad.block≠g) (h:spec_l01Pick.f s0_0 s0_1 s0_2 l1=some (r1,r2,r3)) :
  Calls Tryz.prog 51 #[.pointer (some ⟨g,0,none⟩),.slice A1 l1.length c1] w fun e w'=>e=.returned (.int .i64 r1)∧IsS90 w0 w' g s0_0 r2 r3∧Below w0.heap.size w0 w'∧KeepBut w w' g none:=by
 have HR1:=ak hr1;have HC1:=ak hc1;clear hr1 hc1;have HI0:=ak hI;have HK:=ak (KeepBut.refl w g none);have HL:=ak hB.size;clear hI;have HW0:=ak hB.size;have HB:=ak hB;clear hB;have H:((spec_l01Next.f s0_0 s0_1 s0_2 (l1.length:Int)).bind fun ah=>(if 0≤ah.1 then (if ah.1<(l1.length:Int) then (some (rd l1 ah.1,ah.2.1,ah.2.2)) else (none)) else (none)))=some (r1,r2,r3):=h;clear h;replace H:=bs H;obtain ⟨⟨an,aI,aJ⟩,A3,H⟩:=H;(try dsimp only at H);replace H:=ifs H;obtain ⟨c4,H⟩:=H;have aj:=dt c4;clear c4;replace H:=ifs H;obtain ⟨c5,H⟩:=H;have az:=dt c5;clear c5;simp only [Option.some.injEq,Prod.mk.injEq] at H;obtain ⟨rfl,rfl,rfl⟩:=H
 go_enter Tryz.func51,Tryz.ntmps51
 go_wp2_with (first|((with_reducible refine gate_callee (f:=50) rfl ?_);refine gl (some 9) Tryz.func50 #[.pointer (some ⟨g,0,none⟩),.int .i64 (l1.length:Int)] ?_;(with_reducible refine (spec_l01Next.calls g s0_0 s0_1 s0_2 (l1.length:Int) an aI aJ w0 _ ?side1 ?side2 A3.out).mono ?_);(case side1=>exact q3_1);(case side2=>exact q3_0);rintro e w6 ⟨rfl,hi,hb,hk⟩;refine ⟨_,rfl,?_⟩;replace HK:=ak (KeepBut.trans q3_2 hk (.inl rfl));replace HB:=ak (hb);replace HI0:=ak (hi);(try clear hb);(try clear hb2);(try clear hk);(try clear hi);have aw:0≤(an:Int):=od q3_4;have ax:an<(l1.length:Int):=od q3_4;obtain ⟨aK,aM,aA⟩:=Kd.at_int HR1.out an aw ax;cases aM;replace aA:=keep_cell HK.out aA (by first|(rw [add_block];exact hf1 _ rfl (by omega))|exact hf1 _ rfl (by omega)|exact hf1 aK rfl (by omega));replace aw:=eq_true aw;replace ax:=eq_true ax))
 go_ret
 exact ⟨ew,q3_1,q3_0,q3_2⟩
def spec_l01Own.f (l0:List Int):Option (List Int):=(some (([]:List Int):List Int)).bind fun y159=>(if y159.length+l0.length<17592186044416 then (some (y159++l0)) else (none))
theorem spec_l01Own.calls (A0:Option Addr) (c0:Nat) (l0:List Int) (r:List Int) (w:World) (hr0:Kd.C (Kd.int .i64) w A0 l0.length l0) (hc0:l0.length≤c0) (h:spec_l01Own.f l0=some r) :
  Calls Tryz.prog 90 #[.slice A0 l0.length c0] w fun e w'=>∃ v0_:Value,e=.returned (v0_)∧Kd.R (Kd.int .i64) 2 w' w.heap.size (fun _=>True) v0_ r∧Below w.heap.size w w':=by
 have HR0:=ak hr0;have HC0:=ak hc0;clear hr0 hc0;have HB:=ak (Below.refl w.heap.size w);have H:((some (([]:List Int):List Int)).bind fun af=>(if af.length+l0.length<17592186044416 then (some (af++l0)) else (none)))=some r:=h;clear h;obtain ⟨af,hY⟩:∃ y_:List Int,y_=([]:List Int):=⟨_,rfl⟩;replace H:(if af.length+l0.length<17592186044416 then (some (af++l0)) else (none))=some r:=hh;have aC:=ak hY;clear hY;replace H:=ifs H;obtain ⟨c2,H⟩:=H;have aN:=ak c2;clear c2;obtain ⟨aP,hY⟩:∃ y_:List Int,y_=(af++l0):=⟨_,rfl⟩;replace H:(some aP)=some r:=hh;have aQ:=ak hY;clear hY;obtain rfl:=Option.some.inj H
 go_enter Tryz.func90,Tryz.ntmps90
 go_wp2_with (first|((with_reducible refine gate_dst (N:=3) rfl ?_);refine Kd.R_lit (Kd.int .i64) _ 2 ?hg (N:=3) ?hd (xs:=([]:List Int)) (inner:=[]) (ok:=fun _=>True) (okp:=fun _=>True) ?hr ?hp (fun _ hk=>hk) trivial (Below.refl _ _) (Nat.le_refl _) (by simp) ?_;(case hd=>rfl);(case hg=>rfl);(case hr=>exact gs);(case hp=>exact (Reps.none _ _));intro aT w3 ho4 hb hg_ hnew_;clear hg_ hnew_;(first|rw [← aC.out] at ho4|(simp only [Int.reduceToNat] at ho4;rw [← aC.out] at ho4));have aD:=lw ho4;replace HB:=hbs hb;clear hb ho4)|((with_reducible refine gate_builtin (b:=.append) (xs:=#[.tmp 3,.tmp 4]) rfl ?_);at_builtin;refine Kd.R_append_rows (Kd.int .i64) (w0:=w) w.heap.size rfl (.tmp 3) (.tmp 4) 24 2 (.int .i64 0) 8 rfl Tryz.underlying24 info2 rfl dc (by omega) aT af l0 _ _ _ (fun _=>True) (fun _=>False) rfl rfl ?aO ?aR (fun _ _ h=>h) (fun _ h=>h.elim) ?aF ?aB ?aS ?aL ?_;(case aR=>exact pc (Kd.C_below HR0.out HB.out));(case aB=>exact hq);(case aF=>exact (fun _ _=>trivial));(case aO=>exact (pe aD.out));(case aS=>exact (below_size hq));(case aL=>have:=aN.out;omega);intro bf w5 ho hb hg hat;rw [← aQ.out] at ho;replace HB:=ak (hb);have aU:=ak (ho);clear aD;clear ho hb hg hat))
 go_ret
 exact ⟨_,ew,pe aU.out,hq⟩
end Go.Proofs.YtlppkilencpmeaaGreat.QFnGrowing
/- Functions as Lean functions, with their contracts: written by a program of this claim over the translation; some contracts are proved by hand. -/
namespace Go.Proofs.YtlppkilencpmeaaGreat.QFnGrowing
open Go.RowKit Go.Proofs.YtlppkilencpmeaaGreat.Gl Go.Proofs.YtlppkilencpmeaaGreat.Sz Go.Proofs.YtlppkilencpmeaaGreatW.PrintWords Go.Proofs.YtlppkilencpmeaaGreatW.PrintLast Go.Proofs.YtlppkilencpmeaaGreatW.PrintMore
attribute [local go_sem] max2_int min2_int max_two min_two max_three min_three max_four min_four   -- for this text's walks alone
set_option linter.unusedVariables false
set_option linter.unusedSimpArgs false
theorem q4_0 {P:Prop} (h:P:=by repeat (first|(with_reducible first|exact HK.out|apply KeepBut.set_|apply keep_drewN|apply keep_drew|apply keep_alloc)|exact HK.out)):P:=h
theorem q4_1 {P:Prop} (h:P:=by repeat (first|(with_reducible first|exact HI0.out|apply IsS90.alloc|apply IsS90.drewN|apply IsS90.drew|apply IsS90.set_1|apply IsS90.set_2)|exact HI0.out)):P:=h
theorem q4_2 {P:Prop} (h:P:=by repeat (first|(with_reducible first|exact HB.out|apply below_alloc|apply pw_below_drewN|apply below_drew1|refine below_set ?_ (IsS90.ge HI0.out))|exact HB.out)):P:=h
theorem q4_3 {P:Prop} (h:P:=by repeat (first|(with_reducible exact af.out)|(with_reducible refine Kd.C_alloc ?_ _)|(with_reducible refine Kd.C_drewN ?_ _)|(with_reducible refine Kd.C_drew ?_)|exact af.out)):P:=h
theorem q4_4 {P:Prop} (h:P:=by repeat (first|(with_reducible exact aj.out)|(with_reducible refine Kd.C_alloc ?_ _)|(with_reducible refine Kd.C_drewN ?_ _)|(with_reducible refine Kd.C_drew ?_)|exact aj.out)):P:=h
theorem q4_5 {P:Prop} (h:P:=by first|(with_reducible assumption)|assumption):P:=h
theorem q4_6 {P:Prop} (h:P:=by first|rfl|(simp;done)|(simp [*];done)):P:=h
theorem q4_7 {P:Prop} (h:P:=by repeat (first|exact q4_3|(with_reducible refine Kd.C_alloc ?_ _)|(with_reducible refine Kd.C_drewN ?_ _)|(with_reducible refine Kd.C_drew ?_))):P:=h
set_option maxHeartbeats 8000000
set_option maxRecDepth 100000
def spec_l01DrawOrder.l0:Nat→Int→List Int→Int→List Int→Int→Int→Option (List Int × Int × Int)
 | 0,_,_,_,_,_,_=>none
 | k+1,x1,x5,x6,x1000,x1001,x1002=>if x6<x1 then ((spec_l01Next.f x1000 x1001 x1002 (wrap64 (x6+1))).bind fun bt168=>(if 0≤bt168.1 then (if bt168.1≤(x5.length:Int) then ((spec_l01Own.f (x5.take (bt168.1:Int).toNat)).bind fun t175=>((some (([x6]:List Int):List Int)).bind fun y178=>(if t175.length+y178.length<17592186044416 then ((some (t175++y178:List Int)).bind fun y181=>((some (x5.drop (bt168.1:Int).toNat:List Int)).bind fun y184=>(if y181.length+y184.length<17592186044416 then (spec_l01DrawOrder.l0 k x1 (y181++y184) (wrap64 (x6+1)) x1000 bt168.2.1 bt168.2.2) else (none)))) else (none)))) else (none)) else (none))) else (some (x5,x1001,x1002))
def spec_l01DrawOrder.f (k:Nat) (s0_0:List Int) (s0_1:Int) (s0_2:Int) (a1:Int):Option (List Int × Int × Int):=spec_l01DrawOrder.l0 k a1 ([]:List Int) 0 s0_0 s0_1 s0_2
def spec_l01DrawOrder.T6:Bool × List (List Nat × List Nat):=(true,[([],[]),([],[]),([0,1],[0,1]),([2],[2]),([],[]),([4],[4]),([3,5,3],[3,5]),([],[]),([],[]),([7,8],[7,8]),([6,9,6],[6,9]),([10,10,0,1,2,3,4,5,6,7,8,9,10],[0,7,10])])
def spec_l01DrawOrder.B6:List Nat:=[0,0,3,7,0,16,63,0,0,384,1023,2047]
theorem spec_l01DrawOrder.tab6:rtab .any (opsOf Tryz.f62 6)=spec_l01DrawOrder.T6:=by kernel_rfl
theorem spec_l01DrawOrder.bits6:waitsOk spec_l01DrawOrder.T6.2 spec_l01DrawOrder.B6=true:=by kernel_rfl
theorem spec_l01DrawOrder.calls (k:Nat) (g:Nat) (s0_0:List Int) (s0_1:Int) (s0_2:Int) (a1:Int) (r1:List Int) (r2:Int) (r3:Int) (w0 w:World) (hI:IsS90 w0 w g s0_0 s0_1 s0_2) (hB:Below w0.heap.size w0 w) (h:spec_l01DrawOrder.f k s0_0 s0_1 s0_2 a1=some (r1,r2,r3)) :
  Calls Tryz.prog 62 #[.pointer (some ⟨g,0,none⟩),.int .i64 a1] w fun e w'=>∃ v0_:Value,e=.returned (v0_)∧Kd.R (Kd.int .i64) 2 w' w.heap.size (fun _=>True) v0_ r1∧IsS90 w0 w' g s0_0 r2 r3∧Below w0.heap.size w0 w'∧KeepBut w w' g none:=by
 have HI0:=ak hI;have HK:=ak (KeepBut.refl w g none);have HL:=ak hB.size;clear hI;have HW0:=ak hB.size;have HB:=ak hB;clear hB;have H:(spec_l01DrawOrder.l0 k a1 ([]:List Int) 0 s0_0 s0_1 s0_2)=some (r1,r2,r3):=h;clear h;obtain ⟨ba,hY⟩:∃ y_:List Int,y_=([]:List Int):=⟨_,rfl⟩;replace H:(spec_l01DrawOrder.l0 k a1 ba 0 s0_0 s0_1 s0_2)=some (r1,r2,r3):=hh;have bd:=ak hY;clear hY;have H':=ak H;clear H
 go_enter Tryz.func62,Tryz.ntmps62
 go_wp2_with (first|((with_reducible refine gate_dst (N:=8) rfl ?_);refine Kd.R_lit (Kd.int .i64) _ 2 ?hg (N:=8) ?hd (xs:=([]:List Int)) (inner:=[]) (ok:=fun _=>True) (okp:=fun _=>True) ?hr ?hp (fun _ hk=>hk) trivial (Below.refl _ _) (Nat.le_refl _) (by simp) ?_;(case hd=>rfl);(case hg=>rfl);(case hr=>exact gs);(case hp=>exact (Reps.none _ _));intro bO w3 ho4 hb hg_ hnew_;clear hg_ hnew_;(first|rw [← bd.out] at ho4|(simp only [Int.reduceToNat] at ho4;rw [← bd.out] at ho4));have bz:=ak (Kd.R_lower ho4 (keep_size (w:=w) (g:=g) (row:=none) q4_0));replace HK:=ak (KeepBut.trans q4_0 (KeepBut.of_below hb g none) (.inl rfl));replace HB:=ak (below_step q4_2 hb);replace HI0:=ak (IsS90.below q4_1 hb);clear hb ho4))
 go_loopg [5,6] k (fun kq v5 v6 w'=>∃ (aa:List Int) (ac:Int) (aA:Int) (aC:Int),v6=.int .i64 ac∧Aside0 (spec_l01DrawOrder.l0 kq a1 aa ac s0_0 aA aC=some (r1,r2,r3))∧Aside0 (kq≤k)∧Aside0 (Kd.R (Kd.int .i64) 2 w' w.heap.size (fun _=>True) v5 aa)∧Aside0 (IsS90 w0 w' g s0_0 aA aC)∧Aside0 (KeepBut w w' g none)∧Aside0 (Below w0.heap.size w0 w'))
 case atStart=>exact ⟨(ba),(0),(s0_1),(s0_2),q4_6,H',⟨Nat.le_refl _⟩,⟨pe bz.out⟩,⟨q4_1⟩,⟨q4_0⟩,⟨q4_2⟩⟩
 case round =>
  clear H'
  try clear p2
  obtain ⟨aa,ac,aA,aC,rfl,HA,HK1,ab,HI0,HK,HB⟩:=hrel
  cases gk with|zero=>exact absurd HA.out (by simp [spec_l01DrawOrder.l0])|succ k1=>?_
  have H:=HA.out;clear HA;simp only [spec_l01DrawOrder.l0] at H;obtain c5|c5:=nem (ac<a1)
  ·rw [if_neg c5] at H;have bf:=df c5;clear c5;simp only [Option.some.injEq,Prod.mk.injEq] at H;obtain ⟨rfl,rfl,rfl⟩:=H;go_wp2
   go_ret
   exact ⟨_,ew,pe ab.out,q4_1,q4_2,q4_0⟩
  rw [if_pos c5] at H;have bf:=dt c5;clear c5;replace H:=bs H;obtain ⟨⟨ad,ar,au⟩,A6,H⟩:=H;(try dsimp only at H);replace H:=ifs H;obtain ⟨c7,H⟩:=H;have bP:=eq_true c7;have bQ:decide (0≤ad)=true:=decide_eq_true c7;clear c7;replace H:=ifs H;obtain ⟨c8,H⟩:=H;have bR:=eq_true c8;have bS:decide (ad≤(aa.length:Int))=true:=decide_eq_true c8;clear c8;obtain ⟨ay,hY⟩:∃ y_:List Int,y_=(aa.take (ad:Int).toNat):=⟨_,rfl⟩;replace H:((spec_l01Own.f ay).bind fun aq=>((some (([ac]:List Int):List Int)).bind fun an=>(if aq.length+an.length<17592186044416 then ((some (aq++an:List Int)).bind fun ao=>((some (aa.drop (ad:Int).toNat:List Int)).bind fun ag=>(if ao.length+ag.length<17592186044416 then (spec_l01DrawOrder.l0 k1 a1 (ao++ag) (wrap64 (ac+1)) s0_0 ar au) else (none)))) else (none))))=some (r1,r2,r3):=hh;have bg:=ak hY;clear hY;replace H:=bs H;obtain ⟨aq,A9,H⟩:=H;(try dsimp only at H);obtain ⟨an,hY⟩:∃ y_:List Int,y_=([ac]:List Int):=⟨_,rfl⟩;replace H:(if aq.length+an.length<17592186044416 then ((some (aq++an:List Int)).bind fun ao=>((some (aa.drop (ad:Int).toNat:List Int)).bind fun ag=>(if ao.length+ag.length<17592186044416 then (spec_l01DrawOrder.l0 k1 a1 (ao++ag) (wrap64 (ac+1)) s0_0 ar au) else (none)))) else (none))=some (r1,r2,r3):=hh;have aH:=ak hY;clear hY;replace H:=ifs H;obtain ⟨c10,H⟩:=H;have aQ:=ak c10;clear c10;obtain ⟨ao,hY⟩:∃ y_:List Int,y_=(aq++an):=⟨_,rfl⟩;replace H:((some (aa.drop (ad:Int).toNat:List Int)).bind fun ag=>(if ao.length+ag.length<17592186044416 then (spec_l01DrawOrder.l0 k1 a1 (ao++ag) (wrap64 (ac+1)) s0_0 ar au) else (none)))=some (r1,r2,r3):=hh;have bA:=ak hY;clear hY;have bT:=eq_true (od q4_5:0≤ad);have bU:=eq_true (od q4_5:ad≤(aa.length:Int));obtain ⟨ag,hY⟩:∃ y_:List Int,y_=(aa.drop (ad:Int).toNat):=⟨_,rfl⟩;replace H:(if ao.length+ag.length<17592186044416 then (spec_l01DrawOrder.l0 k1 a1 (ao++ag) (wrap64 (ac+1)) s0_0 ar au) else (none))=some (r1,r2,r3):=hh;have aT:=ak hY;clear hY;replace H:=ifs H;obtain ⟨c13,H⟩:=H;have bB:=ak c13;clear c13;obtain ⟨bh,hY⟩:∃ y_:List Int,y_=(ao++ag):=⟨_,rfl⟩;replace H:(spec_l01DrawOrder.l0 k1 a1 bh (wrap64 (ac+1)) s0_0 ar au)=some (r1,r2,r3):=hh;have bC:=ak hY;clear hY;have H':=ak H;clear H
  try go_wp2_with (first|((with_reducible refine gate_callee (f:=50) rfl ?_);refine gl (some 17) Tryz.func50 #[.pointer (some ⟨g,0,none⟩),.int .i64 (wrap64 (ac+1))] ?_;(with_reducible refine (spec_l01Next.calls g s0_0 aA aC (wrap64 (ac+1)) ad ar au w0 _ ?side1 ?side2 A6.out).mono ?_);(case side1=>exact q4_1);(case side2=>exact q4_2);rintro e w14 ⟨rfl,hi,hb,hk⟩;refine ⟨_,rfl,?_⟩;replace ab:=ak (Kd.R_mono (Kd.R_keep (IsS90.apart (show IsS90 w0 _ g s0_0 aA aC from q4_1) (pe ab.out) dc) hk (fun _ h=>h.2)) (fun _ h=>h.1));replace HK:=ak (KeepBut.trans q4_0 hk (.inl rfl));replace HB:=ak (hb);replace HI0:=ak (hi);(try clear hb hk hi)))
  have n0_:=ak (Kd.R_drew ab.out);have n1_:=ak (IsS90.drew HI0.out);have n2_:=ak (keep_drew HK.out);have n3_:=ak (below_drew1 HB.out);clear ab HI0 HK HB;have ab:=n0_;have HI0:=n1_;have HK:=n2_;have HB:=n3_;clear n0_ n1_ n2_ n3_;obtain ⟨ah,ae,bi⟩:=Kd.R_slice ab.out;(first|subst bi|(injection bi with f1_ f2_ f3_;have f4_:=f1_.symm;have f5_:=f3_.symm;clear f1_ f2_ f3_;subst f4_;subst f5_));have q16:(ad:Int)≤((aa.length:Int):Int):=od q4_5;obtain ⟨i016,bj,_,hsz16,_⟩:=info_parts info2;have hroom16:aa.length≤ae:=(Kd.R_reads' ab.out).2.1;have bk:Kd.C (Kd.int .i64) _ ah aa.length aa:=(Kd.R_reads' ab.out).2.2;have hcut16:=cut_to (P:=Tryz.prog) 24 2 .i64 Tryz.underlying24 bj ah aa.length ae ad (od q4_5) q16 hroom16;have aU:=Kd.C_take (m:=(ad:Int).toNat) bk (by omega);have aV:ay.length=(ad:Int).toNat:=(by rw [bg.out,List.length_take];omega);rw [← bg.out] at aU;rw [← aV] at hcut16;have af:=ak aU;have bl:=ak (show ay.length≤ae from by omega);clear aU bk hroom16 bj hsz16;have bV:=ak aV;clear aV;have bW:=ak (show (ad:Int).toNat≤aa.length from by omega);replace q16:=eq_true q16;have q18:(ad:Int)≤((aa.length:Int):Int):=od q4_5;obtain ⟨i018,bm,_,hsz18,_⟩:=info_parts info2;have hroom18:aa.length≤ae:=(Kd.R_reads' ab.out).2.1;have bo:Kd.C (Kd.int .i64) _ ah aa.length aa:=(Kd.R_reads' ab.out).2.2;have bD:(0:Int)≤(ad:Int):=od q4_5;have hcut18:=cut_from (P:=Tryz.prog) 24 2 .i64 Tryz.underlying24 bm 1 hsz18 ah aa.length ae ad bD q18;have aD:=Kd.C_drop (m:=(ad:Int).toNat) (c:=ae) bo (by omega) hroom18;obtain ⟨A18,hA18⟩:∃ A1,A1=(if ae=(ad:Int).toNat then ah else (ah:Option Addr).map (·.add ((ad:Int).toNat*1))):=⟨_,rfl⟩;obtain ⟨c18,aW⟩:∃ c1,c1=ae - (ad:Int).toNat:=⟨_,rfl⟩;have aI:ag.length=aa.length - (ad:Int).toNat:=(by rw [aT.out,List.length_drop] <;> omega);rw [show (aa).drop (ad:Int).toNat=ag from aT.out.symm] at aD;replace aD:Kd.C (Kd.int .i64) _ A18 ag.length ag:=(by rw [hA18];exact aD);rw [← aI,← hA18,← aW] at hcut18;have aj:=ak aD;have bX:=ak (show ag.length≤c18 from by rw [aI,aW];exact Nat.sub_le_sub_right hroom18 _);clear aD bo hroom18 bm hsz18 aW;have bY:=ak aI;have bE:=ak hA18;clear aI hA18;have bF:=ak (show (ad:Int).toNat≤aa.length from by omega);replace q18:=eq_true q18
  refine start_ (n:=12) (S:=fun w'=>True) (ds:=[]) #[false,false,false,false,false,false,false,false,false,false,false,false] kr rfl rfl trivial (fun hHeld=>?_);refine with_tabW spec_l01DrawOrder.tab6 spec_l01DrawOrder.bits6 (fun HT_ HW_=>?_)
  generalize w14.drew=w15 at ab HI0 HK HB af aj hHeld ⊢
  refine pur (i:=0) (N:=some 18) (v:=?_) (a':=?_) (tf 1 11) rfl (Or.inl ⟨by rfl,?_⟩) ?_ ?_
  rotate_left
  ·intro w'
   go_simp
   with_reducible rfl
  rotate_left
  ·simp only [Act.put,sIB,sc0,scs,i64_w,i32_w]
   rfl
  refine pur (i:=1) (N:=some 19) (v:=?_) (a':=?_) (tf 2 10) rfl (Or.inl ⟨by rfl,?_⟩) ?_ ?_
  rotate_left
  ·intro w'
   go_simp
   with_reducible rfl
  rotate_left
  ·simp only [Act.put,sIB,sc0,scs,i64_w,i32_w]
   rfl
  refine pur (i:=2) (N:=some 20) (v:=?_) (a':=?_) (tf 3 9) rfl (Or.inl ⟨by rfl,?_⟩) ?_ ?_
  rotate_left
  ·intro w'
   go_simp
   with_reducible rfl
  rotate_left
  ·simp only [Act.put,sIB,sc0,scs,i64_w,i32_w]
   rfl
  refine pur (i:=4) (N:=some 22) (v:=?_) (a':=?_) #[true,true,true,false,true,false,false,false,false,false,false,false] rfl (Or.inl ⟨by rfl,?_⟩) ?_ ?_
  rotate_left
  ·intro w'
   go_simp
   with_reducible rfl
  rotate_left
  ·simp only [Act.put,sIB,sc0,scs,i64_w,i32_w]
   rfl
  refine pur (i:=7) (N:=some 25) (v:=?_) (a':=?_) #[true,true,true,false,true,false,false,true,false,false,false,false] rfl (Or.inl ⟨by rfl,?_⟩) ?_ ?_
  rotate_left
  ·intro w'
   go_simp
   with_reducible rfl
  rotate_left
  ·simp only [Act.put,sIB,sc0,scs,i64_w,i32_w]
   rfl
  refine pur (i:=8) (N:=some 26) (v:=?_) (a':=?_) #[true,true,true,false,true,false,false,true,true,false,false,false] rfl (Or.inl ⟨by rfl,?_⟩) ?_ ?_
  rotate_left
  ·intro w'
   go_simp
   with_reducible rfl
  rotate_left
  ·simp only [Act.put,sIB,sc0,scs,i64_w,i32_w]
   rfl
  refine pur (i:=9) (N:=some 27) (v:=?_) (a':=?_) #[true,true,true,false,true,false,false,true,true,true,false,false] rfl (Or.inl ⟨by rfl,?_⟩) ?_ ?_
  rotate_left
  ·intro w'
   go_simp
   with_reducible rfl
  rotate_left
  ·simp only [Act.put,sIB,sc0,scs,i64_w,i32_w]
   rfl
  refine join_ (σ:=Value × Value) 3 #[true,true,true,true,true,true,false,true,true,true,false,false] (fun s_=>[(21,s_.1),(23,s_.2)]) (fun s_ w'=>(Kd.R (Kd.int .i64) 2 w' w.heap.size (fun k_=>some k_≠(s_.2:Value).ownBlock∧some k_≠(.slice ah aa.length ae:Value).ownBlock) s_.1 aq)∧(Kd.R (Kd.int .i64) 2 w' w.heap.size (fun k_=>some k_≠(s_.1:Value).ownBlock∧some k_≠(.slice ah aa.length ae:Value).ownBlock) s_.2 an)∧(Kd.R (Kd.int .i64) 2 w' w.heap.size (fun k_=>some k_≠(s_.1:Value).ownBlock∧some k_≠(s_.2:Value).ownBlock) (.slice ah aa.length ae) aa)∧(IsS90 w0 w' g s0_0 ar au)∧(KeepBut w w' g none)∧(Below w0.heap.size w0 w')) ?_ ?_
  rotate_left
  ·intro hCont
   refine two_ (i:=3) (j:=5) (Ni:=some 21) (Nj:=some 23) #[true,true,true,true,true,false,false,true,true,true,false,false] #[true,true,true,false,true,true,false,true,true,true,false,false] rfl rfl rfl rfl (two_of HT_.out kr) dc dc (fun K hK=>?_) (fun K hK=>?_)
   ·skip
    refine goes_ Tryz.func90 kr rfl #[.slice ah ay.length ae] (by rfl) rfl rfl am ?_
    with_reducible refine (spec_l01Own.calls _ _ ay aq _ ?side1 ?side2 A9.out).mono ?_
    (case side1=>exact q4_7)
    (case side2=>exact bl.out)
    rintro e w19 ⟨av,rfl,ho0,hb⟩
    refine ⟨_,rfl,?_⟩
    have n0_:=rn ab ho0 hb;have n1_:=ak (Kd.R_lower (nw ho0 ab) (keep_size (w:=w) (g:=g) (row:=none) q4_0));have n2_:=ak (IsS90.below q4_1 hb);have n3_:=ak (Kd.C_below q4_3 hb);have n4_:=ak (Kd.C_below q4_4 hb);have n5_:=ak (KeepBut.trans q4_0 (KeepBut.of_below hb g none) (.inl rfl));have n6_:=ak (below_step q4_2 hb);clear ab HI0 af aj HK HB;have ab:=n0_;have ap:=n1_;have HI0:=n2_;have af:=n3_;have aj:=n4_;have HK:=n5_;have HB:=n6_;clear n0_ n1_ n2_ n3_ n4_ n5_ n6_;(try clear hb);(try clear hb2);(try clear hk);(try clear hi);(try clear ho0)
    refine hK.out _ _ trivial (fun hHeld=>?_)
    clear hK K
    refine norm_ (a':=?_) ?_ ?_
    rotate_left
    ·show Act.put _ (some 21) _=_;simp only [Act.put,sIB,sc0,scs,i64_w,i32_w]
     rfl
    refine one_ (i:=5) (N:=some 23) #[true,true,true,true,true,true,false,true,true,true,false,false] rfl rfl (one_of HT_.out kr) dc (fun K hK=>?_)
    refine Kd.R_lit_step (Kd.int .i64) _ 2 ?hg (N:=23) ?hd (xs:=([ac]:List Int)) (inner:=[.int .i64 ac]) (ok:=fun _=>True) (okp:=fun _=>True) ?hr ?hp (fun _ hk=>hk) trivial (Below.refl _ _) (Nat.le_refl _) (by simp) ?_;(case hd=>rfl);(case hg=>rfl);(case hr=>exact gs);(case hp=>exact (Reps.one (show Kd.M (Kd.int .i64) _ _ _ ac [.int .i64 ac] from rfl) (Reps.none _ _)))
    intro az w20 ho21 hb hg_ hnew_
    clear hg_ hnew_;(first|rw [← aH.out] at ho21|(simp only [Int.reduceToNat] at ho21;rw [← aH.out] at ho21));have n0_:=rn ab ho21 hb;have n1_:=rn ap ho21 hb;have n2_:=ak (Kd.R_lower (nw (nw ho21 ab) ap) (keep_size (w:=w) (g:=g) (row:=none) q4_0));have n3_:=ak (IsS90.below q4_1 hb);have n4_:=ak (Kd.C_below q4_3 hb);have n5_:=ak (Kd.C_below q4_4 hb);have n6_:=ak (KeepBut.trans q4_0 (KeepBut.of_below hb g none) (.inl rfl));have n7_:=ak (below_step q4_2 hb);clear ab ap HI0 af aj HK HB;have ab:=n0_;have ap:=n1_;have ai:=n2_;have HI0:=n3_;have af:=n4_;have aj:=n5_;have HK:=n6_;have HB:=n7_;clear n0_ n1_ n2_ n3_ n4_ n5_ n6_ n7_ hb ho21
    refine hK.out _ _ trivial (fun hHeld=>?_)
    clear hK K
    refine norm_ (a':=?_) ?_ ?_
    rotate_left
    ·show Act.put _ (some 23) _=_;simp only [Act.put,sIB,sc0,scs,i64_w,i32_w]
     rfl
    exact norm_ (by simp only [putAll,Act.put,List.setIfInBounds_toArray,List.set_cons_zero,List.set_cons_succ]) (hCont (av,az) _ ⟨(pe (Kd.R_mono ap.out (fun _ hk=>⟨hk.2,hk.1.2⟩))),(pe (Kd.R_mono ai.out (fun _ hk=>⟨hk.2,hk.1.2⟩))),(pe (Kd.R_mono ab.out (fun _ hk=>⟨hk.1.2,hk.2⟩))),q4_1,q4_0,q4_2⟩)
   ·skip
    refine Kd.R_lit_step (Kd.int .i64) _ 2 ?hg (N:=23) ?hd (xs:=([ac]:List Int)) (inner:=[.int .i64 ac]) (ok:=fun _=>True) (okp:=fun _=>True) ?hr ?hp (fun _ hk=>hk) trivial (Below.refl _ _) (Nat.le_refl _) (by simp) ?_;(case hd=>rfl);(case hg=>rfl);(case hr=>exact gs);(case hp=>exact (Reps.one (show Kd.M (Kd.int .i64) _ _ _ ac [.int .i64 ac] from rfl) (Reps.none _ _)))
    intro az w19 ho20 hb hg_ hnew_
    clear hg_ hnew_;(first|rw [← aH.out] at ho20|(simp only [Int.reduceToNat] at ho20;rw [← aH.out] at ho20));have n0_:=rn ab ho20 hb;have n1_:=ak (Kd.R_lower (nw ho20 ab) (keep_size (w:=w) (g:=g) (row:=none) q4_0));have n2_:=ak (IsS90.below q4_1 hb);have n3_:=ak (Kd.C_below q4_3 hb);have n4_:=ak (Kd.C_below q4_4 hb);have n5_:=ak (KeepBut.trans q4_0 (KeepBut.of_below hb g none) (.inl rfl));have n6_:=ak (below_step q4_2 hb);clear ab HI0 af aj HK HB;have ab:=n0_;have ai:=n1_;have HI0:=n2_;have af:=n3_;have aj:=n4_;have HK:=n5_;have HB:=n6_;clear n0_ n1_ n2_ n3_ n4_ n5_ n6_ hb ho20
    refine hK.out _ _ trivial (fun hHeld=>?_)
    clear hK K
    refine norm_ (a':=?_) ?_ ?_
    rotate_left
    ·show Act.put _ (some 23) _=_;simp only [Act.put,sIB,sc0,scs,i64_w,i32_w]
     rfl
    refine one_ (i:=3) (N:=some 21) #[true,true,true,true,true,true,false,true,true,true,false,false] rfl rfl (one_of HT_.out kr) dc (fun K hK=>?_)
    refine goes_ Tryz.func90 kr rfl #[.slice ah ay.length ae] (by rfl) rfl rfl am ?_
    with_reducible refine (spec_l01Own.calls _ _ ay aq _ ?side1 ?side2 A9.out).mono ?_
    (case side1=>exact q4_7)
    (case side2=>exact bl.out)
    rintro e w21 ⟨av,rfl,ho0,hb⟩
    refine ⟨_,rfl,?_⟩
    have n0_:=rn ab ho0 hb;have n1_:=rn ai ho0 hb;have n2_:=ak (Kd.R_lower (nw (nw ho0 ab) ai) (keep_size (w:=w) (g:=g) (row:=none) q4_0));have n3_:=ak (IsS90.below q4_1 hb);have n4_:=ak (Kd.C_below q4_3 hb);have n5_:=ak (Kd.C_below q4_4 hb);have n6_:=ak (KeepBut.trans q4_0 (KeepBut.of_below hb g none) (.inl rfl));have n7_:=ak (below_step q4_2 hb);clear ab ai HI0 af aj HK HB;have ab:=n0_;have ai:=n1_;have ap:=n2_;have HI0:=n3_;have af:=n4_;have aj:=n5_;have HK:=n6_;have HB:=n7_;clear n0_ n1_ n2_ n3_ n4_ n5_ n6_ n7_;(try clear hb);(try clear hb2);(try clear hk);(try clear hi);(try clear ho0)
    refine hK.out _ _ trivial (fun hHeld=>?_)
    clear hK K
    refine norm_ (a':=?_) ?_ ?_
    rotate_left
    ·show Act.put _ (some 21) _=_;simp only [Act.put,sIB,sc0,scs,i64_w,i32_w]
     rfl
    exact norm_ (by simp only [putAll,Act.put,List.setIfInBounds_toArray,List.set_cons_zero,List.set_cons_succ]) (hCont (av,az) _ ⟨(pe (Kd.R_mono ap.out (fun _ hk=>⟨hk.2,hk.1.2⟩))),(pe (Kd.R_mono ai.out (fun _ hk=>⟨hk.2,hk.1.2⟩))),(pe (Kd.R_mono ab.out (fun _ hk=>⟨hk.2,hk.1.2⟩))),q4_1,q4_0,q4_2⟩)
  rintro ⟨av,az⟩ w22 ⟨h0_,h1_,h2_,h3_,h4_,h5_⟩
  have n0_:Aside0 (Kd.R (Kd.int .i64) 2 w22 w.heap.size (fun k_=>some k_≠(az:Value).ownBlock∧some k_≠(.slice ah aa.length ae:Value).ownBlock) av aq):=⟨h0_⟩;have n1_:Aside0 (Kd.R (Kd.int .i64) 2 w22 w.heap.size (fun k_=>some k_≠(av:Value).ownBlock∧some k_≠(.slice ah aa.length ae:Value).ownBlock) az an):=⟨h1_⟩;have n2_:Aside0 (Kd.R (Kd.int .i64) 2 w22 w.heap.size (fun k_=>some k_≠(av:Value).ownBlock∧some k_≠(az:Value).ownBlock) (.slice ah aa.length ae) aa):=⟨h2_⟩;have n3_:Aside0 (IsS90 w0 w22 g s0_0 ar au):=⟨h3_⟩;have n4_:Aside0 (KeepBut w w22 g none):=⟨h4_⟩;have n5_:Aside0 (Below w0.heap.size w0 w22):=⟨h5_⟩;clear ab HI0 HK HB h0_ h1_ h2_ h3_ h4_ h5_;have ap:=n0_;have ai:=n1_;have ab:=n2_;have HI0:=n3_;have HK:=n4_;have HB:=n5_;clear n0_ n1_ n2_ n3_ n4_ n5_;have hHeld:=trivial;obtain ⟨aJ,aK,bp⟩:=Kd.R_slice ai.out;(first|subst bp|(injection bp with f1_ f2_ f3_;have f4_:=f1_.symm;have f5_:=f3_.symm;clear f1_ f2_ f3_;subst f4_;subst f5_))
  refine norm_ (a':=?_) ?_ ?_
  rotate_left
  ·simp only [putAll,Act.put,List.setIfInBounds_toArray,List.set_cons_zero,List.set_cons_succ]
   rfl
  refine one_ (i:=6) (N:=some 24) (tf 10 2) rfl rfl (one_of HT_.out kr) dc (fun K hK=>?_)
  refine Kd.R_append_rows_step (Kd.int .i64) w.heap.size (by rfl) (.tmp 21) (.tmp 23) 24 2 (.int .i64 0) 8 rfl Tryz.underlying24 info2 rfl dc (by omega) av aq an _ _ _ (fun k_=>some k_≠(.slice ah aa.length ae:Value).ownBlock∧some k_≠(.slice aJ an.length aK:Value).ownBlock) (fun _=>False) rfl rfl ?aO ?aR (fun _ _ h=>h) (fun _ h=>h.elim) ?aF (Below.refl _ _) ?aS ?aL ?_
  (case aR=>exact pc ((Kd.R_reads' ai.out).2.2))
  (case aF=>exact (fun k_ hk=>⟨Kd.fresh' (Kd.R_lt (pe ab.out)) k_ hk,Kd.fresh' (Kd.R_lt (pe ai.out)) k_ hk⟩))
  (case aO=>exact (pe (Kd.R_mono ap.out (fun _ hk=>⟨hk.2,hk.1⟩))))
  (case aS=>exact (keep_size (w:=w) (g:=g) (row:=none) q4_0))
  (case aL=>have:=aQ.out;omega)
  intro bG w23 ho hb hg hat
  rw [← bA.out] at ho;have n0_:=ak (Kd.R_after (ok:=(fun k_=>some k_≠(.slice aJ an.length aK:Value).ownBlock)) (pe (Kd.R_mono ab.out (fun _ hk=>⟨hk.2,hk.1⟩))) hg hat);have n1_:=ak (IsS90.grown q4_1 hg (IsS90.own_ne HI0.out ap.out dc));have n2_:=ak (Kd.R_after (ok:=(fun k_=>some k_≠(.slice ah aa.length ae:Value).ownBlock)) (pe (Kd.R_mono ai.out (fun _ hk=>⟨hk.2,hk.1⟩))) hg hat);have n3_:=ak (below_weaken q4_2 HL.out hb);have n4_:=ak (KeepBut.trans q4_0 (KeepBut.of_grown hg g) (Kd.R_base2 ap.out));have n5_:=ak (ho);clear ab HI0 ai HB HK ap;have ab:=n0_;have HI0:=n1_;have ai:=n2_;have HB:=n3_;have HK:=n4_;have aM:=n5_;clear n0_ n1_ n2_ n3_ n4_ n5_ ho hb hg hat
  refine hK.out _ _ trivial (fun hHeld=>?_)
  clear hK K
  refine norm_ (a':=?_) ?_ ?_
  rotate_left
  ·show Act.put _ (some 24) _=_;simp only [Act.put,sIB,sc0,scs,i64_w,i32_w]
   rfl
  refine one_ (i:=10) (N:=some 28) (tf 11 1) rfl rfl (one_of HT_.out kr) dc (fun K hK=>?_)
  refine Kd.R_append_rows_step (Kd.int .i64) w.heap.size (by rfl) (.tmp 24) (.tmp 27) 24 2 (.int .i64 0) 8 rfl Tryz.underlying24 info2 rfl dc (by omega) bG ao ag _ _ _ (fun k_=>some k_≠(.slice ah aa.length ae:Value).ownBlock∧some k_≠(.slice aJ an.length aK:Value).ownBlock) (fun _=>False) rfl rfl ?aO ?aR (fun _ _ h=>h) (fun _ h=>h.elim) ?aF (Below.refl _ _) ?aS ?aL ?_
  (case aR=>exact (show Kd.C (Kd.int .i64) _ A18 ag.length ag from by rw [aT.out,bE.out];exact Kd.C_drop (m:=(ad:Int).toNat) (c:=ae) ((Kd.R_reads' (pe ab.out)).2.2) bF.out ((Kd.R_reads' (ab.out)).2.1)))
  (case aF=>exact (fun k_ hk=>⟨Kd.fresh' (Kd.R_lt (pe ab.out)) k_ hk,Kd.fresh' (Kd.R_lt (pe ai.out)) k_ hk⟩))
  (case aO=>exact (pe aM.out))
  (case aS=>exact (keep_size (w:=w) (g:=g) (row:=none) q4_0))
  (case aL=>have:=bB.out;omega)
  intro bZ w25 ho hb hg hat
  rw [← bC.out] at ho;have n0_:=ak (Kd.R_after (ok:=(fun k_=>some k_≠(.slice aJ an.length aK:Value).ownBlock)) (pe ab.out) hg hat);have n1_:=ak (IsS90.grown q4_1 hg (IsS90.own_ne HI0.out aM.out dc));have n2_:=ak (Kd.R_after (ok:=(fun k_=>some k_≠(.slice ah aa.length ae:Value).ownBlock)) (pe ai.out) hg hat);have n3_:=ak (below_weaken q4_2 HL.out hb);have n4_:=ak (KeepBut.trans q4_0 (KeepBut.of_grown hg g) (Kd.R_base2 aM.out));have n5_:=ak (ho);clear ab HI0 ai HB HK aM;have ab:=n0_;have HI0:=n1_;have ai:=n2_;have HB:=n3_;have HK:=n4_;have bH:=n5_;clear n0_ n1_ n2_ n3_ n4_ n5_ ho hb hg hat
  refine hK.out _ _ trivial (fun hHeld=>?_)
  clear hK K
  refine norm_ (a':=?_) ?_ ?_
  rotate_left
  ·show Act.put _ (some 28) _=_;simp only [Act.put,sIB,sc0,scs,i64_w,i32_w]
   rfl
  refine pur (i:=11) (N:=some 5) (v:=?_) (a':=?_) (tf 12 0) rfl (Or.inl ⟨by rfl,?_⟩) ?_ ?_
  rotate_left
  ·intro w'
   go_simp
   with_reducible rfl
  rotate_left
  ·simp only [Act.put,sIB,sc0,scs,i64_w,i32_w]
   rfl
  refine done_ (done_of HT_.out kr) ?_
  try go_wp2
  go_roundg k1
  case measure=>have:=HK1.out;omega
  case rel=>exact ⟨(bh),(wrap64 (ac+1)),(ar),(au),q4_6,H',⟨by have:=HK1.out;omega⟩,⟨pe (Kd.R_mono bH.out (fun _ hk=>trivial))⟩,⟨q4_1⟩,⟨q4_0⟩,⟨q4_2⟩⟩
def spec_l01N.f (l0_0:List Int):Option (Int):=some (l0_0.length:Int)
theorem spec_l01N.calls (A0_0:Option Addr) (c0_0:Nat) (l0_0:List Int) (r:Int) (w:World) (hr0_0:Kd.C (Kd.int .i64) w A0_0 l0_0.length l0_0) (hc0_0:l0_0.length≤c0_0) (h:spec_l01N.f l0_0=some r) :
  Calls Tryz.prog 80 #[.agg #[.slice A0_0 l0_0.length c0_0]] w fun e w'=>e=.returned (.int .i64 r)∧Below w.heap.size w w':=by
 have hu27:=Tryz.underlying27;have aE:=ak hr0_0;have aX:=ak hc0_0;clear hr0_0 hc0_0;have HB:=ak (Below.refl w.heap.size w);have H:(some (l0_0.length:Int))=some r:=h;clear h;obtain rfl:=Option.some.inj H
 go_enter Tryz.func80,Tryz.ntmps80
 go_wp2_with (first|((with_reducible refine gate_dst (N:=1) rfl ?_);refine bev (N:=1) (cs:=#[.slice A0_0 l0_0.length c0_0]) (t:=27) ?_;intro b0 hg w2 hbox hb;have bq:=ak (hbox);have b1:=gbe hg;have b2:=gbe hg;replace HB:=hbs hb;clear hb hbox hg;have b3:=bc bq.out;have b4:=blk_frozen bq.out 0))
 go_ret
 exact ⟨ew,hq⟩
def spec_l01End.l0:Nat→Int→Int→List Int→Option (Int)
 | 0,_,_,_=>none
 | k+1,x1,x5,x193000=>if x5>0 then (if 0≤x1 then (if x1<(x193000.length:Int) then (spec_l01End.l0 k (wrap64 (x1+1)) (wrap64 ((wrap64 (x5 - 1))+(rd x193000 x1))) x193000) else (none)) else (none)) else (some x1)
def spec_l01End.f (k:Nat) (l0_0:List Int) (a1:Int):Option (Int):=spec_l01End.l0 k a1 1 l0_0
theorem spec_l01End.calls (k:Nat) (A0_0:Option Addr) (c0_0:Nat) (l0_0:List Int) (a1:Int) (r:Int) (w:World) (hr0_0:Kd.C (Kd.int .i64) w A0_0 l0_0.length l0_0) (hc0_0:l0_0.length≤c0_0) (h:spec_l01End.f k l0_0 a1=some r) :
  Calls Tryz.prog 116 #[.agg #[.slice A0_0 l0_0.length c0_0],.int .i64 a1] w fun e w'=>e=.returned (.int .i64 r)∧Below w.heap.size w w':=by
 have hu27:=Tryz.underlying27;have aE:=ak hr0_0;have aX:=ak hc0_0;clear hr0_0 hc0_0;have HB:=ak (Below.refl w.heap.size w);have H:(spec_l01End.l0 k a1 1 l0_0)=some r:=h;clear h;have H':=ak H;clear H
 go_enter Tryz.func116,Tryz.ntmps116
 go_wp2_with (first|((with_reducible refine gate_dst (N:=2) rfl ?_);refine bev (N:=2) (cs:=#[.slice A0_0 l0_0.length c0_0]) (t:=27) ?_;intro bI hg w3 hbox hb;have aG:=ak (hbox);have b5:=gbe hg;have b6:=gbe hg;replace HB:=hbs hb;clear hb hbox hg))
 go_loopg [1,5] k (fun kq v1 v5 w'=>∃ (aw:Int) (aa:Int),v1=.int .i64 aw∧v5=.int .i64 aa∧Aside0 (spec_l01End.l0 kq aw aa l0_0=some r)∧Aside0 (kq≤k)∧Aside0 (w'.heap[bI]?=some (.cells #[(.slice A0_0 l0_0.length c0_0)] 27 (0,0)))∧Aside0 (Below w.heap.size w w'))
 case atStart=>exact ⟨(a1),(1),q4_6,q4_6,H',⟨Nat.le_refl _⟩,⟨pb aG.out⟩,⟨hq⟩⟩
 case round =>
  clear H';obtain ⟨aw,aa,rfl,rfl,HA,HK1,aG,HB⟩:=hrel
  cases gk with|zero=>exact absurd HA.out (by simp [spec_l01End.l0])|succ k1=>?_
  have H:=HA.out;clear HA;simp only [spec_l01End.l0] at H;obtain c4|c4:=nem (aa>0)
  ·rw [if_neg c4] at H;have br:decide (0<aa)=false:=decide_eq_false c4;clear c4;obtain rfl:=Option.some.inj H;go_wp2
   go_ret
   exact ⟨ew,hq⟩
  rw [if_pos c4] at H;have br:decide (0<aa)=true:=decide_eq_true c4;clear c4;replace H:=ifs H;obtain ⟨c5,H⟩:=H;have bf:=dt c5;clear c5;replace H:=ifs H;obtain ⟨c6,H⟩:=H;have b7:=dt c6;clear c6;have H':=ak H;clear H;have b8:=bc aG.out;have b9:=blk_frozen aG.out 0;have aY:0≤(aw:Int):=od q4_5;have aZ:aw<(l0_0.length:Int):=od q4_5;obtain ⟨ca,bJ,a4⟩:=Kd.at_int aE.out aw aY aZ;cases bJ;replace a4:=(HB.out.cell (World.block_lt_of_cell? w _ a4)).trans a4;replace aY:=eq_true aY;replace aZ:=eq_true aZ;go_wp2
  go_roundg k1
  case measure=>have:=HK1.out;omega
  case rel=>exact ⟨(wrap64 (aw+1)),(wrap64 ((wrap64 (aa - 1))+(rd l0_0 aw))),q4_6,q4_6,H',⟨by have:=HK1.out;omega⟩,⟨pb aG.out⟩,⟨hq⟩⟩
def spec_l01Children.l0:Nat→List Int→Int→Int→List Int→Option (List Int)
 | 0,_,_,_,_=>none
 | k+1,x5,x6,x7,x195000=>if x7>0 then (if x5.length<17592186044416 then ((spec_l01End.f k x195000 x6).bind fun t202=>(spec_l01Children.l0 k (x5++[x6]) t202 (wrap64 (x7 - 1)) x195000)) else (none)) else (some x5)
def spec_l01Children.f (k:Nat) (l0_0:List Int) (a1:Int):Option (List Int):=if 0≤a1 then (if a1<(l0_0.length:Int) then (spec_l01Children.l0 k ([]:List Int) (wrap64 (a1+1)) (rd l0_0 a1) l0_0) else (none)) else (none)
theorem spec_l01Children.calls (k:Nat) (A0_0:Option Addr) (c0_0:Nat) (l0_0:List Int) (a1:Int) (r:List Int) (w:World) (hr0_0:Kd.C (Kd.int .i64) w A0_0 l0_0.length l0_0) (hc0_0:l0_0.length≤c0_0) (h:spec_l01Children.f k l0_0 a1=some r) :
  Calls Tryz.prog 81 #[.agg #[.slice A0_0 l0_0.length c0_0],.int .i64 a1] w fun e w'=>∃ v0_:Value,e=.returned (v0_)∧Kd.R (Kd.int .i64) 2 w' w.heap.size (fun _=>True) v0_ r∧Below w.heap.size w w':=by
 have hu27:=Tryz.underlying27;have aE:=ak hr0_0;have aX:=ak hc0_0;clear hr0_0 hc0_0;have HB:=ak (Below.refl w.heap.size w);have H:(if 0≤a1 then (if a1<(l0_0.length:Int) then (spec_l01Children.l0 k ([]:List Int) (wrap64 (a1+1)) (rd l0_0 a1) l0_0) else (none)) else (none))=some r:=h;clear h;obtain ⟨bu,hY⟩:∃ y_:List Int,y_=([]:List Int):=⟨_,rfl⟩;replace H:(if 0≤a1 then (if a1<(l0_0.length:Int) then (spec_l01Children.l0 k bu (wrap64 (a1+1)) (rd l0_0 a1) l0_0) else (none)) else (none))=some r:=hh;have bv:=ak hY;clear hY;replace H:=ifs H;obtain ⟨c3,H⟩:=H;have cb:=dt c3;clear c3;replace H:=ifs H;obtain ⟨c4,H⟩:=H;have br:=dt c4;clear c4;have H':=ak H;clear H
 go_enter Tryz.func81,Tryz.ntmps81
 go_wp2_with (first|((with_reducible refine gate_dst (N:=2) rfl ?_);refine bev (N:=2) (cs:=#[.slice A0_0 l0_0.length c0_0]) (t:=27) ?_;intro bw hg w5 hbox hb;have al:=ak (hbox);have cc:=gbe hg;have cd:=gbe hg;replace HB:=hbs hb;clear hb hbox hg)|((with_reducible refine gate_dst (N:=8) rfl ?_);refine Kd.R_lit (Kd.int .i64) _ 2 ?hg (N:=8) ?hd (xs:=([]:List Int)) (inner:=[]) (ok:=fun _=>True) (okp:=fun _=>True) ?hr ?hp (fun _ hk=>hk) trivial (Below.refl _ _) (Nat.le_refl _) (by simp) ?_;(case hd=>rfl);(case hg=>rfl);(case hr=>exact gs);(case hp=>exact (Reps.none _ _));intro ce w6 ho7 hb hg_ hnew_;clear hg_ hnew_;(first|rw [← bv.out] at ho7|(simp only [Int.reduceToNat] at ho7;rw [← bv.out] at ho7));have bK:=lw ho7;replace al:=bb al hb;replace HB:=hbs hb;clear hb ho7;have cf:=bc al.out;have cg:=blk_frozen al.out 0;have a5:0≤(a1:Int):=od q4_5;have a6:a1<(l0_0.length:Int):=od q4_5;obtain ⟨a7,bL,a8⟩:=Kd.at_int aE.out a1 a5 a6;cases bL;replace a8:=(HB.out.cell (World.block_lt_of_cell? w _ a8)).trans a8;replace a5:=eq_true a5;replace a6:=eq_true a6))
 go_loopg [5,6,7] k (fun kq v5 v6 v7 w'=>∃ (aa:List Int) (ac:Int) (ax:Int),v6=.int .i64 ac∧v7=.int .i64 ax∧Aside0 (spec_l01Children.l0 kq aa ac ax l0_0=some r)∧Aside0 (kq≤k)∧Aside0 (Kd.R (Kd.int .i64) 2 w' w.heap.size (fun _=>True) v5 aa)∧Aside0 (w'.heap[bw]?=some (.cells #[(.slice (some a7) l0_0.length c0_0)] 27 (0,0)))∧Aside0 (Below w.heap.size w w'))
 case atStart=>exact ⟨(bu),(wrap64 (a1+1)),(rd l0_0 a1),q4_6,q4_6,H',⟨Nat.le_refl _⟩,⟨pe bK.out⟩,⟨pb al.out⟩,⟨hq⟩⟩
 case round =>
  clear H';obtain ⟨aa,ac,ax,rfl,rfl,HA,HK1,ab,al,HB⟩:=hrel
  cases gk with|zero=>exact absurd HA.out (by simp [spec_l01Children.l0])|succ k1=>?_
  have H:=HA.out;clear HA;simp only [spec_l01Children.l0] at H;obtain c9|c9:=nem (ax>0)
  ·rw [if_neg c9] at H;have bM:decide (0<ax)=false:=decide_eq_false c9;clear c9;obtain rfl:=Option.some.inj H;go_wp2
   go_ret
   exact ⟨_,ew,pe ab.out,hq⟩
  rw [if_pos c9] at H;have bM:decide (0<ax)=true:=decide_eq_true c9;clear c9;replace H:=ifs H;obtain ⟨c10,H⟩:=H;have aQ:=ak c10;clear c10;obtain ⟨bx,hY⟩:∃ y_:List Int,y_=(aa++[ac]):=⟨_,rfl⟩;replace H:((spec_l01End.f k1 l0_0 ac).bind fun aN=>(spec_l01Children.l0 k1 bx aN (wrap64 (ax - 1)) l0_0))=some r:=hh;have bN:=ak hY;clear hY;replace H:=bs H;obtain ⟨aN,A11,H⟩:=H;(try dsimp only at H);have H':=ak H;clear H
  go_wp2_with (first|((with_reducible refine gate_builtin (b:=.append) (xs:=#[.tmp 20,.tmp 22]) rfl ?_);at_builtin;refine Kd.R_append (Kd.int .i64) (w0:=w) w.heap.size rfl (.tmp 20) (.tmp 22) 24 2 (.int .i64 0) 8 rfl Tryz.underlying24 info2 rfl dc (by omega) u5 aa ac [.int .i64 ac] (fun _=>True) (fun _=>False) rfl rfl ?aP (fun _ hk=>hk.elim) ?aF ?aO ?aB ?aS ?aL ?_;(case aP=>exact rfl);(case aB=>exact hq);(case aF=>exact (fun _ _=>trivial));(case aO=>exact (pe ab.out));(case aS=>exact (below_size hq));(case aL=>have:=aQ.out;omega);intro ch w12 ho hb hg hat;rw [← bN.out] at ho;replace al:=ak (blk_grown (g:=bw) (o:=.cells #[.slice (some a7) l0_0.length c0_0] 27 (0,0)) (pb al.out) hg (Kd.R_ne ab.out al.out dc));replace HB:=ak (hb);have a9:=ak (ho);clear ab;clear ho hb hg hat;have ci:=bc al.out;have cj:=blk_frozen al.out 0)|((with_reducible refine gate_callee (f:=116) rfl ?_);refine gl (some 26) Tryz.func116 #[.agg #[.slice (some a7) l0_0.length c0_0],.int .i64 ac] ?_;(with_reducible refine (spec_l01End.calls k1 _ _ l0_0 ac aN _ (pc (Kd.C_below aE.out HB.out)) aX.out A11.out).mono ?_);rintro e w14 ⟨rfl,hb⟩;refine ⟨_,rfl,?_⟩;replace a9:=rb a9 hb;replace al:=bb al hb;replace HB:=hbs hb;(try clear hb)))
  go_roundg k1
  case measure=>have:=HK1.out;omega
  case rel=>exact ⟨(bx),(aN),(wrap64 (ax - 1)),q4_6,q4_6,H',⟨by have:=HK1.out;omega⟩,⟨pe a9.out⟩,⟨pb al.out⟩,⟨hq⟩⟩
end Go.Proofs.YtlppkilencpmeaaGreat.QFnGrowing
