/- Functions as Lean functions, with their contracts: written by a program of this claim over the translation; some contracts are proved by hand. -/
import Derived.Test.YtlppkilencpmeaaGreatQFnGrowthx0
namespace Go.Proofs.YtlppkilencpmeaaGreat.QFnGrowth
open Go.RowKit Go.Proofs.YtlppkilencpmeaaGreat.Gl Go.Proofs.YtlppkilencpmeaaGreat.Sz Go.Proofs.YtlppkilencpmeaaGreatW.PrintWords Go.Proofs.YtlppkilencpmeaaGreatW.PrintLast Go.Proofs.YtlppkilencpmeaaGreatW.PrintMore
attribute [local go_sem] max2_int min2_int max_two min_two max_three min_three max_four min_four   -- for this text's walks alone
set_option linter.unusedVariables false
set_option linter.unusedSimpArgs false
theorem q1_0 {P:Prop} (h:P:=by repeat (first|(with_reducible first|exact aa.out|apply IsS90.alloc|apply IsS90.drewN|apply IsS90.drew|apply IsS90.set_1|apply IsS90.set_2)|exact aa.out)):P:=h
theorem q1_1 {P:Prop} (h:P:=by repeat (first|(with_reducible first|exact HB.out|apply below_alloc|apply pw_below_drewN|apply below_drew1|refine below_set ?_ (IsS90.ge aa.out))|exact HB.out)):P:=h
theorem q1_2 {P:Prop} (h:P:=by repeat (first|(with_reducible first|exact HB.out|apply below_alloc|apply pw_below_drewN|apply below_drew1|refine below_set ?_ (IsS90.ge HI0.out))|exact HB.out)):P:=h
theorem q1_3 {P:Prop} (h:P:=by repeat (first|(with_reducible first|exact HI0.out|apply IsS90.alloc|apply IsS90.drewN|apply IsS90.drew|apply IsS90.set_1|apply IsS90.set_2)|exact HI0.out)):P:=h
theorem q1_4 {P:Prop} (h:P:=by repeat (first|(with_reducible first|exact HK.out|apply KeepBut.set_|apply keep_drewN|apply keep_drew|apply keep_alloc)|exact HK.out)):P:=h
theorem q1_5 {P:Prop} (h:P:=by repeat (first|(with_reducible first|exact HBW.out|apply below_alloc|apply pw_below_drewN|apply below_drew1|refine below_set ?_ aM.out)|exact HBW.out)):P:=h
theorem q1_6 {P:Prop} (h:P:=by first|(with_reducible assumption)|assumption):P:=h
theorem q1_7 {P:Prop} (h:P:=by first|rfl|(simp;done)|(simp [*];done)):P:=h
theorem q1_8 {P:Prop} (h:P:=by rw [hg];exact (below_size (by repeat (first|(with_reducible first|exact HBW.out|apply below_alloc|apply pw_below_drewN|apply below_drew1)|exact HBW.out)))):P:=h
set_option maxHeartbeats 8000000
set_option maxRecDepth 100000
def laws_big.f (l0:List Int):Option (Bool):=some (decide ((l0.length:Int)>4096))
theorem laws_big.calls (A0:Option Addr) (c0:Nat) (l0:List Int) (r:Bool) (w:World) (hr0:Kd.C (Kd.int .u8) w A0 l0.length l0) (hc0:l0.length≤c0) (h:laws_big.f l0=some r) :
  Calls Tryz.prog 5 #[.slice A0 l0.length c0] w fun e w'=>e=.returned (.bool r)∧Drawn0 w w':=by
 have HR0:=ak hr0;have HC0:=ak hc0;clear hr0 hc0;have H:(some (decide ((l0.length:Int)>4096)))=some r:=h;clear h;obtain rfl:=Option.some.inj H
 go_enter Tryz.func5,Tryz.ntmps5
 go_wp2
 go_ret
 exact ⟨q1_7,by repeat (first|exact Drawn0.refl _|apply Drawn0.step)⟩
def IsS90 (w0 W:World) (g:Nat) (f0:List Int) (f1:Int) (f2:Int):Prop:=∃ A0 c0,W.heap[g]?=some (.cells #[.slice A0 f0.length c0,.int .i64 f1,.int .u64 f2] 90 (0,0))∧w0.heap.size≤g∧Kd.C (Kd.int .u8) w0 A0 f0.length f0
theorem IsS90.grown {w0 W:World} {g:Nat} {f0:List Int} {f1:Int} {f2:Int} {W1:World} {row:Option Nat} (h:IsS90 w0 W g f0 f1 f2) (hw:W.grownBy W1 row) (hne:some g≠row):IsS90 w0 W1 g f0 f1 f2:=by
 obtain ⟨A0,c0,hb,hg,hr0⟩:=h
 exact ⟨A0,c0,blk_grown hb hw hne,hg,hr0⟩
theorem IsS90.below {w0 W:World} {g:Nat} {f0:List Int} {f1:Int} {f2:Int} {W1:World} (h:IsS90 w0 W g f0 f1 f2) (hw:Below W.heap.size W W1):IsS90 w0 W1 g f0 f1 f2:=h.grown (grown_of_below hw none) (by simp)
theorem IsS90.drewN {w0 W:World} {g:Nat} {f0:List Int} {f1:Int} {f2:Int} (h:IsS90 w0 W g f0 f1 f2) (m:Nat):IsS90 w0 (W.drewN m) g f0 f1 f2:=h
theorem IsS90.drew {w0 W:World} {g:Nat} {f0:List Int} {f1:Int} {f2:Int} (h:IsS90 w0 W g f0 f1 f2):IsS90 w0 W.drew g f0 f1 f2:=h
theorem IsS90.apart {w0 W:World} {g:Nat} {f0:List Int} {f1:Int} {f2:Int} {α:Type} {d:Kd α} {e:Nat} {base:Nat} {ok:Nat→Prop} {v:Value} {xs:List α} (h:IsS90 w0 W g f0 f1 f2) (ho:d.R e W base ok v xs) (ht:∀ q,q∈e :: d.E→q≠90):d.R e W base (fun k=>ok k∧k≠g) v xs:=by
 obtain ⟨A0,c0,hb,hg,hr0⟩:=h
 exact Kd.R_types ho hb ht
theorem IsS90.own_ne {w0 W:World} {g:Nat} {f0:List Int} {f1:Int} {f2:Int} {α:Type} {d:Kd α} {e:Nat} {base:Nat} {ok:Nat→Prop} {v:Value} {xs:List α} (h:IsS90 w0 W g f0 f1 f2) (ho:d.R e W base ok v xs) (ht:e≠90):some g≠v.ownBlock:=by
 obtain ⟨A0,c0,hb,hg,hr0⟩:=h
 exact Kd.R_ne ho hb ht
theorem IsS90.lt {w0 W:World} {g:Nat} {f0:List Int} {f1:Int} {f2:Int} (h:IsS90 w0 W g f0 f1 f2):g<W.heap.size:=by
 obtain ⟨A0,c0,hb,hg,hr0⟩:=h
 exact blk_lt hb
theorem IsS90.ge {w0 W:World} {g:Nat} {f0:List Int} {f1:Int} {f2:Int} (h:IsS90 w0 W g f0 f1 f2):w0.heap.size≤g:=by
 obtain ⟨A0,c0,hb,hg,hr0⟩:=h
 exact hg
theorem IsS90.ne_blk {w0 W:World} {g:Nat} {f0:List Int} {f1:Int} {f2:Int} {a:Nat} {cs:Array Value} {t:TypeId} {fr:Nat × Nat} (h:IsS90 w0 W g f0 f1 f2) (hb2:W.heap[a]?=some (.cells cs t fr)) (ht:t≠90):g≠a:=by
 obtain ⟨A0,c0,hb,hg,hr0⟩:=h
 rintro rfl
 rw [hb] at hb2
 injection hb2 with hb2
 injection hb2 with _ ht2
 exact ht ht2.symm
theorem IsS90.far {w0 W:World} {g:Nat} {f0:List Int} {f1:Int} {f2:Int} {p:Addr} (h:IsS90 w0 W g f0 f1 f2) (hne:g≠p.block) (u:Value):IsS90 w0 (W.setCell p u) g f0 f1 f2:=by
 obtain ⟨A0,c0,hb,hg,hr0⟩:=h
 exact ⟨A0,c0,blk_far hb hne u,hg,hr0⟩
theorem cellS90_0 {W:World} {g:Nat} {A0:Option Addr} {c0:Nat} {f0:List Int} {f1:Int} {f2:Int} (h:W.heap[g]?=some (.cells #[.slice A0 f0.length c0,.int .i64 f1,.int .u64 f2] 90 (0,0))):W.cell? ⟨g,0,none⟩=some (.slice A0 f0.length c0):=(blk_cell h 0).trans rfl
theorem cellS90_1 {W:World} {g:Nat} {A0:Option Addr} {c0:Nat} {f0:List Int} {f1:Int} {f2:Int} (h:W.heap[g]?=some (.cells #[.slice A0 f0.length c0,.int .i64 f1,.int .u64 f2] 90 (0,0))):W.cell? ⟨g,1,none⟩=some (.int .i64 f1):=(blk_cell h 1).trans rfl
theorem IsS90.set_1 {w0 W:World} {g:Nat} {f0:List Int} {f1:Int} {f2:Int} (h:IsS90 w0 W g f0 f1 f2) (x:Int):IsS90 w0 (W.setCell ⟨g,1,none⟩ (.int .i64 x)) g f0 x f2:=by
 obtain ⟨A0,c0,hb,hg,hr0⟩:=h
 exact ⟨A0,c0,by simpa using blk_set hb 1 (.int .i64 x),hg,hr0⟩
theorem cellS90_2 {W:World} {g:Nat} {A0:Option Addr} {c0:Nat} {f0:List Int} {f1:Int} {f2:Int} (h:W.heap[g]?=some (.cells #[.slice A0 f0.length c0,.int .i64 f1,.int .u64 f2] 90 (0,0))):W.cell? ⟨g,2,none⟩=some (.int .u64 f2):=(blk_cell h 2).trans rfl
theorem IsS90.set_2 {w0 W:World} {g:Nat} {f0:List Int} {f1:Int} {f2:Int} (h:IsS90 w0 W g f0 f1 f2) (x:Int):IsS90 w0 (W.setCell ⟨g,2,none⟩ (.int .u64 x)) g f0 f1 x:=by
 obtain ⟨A0,c0,hb,hg,hr0⟩:=h
 exact ⟨A0,c0,by simpa using blk_set hb 2 (.int .u64 x),hg,hr0⟩
def spec_l01From.l0:Nat→List Int→Int→List Int→Int→Int→Option (List Int × Int × Int)
 | 0,_,_,_,_,_=>none
 | k+1,x0,x4,x102000,x102001,x102002=>if x4<(x0.length:Int) then (if x4<4096 then (if 0≤x4 then (spec_l01From.l0 k x0 (wrap64 (x4+1)) x102000 x102001 (IntKind.u64.wrap ((IntKind.u64.wrap ((IntKind.u64.wrap (x102002*1099511628211))+(IntKind.u64.wrap (rd x0 x4))))+233))) else (none)) else (some (x102000,x102001,x102002))) else (some (x102000,x102001,x102002))
def spec_l01From.f (k:Nat) (l0:List Int):Option (List Int × Int × Int):=spec_l01From.l0 k l0 0 l0 0 (IntKind.u64.wrap (13911+(IntKind.u64.wrap (l0.length:Int))))
def spec_l01From.T5:Bool × List (List Nat × List Nat):=(true,[([],[]),([],[]),([1],[1]),([2],[2]),([3],[3]),([4],[4]),([],[]),([],[]),([6,7],[6,7]),([8],[8]),([9],[9]),([5,10],[5,10]),([11],[11]),([0,0,1,2,3,4,5,6,7,8,9,10,11,12],[0]),([13,0,1,2,3,4,5,6,7,8,9,10,11,12],[13]),([14,12,0,1,2,3,4,5,6,7,8,9,10,11,12],[12,14])])
def spec_l01From.B5:List Nat:=[0,0,2,6,14,30,0,0,192,448,960,2046,4094,8191,16383,32767]
theorem spec_l01From.tab5:rtab .any (opsOf Tryz.f49 5)=spec_l01From.T5:=by kernel_rfl
theorem spec_l01From.bits5:waitsOk spec_l01From.T5.2 spec_l01From.B5=true:=by kernel_rfl
theorem spec_l01From.calls (k:Nat) (A0:Option Addr) (c0:Nat) (l0:List Int) (r1:List Int) (r2:Int) (r3:Int) (w0 w:World) (hB:Below w0.heap.size w0 w) (hr0:Kd.C (Kd.int .u8) w0 A0 l0.length l0) (hc0:l0.length≤c0) (h:spec_l01From.f k l0=some (r1,r2,r3)) :
  Calls Tryz.prog 49 #[.slice A0 l0.length c0] w fun e w'=>∃ g_:Nat,e=.returned (.pointer (some ⟨g_,0,none⟩))∧IsS90 w0 w' g_ r1 r2 r3∧Below w0.heap.size w0 w'∧Below w.heap.size w w':=by
 have hu90:=Tryz.underlying90;have HR0:=ak hr0;have HC0:=ak hc0;clear hr0 hc0;have HBW:=ak (Below.refl w.heap.size w);have HW0:=ak hB.size;have HB:=ak hB;clear hB;have H:(spec_l01From.l0 k l0 0 l0 0 (IntKind.u64.wrap (13911+(IntKind.u64.wrap (l0.length:Int)))))=some (r1,r2,r3):=h;clear h;have H':=ak H;clear H
 go_enter Tryz.func49,Tryz.ntmps49
 go_wp2_with (first|((with_reducible refine gate_dst (N:=11) rfl ?_);refine bev (N:=11) (cs:=#[.slice A0 l0.length c0,.int .i64 0,.int .u64 (IntKind.u64.wrap (13911+(IntKind.u64.wrap (l0.length:Int))))]) (t:=90) ?_;intro al hg w2 hbox hb;replace HB:=hbs hb;have ag:=ak (hbox);have aM:=ak (q1_8:w.heap.size≤al);have bm:=ak (Nat.le_trans HW0.out (q1_8:w.heap.size≤al):w0.heap.size≤al);replace HBW:=ak (below_step HBW.out hb);clear hb hbox hg))
 go_loopg [4] k (fun kq v4 w'=>∃ (ab:Int) (an:Int),v4=.int .i64 ab∧Aside0 (spec_l01From.l0 kq l0 ab l0 0 an=some (r1,r2,r3))∧Aside0 (kq≤k)∧Aside0 (w'.heap[al]?=some (.cells #[(.slice A0 l0.length c0),.int .i64 0,.int .u64 an] 90 (0,0)))∧Aside0 (Below w0.heap.size w0 w')∧Aside0 (Below w.heap.size w w'))
 case atStart=>exact ⟨(0),(IntKind.u64.wrap (13911+(IntKind.u64.wrap (l0.length:Int)))),q1_7,H',⟨Nat.le_refl _⟩,⟨pb ag.out⟩,⟨hq⟩,⟨q1_5⟩⟩
 case round =>
  clear H'
  try clear p2
  obtain ⟨ab,an,rfl,HA,HK1,ag,HB,HBW⟩:=hrel
  cases gk with|zero=>exact absurd HA.out (by simp [spec_l01From.l0])|succ k1=>?_
  have H:=HA.out;clear HA;simp only [spec_l01From.l0] at H;obtain c3|c3:=nem (ab<(l0.length:Int))
  ·rw [if_neg c3] at H;have aY:=df c3;clear c3;simp only [Option.some.injEq,Prod.mk.injEq] at H;obtain ⟨rfl,rfl,rfl⟩:=H;go_wp2
   go_ret
   exact ⟨_,rfl,(show IsS90 w0 _ al l0 0 an from ⟨_,_,pb ag.out,bm.out,HR0.out⟩),hq,q1_5⟩
  rw [if_pos c3] at H;have aY:=dt c3;clear c3;obtain c4|c4:=nem (ab<4096)
  ·rw [if_neg c4] at H;have aN:=df c4;clear c4;simp only [Option.some.injEq,Prod.mk.injEq] at H;obtain ⟨rfl,rfl,rfl⟩:=H;go_wp2
   go_ret
   exact ⟨_,rfl,(show IsS90 w0 _ al l0 0 an from ⟨_,_,pb ag.out,bm.out,HR0.out⟩),hq,q1_5⟩
  rw [if_pos c4] at H;have aN:=dt c4;clear c4;replace H:=ifs H;obtain ⟨c5,H⟩:=H;have bo:=dt c5;clear c5;have H':=ak H;clear H
  try go_wp2
  have n0_:=ak (blk_drew ag.out);have n1_:=ak (below_drew1 HB.out);have nW_:=ak (below_drew1 HBW.out);clear HBW;have HBW:=nW_;clear ag HB;have ag:=n0_;have HB:=n1_;clear n0_ n1_;have aZ:0≤(ab:Int):=od q1_6;have a2:ab<(l0.length:Int):=od q1_6;obtain ⟨a3,bH,aQ⟩:=Kd.at_int HR0.out ab aZ a2;have hw102_0:=aQ;cases bH;replace aQ:=pw_cell_below HB.out aQ;replace aZ:=eq_true aZ;replace a2:=eq_true a2
  refine start_ (n:=16) (S:=fun w'=>w'.cell? ⟨al,0,none⟩=some (.slice (some a3) l0.length c0)∧w'.cell? ⟨al,1,none⟩=some (.int .i64 0)∧w'.cell? ⟨al,2,none⟩=some (.int .u64 an)∧w'.cell? (a3.add (ab).toNat)=some (.int .u8 (rd l0 ab))) (ds:=[15]) #[false,false,false,false,false,false,false,false,false,false,false,false,false,false,false,false] kr rfl rfl ⟨(blk_cell ag.out 0).trans rfl,(blk_cell ag.out 1).trans rfl,(blk_cell ag.out 2).trans rfl,((HB.out.cell (World.block_lt_of_cell? w0 _ hw102_0)).trans hw102_0)⟩ (fun hHeld=>?_);refine with_tabW spec_l01From.tab5 spec_l01From.bits5 (fun HT_ HW_=>?_)
  generalize wr.drew=w6 at ag HB HBW aQ hHeld ⊢
  refine pur (i:=0) (N:=some 22) (v:=?_) (a':=?_) (tf 1 15) rfl (Or.inl ⟨by rfl,?_⟩) ?_ ?_
  rotate_left
  ·intro w'
   go_simp
   with_reducible rfl
  rotate_left
  ·simp only [Act.put,sIB,sc0,scs,i64_w,i32_w]
   rfl
  refine pur (i:=1) (N:=some 23) (v:=?_) (a':=?_) (tf 2 14) rfl (Or.inl ⟨by rfl,?_⟩) ?_ ?_
  rotate_left
  ·intro w'
   go_simp
   with_reducible rfl
  rotate_left
  ·simp only [Act.put,sIB,sc0,scs,i64_w,i32_w]
   rfl
  refine pur (i:=2) (N:=some 24) (v:=?_) (a':=?_) (tf 3 13) rfl (Or.inl ⟨by rfl,?_⟩) ?_ ?_
  rotate_left
  ·intro w'
   go_simp
   with_reducible rfl
  rotate_left
  ·simp only [Act.put,sIB,sc0,scs,i64_w,i32_w]
   rfl
  refine pur (i:=3) (N:=some 25) (v:=?_) (a':=?_) (tf 4 12) rfl (Or.inl ⟨by rfl,?_⟩) ?_ ?_
  rotate_left
  ·intro w'
   go_simp
   with_reducible rfl
  rotate_left
  ·simp only [Act.put,sIB,sc0,scs,i64_w,i32_w]
   rfl
  refine pur (i:=6) (N:=some 28) (v:=?_) (a':=?_) #[true,true,true,true,false,false,true,false,false,false,false,false,false,false,false,false] rfl (Or.inl ⟨by rfl,?_⟩) ?_ ?_
  rotate_left
  ·intro w'
   go_simp
   with_reducible rfl
  rotate_left
  ·simp only [Act.put,sIB,sc0,scs,i64_w,i32_w]
   rfl
  refine pur (i:=7) (N:=some 29) (v:=?_) (a':=?_) #[true,true,true,true,false,false,true,true,false,false,false,false,false,false,false,false] rfl (Or.inl ⟨by rfl,?_⟩) ?_ ?_
  rotate_left
  ·intro w'
   go_simp
   with_reducible rfl
  rotate_left
  ·simp only [Act.put,sIB,sc0,scs,i64_w,i32_w]
   rfl
  refine pur (i:=8) (N:=some 30) (v:=?_) (a':=?_) #[true,true,true,true,false,false,true,true,true,false,false,false,false,false,false,false] rfl (Or.inl ⟨by rfl,?_⟩) ?_ ?_
  rotate_left
  ·intro w'
   go_simp
   with_reducible rfl
  rotate_left
  ·simp only [Act.put,sIB,sc0,scs,i64_w,i32_w]
   rfl
  refine take_ (i:=4) (N:=some 26) (v:=?_) (a':=?_) #[true,true,true,true,true,false,true,true,true,false,false,false,false,false,false,false] rfl rfl (take_ofW HT_.out HW_.out kr) (fun _ _ _ h=>h) (Or.inl ⟨by rfl,?_⟩) hHeld ?_ ?_
  rotate_left
  ·rintro w' ⟨s0,s1,s2,s3⟩
   go_simp
   with_reducible rfl
  rotate_left
  ·simp only [Act.put,sIB,sc0,scs,i64_w,i32_w]
   rfl
  refine pur (i:=5) (N:=some 27) (v:=?_) (a':=?_) (tf 9 7) rfl (Or.inl ⟨by rfl,?_⟩) ?_ ?_
  rotate_left
  ·intro w'
   go_simp
   with_reducible rfl
  rotate_left
  ·simp only [Act.put,sIB,sc0,scs,i64_w,i32_w]
   rfl
  refine take_ (i:=9) (N:=some 31) (v:=?_) (a':=?_) (tf 10 6) rfl rfl (take_ofW HT_.out HW_.out kr) (fun _ _ _ h=>h) (Or.inl ⟨by rfl,?_⟩) hHeld ?_ ?_
  rotate_left
  ·rintro w' ⟨s0,s1,s2,s3⟩
   go_simp
   with_reducible rfl
  rotate_left
  ·simp only [Act.put,sIB,sc0,scs,i64_w,i32_w]
   rfl
  refine pur (i:=10) (N:=some 32) (v:=?_) (a':=?_) (tf 11 5) rfl (Or.inl ⟨by rfl,?_⟩) ?_ ?_
  rotate_left
  ·intro w'
   go_simp
   with_reducible rfl
  rotate_left
  ·simp only [Act.put,sIB,sc0,scs,i64_w,i32_w]
   rfl
  refine pur (i:=11) (N:=some 33) (v:=?_) (a':=?_) (tf 12 4) rfl (Or.inl ⟨by rfl,?_⟩) ?_ ?_
  rotate_left
  ·intro w'
   go_simp
   with_reducible rfl
  rotate_left
  ·simp only [Act.put,sIB,sc0,scs,i64_w,i32_w]
   rfl
  refine pur (i:=12) (N:=some 34) (v:=?_) (a':=?_) (tf 13 3) rfl (Or.inl ⟨by rfl,?_⟩) ?_ ?_
  rotate_left
  ·intro w'
   go_simp
   with_reducible rfl
  rotate_left
  ·simp only [Act.put,sIB,sc0,scs,i64_w,i32_w]
   rfl
  refine pur (i:=13) (N:=some 35) (v:=?_) (a':=?_) (tf 14 2) rfl (Or.inl ⟨by rfl,?_⟩) ?_ ?_
  rotate_left
  ·intro w'
   go_simp
   with_reducible rfl
  rotate_left
  ·simp only [Act.put,sIB,sc0,scs,i64_w,i32_w]
   rfl
  refine pur (i:=14) (N:=some 36) (v:=?_) (a':=?_) (tf 15 1) rfl (Or.inl ⟨by rfl,?_⟩) ?_ ?_
  rotate_left
  ·intro w'
   go_simp
   with_reducible rfl
  rotate_left
  ·simp only [Act.put,sIB,sc0,scs,i64_w,i32_w]
   rfl
  refine last_ (i:=15) (N:=none) #[true,true,true,true,true,true,true,true,true,true,true,true,true,true,true,true] rfl rfl (one_of HT_.out kr) dc (fun K hK=>?_)
  have hs7:w6.cell? ⟨al,2,none⟩=some (.int .u64 an):=(blk_cell ag.out 2).trans rfl;have hfs7:=blk_frozen ag.out 2
  refine skip_ (w1:=?_) (by rfl) rfl ?_ ?_
  rotate_left
  ·go_simp
   rfl
  refine hK.out _ _ ?_
  clear hK K
  refine done_ (done_of HT_.out kr) ?_
  try go_wp2
  go_roundg k1
  case measure=>have:=HK1.out;omega
  case rel=>exact ⟨(wrap64 (ab+1)),(IntKind.u64.wrap ((IntKind.u64.wrap ((IntKind.u64.wrap (an*1099511628211))+(IntKind.u64.wrap (rd l0 ab))))+233)),q1_7,H',⟨by have:=HK1.out;omega⟩,⟨by (with_reducible repeat (first|refine blk_drewN ?_ _|refine blk_drew ?_|refine blk_alloc ?_ _));refine blk_put (cs:=#[.slice (some a3) l0.length c0,.int .i64 0,.int .u64 an]) ?_ 2 _ rfl;exact pb ag.out⟩,⟨hq⟩,⟨q1_5⟩⟩
def spec_l01Next.f (s0_0:List Int) (s0_1:Int) (s0_2:Int) (a1:Int):Option (Int × Int × Int):=if a1<1 then (some (0,s0_1,s0_2)) else (if s0_1<(s0_0.length:Int) then (if 0≤s0_1 then (if a1=0 then (none) else (some (Int.tmod (wrap64 ((wrap64 (Go.bits .and .u64 ((IntKind.u64.wrap ((IntKind.u64.wrap (s0_2*6364136223846793005))+1442695040888963407)) / 8589934592) 16777215))+(wrap64 (rd s0_0 s0_1)))) a1,wrap64 (s0_1+1),IntKind.u64.wrap ((IntKind.u64.wrap (s0_2*6364136223846793005))+1442695040888963407)))) else (none)) else (if a1=0 then (none) else (some (Int.tmod (wrap64 (Go.bits .and .u64 ((IntKind.u64.wrap ((IntKind.u64.wrap (s0_2*6364136223846793005))+1442695040888963407)) / 8589934592) 16777215)) a1,s0_1,IntKind.u64.wrap ((IntKind.u64.wrap (s0_2*6364136223846793005))+1442695040888963407)))))
theorem spec_l01Next.calls (g:Nat) (s0_0:List Int) (s0_1:Int) (s0_2:Int) (a1:Int) (r1:Int) (r2:Int) (r3:Int) (w0 w:World) (hI:IsS90 w0 w g s0_0 s0_1 s0_2) (hB:Below w0.heap.size w0 w) (h:spec_l01Next.f s0_0 s0_1 s0_2 a1=some (r1,r2,r3)) :
  Calls Tryz.prog 50 #[.pointer (some ⟨g,0,none⟩),.int .i64 a1] w fun e w'=>e=.returned (.int .i64 r1)∧IsS90 w0 w' g s0_0 r2 r3∧Below w0.heap.size w0 w'∧KeepBut w w' g none:=by
 have HI0:=ak hI;have HK:=ak (KeepBut.refl w g none);have HL:=ak hB.size;clear hI;have HW0:=ak hB.size;have HB:=ak hB;clear hB;have H:(if a1<1 then (some (0,s0_1,s0_2)) else (if s0_1<(s0_0.length:Int) then (if 0≤s0_1 then (if a1=0 then (none) else (some (Int.tmod (wrap64 ((wrap64 (Go.bits .and .u64 ((IntKind.u64.wrap ((IntKind.u64.wrap (s0_2*6364136223846793005))+1442695040888963407)) / 8589934592) 16777215))+(wrap64 (rd s0_0 s0_1)))) a1,wrap64 (s0_1+1),IntKind.u64.wrap ((IntKind.u64.wrap (s0_2*6364136223846793005))+1442695040888963407)))) else (none)) else (if a1=0 then (none) else (some (Int.tmod (wrap64 (Go.bits .and .u64 ((IntKind.u64.wrap ((IntKind.u64.wrap (s0_2*6364136223846793005))+1442695040888963407)) / 8589934592) 16777215)) a1,s0_1,IntKind.u64.wrap ((IntKind.u64.wrap (s0_2*6364136223846793005))+1442695040888963407))))))=some (r1,r2,r3):=h;clear h
 by_cases c3:a1<1
 ·rw [if_pos c3] at H;have aY:=dt c3;clear c3;simp only [Option.some.injEq,Prod.mk.injEq] at H;obtain ⟨rfl,rfl,rfl⟩:=H
  go_enter Tryz.func50,Tryz.ntmps50
  go_wp2
  repeat (go_quiet (fail);try go_wp2)
  go_ret
  exact ⟨ew,q1_3,q1_2,q1_4⟩
 rw [if_neg c3] at H;have aY:=df c3;clear c3;obtain c4|c4:=nem (s0_1<(s0_0.length:Int))
 ·rw [if_neg c4] at H;have aN:=df c4;clear c4
  by_cases c8:a1=0
  ·rw [if_pos c8] at H
   exact absurd H (by simp)
  rw [if_neg c8] at H;have b6:(a1 == 0)=false:=beq_eq_false_iff_ne.mpr c8;have b7:(a1 != 0)=true:=bne_iff_ne.mpr c8;simp only [Option.some.injEq,Prod.mk.injEq] at H;obtain ⟨rfl,rfl,rfl⟩:=H;obtain ⟨ASz9_0,cSz9_0,HGz9,hgz9,HSz9_0⟩:=HI0.out;have b8:=cellS90_0 HGz9;have b9:=cellS90_1 HGz9;have ca:=cellS90_2 HGz9;have cb:=blk_frozen HGz9 1;have cc:=blk_frozen HGz9 2;clear HGz9 hgz9
  go_enter Tryz.func50,Tryz.ntmps50
  go_wp2
  repeat (go_quiet (fail);try go_wp2)
  go_ret
  exact ⟨ew,q1_3,q1_2,q1_4⟩
 rw [if_pos c4] at H;have aN:=dt c4;clear c4;replace H:=ifs H;obtain ⟨c5,H⟩:=H;have bo:=dt c5;clear c5
 by_cases c6:a1=0
 ·rw [if_pos c6] at H
  exact absurd H (by simp)
 rw [if_neg c6] at H;have cd:(a1 == 0)=false:=beq_eq_false_iff_ne.mpr c6;have ce:(a1 != 0)=true:=bne_iff_ne.mpr c6;simp only [Option.some.injEq,Prod.mk.injEq] at H;obtain ⟨rfl,rfl,rfl⟩:=H;obtain ⟨ASz7_0,cSz7_0,HGz7,hgz7,HSz7_0⟩:=HI0.out;have cf:=cellS90_0 HGz7;have cg:=cellS90_1 HGz7;have ch:=cellS90_2 HGz7;have ci:=blk_frozen HGz7 1;have cj:=blk_frozen HGz7 2;clear HGz7 hgz7;have a4:0≤(s0_1:Int):=od q1_6;have a5:s0_1<(s0_0.length:Int):=od q1_6;obtain ⟨bI,bJ,aw⟩:=Kd.at_int HSz7_0 s0_1 a4 a5;cases bJ;have hn103_0:bI.block≠g:=Nat.ne_of_lt (Nat.lt_of_lt_of_le (by have:=World.block_lt_of_cell? _ _ aw;first|rwa [add_block] at this|exact this) (IsS90.ge HI0.out));replace aw:=pw_cell_below HB.out aw;replace aw:=(cell_far (p:=⟨g,2,none⟩) (by first|(rw [add_block];exact hn103_0)|(show (Addr.add _ _).block≠_;rw [add_block];exact hn103_0)|exact hn103_0) (.int .u64 (IntKind.u64.wrap ((IntKind.u64.wrap (s0_2*6364136223846793005))+1442695040888963407)))).trans aw;(try have ck:=fun (n_:Nat)=>(show ((w.drewN n_).setCell ⟨g,2,none⟩ (.int .u64 (IntKind.u64.wrap ((IntKind.u64.wrap (s0_2*6364136223846793005))+1442695040888963407)))).cell? _=some _ from aw));clear hn103_0;replace a4:=eq_true a4;replace a5:=eq_true a5
 go_enter Tryz.func50,Tryz.ntmps50
 go_wp2
 repeat (go_quiet (fail);try go_wp2)
 go_ret
 exact ⟨ew,q1_3,q1_2,q1_4⟩
def spec_l01Pick.f (s0_0:List Int) (s0_1:Int) (s0_2:Int) (l1:List Int):Option (Int × Int × Int):=(spec_l01Next.f s0_0 s0_1 s0_2 (l1.length:Int)).bind fun bt104=>(if 0≤bt104.1 then (if bt104.1<(l1.length:Int) then (some (rd l1 bt104.1,bt104.2.1,bt104.2.2)) else (none)) else (none))
theorem spec_l01Pick.calls (g:Nat) (s0_0:List Int) (s0_1:Int) (s0_2:Int) (A1:Option Addr) (c1:Nat) (l1:List Int) (r1:Int) (r2:Int) (r3:Int) (w0 w:World) (hI:IsS90 w0 w g s0_0 s0_1 s0_2) (hB:Below w0.heap.size w0 w) (hr1:Kd.C (Kd.int .i64) w A1 l1.length l1) (hc1:l1.length≤c1) (hf1:∀ ad,A1=some ad→0<l1.length→ad.block≠g) (h:spec_l01Pick.f s0_0 s0_1 s0_2 l1=some (r1,r2,r3)) :
  Calls Tryz.prog 51 #[.pointer (some ⟨g,0,none⟩),.slice A1 l1.length c1] w fun e w'=>e=.returned (.int .i64 r1)∧IsS90 w0 w' g s0_0 r2 r3∧Below w0.heap.size w0 w'∧KeepBut w w' g none:=by
 have HR1:=ak hr1;have HC1:=ak hc1;clear hr1 hc1;have HI0:=ak hI;have HK:=ak (KeepBut.refl w g none);have HL:=ak hB.size;clear hI;have HW0:=ak hB.size;have HB:=ak hB;clear hB;have H:((spec_l01Next.f s0_0 s0_1 s0_2 (l1.length:Int)).bind fun aC=>(if 0≤aC.1 then (if aC.1<(l1.length:Int) then (some (rd l1 aC.1,aC.2.1,aC.2.2)) else (none)) else (none)))=some (r1,r2,r3):=h;clear h;replace H:=bs H;obtain ⟨⟨aR,bK,bL⟩,A3,H⟩:=H;(try dsimp only at H);replace H:=ifs H;obtain ⟨c4,H⟩:=H;have aN:=dt c4;clear c4;replace H:=ifs H;obtain ⟨c5,H⟩:=H;have bo:=dt c5;clear c5;simp only [Option.some.injEq,Prod.mk.injEq] at H;obtain ⟨rfl,rfl,rfl⟩:=H
 go_enter Tryz.func51,Tryz.ntmps51
 go_wp2_with (first|((with_reducible refine gate_callee (f:=50) rfl ?_);refine gl (some 9) Tryz.func50 #[.pointer (some ⟨g,0,none⟩),.int .i64 (l1.length:Int)] ?_;(with_reducible refine (spec_l01Next.calls g s0_0 s0_1 s0_2 (l1.length:Int) aR bK bL w0 _ ?side1 ?side2 A3.out).mono ?_);(case side1=>exact q1_3);(case side2=>exact q1_2);rintro e w6 ⟨rfl,hi,hb,hk⟩;refine ⟨_,rfl,?_⟩;replace HK:=ak (KeepBut.trans q1_4 hk (.inl rfl));replace HB:=ak (hb);replace HI0:=ak (hi);(try clear hb);(try clear hb2);(try clear hk);(try clear hi);have a6:0≤(aR:Int):=od q1_6;have a7:aR<(l1.length:Int):=od q1_6;obtain ⟨bM,bN,bp⟩:=Kd.at_int HR1.out aR a6 a7;cases bN;replace bp:=keep_cell HK.out bp (by first|(rw [add_block];exact hf1 _ rfl (by omega))|exact hf1 _ rfl (by omega)|exact hf1 bM rfl (by omega));replace a6:=eq_true a6;replace a7:=eq_true a7))
 go_ret
 exact ⟨ew,q1_3,q1_2,q1_4⟩
mutual
def spec_DrawGrownTree.l0:Nat→List Int→Int→List Int→Int→Int→Option (List Int)
 | 0,_,_,_,_,_=>none
 | k+1,x4,x5,x112000,x112001,x112002=>if x5>0 then ((spec_l01Next.f x112000 x112001 x112002 (wrap64 ((x4.length:Int)+1))).bind fun bt124=>(if x4.length<17592186044416 then (spec_DrawGrownTree.l0 k (x4++[bt124.1]) (wrap64 (x5 - 1)) x112000 bt124.2.1 bt124.2.2) else (none))) else (if (x4.length:Int)>0 then ((spec_l01Next.f x112000 x112001 x112002 10).bind fun bt130=>(spec_DrawGrownTree.j1 k x4 (bt130.1 == 0) x112000 bt130.2.1 bt130.2.2)) else (spec_DrawGrownTree.j1 k x4 false x112000 x112001 x112002))
def spec_DrawGrownTree.j1:Nat→List Int→Bool→List Int→Int→Int→Option (List Int)
 | 0,_,_,_,_,_=>none
 | k+1,x4,x33,x112000,x112001,x112002=>if x33=true then ((spec_l01Next.f x112000 x112001 x112002 (x4.length:Int)).bind fun bt133=>((spec_l01Pick.f x112000 bt133.2.1 bt133.2.2 ([(-1),24,3]:List Int)).bind fun bt139=>(if 0≤bt133.1 then (if bt133.1<(x4.length:Int) then (some (x4.set (bt133.1:Int).toNat bt139.1)) else (none)) else (none)))) else (some x4)
end
def spec_DrawGrownTree.f (k:Nat) (l0:List Int):Option (List Int):=(spec_l01From.f k l0).bind fun bt108=>((spec_l01Pick.f bt108.1 bt108.2.1 bt108.2.2 ([5,12,24]:List Int)).bind fun bt118=>((spec_l01Next.f bt108.1 bt118.2.1 bt118.2.2 bt118.1).bind fun bt121=>(spec_DrawGrownTree.l0 k ([]:List Int) bt121.1 bt108.1 bt121.2.1 bt121.2.2)))
theorem spec_DrawGrownTree.calls (k:Nat) (A0:Option Addr) (c0:Nat) (l0:List Int) (r:List Int) (w:World) (hr0:Kd.C (Kd.int .u8) w A0 l0.length l0) (hc0:l0.length≤c0) (h:spec_DrawGrownTree.f k l0=some r) :
  Calls Tryz.prog 6 #[.slice A0 l0.length c0] w fun e w'=>∃ v0_:Value,e=.returned (v0_)∧Kd.R (Kd.int .i64) 2 w' w.heap.size (fun _=>True) v0_ r∧Below w.heap.size w w':=by
 have HR0:=ak hr0;have HC0:=ak hc0;clear hr0 hc0;have HB:=ak (Below.refl w.heap.size w);have H:((spec_l01From.f k l0).bind fun aD=>((spec_l01Pick.f aD.1 aD.2.1 aD.2.2 ([5,12,24]:List Int)).bind fun ah=>((spec_l01Next.f aD.1 ah.2.1 ah.2.2 ah.1).bind fun ai=>(spec_DrawGrownTree.l0 k ([]:List Int) ai.1 aD.1 ai.2.1 ai.2.2))))=some r:=h;clear h;replace H:=bs H;obtain ⟨⟨ae,ax,ay⟩,A2,H⟩:=H;(try dsimp only at H);obtain ⟨a8,hY⟩:∃ y_:List Int,y_=([]:List Int):=⟨_,rfl⟩;replace H:((spec_l01Pick.f ae ax ay ([5,12,24]:List Int)).bind fun ah=>((spec_l01Next.f ae ah.2.1 ah.2.2 ah.1).bind fun ai=>(spec_DrawGrownTree.l0 k a8 ai.1 ae ai.2.1 ai.2.2)))=some r:=hh;have bq:=ak hY;clear hY;obtain ⟨a9,hY⟩:∃ y_:List Int,y_=([5,12,24]:List Int):=⟨_,rfl⟩;replace H:((spec_l01Pick.f ae ax ay a9).bind fun ah=>((spec_l01Next.f ae ah.2.1 ah.2.2 ah.1).bind fun ai=>(spec_DrawGrownTree.l0 k a8 ai.1 ae ai.2.1 ai.2.2)))=some r:=hh;have br:=ak hY;clear hY;replace H:=bs H;obtain ⟨⟨ba,aT,aU⟩,A3,H⟩:=H;(try dsimp only at H);replace H:=bs H;obtain ⟨⟨bu,bv,bw⟩,A4,H⟩:=H;(try dsimp only at H);have H':=ak H;clear H
 go_enter Tryz.func6,Tryz.ntmps6
 go_wp2_with (first|((with_reducible refine gate_callee (f:=49) rfl ?_);refine gl (some 7) Tryz.func49 #[.slice A0 l0.length c0] ?_;(with_reducible refine (spec_l01From.calls k _ _ l0 ae ax ay w _ ?side1 HR0.out HC0.out A2.out).mono ?_);(case side1=>exact hq);rintro e w5 ⟨af,rfl,hi,hb,hb2⟩;refine ⟨_,rfl,?_⟩;replace HB:=ak (hb);have aa:=ak (hi);(try clear hb hb2 hi))|((with_reducible refine gate_dst (N:=8) rfl ?_);refine Kd.R_lit (Kd.int .i64) _ 2 ?hg (N:=8) ?hd (xs:=([]:List Int)) (inner:=[]) (ok:=fun _=>True) (okp:=fun _=>True) ?hr ?hp (fun _ hk=>hk) trivial (Below.refl _ _) (Nat.le_refl _) (by simp) ?_;(case hd=>rfl);(case hg=>rfl);(case hr=>exact gs);(case hp=>exact (Reps.none _ _));intro cl w6 ho7 hb hg_ hnew_;clear hg_ hnew_;(first|rw [← bq.out] at ho7|(simp only [Int.reduceToNat] at ho7;rw [← bq.out] at ho7));have ao:=ak (Kd.R_lower ho7 (below_size q1_1));replace HB:=ak (below_step q1_1 hb);replace aa:=ak (IsS90.below q1_0 hb);clear hb ho7)|((with_reducible refine gate_dst (N:=11) rfl ?_);refine Kd.R_lit (Kd.int .i64) _ 2 ?hg (N:=11) ?hd (xs:=([5,12,24]:List Int)) (inner:=[.int .i64 5,.int .i64 12,.int .i64 24]) (ok:=fun _=>True) (okp:=fun _=>True) ?hr ?hp (fun _ hk=>hk) trivial (Below.refl _ _) (Nat.le_refl _) (by simp) ?_;(case hd=>rfl);(case hg=>rfl);(case hr=>exact gs);(case hp=>exact (Reps.one (show Kd.M (Kd.int .i64) _ _ _ 5 [.int .i64 5] from rfl) (Reps.one (show Kd.M (Kd.int .i64) _ _ _ 12 [.int .i64 12] from rfl) (Reps.one (show Kd.M (Kd.int .i64) _ _ _ 24 [.int .i64 24] from rfl) (Reps.none _ _)))));intro cm w8 ho9 hb hg_ hnew_;clear hg_ hnew_;(first|rw [← br.out] at ho9|(simp only [Int.reduceToNat] at ho9;rw [← br.out] at ho9));have ap:=ak (Kd.R_lower (nw ho9 ao) (below_size q1_1));replace ao:=rn ao ho9 hb;replace HB:=ak (below_step q1_1 hb);replace aa:=ak (IsS90.below q1_0 hb);clear hb ho9;obtain ⟨bO,bP,bQ⟩:=Kd.R_slice ap.out;subst bQ)|((with_reducible refine gate_callee (f:=51) rfl ?_);refine gl (some 12) Tryz.func51 #[.pointer (some ⟨af,0,none⟩),.slice bO a9.length bP] ?_;(with_reducible refine (spec_l01Pick.calls af ae ax ay _ _ a9 ba aT aU w _ ?side1 ?side2 (pc ((Kd.R_reads' ap.out).2.2)) (Kd.R_reads' ap.out).2.1 ?side5 A3.out).mono ?_);(case side1=>exact q1_0);(case side2=>exact q1_1);(case side5=>exact far_slice (IsS90.own_ne aa.out ap.out dc));rintro e w11 ⟨rfl,hi,hb,hk⟩;refine ⟨_,rfl,?_⟩;replace ao:=ak (Kd.R_mono (Kd.R_keep (IsS90.apart (show IsS90 w _ af ae ax ay from q1_0) (pe ao.out) dc) hk (fun _ h=>h.2)) (fun _ h=>h.1));replace ap:=ak (Kd.R_mono (Kd.R_keep (IsS90.apart (show IsS90 w _ af ae ax ay from q1_0) (pe ap.out) dc) hk (fun _ h=>h.2)) (fun _ h=>h.1));replace HB:=ak (hb);replace aa:=ak (hi);(try clear hb hk hi))|((with_reducible refine gate_callee (f:=50) rfl ?_);refine gl (some 13) Tryz.func50 #[.pointer (some ⟨af,0,none⟩),.int .i64 ba] ?_;(with_reducible refine (spec_l01Next.calls af ae aT aU ba bu bv bw w _ ?side1 ?side2 A4.out).mono ?_);(case side1=>exact q1_0);(case side2=>exact q1_1);rintro e w12 ⟨rfl,hi,hb,hk⟩;refine ⟨_,rfl,?_⟩;replace ao:=ak (Kd.R_mono (Kd.R_keep (IsS90.apart (show IsS90 w _ af ae aT aU from q1_0) (pe ao.out) dc) hk (fun _ h=>h.2)) (fun _ h=>h.1));replace ap:=ak (Kd.R_mono (Kd.R_keep (IsS90.apart (show IsS90 w _ af ae aT aU from q1_0) (pe ap.out) dc) hk (fun _ h=>h.2)) (fun _ h=>h.1));replace HB:=ak (hb);replace aa:=ak (hi);(try clear hb hk hi)))
 go_loopg [4,5] k (fun kq v4 v5 w'=>∃ (ab:List Int) (aq:Int) (ar:Int) (au:Int),v5=.int .i64 aq∧Aside0 (spec_DrawGrownTree.l0 kq ab aq ae ar au=some r)∧Aside0 (kq≤k)∧Aside0 (Kd.R (Kd.int .i64) 2 w' w.heap.size (fun _=>True) v4 ab)∧Aside0 (IsS90 w w' af ae ar au)∧Aside0 (Below w.heap.size w w'))
 case atStart=>exact ⟨(a8),(bu),(bv),(bw),q1_7,H',⟨Nat.le_refl _⟩,⟨pe (Kd.R_mono ao.out (fun _ hk=>trivial))⟩,⟨q1_0⟩,⟨q1_1⟩⟩
 case round =>
  clear H';obtain ⟨ab,aq,ar,au,rfl,HA,HK1,ac,aa,HB⟩:=hrel
  cases gk with|zero=>exact absurd HA.out (by simp [spec_DrawGrownTree.l0])|succ k1=>?_
  have H:=HA.out;clear HA;simp only [spec_DrawGrownTree.l0] at H
  by_cases c13:aq>0
  ·rw [if_pos c13] at H;have bR:decide (0<aq)=true:=decide_eq_true c13;clear c13;replace H:=bs H;obtain ⟨⟨aV,bd,bf⟩,A14,H⟩:=H;(try dsimp only at H);replace H:=ifs H;obtain ⟨c15,H⟩:=H;have bS:=ak c15;clear c15;obtain ⟨bx,hY⟩:∃ y_:List Int,y_=(ab++[aV]):=⟨_,rfl⟩;replace H:(spec_DrawGrownTree.l0 k1 bx (wrap64 (aq - 1)) ae bd bf)=some r:=hh;have bT:=ak hY;clear hY;have H':=ak H;clear H;obtain ⟨bU,bV,bW⟩:=Kd.R_slice ac.out;subst bW
   go_wp2_with (first|((with_reducible refine gate_callee (f:=50) rfl ?_);refine gl (some 23) Tryz.func50 #[.pointer (some ⟨af,0,none⟩),.int .i64 (wrap64 ((ab.length:Int)+1))] ?_;(with_reducible refine (spec_l01Next.calls af ae ar au (wrap64 ((ab.length:Int)+1)) aV bd bf w _ ?side1 ?side2 A14.out).mono ?_);(case side1=>exact q1_0);(case side2=>exact q1_1);rintro e w17 ⟨rfl,hi,hb,hk⟩;refine ⟨_,rfl,?_⟩;replace ac:=ak (Kd.R_mono (Kd.R_keep (IsS90.apart (show IsS90 w _ af ae ar au from q1_0) (pe ac.out) dc) hk (fun _ h=>h.2)) (fun _ h=>h.1));replace HB:=ak (hb);replace aa:=ak (hi);(try clear hb hk hi))|((with_reducible refine gate_builtin (b:=.append) (xs:=#[.tmp 18,.tmp 24]) rfl ?_);at_builtin;refine Kd.R_append (Kd.int .i64) (w0:=w) w.heap.size rfl (.tmp 18) (.tmp 24) 24 2 (.int .i64 0) 8 rfl Tryz.underlying24 info2 rfl dc (by omega) (.slice bU ab.length bV) ab aV [.int .i64 aV] (fun _=>True) (fun _=>False) rfl rfl ?aP (fun _ hk=>hk.elim) ?aF ?aO ?aB ?aS ?aL ?_;(case aP=>exact rfl);(case aB=>exact q1_1);(case aF=>exact (fun _ _=>trivial));(case aO=>exact (pe ac.out));(case aS=>exact (below_size q1_1));(case aL=>have:=bS.out;omega);intro cn w18 ho hb hg hat;rw [← bT.out] at ho;replace aa:=ak (IsS90.grown q1_0 hg (IsS90.own_ne aa.out ac.out dc));replace HB:=ak (hb);have bX:=ak (ho);clear ac;clear ho hb hg hat))
   go_roundg k1
   case measure=>have:=HK1.out;omega
   case rel=>exact ⟨(bx),(wrap64 (aq - 1)),(bd),(bf),q1_7,H',⟨by have:=HK1.out;omega⟩,⟨pe bX.out⟩,⟨q1_0⟩,⟨q1_1⟩⟩
  rw [if_neg c13] at H;have bR:decide (0<aq)=false:=decide_eq_false c13;clear c13;have bg:=ak H;clear H
  go_upto_region 7 with (fail)
  go_cut [33] (fun v33 wc=>∃ (kq:Nat) (aW:Bool) (az:Int) (aA:Int),v33=.bool aW∧Aside0 (spec_DrawGrownTree.j1 kq ab aW ae az aA=some r)∧Aside0 (kq≤k1)∧Aside0 (Kd.R (Kd.int .i64) 2 wc w.heap.size (fun _=>True) u4 ab)∧Aside0 (IsS90 w wc af ae az aA)∧Aside0 (Below w.heap.size w wc))
  case first =>
   have H:=bg.out;clear bg;obtain c20|c20:=nem ((ab.length:Int)>0)
   ·rw [if_neg c20] at H;have aE:decide (0<(ab.length:Int))=false:=decide_eq_false c20;have bY:decide (0<ab.length)=false:=decide_eq_false (by omega);clear c20;(first|rw [aE]|(simp only [i64_w,i32_w];rw [aE])|skip);have H':=ak H;clear H;obtain ⟨co,cp,bZ⟩:=Kd.R_slice ac.out;subst bZ;go_wp2
    go_meet
    case rel=>exact ⟨_,(false),(ar),(au),q1_7,H',⟨by have:=HK1.out;first|omega|exact Nat.le_refl _⟩,⟨pe ac.out⟩,⟨q1_0⟩,⟨q1_1⟩⟩
   rw [if_pos c20] at H;have aE:decide (0<(ab.length:Int))=true:=decide_eq_true c20;have bY:decide (0<ab.length)=true:=decide_eq_true (by omega);clear c20;(first|rw [aE]|(simp only [i64_w,i32_w];rw [aE])|skip);replace H:=bs H;obtain ⟨⟨bz,bA,bB⟩,A21,H⟩:=H;(try dsimp only at H);have H':=ak H;clear H;obtain ⟨cq,cr,b0⟩:=Kd.R_slice ac.out;subst b0
   go_wp2_with (first|(go_at_call 50;(with_reducible refine (spec_l01Next.calls af ae ar au 10 bz bA bB w _ ?side1 ?side2 A21.out).mono ?_);(case side1=>exact q1_0);(case side2=>exact q1_1);rintro e w23 ⟨rfl,hi,hb,hk⟩;replace ac:=ak (Kd.R_mono (Kd.R_keep (IsS90.apart (show IsS90 w _ af ae ar au from q1_0) (pe ac.out) dc) hk (fun _ h=>h.2)) (fun _ h=>h.1));replace HB:=ak (hb);replace aa:=ak (hi);(try clear hb hk hi)))
   go_meet
   case rel=>exact ⟨_,(bz == 0),(bA),(bB),q1_7,H',⟨by have:=HK1.out;first|omega|exact Nat.le_refl _⟩,⟨pe ac.out⟩,⟨q1_0⟩,⟨q1_1⟩⟩
  clear bg;obtain ⟨kq,aW,az,aA,rfl,HA,ct,ac,aa,HB⟩:=hcut
  cases kq with|zero=>exact absurd HA.out (by simp [spec_DrawGrownTree.j1])|succ cu=>?_
  have H:=HA.out;clear HA;simp only [spec_DrawGrownTree.j1] at H;obtain c25|c25:=nem (aW=true)
  ·replace c25:=Bool.eq_false_iff.mpr c25;subst c25;have H1:(some ab)=some r:=by rw [if_neg (show ¬ (false=true) by decide)] at H;exact H
   clear H;have H:=H1;clear H1;obtain rfl:=Option.some.inj H;go_wp2
   go_ret
   exact ⟨_,ew,pe ac.out,q1_1⟩
  subst c25;replace H:((spec_l01Next.f ae az aA (ab.length:Int)).bind fun aG=>((spec_l01Pick.f ae aG.2.1 aG.2.2 ([(-1),24,3]:List Int)).bind fun bh=>(if 0≤aG.1 then (if aG.1<(ab.length:Int) then (some (ab.set (aG.1:Int).toNat bh.1)) else (none)) else (none))))=some r:=by rw [if_pos rfl] at H;exact H
  replace H:=bs H;obtain ⟨⟨aj,aH,aI⟩,A26,H⟩:=H;(try dsimp only at H);obtain ⟨aJ,hY⟩:∃ y_:List Int,y_=([(-1),24,3]:List Int):=⟨_,rfl⟩;replace H:((spec_l01Pick.f ae aH aI aJ).bind fun bh=>(if 0≤aj then (if aj<(ab.length:Int) then (some (ab.set (aj:Int).toNat bh.1)) else (none)) else (none)))=some r:=hh;have bC:=ak hY;clear hY;replace H:=bs H;obtain ⟨⟨aX,b1,b2⟩,A27,H⟩:=H;(try dsimp only at H);replace H:=ifs H;obtain ⟨c28,H⟩:=H;have cv:=dt c28;clear c28;replace H:=ifs H;obtain ⟨c29,H⟩:=H;have cw:=dt c29;clear c29;obtain ⟨bD,hY⟩:∃ y_:List Int,y_=(ab.set (aj:Int).toNat aX):=⟨_,rfl⟩;replace H:(some bD)=some r:=hh;have b3:=ak hY;clear hY;obtain rfl:=Option.some.inj H;obtain ⟨cx,bi,b4⟩:=Kd.R_slice ac.out;subst b4
  go_wp2_with (first|((with_reducible refine gate_callee (f:=50) rfl ?_);refine gl (some 38) Tryz.func50 #[.pointer (some ⟨af,0,none⟩),.int .i64 (ab.length:Int)] ?_;(with_reducible refine (spec_l01Next.calls af ae az aA (ab.length:Int) aj aH aI w _ ?side1 ?side2 A26.out).mono ?_);(case side1=>exact q1_0);(case side2=>exact q1_1);rintro e w32 ⟨rfl,hi,hb,hk⟩;refine ⟨_,rfl,?_⟩;replace ac:=ak (Kd.R_mono (Kd.R_keep (IsS90.apart (show IsS90 w _ af ae az aA from q1_0) (pe ac.out) dc) hk (fun _ h=>h.2)) (fun _ h=>h.1));replace HB:=ak (hb);replace aa:=ak (hi);(try clear hb hk hi))|((with_reducible refine gate_dst (N:=40) rfl ?_);refine Kd.R_lit (Kd.int .i64) _ 2 ?hg (N:=40) ?hd (xs:=([(-1),24,3]:List Int)) (inner:=[.int .i64 (-1),.int .i64 24,.int .i64 3]) (ok:=fun _=>True) (okp:=fun _=>True) ?hr ?hp (fun _ hk=>hk) trivial (Below.refl _ _) (Nat.le_refl _) (by simp) ?_;(case hd=>rfl);(case hg=>rfl);(case hr=>exact gs);(case hp=>exact (Reps.one (show Kd.M (Kd.int .i64) _ _ _ (-1) [.int .i64 (-1)] from rfl) (Reps.one (show Kd.M (Kd.int .i64) _ _ _ 24 [.int .i64 24] from rfl) (Reps.one (show Kd.M (Kd.int .i64) _ _ _ 3 [.int .i64 3] from rfl) (Reps.none _ _)))));intro cy w33 ho34 hb hg_ hnew_;clear hg_ hnew_;(first|rw [← bC.out] at ho34|(simp only [Int.reduceToNat] at ho34;rw [← bC.out] at ho34));have av:=ak (Kd.R_lower (nw ho34 ac) (below_size q1_1));replace ac:=rn ac ho34 hb;replace HB:=ak (below_step q1_1 hb);replace aa:=ak (IsS90.below q1_0 hb);clear hb ho34;obtain ⟨bj,bk,b5⟩:=Kd.R_slice av.out;subst b5)|((with_reducible refine gate_callee (f:=51) rfl ?_);refine gl (some 41) Tryz.func51 #[.pointer (some ⟨af,0,none⟩),.slice bj aJ.length bk] ?_;(with_reducible refine (spec_l01Pick.calls af ae aH aI _ _ aJ aX b1 b2 w _ ?side1 ?side2 (pc ((Kd.R_reads' av.out).2.2)) (Kd.R_reads' av.out).2.1 ?side5 A27.out).mono ?_);(case side1=>exact q1_0);(case side2=>exact q1_1);(case side5=>exact far_slice (IsS90.own_ne aa.out av.out dc));rintro e w36 ⟨rfl,hi,hb,hk⟩;refine ⟨_,rfl,?_⟩;replace ac:=ak (Kd.R_mono (Kd.R_keep (IsS90.apart (show IsS90 w _ af ae aH aI from q1_0) (pe ac.out) dc) hk (fun _ h=>h.2)) (fun _ h=>h.1));replace av:=ak (Kd.R_mono (Kd.R_keep (IsS90.apart (show IsS90 w _ af ae aH aI from q1_0) (pe av.out) dc) hk (fun _ h=>h.2)) (fun _ h=>h.1));replace HB:=ak (hb);replace aa:=ak (hi);(try clear hb);(try clear hb2);(try clear hk);(try clear hi);have p30:0≤(aj:Int):=od q1_6;have q30:(aj:Int)<((ab.length:Int):Int):=od q1_6;obtain ⟨aK,cz,bE,bF,gl30,cl30,bG⟩:=Kd.R_form ac.out (by omega);(first|cases bE|(injection bE with ea_ en_ ec_;(first|subst ea_|(injection ea_ with ea_;subst ea_));subst ec_;clear en_));have GB30:=ak bF;have cA:=ak bG;clear bF gl30 bG;obtain ⟨cB,cC⟩:=Kd.R_celln 0 ac.out (aj:Int) p30 q30;replace p30:=eq_true p30;replace q30:=eq_true q30;have n_:=ak (Kd.R_mono (ok':=(fun k_=>some k_≠(.slice bj aJ.length bk:Value).ownBlock)) ac.out (fun k_ hk=>hk.2));clear ac;have ac:=n_;clear n_;obtain ⟨hy37_,hz37_⟩:=Kd.R_celln 0 ac.out (aj:Int) (od q1_6) (od q1_6);have bl:=Kd.R_putg ac.out (aj:Int) aX)|((with_reducible refine gate_store (t:=2) (p:=42) rfl ?_);refine store_event (t:=2) (p:=42) (v:=?vo_w38) (w1:=(w36.setCell ⟨aK,(aj:Int).toNat,none⟩ (.int .i64 aX))) ?hg ?ho ?hn ?hr ?_;(case ho=>rfl);(case hg=>rfl);(case hn=>rfl);(case hr=>exact gs);intro w38 hw;have hg:w36.grownBy w38 (some aK):=(by rw [hw];exact bl.2);have hp_:Kd.R (Kd.int .i64) 2 w38 w.heap.size (fun k_=>some k_≠(.slice bj aJ.length bk:Value).ownBlock) (.slice (some ⟨aK,0,none⟩) ab.length bi) bD:=(by rw [hw,b3.out];exact bl.1);clear bl;replace aa:=ak (IsS90.grown q1_0 hg (IsS90.own_ne aa.out ac.out dc));replace ac:=ak (hp_);replace av:=ak (Kd.R_after (v:=(.slice (some ⟨aK,0,none⟩) ab.length bi)) (v1:=(.slice (some ⟨aK,0,none⟩) ab.length bi)) (ok:=(fun _=>True)) (pe av.out) hg (.inl rfl));replace HB:=ak (by rw [hw];exact below_set (HB.out) GB30.out:Below w.heap.size w w38);clear hg hw hp_))
  go_ret
  exact ⟨_,ew,pe (Kd.R_mono ac.out (fun _ hk=>trivial)),q1_1⟩
end Go.Proofs.YtlppkilencpmeaaGreat.QFnGrowth
