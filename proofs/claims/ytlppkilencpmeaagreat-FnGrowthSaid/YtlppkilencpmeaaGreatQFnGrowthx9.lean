/- Functions as Lean functions, with their contracts: written by a program of this claim over the translation; some contracts are proved by hand. -/
import Derived.Test.YtlppkilencpmeaaGreatQFnGrowthx0
namespace Go.Proofs.YtlppkilencpmeaaGreat.QFnGrowth
open Go.RowKit Go.Proofs.YtlppkilencpmeaaGreat.Gl Go.Proofs.YtlppkilencpmeaaGreat.Sz Go.Proofs.YtlppkilencpmeaaGreatW.PrintWords Go.Proofs.YtlppkilencpmeaaGreatW.PrintLast Go.Proofs.YtlppkilencpmeaaGreatW.PrintMore
attribute [local go_sem] max2_int min2_int max_two min_two max_three min_three max_four min_four   -- for this text's walks alone
set_option linter.unusedVariables false
set_option linter.unusedSimpArgs false
theorem q9_0 {P:Prop} (h:P:=by first|(with_reducible assumption)|assumption):P:=h
theorem q9_1 {P:Prop} (h:P:=by first|rfl|(simp;done)|(simp [*];done)):P:=h
set_option maxHeartbeats 8000000
set_option maxRecDepth 100000
mutual
def spec_l09Decreasing.l0:Nat→List Int→Int→Int→Option (ByteArray)
 | 0,_,_,_=>none
 | k+1,x0,x3,x4=>if x4<(x0.length:Int) then (if 0≤x4 then (if 0≤x3 then (if x3<(x0.length:Int) then (if (rd x0 x4)>(rd x0 x3) then (spec_l09Decreasing.l0 k x0 x4 (wrap64 (x4+1))) else (spec_l09Decreasing.l0 k x0 x3 (wrap64 (x4+1)))) else (none)) else (none)) else (none)) else (if 0≤x3 then (if x3≤(x0.length:Int) then ((spec_l09Decreasing.f k (x0.take (x3:Int).toNat)).bind fun t356=>(if 1+t356.size≤9223372036854775807 then (if 0≤(wrap64 (x3+1)) then (if (wrap64 (x3+1))≤(x0.length:Int) then ((spec_l09Decreasing.f k (x0.drop ((wrap64 (x3+1)):Int).toNat)).bind fun t358=>(if ((⟨#[49]⟩:ByteArray)++t356).size+t358.size≤9223372036854775807 then (some (((⟨#[49]⟩:ByteArray)++t356)++t358)) else (none))) else (none)) else (none)) else (none))) else (none)) else (none))
def spec_l09Decreasing.f:Nat→List Int→Option (ByteArray)
 | 0,_=>none
 | k+1,l0=>if (l0.length:Int)=0 then (some (⟨#[48]⟩:ByteArray)) else (spec_l09Decreasing.l0 k l0 0 1)
end
def spec_l09Decreasing.T7:Bool × List (List Nat × List Nat):=(true,[([],[]),([],[]),([0,1],[0,1]),([2],[2]),([],[]),([],[]),([4,5],[4,5]),([6],[6]),([3,7],[3,7])])
def spec_l09Decreasing.B7:List Nat:=[0,0,3,7,0,0,48,112,255]
theorem spec_l09Decreasing.tab7:rtab .any (opsOf Tryz.f67 7)=spec_l09Decreasing.T7:=by kernel_rfl
theorem spec_l09Decreasing.bits7:waitsOk spec_l09Decreasing.T7.2 spec_l09Decreasing.B7=true:=by kernel_rfl
def spec_l09Decreasing.T9:Bool × List (List Nat × List Nat):=(true,[([],[]),([],[]),([0,1],[0,1]),([2],[2]),([3],[3]),([],[]),([],[]),([6],[6]),([5,7],[5,7]),([8,3],[8]),([4,9],[4,9]),([10,9,0,1,2,3,4,5,6,7,8,9,10],[10])])
def spec_l09Decreasing.B9:List Nat:=[0,0,3,7,15,0,0,64,224,495,1023,2047]
theorem spec_l09Decreasing.tab9:rtab .any (opsOf Tryz.f67 9)=spec_l09Decreasing.T9:=by kernel_rfl
theorem spec_l09Decreasing.bits9:waitsOk spec_l09Decreasing.T9.2 spec_l09Decreasing.B9=true:=by kernel_rfl
theorem spec_l09Decreasing.calls (k:Nat):∀ (A0:Option Addr) (c0:Nat) (l0:List Int) (r:ByteArray) (w:World) (hr0:Kd.C (Kd.int .i64) w A0 l0.length l0) (hc0:l0.length≤c0) (h:spec_l09Decreasing.f k l0=some r),
  Calls Tryz.prog 67 #[.slice A0 l0.length c0] w fun e w'=>e=.returned (.string r)∧Below w.heap.size w w':=by
 induction k using Nat.strongRecOn with
 | _ k ih =>
 intro A0 c0 l0 r w hr0 hc0 h
 cases k with
 | zero=>exact absurd h (by simp [spec_l09Decreasing.f])
 | succ k =>
 simp only [spec_l09Decreasing.f] at h;have HR0:=ak hr0;have HC0:=ak hc0;clear hr0 hc0;have HB:=ak (Below.refl w.heap.size w);have H:(if (l0.length:Int)=0 then (some (⟨#[48]⟩:ByteArray)) else (spec_l09Decreasing.l0 k l0 0 1))=some r:=h;clear h
 by_cases c2:(l0.length:Int)=0
 ·rw [if_pos c2] at H;have ay:((l0.length:Int) == 0)=true:=beq_iff_eq.mpr c2;have az:((l0.length:Int) != 0)=false:=bne_eq_false_iff_eq.mpr c2;clear c2;obtain rfl:=Option.some.inj H
  go_enter Tryz.func67,Tryz.ntmps67
  go_wp2
  go_ret
  exact ⟨ew,hq⟩
 rw [if_neg c2] at H;have ay:((l0.length:Int) == 0)=false:=beq_eq_false_iff_ne.mpr c2;have az:((l0.length:Int) != 0)=true:=bne_iff_ne.mpr c2;have aY:¬ (l0=[]):=fun h_=>c2 (by rw [h_];rfl)
 have H':=ak H;clear H
 go_enter Tryz.func67,Tryz.ntmps67
 go_wp2
 go_loopg [3,4] k (fun kq v3 v4 w'=>∃ (ab:Int) (aa:Int),v3=.int .i64 ab∧v4=.int .i64 aa∧Aside0 (spec_l09Decreasing.l0 kq l0 ab aa=some r)∧Aside0 (kq≤k)∧Aside0 (Below w.heap.size w w'))
 case atStart=>exact ⟨(0),(1),q9_1,q9_1,H',⟨Nat.le_refl _⟩,⟨hq⟩⟩
 case round =>
  clear H';obtain ⟨ab,aa,rfl,rfl,HA,HK1,HB⟩:=hrel
  cases gk with|zero=>exact absurd HA.out (by simp [spec_l09Decreasing.l0])|succ k1=>?_
  have H:=HA.out;clear HA;simp only [spec_l09Decreasing.l0] at H;obtain c3|c3:=nem (aa<(l0.length:Int))
  ·rw [if_neg c3] at H;have aA:=df c3;clear c3;replace H:=ifs H;obtain ⟨c10,H⟩:=H;have aZ:=eq_true c10;have a1:decide (0≤ab)=true:=decide_eq_true c10;clear c10;replace H:=ifs H;obtain ⟨c11,H⟩:=H;have a2:=eq_true c11;have a3:decide (ab≤(l0.length:Int))=true:=decide_eq_true c11;clear c11;replace H:=bs H;obtain ⟨av,A12,H⟩:=H;(try dsimp only at H);replace H:=ifs H;obtain ⟨c13,H⟩:=H;have a4:=eq_true c13;have a5:decide (1+av.size≤9223372036854775807)=true:=decide_eq_true c13
   try have a6:(9223372036854775807<1+av.size)=False:=eq_false (Nat.not_lt.2 c13)
   obtain ⟨af,aw⟩:∃ j_:Int,(wrap64 (ab+1))=j_:=⟨_,rfl⟩;(first|rw [aw] at H|simp only [aw] at H);(try rw [aw] at A12);have hji14w:(IntKind.i64.wrap (ab+1))=af:=(i64_w _).trans aw;replace H:=ifs H;obtain ⟨c15,H⟩:=H;have a7:=eq_true c15;have a8:decide (0≤(af))=true:=decide_eq_true c15;clear c15;replace H:=ifs H;obtain ⟨c16,H⟩:=H;have a9:=eq_true c16;have ba:decide ((af)≤(l0.length:Int))=true:=decide_eq_true c16;clear c16;replace H:=bs H;obtain ⟨ax,A17,H⟩:=H;(try dsimp only at H);replace H:=ifs H;obtain ⟨c18,H⟩:=H;have bd:=eq_true c18;have bf:decide (((⟨#[49]⟩:ByteArray)++av).size+ax.size≤9223372036854775807)=true:=decide_eq_true c18
   try have aQ:(9223372036854775807<((⟨#[49]⟩:ByteArray)++av).size+ax.size)=False:=eq_false (Nat.not_lt.2 c18)
   try have bg:(9223372036854775807<1+av.size+ax.size)=False:=(by have h_:=aQ;rw [ByteArray.size_append] at h_;exact h_)
   obtain rfl:=Option.some.inj H
   try go_wp2
   have n0_:=ak (below_drew1 HB.out);clear HB;have HB:=n0_;clear n0_;obtain ⟨i020,aI,_,hsz20,_⟩:=info_parts info2;obtain ⟨hcut20,hA20,aJ⟩:=print_take_of (P:=Tryz.prog) (Value.int .i64) 0 24 2 .i64 Tryz.underlying24 aI hsz20 A0 c0 l0 ab (od q9_0) (od q9_0) HC0.out;have aK:=ak (Kd.C_of_reads (h1:=fun _=>rfl) (hA20 _ (Kd.reads_of_C HR0.out)));have aR:=ak aJ;clear hA20 aJ aI hsz20;obtain ⟨i021,aL,_,hsz21,_⟩:=info_parts info2;obtain ⟨A21,hcut21,hA21,aM⟩:=print_drop_of (P:=Tryz.prog) (Value.int .i64) 0 24 2 .i64 Tryz.underlying24 aL hsz21 A0 c0 l0 (af) (od q9_0) (od q9_0) HC0.out;have aN:=ak (Kd.C_of_reads (h1:=fun _=>rfl) (hA21 _ (Kd.reads_of_C HR0.out)));have aS:=ak aM;clear hA21 aM aL hsz21
   refine start_ (n:=12) (S:=fun w'=>True) (ds:=[]) #[false,false,false,false,false,false,false,false,false,false,false,false] kr rfl rfl trivial (fun hHeld=>?_);refine with_tabW spec_l09Decreasing.tab9 spec_l09Decreasing.bits9 (fun HT_ HW_=>?_)
   generalize wr.drew=w19 at HB aK aN hHeld ⊢
   refine pur (i:=0) (N:=some 24) (v:=?_) (a':=?_) (tf 1 11) rfl (Or.inl ⟨by rfl,?_⟩) ?_ ?_
   rotate_left
   ·intro w'
    go_simp
    with_reducible rfl
   rotate_left
   ·simp only [Act.put,sIB,sc0,scs,i64_w,i32_w]
    rfl
   refine pur (i:=1) (N:=some 25) (v:=?_) (a':=?_) (tf 2 10) rfl (Or.inl ⟨by rfl,?_⟩) ?_ ?_
   rotate_left
   ·intro w'
    go_simp
    with_reducible rfl
   rotate_left
   ·simp only [Act.put,sIB,sc0,scs,i64_w,i32_w]
    rfl
   refine pur (i:=2) (N:=some 26) (v:=?_) (a':=?_) (tf 3 9) rfl (Or.inl ⟨by rfl,?_⟩) ?_ ?_
   rotate_left
   ·intro w'
    go_simp
    with_reducible rfl
   rotate_left
   ·simp only [Act.put,sIB,sc0,scs,i64_w,i32_w]
    rfl
   refine pur (i:=5) (N:=some 29) (v:=?_) (a':=?_) #[true,true,true,false,false,true,false,false,false,false,false,false] rfl (Or.inl ⟨by rfl,?_⟩) ?_ ?_
   rotate_left
   ·intro w'
    go_simp
    with_reducible rfl
   rotate_left
   ·simp only [Act.put,sIB,sc0,scs,i64_w,i32_w]
    rfl
   refine pur (i:=6) (N:=some 30) (v:=?_) (a':=?_) #[true,true,true,false,false,true,true,false,false,false,false,false] rfl (Or.inl ⟨by rfl,?_⟩) ?_ ?_
   rotate_left
   ·intro w'
    go_simp
    with_reducible rfl
   rotate_left
   ·simp only [Act.put,sIB,sc0,scs,i64_w,i32_w]
    rfl
   refine pur (i:=7) (N:=some 31) (v:=?_) (a':=?_) #[true,true,true,false,false,true,true,true,false,false,false,false] rfl (Or.inl ⟨by rfl,?_⟩) ?_ ?_
   rotate_left
   ·intro w'
    go_simp
    with_reducible rfl
   rotate_left
   ·simp only [Act.put,sIB,sc0,scs,i64_w,i32_w]
    rfl
   refine pur (i:=8) (N:=some 32) (v:=?_) (a':=?_) #[true,true,true,false,false,true,true,true,true,false,false,false] rfl (Or.inl ⟨by rfl,?_⟩) ?_ ?_
   rotate_left
   ·intro w'
    go_simp
    with_reducible rfl
   rotate_left
   ·simp only [Act.put,sIB,sc0,scs,i64_w,i32_w]
    rfl
   refine one_ (i:=3) (N:=some 27) #[true,true,true,true,false,true,true,true,true,false,false,false] rfl rfl (one_of HT_.out kr) dc (fun K hK=>?_)
   refine goes_ Tryz.func67 kr rfl #[.slice A0 (l0.take (ab:Int).toNat).length c0] (by rfl) rfl rfl (by (try simp only [List.map_toArray,List.map_cons,List.map_nil]);first|done|(rw [show (l0.take (ab:Int).toNat).length=ab.toNat from (by rw [List.length_take];have h_:(ab:Int)≤(l0.length:Int):=od q9_0;omega)] <;> rfl)|rfl|(simp only [List.length_drop,List.length_take];rfl)) ?_
   with_reducible refine (ih k1 (by have:=HK1.out;omega) _ _ (l0.take (ab:Int).toNat) av _ ?side1 ?side2 A12.out).mono ?_
   (case side1=>exact pc (Kd.C_below aK.out HB.out))
   (case side2=>exact aR.out)
   rintro e w22 ⟨rfl,hb⟩
   refine ⟨_,rfl,?_⟩
   have n0_:=hbs hb;clear HB;have HB:=n0_;clear n0_;(try clear hb);(try clear hb2);(try clear hk);(try clear hi)
   refine hK.out _ _ trivial (fun hHeld=>?_)
   clear hK K
   refine norm_ (a':=?_) ?_ ?_
   rotate_left
   ·show Act.put _ (some 27) _=_;simp only [Act.put,sIB,sc0,scs,i64_w,i32_w]
    rfl
   refine pur (i:=4) (N:=some 28) (v:=?_) (a':=?_) (tf 9 3) rfl (Or.inl ⟨by rfl,?_⟩) ?_ ?_
   rotate_left
   ·intro w'
    go_simp
    with_reducible rfl
   rotate_left
   ·simp only [Act.put,sIB,sc0,scs,i64_w,i32_w]
    rfl
   refine one_ (i:=9) (N:=some 33) (tf 10 2) rfl rfl (one_of HT_.out kr) dc (fun K hK=>?_)
   refine goes_ Tryz.func67 kr rfl #[.slice A21 (l0.drop ((af):Int).toNat).length (c0 - (af).toNat)] (by rfl) rfl rfl (by (try simp only [List.map_toArray,List.map_cons,List.map_nil]);first|done|(rw [show (l0.drop ((af):Int).toNat).length=(l0.length - (af).toNat) from List.length_drop] <;> rfl)|(simp only [aw];rfl)|rfl|(simp only [List.length_drop,List.length_take];rfl)) ?_
   with_reducible refine (ih k1 (by have:=HK1.out;omega) _ _ (l0.drop ((af):Int).toNat) ax _ ?side1 ?side2 A17.out).mono ?_
   (case side1=>exact pc (Kd.C_below aN.out HB.out))
   (case side2=>exact aS.out)
   rintro e w23 ⟨rfl,hb⟩
   refine ⟨_,rfl,?_⟩
   have n0_:=hbs hb;clear HB;have HB:=n0_;clear n0_;(try clear hb);(try clear hb2);(try clear hk);(try clear hi)
   refine hK.out _ _ trivial (fun hHeld=>?_)
   clear hK K
   refine norm_ (a':=?_) ?_ ?_
   rotate_left
   ·show Act.put _ (some 33) _=_;simp only [Act.put,sIB,sc0,scs,i64_w,i32_w]
    rfl
   refine pur (i:=10) (N:=some 34) (v:=?_) (a':=?_) (tf 11 1) rfl (Or.inl ⟨by rfl,?_⟩) ?_ ?_
   rotate_left
   ·intro w'
    go_simp
    with_reducible rfl
   rotate_left
   ·simp only [Act.put,sIB,sc0,scs,i64_w,i32_w]
    rfl
   refine pur (i:=11) (N:=some 2) (v:=?_) (a':=?_) (tf 12 0) rfl (Or.inl ⟨by rfl,?_⟩) ?_ ?_
   rotate_left
   ·intro w'
    go_simp
    with_reducible rfl
   rotate_left
   ·simp only [Act.put,sIB,sc0,scs,i64_w,i32_w]
    rfl
   refine done_ (done_of HT_.out kr) ?_
   try go_wp2
   go_ret
   exact ⟨by first|rfl|(simp [errW_none,errW_some] <;> rfl)|(simp only [← aw];first|rfl|(simp [errW_none,errW_some] <;> rfl))|(simp [*,errW_none,errW_some] <;> rfl),hq⟩
  rw [if_pos c3] at H;have aA:=dt c3;clear c3;replace H:=ifs H;obtain ⟨c4,H⟩:=H;have aO:=dt c4;clear c4;replace H:=ifs H;obtain ⟨c5,H⟩:=H;have aT:=dt c5;clear c5;replace H:=ifs H;obtain ⟨c6,H⟩:=H;have aU:=dt c6;clear c6
  by_cases c7:(rd l0 aa)>(rd l0 ab)
  ·rw [if_pos c7] at H;have aP:decide ((rd l0 ab)<(rd l0 aa))=true:=decide_eq_true c7;clear c7;have H':=ak H;clear H
   try go_wp2
   have n0_:=ak (below_drew1 HB.out);clear HB;have HB:=n0_;clear n0_;have ag:0≤(aa:Int):=od q9_0;have ah:aa<(l0.length:Int):=od q9_0;obtain ⟨ai,aB,ad⟩:=Kd.at_int HR0.out aa ag ah;have hw353_0:=ad;cases aB;replace ad:=(HB.out.cell (World.block_lt_of_cell? w _ ad)).trans ad;replace ag:=eq_true ag;replace ah:=eq_true ah;have aj:0≤(ab:Int):=od q9_0;have al:ab<(l0.length:Int):=od q9_0;obtain ⟨aC,aD,ae⟩:=Kd.at_int HR0.out ab aj al;have hw354_0:=ae;obtain rfl:ai=aC:=(by injection aD);replace ae:=(HB.out.cell (World.block_lt_of_cell? w _ ae)).trans ae;replace aj:=eq_true aj;replace al:=eq_true al
   refine start_ (n:=9) (S:=fun w'=>w'.cell? (ai.add (aa).toNat)=some (.int .i64 (rd l0 aa))∧w'.cell? (ai.add (ab).toNat)=some (.int .i64 (rd l0 ab))) (ds:=[]) #[false,false,false,false,false,false,false,false,false] kr rfl rfl ⟨((HB.out.cell (World.block_lt_of_cell? w _ hw353_0)).trans hw353_0),((HB.out.cell (World.block_lt_of_cell? w _ hw354_0)).trans hw354_0)⟩ (fun hHeld=>?_);refine with_tabW spec_l09Decreasing.tab7 spec_l09Decreasing.bits7 (fun HT_ HW_=>?_)
   generalize wr.drew=w8 at HB ad ae hHeld ⊢
   refine pur (i:=0) (N:=some 14) (v:=?_) (a':=?_) #[true,false,false,false,false,false,false,false,false] rfl (Or.inl ⟨by rfl,?_⟩) ?_ ?_
   rotate_left
   ·intro w'
    go_simp
    with_reducible rfl
   rotate_left
   ·simp only [Act.put,sIB,sc0,scs,i64_w,i32_w]
    rfl
   refine pur (i:=1) (N:=some 15) (v:=?_) (a':=?_) #[true,true,false,false,false,false,false,false,false] rfl (Or.inl ⟨by rfl,?_⟩) ?_ ?_
   rotate_left
   ·intro w'
    go_simp
    with_reducible rfl
   rotate_left
   ·simp only [Act.put,sIB,sc0,scs,i64_w,i32_w]
    rfl
   refine pur (i:=2) (N:=some 16) (v:=?_) (a':=?_) #[true,true,true,false,false,false,false,false,false] rfl (Or.inl ⟨by rfl,?_⟩) ?_ ?_
   rotate_left
   ·intro w'
    go_simp
    with_reducible rfl
   rotate_left
   ·simp only [Act.put,sIB,sc0,scs,i64_w,i32_w]
    rfl
   refine pur (i:=4) (N:=some 18) (v:=?_) (a':=?_) #[true,true,true,false,true,false,false,false,false] rfl (Or.inl ⟨by rfl,?_⟩) ?_ ?_
   rotate_left
   ·intro w'
    go_simp
    with_reducible rfl
   rotate_left
   ·simp only [Act.put,sIB,sc0,scs,i64_w,i32_w]
    rfl
   refine pur (i:=5) (N:=some 19) (v:=?_) (a':=?_) #[true,true,true,false,true,true,false,false,false] rfl (Or.inl ⟨by rfl,?_⟩) ?_ ?_
   rotate_left
   ·intro w'
    go_simp
    with_reducible rfl
   rotate_left
   ·simp only [Act.put,sIB,sc0,scs,i64_w,i32_w]
    rfl
   refine pur (i:=6) (N:=some 20) (v:=?_) (a':=?_) #[true,true,true,false,true,true,true,false,false] rfl (Or.inl ⟨by rfl,?_⟩) ?_ ?_
   rotate_left
   ·intro w'
    go_simp
    with_reducible rfl
   rotate_left
   ·simp only [Act.put,sIB,sc0,scs,i64_w,i32_w]
    rfl
   refine take_ (i:=3) (N:=some 17) (v:=?_) (a':=?_) #[true,true,true,true,true,true,true,false,false] rfl rfl (take_ofW HT_.out HW_.out kr) (fun _ _ _ h=>h) (Or.inl ⟨by rfl,?_⟩) hHeld ?_ ?_
   rotate_left
   ·rintro w' ⟨s0,s1⟩
    go_simp
    with_reducible rfl
   rotate_left
   ·simp only [Act.put,sIB,sc0,scs,i64_w,i32_w]
    rfl
   refine take_ (i:=7) (N:=some 21) (v:=?_) (a':=?_) #[true,true,true,true,true,true,true,true,false] rfl rfl (take_ofW HT_.out HW_.out kr) (fun _ _ _ h=>h) (Or.inl ⟨by rfl,?_⟩) hHeld ?_ ?_
   rotate_left
   ·rintro w' ⟨s0,s1⟩
    go_simp
    with_reducible rfl
   rotate_left
   ·simp only [Act.put,sIB,sc0,scs,i64_w,i32_w]
    rfl
   refine pur (i:=8) (N:=some 22) (v:=?_) (a':=?_) #[true,true,true,true,true,true,true,true,true] rfl (Or.inl ⟨by rfl,?_⟩) ?_ ?_
   rotate_left
   ·intro w'
    go_simp
    with_reducible rfl
   rotate_left
   ·simp only [Act.put,sIB,sc0,scs,i64_w,i32_w]
    rfl
   refine done_ (done_of HT_.out kr) ?_
   try go_wp2
   go_roundg k1
   case measure=>have:=HK1.out;omega
   case rel=>exact ⟨(aa),(wrap64 (aa+1)),q9_1,q9_1,H',⟨by have:=HK1.out;omega⟩,⟨hq⟩⟩
  rw [if_neg c7] at H;have aP:decide ((rd l0 ab)<(rd l0 aa))=false:=decide_eq_false c7;clear c7;have H':=ak H;clear H
  try go_wp2
  have n0_:=ak (below_drew1 HB.out);clear HB;have HB:=n0_;clear n0_;have ag:0≤(aa:Int):=od q9_0;have ah:aa<(l0.length:Int):=od q9_0;obtain ⟨ai,aB,ad⟩:=Kd.at_int HR0.out aa ag ah;have hw353_0:=ad;cases aB;replace ad:=(HB.out.cell (World.block_lt_of_cell? w _ ad)).trans ad;replace ag:=eq_true ag;replace ah:=eq_true ah;have aj:0≤(ab:Int):=od q9_0;have al:ab<(l0.length:Int):=od q9_0;obtain ⟨aC,aD,ae⟩:=Kd.at_int HR0.out ab aj al;have hw354_0:=ae;obtain rfl:ai=aC:=(by injection aD);replace ae:=(HB.out.cell (World.block_lt_of_cell? w _ ae)).trans ae;replace aj:=eq_true aj;replace al:=eq_true al
  refine start_ (n:=9) (S:=fun w'=>w'.cell? (ai.add (aa).toNat)=some (.int .i64 (rd l0 aa))∧w'.cell? (ai.add (ab).toNat)=some (.int .i64 (rd l0 ab))) (ds:=[]) #[false,false,false,false,false,false,false,false,false] kr rfl rfl ⟨((HB.out.cell (World.block_lt_of_cell? w _ hw353_0)).trans hw353_0),((HB.out.cell (World.block_lt_of_cell? w _ hw354_0)).trans hw354_0)⟩ (fun hHeld=>?_);refine with_tabW spec_l09Decreasing.tab7 spec_l09Decreasing.bits7 (fun HT_ HW_=>?_)
  generalize wr.drew=w9 at HB ad ae hHeld ⊢
  refine pur (i:=0) (N:=some 14) (v:=?_) (a':=?_) #[true,false,false,false,false,false,false,false,false] rfl (Or.inl ⟨by rfl,?_⟩) ?_ ?_
  rotate_left
  ·intro w'
   go_simp
   with_reducible rfl
  rotate_left
  ·simp only [Act.put,sIB,sc0,scs,i64_w,i32_w]
   rfl
  refine pur (i:=1) (N:=some 15) (v:=?_) (a':=?_) #[true,true,false,false,false,false,false,false,false] rfl (Or.inl ⟨by rfl,?_⟩) ?_ ?_
  rotate_left
  ·intro w'
   go_simp
   with_reducible rfl
  rotate_left
  ·simp only [Act.put,sIB,sc0,scs,i64_w,i32_w]
   rfl
  refine pur (i:=2) (N:=some 16) (v:=?_) (a':=?_) #[true,true,true,false,false,false,false,false,false] rfl (Or.inl ⟨by rfl,?_⟩) ?_ ?_
  rotate_left
  ·intro w'
   go_simp
   with_reducible rfl
  rotate_left
  ·simp only [Act.put,sIB,sc0,scs,i64_w,i32_w]
   rfl
  refine pur (i:=4) (N:=some 18) (v:=?_) (a':=?_) #[true,true,true,false,true,false,false,false,false] rfl (Or.inl ⟨by rfl,?_⟩) ?_ ?_
  rotate_left
  ·intro w'
   go_simp
   with_reducible rfl
  rotate_left
  ·simp only [Act.put,sIB,sc0,scs,i64_w,i32_w]
   rfl
  refine pur (i:=5) (N:=some 19) (v:=?_) (a':=?_) #[true,true,true,false,true,true,false,false,false] rfl (Or.inl ⟨by rfl,?_⟩) ?_ ?_
  rotate_left
  ·intro w'
   go_simp
   with_reducible rfl
  rotate_left
  ·simp only [Act.put,sIB,sc0,scs,i64_w,i32_w]
   rfl
  refine pur (i:=6) (N:=some 20) (v:=?_) (a':=?_) #[true,true,true,false,true,true,true,false,false] rfl (Or.inl ⟨by rfl,?_⟩) ?_ ?_
  rotate_left
  ·intro w'
   go_simp
   with_reducible rfl
  rotate_left
  ·simp only [Act.put,sIB,sc0,scs,i64_w,i32_w]
   rfl
  refine take_ (i:=3) (N:=some 17) (v:=?_) (a':=?_) #[true,true,true,true,true,true,true,false,false] rfl rfl (take_ofW HT_.out HW_.out kr) (fun _ _ _ h=>h) (Or.inl ⟨by rfl,?_⟩) hHeld ?_ ?_
  rotate_left
  ·rintro w' ⟨s0,s1⟩
   go_simp
   with_reducible rfl
  rotate_left
  ·simp only [Act.put,sIB,sc0,scs,i64_w,i32_w]
   rfl
  refine take_ (i:=7) (N:=some 21) (v:=?_) (a':=?_) #[true,true,true,true,true,true,true,true,false] rfl rfl (take_ofW HT_.out HW_.out kr) (fun _ _ _ h=>h) (Or.inl ⟨by rfl,?_⟩) hHeld ?_ ?_
  rotate_left
  ·rintro w' ⟨s0,s1⟩
   go_simp
   with_reducible rfl
  rotate_left
  ·simp only [Act.put,sIB,sc0,scs,i64_w,i32_w]
   rfl
  refine pur (i:=8) (N:=some 22) (v:=?_) (a':=?_) #[true,true,true,true,true,true,true,true,true] rfl (Or.inl ⟨by rfl,?_⟩) ?_ ?_
  rotate_left
  ·intro w'
   go_simp
   with_reducible rfl
  rotate_left
  ·simp only [Act.put,sIB,sc0,scs,i64_w,i32_w]
   rfl
  refine done_ (done_of HT_.out kr) ?_
  try go_wp2
  go_roundg k1
  case measure=>have:=HK1.out;omega
  case rel=>exact ⟨(ab),(wrap64 (aa+1)),q9_1,q9_1,H',⟨by have:=HK1.out;omega⟩,⟨hq⟩⟩
mutual
def spec_DecreasingTree.l0:Nat→List Int→Int→Option (ByteArray × Int)
 | 0,_,_=>none
 | k+1,x0,x4=>if x4<(x0.length:Int) then (spec_DecreasingTree.l1 k x0 x4 0) else ((spec_l09Decreasing.f k x0).bind fun t359=>(some (t359,0)))
def spec_DecreasingTree.l1:Nat→List Int→Int→Int→Option (ByteArray × Int)
 | 0,_,_,_=>none
 | k+1,x0,x4,x5=>if x5<x4 then (if 0≤x4 then (if x4<(x0.length:Int) then (if 0≤x5 then (if x5<(x0.length:Int) then (if (rd x0 x4)=(rd x0 x5) then (some ((⟨#[]⟩:ByteArray),2)) else (spec_DecreasingTree.l1 k x0 x4 (wrap64 (x5+1)))) else (none)) else (none)) else (none)) else (none)) else (spec_DecreasingTree.l0 k x0 (wrap64 (x4+1)))
end
def spec_DecreasingTree.f (k:Nat) (l0:List Int):Option (ByteArray × Int):=if (l0.length:Int)>23 then (some ((⟨#[]⟩:ByteArray),2)) else (spec_DecreasingTree.l0 k l0 0)
theorem spec_DecreasingTree.calls (k:Nat) (A0:Option Addr) (c0:Nat) (l0:List Int) (r1:ByteArray) (r2:Int) (w:World) (hr0:Kd.C (Kd.int .i64) w A0 l0.length l0) (hc0:l0.length≤c0) (h:spec_DecreasingTree.f k l0=some (r1,r2)) :
  Calls Tryz.prog 15 #[.slice A0 l0.length c0] w fun e w'=>e=.returned (.tuple #[.string r1,.int .i64 r2])∧Below w.heap.size w w':=by
 have HR0:=ak hr0;have HC0:=ak hc0;clear hr0 hc0;have HB:=ak (Below.refl w.heap.size w);have H:(if (l0.length:Int)>23 then (some ((⟨#[]⟩:ByteArray),2)) else (spec_DecreasingTree.l0 k l0 0))=some (r1,r2):=h;clear h
 by_cases c2:(l0.length:Int)>23
 ·rw [if_pos c2] at H;have ay:decide (23<(l0.length:Int))=true:=decide_eq_true c2;have az:decide (23<l0.length)=true:=decide_eq_true (by omega);clear c2;simp only [Option.some.injEq,Prod.mk.injEq] at H;obtain ⟨rfl,rfl⟩:=H
  go_enter Tryz.func15,Tryz.ntmps15
  go_wp2
  repeat (go_quiet (fail);try go_wp2)
  go_ret2
  exact ⟨ew,hq⟩
 rw [if_neg c2] at H;have ay:decide (23<(l0.length:Int))=false:=decide_eq_false c2;have az:decide (23<l0.length)=false:=decide_eq_false (by omega);clear c2;have H':=ak H;clear H
 go_enter Tryz.func15,Tryz.ntmps15
 go_wp2
 repeat (go_quiet (fail);try go_wp2)
 go_loopg [4] k (fun kq v4 w'=>∃ (aa:Int),v4=.int .i64 aa∧Aside0 (spec_DecreasingTree.l0 kq l0 aa=some (r1,r2))∧Aside0 (kq≤k)∧Aside0 (Below w.heap.size w w'))
 case atStart=>exact ⟨(0),q9_1,H',⟨Nat.le_refl _⟩,⟨hq⟩⟩
 case round =>
  clear H';obtain ⟨aa,rfl,HA,HK1,HB⟩:=hrel
  cases gk with|zero=>exact absurd HA.out (by simp [spec_DecreasingTree.l0])|succ k1=>?_
  have H:=HA.out;clear HA;simp only [spec_DecreasingTree.l0] at H;obtain c3|c3:=nem (aa<(l0.length:Int))
  ·rw [if_neg c3] at H;have aA:=df c3;clear c3;replace H:=bs H;obtain ⟨aV,A10,H⟩:=H;(try dsimp only at H);simp only [Option.some.injEq,Prod.mk.injEq] at H;obtain ⟨rfl,rfl⟩:=H
   iterate 4 ((try go_wp2_with (first|(go_at_call 67;(with_reducible refine (spec_l09Decreasing.calls k1 _ _ l0 aV _ (pc (Kd.C_below HR0.out HB.out)) HC0.out A10.out).mono ?_);rintro e w11 ⟨rfl,hb⟩;replace HB:=hbs hb;(try clear hb))));(try go_quiet (fail)))
   go_ret2
   exact ⟨ew,hq⟩
  rw [if_pos c3] at H;have aA:=dt c3;clear c3;have H':=ak H;clear H;go_wp2
  repeat (go_quiet (fail);try go_wp2)
  go_loopg [5] k1 (fun kq v5 w'=>∃ (ac:Int),v5=.int .i64 ac∧Aside0 (spec_DecreasingTree.l1 kq l0 aa ac=some (r1,r2))∧Aside0 (kq≤k1)∧Aside0 (Below w.heap.size w w'))
  case atStart=>exact ⟨(0),q9_1,H',⟨Nat.le_refl _⟩,⟨hq⟩⟩
  case round =>
   clear H';obtain ⟨ac,rfl,HA,HK2,HB⟩:=hrel
   cases gk with|zero=>exact absurd HA.out (by simp [spec_DecreasingTree.l1])|succ k2=>?_
   have H:=HA.out;clear HA;simp only [spec_DecreasingTree.l1] at H;obtain c4|c4:=nem (ac<aa)
   ·rw [if_neg c4] at H;have aO:=df c4;clear c4;have H':=ak H;clear H;go_wp2
    repeat (go_quiet (fail);try go_wp2)
    go_roundg k2
    case measure=>have:=HK1.out;have:=HK2.out;omega
    case rel=>exact ⟨(wrap64 (aa+1)),q9_1,H',⟨by have:=HK1.out;have:=HK2.out;omega⟩,⟨hq⟩⟩
   rw [if_pos c4] at H;have aO:=dt c4;clear c4;replace H:=ifs H;obtain ⟨c5,H⟩:=H;have aT:=dt c5;clear c5;replace H:=ifs H;obtain ⟨c6,H⟩:=H;have aU:=dt c6;clear c6;replace H:=ifs H;obtain ⟨c7,H⟩:=H;have aP:=dt c7;clear c7;replace H:=ifs H;obtain ⟨c8,H⟩:=H;have bh:=dt c8;clear c8
   by_cases c9:(rd l0 aa)=(rd l0 ac)
   ·rw [if_pos c9] at H;have aW:((rd l0 aa) == (rd l0 ac))=true:=beq_iff_eq.mpr c9;have aX:((rd l0 aa) != (rd l0 ac))=false:=bne_eq_false_iff_eq.mpr c9;clear c9;simp only [Option.some.injEq,Prod.mk.injEq] at H;obtain ⟨rfl,rfl⟩:=H;have an:0≤(aa:Int):=od q9_0;have ao:aa<(l0.length:Int):=od q9_0;obtain ⟨aE,aF,ap⟩:=Kd.at_int HR0.out aa an ao;cases aF;replace ap:=(HB.out.cell (World.block_lt_of_cell? w _ ap)).trans ap;replace an:=eq_true an;replace ao:=eq_true ao;have aq:0≤(ac:Int):=od q9_0;have ar:ac<(l0.length:Int):=od q9_0;obtain ⟨aG,aH,au⟩:=Kd.at_int HR0.out ac aq ar;obtain rfl:aE=aG:=(by injection aH);replace au:=(HB.out.cell (World.block_lt_of_cell? w _ au)).trans au;replace aq:=eq_true aq;replace ar:=eq_true ar;go_wp2
    repeat (go_quiet (fail);try go_wp2)
    go_ret2
    exact ⟨ew,hq⟩
   rw [if_neg c9] at H;have aW:((rd l0 aa) == (rd l0 ac))=false:=beq_eq_false_iff_ne.mpr c9;have aX:((rd l0 aa) != (rd l0 ac))=true:=bne_iff_ne.mpr c9;have H':=ak H;clear H;have an:0≤(aa:Int):=od q9_0;have ao:aa<(l0.length:Int):=od q9_0;obtain ⟨aE,aF,ap⟩:=Kd.at_int HR0.out aa an ao;cases aF;replace ap:=(HB.out.cell (World.block_lt_of_cell? w _ ap)).trans ap;replace an:=eq_true an;replace ao:=eq_true ao;have aq:0≤(ac:Int):=od q9_0;have ar:ac<(l0.length:Int):=od q9_0;obtain ⟨aG,aH,au⟩:=Kd.at_int HR0.out ac aq ar;obtain rfl:aE=aG:=(by injection aH);replace au:=(HB.out.cell (World.block_lt_of_cell? w _ au)).trans au;replace aq:=eq_true aq;replace ar:=eq_true ar;go_wp2
   repeat (go_quiet (fail);try go_wp2)
   go_roundg k2
   case measure=>have:=HK1.out;have:=HK2.out;omega
   case rel=>exact ⟨(wrap64 (ac+1)),q9_1,H',⟨by have:=HK1.out;have:=HK2.out;omega⟩,⟨hq⟩⟩
end Go.Proofs.YtlppkilencpmeaaGreat.QFnGrowth
