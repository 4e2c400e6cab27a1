/- Functions as Lean functions, with their contracts: written by a program of this claim over the translation; some contracts are proved by hand. -/
import Derived.Test.YtlppkilencpmeaaGreatQFnGrowthx0
import Derived.Test.YtlppkilencpmeaaGreatQFnGrowthx3
import Derived.Test.YtlppkilencpmeaaGreatQFnGrowthx7
namespace Go.Proofs.YtlppkilencpmeaaGreat.QFnGrowth
open Go.RowKit Go.Proofs.YtlppkilencpmeaaGreat.Gl Go.Proofs.YtlppkilencpmeaaGreat.Sz Go.Proofs.YtlppkilencpmeaaGreatW.PrintWords Go.Proofs.YtlppkilencpmeaaGreatW.PrintLast Go.Proofs.YtlppkilencpmeaaGreatW.PrintMore
attribute [local go_sem] max2_int min2_int max_two min_two max_three min_three max_four min_four   -- for this text's walks alone
set_option linter.unusedVariables false
set_option linter.unusedSimpArgs false
theorem q8_0 {P:Prop} (h:P:=by first|(with_reducible assumption)|assumption):P:=h
set_option maxHeartbeats 8000000
set_option maxRecDepth 100000
def slices_Max_int64_int64.l0:Nat→List Int→Int→Int→Option (Int)
 | 0,_,_,_=>none
 | k+1,x0,x3,x4=>if x4<(x0.length:Int) then (if 0≤x4 then (slices_Max_int64_int64.l0 k x0 (mx x3 (rd x0 x4)) (wrap64 (x4+1))) else (none)) else (some x3)
def slices_Max_int64_int64.f (k:Nat) (l0:List Int):Option (Int):=if (l0.length:Int)<1 then (none) else (if 0<(l0.length:Int) then (slices_Max_int64_int64.l0 k l0 (rd l0 0) 1) else (none))
theorem slices_Max_int64_int64.calls (k:Nat) (A0:Option Addr) (c0:Nat) (l0:List Int) (r:Int) (w:World) (hr0:Kd.C (Kd.int .i64) w A0 l0.length l0) (hc0:l0.length≤c0) (h:slices_Max_int64_int64.f k l0=some r) :
  Calls Tryz.prog 108 #[.slice A0 l0.length c0] w fun e w'=>e=.returned (.int .i64 r)∧Below w.heap.size w w':=by
 have HR0:=ak hr0;have HC0:=ak hc0;clear hr0 hc0;have HB:=ak (Below.refl w.heap.size w);have H:(if (l0.length:Int)<1 then (none) else (if 0<(l0.length:Int) then (slices_Max_int64_int64.l0 k l0 (rd l0 0) 1) else (none)))=some r:=h;clear h
 by_cases c2:(l0.length:Int)<1
 ·rw [if_pos c2] at H
  exact absurd H (by simp)
 rw [if_neg c2] at H;have aC:=df c2;have aD:decide (l0.length<1)=false:=decide_eq_false (by omega);clear c2;replace H:=ifs H;obtain ⟨c3,H⟩:=H;have a4:=dt c3;have a5:decide (0<l0.length)=true:=decide_eq_true (by omega);clear c3;have H':=ak H;clear H;have av:0≤(0:Int):=(by omega);have aw:0<(l0.length:Int):=od q8_0;obtain ⟨aM,aN,aE⟩:=Kd.at_int HR0.out 0 av aw;cases aN;have qi337:(0<l0.length)=True:=eq_true (by omega);(try rw [show (0:Int).toNat=0 from rfl] at aE);(try rw [Addr.add_zero'] at aE);replace av:=eq_true av;replace aw:=eq_true aw
 go_enter Tryz.func108,Tryz.ntmps108
 go_wp2
 go_loopg [3,4] k (fun kq v3 v4 w'=>∃ (aj:Int) (ad:Int),v3=.int .i64 aj∧v4=.int .i64 ad∧Aside0 (slices_Max_int64_int64.l0 kq l0 aj ad=some r)∧Aside0 (kq≤k)∧Aside0 (Below w.heap.size w w'))
 case atStart=>exact ⟨(rd l0 0),(1),(by first|rfl|(simp;done)|(simp [*];done)),(by first|rfl|(simp;done)|(simp [*];done)),H',⟨Nat.le_refl _⟩,⟨hq⟩⟩
 case round =>
  clear H';obtain ⟨aj,ad,rfl,rfl,HA,HK1,HB⟩:=hrel
  cases gk with|zero=>exact absurd HA.out (by simp [slices_Max_int64_int64.l0])|succ k1=>?_
  have H:=HA.out;clear HA;simp only [slices_Max_int64_int64.l0] at H;obtain c4|c4:=nem (ad<(l0.length:Int))
  ·rw [if_neg c4] at H;have ax:=df c4;clear c4;obtain rfl:=Option.some.inj H;go_wp2
   go_ret
   exact ⟨ew,hq⟩
  rw [if_pos c4] at H;have ax:=dt c4;clear c4;replace H:=ifs H;obtain ⟨c5,H⟩:=H;have aO:=dt c5;clear c5;obtain ⟨ji6,au⟩:∃ j_:Int,(mx aj (rd l0 ad))=j_:=⟨_,rfl⟩;(first|rw [au] at H|simp only [au] at H);have hji6_:(if aj<(rd l0 ad) then (rd l0 ad) else aj)=ji6:=au;have H':=ak H;clear H;have ay:0≤(ad:Int):=od q8_0;have az:ad<(l0.length:Int):=od q8_0;obtain ⟨aP,aQ,aA⟩:=Kd.at_int HR0.out ad ay az;obtain rfl:aM=aP:=(by injection aQ);replace aA:=(HB.out.cell (World.block_lt_of_cell? w _ aA)).trans aA;replace ay:=eq_true ay;replace az:=eq_true az;go_wp2
  go_roundg k1
  case measure=>have:=HK1.out;omega
  case rel=>exact ⟨(ji6),(wrap64 (ad+1)),(by first|rfl|(simp;done)|(simp only [← au] <;> (first|rfl|simp))|(simp [*];done)),(by first|rfl|(simp;done)|(simp [*];done)),H',⟨by have:=HK1.out;omega⟩,⟨hq⟩⟩
def impl_decreasing.f:Nat→List Int→Option (ByteArray)
 | 0,_=>none
 | k+1,l0=>if (l0.length:Int)=0 then (some (⟨#[48]⟩:ByteArray)) else ((slices_Max_int64_int64.f k l0).bind fun t339=>((slices_Index_int64_int64.f k l0 t339).bind fun t340=>(if 0≤t340 then (if t340≤(l0.length:Int) then ((impl_decreasing.f k (l0.take (t340:Int).toNat)).bind fun t342=>(if 1+t342.size≤9223372036854775807 then (if 0≤(wrap64 (t340+1)) then (if (wrap64 (t340+1))≤(l0.length:Int) then ((impl_decreasing.f k (l0.drop ((wrap64 (t340+1)):Int).toNat)).bind fun t344=>(if ((⟨#[49]⟩:ByteArray)++t342).size+t344.size≤9223372036854775807 then (some (((⟨#[49]⟩:ByteArray)++t342)++t344)) else (none))) else (none)) else (none)) else (none))) else (none)) else (none))))
def impl_decreasing.T4:Bool × List (List Nat × List Nat):=(true,[([],[]),([],[]),([0,1],[0,1]),([2],[2]),([3],[3]),([],[]),([],[]),([6],[6]),([5,7],[5,7]),([8,3],[8]),([4,9],[4,9]),([10,9,0,1,2,3,4,5,6,7,8,9,10],[10])])
def impl_decreasing.B4:List Nat:=[0,0,3,7,15,0,0,64,224,495,1023,2047]
theorem impl_decreasing.tab4:rtab .any (opsOf Tryz.f66 4)=impl_decreasing.T4:=by kernel_rfl
theorem impl_decreasing.bits4:waitsOk impl_decreasing.T4.2 impl_decreasing.B4=true:=by kernel_rfl
theorem impl_decreasing.calls (k:Nat):∀ (A0:Option Addr) (c0:Nat) (l0:List Int) (r:ByteArray) (w:World) (hr0:Kd.C (Kd.int .i64) w A0 l0.length l0) (hc0:l0.length≤c0) (h:impl_decreasing.f k l0=some r),
  Calls Tryz.prog 66 #[.slice A0 l0.length c0] w fun e w'=>e=.returned (.string r)∧Below w.heap.size w w':=by
 induction k using Nat.strongRecOn with
 | _ k ih =>
 intro A0 c0 l0 r w hr0 hc0 h
 cases k with
 | zero=>exact absurd h (by simp [impl_decreasing.f])
 | succ k =>
 simp only [impl_decreasing.f] at h;have HR0:=ak hr0;have HC0:=ak hc0;clear hr0 hc0;have HB:=ak (Below.refl w.heap.size w);have H:(if (l0.length:Int)=0 then (some (⟨#[48]⟩:ByteArray)) else ((slices_Max_int64_int64.f k l0).bind fun al=>((slices_Index_int64_int64.f k l0 al).bind fun ab=>(if 0≤ab then (if ab≤(l0.length:Int) then ((impl_decreasing.f k (l0.take (ab:Int).toNat)).bind fun af=>(if 1+af.size≤9223372036854775807 then (if 0≤(wrap64 (ab+1)) then (if (wrap64 (ab+1))≤(l0.length:Int) then ((impl_decreasing.f k (l0.drop ((wrap64 (ab+1)):Int).toNat)).bind fun ah=>(if ((⟨#[49]⟩:ByteArray)++af).size+ah.size≤9223372036854775807 then (some (((⟨#[49]⟩:ByteArray)++af)++ah)) else (none))) else (none)) else (none)) else (none))) else (none)) else (none)))))=some r:=h;clear h
 by_cases c2:(l0.length:Int)=0
 ·rw [if_pos c2] at H;have aC:((l0.length:Int) == 0)=true:=beq_iff_eq.mpr c2;have aD:((l0.length:Int) != 0)=false:=bne_eq_false_iff_eq.mpr c2;clear c2;obtain rfl:=Option.some.inj H
  go_enter Tryz.func66,Tryz.ntmps66
  go_wp2
  go_ret
  exact ⟨ew,hq⟩
 rw [if_neg c2] at H;have aC:((l0.length:Int) == 0)=false:=beq_eq_false_iff_ne.mpr c2;have aD:((l0.length:Int) != 0)=true:=bne_iff_ne.mpr c2;have a6:¬ (l0=[]):=fun h_=>c2 (by rw [h_];rfl)
 replace H:=bs H;obtain ⟨al,A3,H⟩:=H;(try dsimp only at H);replace H:=bs H;obtain ⟨ab,A4,H⟩:=H;(try dsimp only at H);replace H:=ifs H;obtain ⟨c5,H⟩:=H;have aO:=eq_true c5;have a7:decide (0≤ab)=true:=decide_eq_true c5;clear c5;replace H:=ifs H;obtain ⟨c6,H⟩:=H;have a8:=eq_true c6;have a9:decide (ab≤(l0.length:Int))=true:=decide_eq_true c6;clear c6;replace H:=bs H;obtain ⟨af,A7,H⟩:=H;(try dsimp only at H);replace H:=ifs H;obtain ⟨c8,H⟩:=H;have ba:=eq_true c8;have bd:decide (1+af.size≤9223372036854775807)=true:=decide_eq_true c8
 try have bf:(9223372036854775807<1+af.size)=False:=eq_false (Nat.not_lt.2 c8)
 obtain ⟨ji9,ag⟩:∃ j_:Int,(wrap64 (ab+1))=j_:=⟨_,rfl⟩;(first|rw [ag] at H|simp only [ag] at H);(try rw [ag] at A3);(try rw [ag] at A4);(try rw [ag] at A7);have hji9w:(IntKind.i64.wrap (ab+1))=ji9:=(i64_w _).trans ag;replace H:=ifs H;obtain ⟨c10,H⟩:=H;have bg:=eq_true c10;have bh:decide (0≤(ji9))=true:=decide_eq_true c10;clear c10;replace H:=ifs H;obtain ⟨c11,H⟩:=H;have bi:=eq_true c11;have bj:decide ((ji9)≤(l0.length:Int))=true:=decide_eq_true c11;clear c11;replace H:=bs H;obtain ⟨ah,A12,H⟩:=H;(try dsimp only at H);replace H:=ifs H;obtain ⟨c13,H⟩:=H;have bk:=eq_true c13;have bl:decide (((⟨#[49]⟩:ByteArray)++af).size+ah.size≤9223372036854775807)=true:=decide_eq_true c13
 try have aR:(9223372036854775807<((⟨#[49]⟩:ByteArray)++af).size+ah.size)=False:=eq_false (Nat.not_lt.2 c13)
 try have bm:(9223372036854775807<1+af.size+ah.size)=False:=(by have h_:=aR;rw [ByteArray.size_append] at h_;exact h_)
 obtain rfl:=Option.some.inj H
 go_enter Tryz.func66,Tryz.ntmps66
 try go_wp2_with (first|((with_reducible refine gate_callee (f:=108) rfl ?_);refine gl (some 9) Tryz.func108 #[.slice A0 l0.length c0] ?_;(with_reducible refine (slices_Max_int64_int64.calls k _ _ l0 al _ (pc (HR0.out)) HC0.out A3.out).mono ?_);rintro e w14 ⟨rfl,hb⟩;refine ⟨_,rfl,?_⟩;replace HB:=hbs hb;(try clear hb))|((with_reducible refine gate_callee (f:=107) rfl ?_);refine gl (some 10) Tryz.func107 #[.slice A0 l0.length c0,.int .i64 al] ?_;(with_reducible refine (slices_Index_int64_int64.calls k _ _ l0 al ab _ (pc (Kd.C_below HR0.out HB.out)) HC0.out A4.out).mono ?_);rintro e w' ⟨rfl,⟨nd,rfl⟩⟩;refine ⟨_,rfl,?_⟩))
 (try (rw [drewN_self w14];generalize hq_:World.drewN w14 _=w14;have n0_:Aside0 (Below w.heap.size w w14):=⟨by rw [← hq_];exact hq⟩;clear HB hq_;have HB:=n0_;clear n0_));have n0_:=ak (below_drew1 HB.out);clear HB;have HB:=n0_;clear n0_;obtain ⟨i016,aF,_,hsz16,_⟩:=info_parts info2;obtain ⟨hcut16,hA16,aG⟩:=print_take_of (P:=Tryz.prog) (Value.int .i64) 0 24 2 .i64 Tryz.underlying24 aF hsz16 A0 c0 l0 ab (od q8_0) (od q8_0) HC0.out;have aH:=ak (Kd.C_of_reads (h1:=fun _=>rfl) (hA16 _ (Kd.reads_of_C HR0.out)));have aS:=ak aG;clear hA16 aG aF hsz16;obtain ⟨i017,aI,_,hsz17,_⟩:=info_parts info2;obtain ⟨A17,hcut17,hA17,aJ⟩:=print_drop_of (P:=Tryz.prog) (Value.int .i64) 0 24 2 .i64 Tryz.underlying24 aI hsz17 A0 c0 l0 (ji9) (od q8_0) (od q8_0) HC0.out;have aK:=ak (Kd.C_of_reads (h1:=fun _=>rfl) (hA17 _ (Kd.reads_of_C HR0.out)));have aT:=ak aJ;clear hA17 aJ aI hsz17
 refine start_ (n:=12) (S:=fun w'=>True) (ds:=[]) #[false,false,false,false,false,false,false,false,false,false,false,false] kr rfl rfl trivial (fun hHeld=>?_);refine with_tabW impl_decreasing.tab4 impl_decreasing.bits4 (fun HT_ HW_=>?_)
 generalize w14.drew=w15 at HB aH aK hHeld ⊢
 refine pur (i:=0) (N:=some 11) (v:=?_) (a':=?_) (tf 1 11) rfl (Or.inl ⟨by rfl,?_⟩) ?_ ?_
 rotate_left
 ·intro w'
  go_simp
  with_reducible rfl
 rotate_left
 ·simp only [Act.put,sIB,sc0,scs,i64_w,i32_w]
  rfl
 refine pur (i:=1) (N:=some 12) (v:=?_) (a':=?_) (tf 2 10) rfl (Or.inl ⟨by rfl,?_⟩) ?_ ?_
 rotate_left
 ·intro w'
  go_simp
  with_reducible rfl
 rotate_left
 ·simp only [Act.put,sIB,sc0,scs,i64_w,i32_w]
  rfl
 refine pur (i:=2) (N:=some 13) (v:=?_) (a':=?_) (tf 3 9) rfl (Or.inl ⟨by rfl,?_⟩) ?_ ?_
 rotate_left
 ·intro w'
  go_simp
  with_reducible rfl
 rotate_left
 ·simp only [Act.put,sIB,sc0,scs,i64_w,i32_w]
  rfl
 refine pur (i:=5) (N:=some 16) (v:=?_) (a':=?_) #[true,true,true,false,false,true,false,false,false,false,false,false] rfl (Or.inl ⟨by rfl,?_⟩) ?_ ?_
 rotate_left
 ·intro w'
  go_simp
  with_reducible rfl
 rotate_left
 ·simp only [Act.put,sIB,sc0,scs,i64_w,i32_w]
  rfl
 refine pur (i:=6) (N:=some 17) (v:=?_) (a':=?_) #[true,true,true,false,false,true,true,false,false,false,false,false] rfl (Or.inl ⟨by rfl,?_⟩) ?_ ?_
 rotate_left
 ·intro w'
  go_simp
  with_reducible rfl
 rotate_left
 ·simp only [Act.put,sIB,sc0,scs,i64_w,i32_w]
  rfl
 refine pur (i:=7) (N:=some 18) (v:=?_) (a':=?_) #[true,true,true,false,false,true,true,true,false,false,false,false] rfl (Or.inl ⟨by rfl,?_⟩) ?_ ?_
 rotate_left
 ·intro w'
  go_simp
  with_reducible rfl
 rotate_left
 ·simp only [Act.put,sIB,sc0,scs,i64_w,i32_w]
  rfl
 refine pur (i:=8) (N:=some 19) (v:=?_) (a':=?_) #[true,true,true,false,false,true,true,true,true,false,false,false] rfl (Or.inl ⟨by rfl,?_⟩) ?_ ?_
 rotate_left
 ·intro w'
  go_simp
  with_reducible rfl
 rotate_left
 ·simp only [Act.put,sIB,sc0,scs,i64_w,i32_w]
  rfl
 refine one_ (i:=3) (N:=some 14) #[true,true,true,true,false,true,true,true,true,false,false,false] rfl rfl (one_of HT_.out kr) dc (fun K hK=>?_)
 refine goes_ Tryz.func66 kr rfl #[.slice A0 (l0.take (ab:Int).toNat).length c0] (by rfl) rfl rfl (by (try simp only [List.map_toArray,List.map_cons,List.map_nil]);first|done|(rw [show (l0.take (ab:Int).toNat).length=ab.toNat from (by rw [List.length_take];have h_:(ab:Int)≤(l0.length:Int):=od q8_0;omega)] <;> rfl)|rfl|(simp only [List.length_drop,List.length_take];rfl)) ?_
 with_reducible refine (ih k (by omega) _ _ (l0.take (ab:Int).toNat) af _ ?side1 ?side2 A7.out).mono ?_
 (case side1=>exact pc (Kd.C_below aH.out HB.out))
 (case side2=>exact aS.out)
 rintro e w18 ⟨rfl,hb⟩
 refine ⟨_,rfl,?_⟩
 have n0_:=hbs hb;clear HB;have HB:=n0_;clear n0_;(try clear hb);(try clear hb2);(try clear hk);(try clear hi)
 refine hK.out _ _ trivial (fun hHeld=>?_)
 clear hK K
 refine norm_ (a':=?_) ?_ ?_
 rotate_left
 ·show Act.put _ (some 14) _=_;simp only [Act.put,sIB,sc0,scs,i64_w,i32_w]
  rfl
 refine pur (i:=4) (N:=some 15) (v:=?_) (a':=?_) (tf 9 3) rfl (Or.inl ⟨by rfl,?_⟩) ?_ ?_
 rotate_left
 ·intro w'
  go_simp
  with_reducible rfl
 rotate_left
 ·simp only [Act.put,sIB,sc0,scs,i64_w,i32_w]
  rfl
 refine one_ (i:=9) (N:=some 20) (tf 10 2) rfl rfl (one_of HT_.out kr) dc (fun K hK=>?_)
 refine goes_ Tryz.func66 kr rfl #[.slice A17 (l0.drop ((ji9):Int).toNat).length (c0 - (ji9).toNat)] (by rfl) rfl rfl (by (try simp only [List.map_toArray,List.map_cons,List.map_nil]);first|done|(rw [show (l0.drop ((ji9):Int).toNat).length=(l0.length - (ji9).toNat) from List.length_drop] <;> rfl)|(simp only [ag];rfl)|rfl|(simp only [List.length_drop,List.length_take];rfl)) ?_
 with_reducible refine (ih k (by omega) _ _ (l0.drop ((ji9):Int).toNat) ah _ ?side1 ?side2 A12.out).mono ?_
 (case side1=>exact pc (Kd.C_below aK.out HB.out))
 (case side2=>exact aT.out)
 rintro e w19 ⟨rfl,hb⟩
 refine ⟨_,rfl,?_⟩
 have n0_:=hbs hb;clear HB;have HB:=n0_;clear n0_;(try clear hb);(try clear hb2);(try clear hk);(try clear hi)
 refine hK.out _ _ trivial (fun hHeld=>?_)
 clear hK K
 refine norm_ (a':=?_) ?_ ?_
 rotate_left
 ·show Act.put _ (some 20) _=_;simp only [Act.put,sIB,sc0,scs,i64_w,i32_w]
  rfl
 refine pur (i:=10) (N:=some 21) (v:=?_) (a':=?_) (tf 11 1) rfl (Or.inl ⟨by rfl,?_⟩) ?_ ?_
 rotate_left
 ·intro w'
  go_simp
  with_reducible rfl
 rotate_left
 ·simp only [Act.put,sIB,sc0,scs,i64_w,i32_w]
  rfl
 refine pur (i:=11) (N:=some 2) (v:=?_) (a':=?_) (tf 12 0) rfl (Or.inl ⟨by rfl,?_⟩) ?_ ?_
 rotate_left
 ·intro w'
  go_simp
  with_reducible rfl
 rotate_left
 ·simp only [Act.put,sIB,sc0,scs,i64_w,i32_w]
  rfl
 refine done_ (done_of HT_.out kr) ?_
 try go_wp2
 go_ret
 exact ⟨by first|rfl|(simp [errW_none,errW_some] <;> rfl)|(simp only [← ag];first|rfl|(simp [errW_none,errW_some] <;> rfl))|(simp [*,errW_none,errW_some] <;> rfl),hq⟩
def impl_DecreasingTree.f (k:Nat) (l0:List Int):Option (ByteArray × Int):=(slices_Clone.f l0).bind fun t345=>((slices_Sort.f t345).bind fun t348=>(if (l0.length:Int)>23 then (some ((⟨#[]⟩:ByteArray),2)) else ((slices_Compact.f t348).bind fun t349=>(if (t349.length:Int)=(l0.length:Int) then ((impl_decreasing.f k l0).bind fun t352=>(some (t352,0))) else (some ((⟨#[]⟩:ByteArray),2))))))
theorem impl_DecreasingTree.calls (k:Nat) (A0:Option Addr) (c0:Nat) (l0:List Int) (r1:ByteArray) (r2:Int) (w:World) (hr0:Kd.C (Kd.int .i64) w A0 l0.length l0) (hc0:l0.length≤c0) (h:impl_DecreasingTree.f k l0=some (r1,r2)) :
  Calls Tryz.prog 14 #[.slice A0 l0.length c0] w fun e w'=>e=.returned (.tuple #[.string r1,.int .i64 r2])∧Below w.heap.size w w':=by
 have HR0:=ak hr0;have HC0:=ak hc0;clear hr0 hc0;have HB:=ak (Below.refl w.heap.size w);have H:((slices_Clone.f l0).bind fun aa=>((slices_Sort.f aa).bind fun ai=>(if (l0.length:Int)>23 then (some ((⟨#[]⟩:ByteArray),2)) else ((slices_Compact.f ai).bind fun ae=>(if (ae.length:Int)=(l0.length:Int) then ((impl_decreasing.f k l0).bind fun aB=>(some (aB,0))) else (some ((⟨#[]⟩:ByteArray),2)))))))=some (r1,r2):=h;clear h;replace H:=bs H;obtain ⟨aa,A2,H⟩:=H;(try dsimp only at H);replace H:=bs H;obtain ⟨ai,A3,H⟩:=H;(try dsimp only at H)
 by_cases c4:(l0.length:Int)>23
 ·rw [if_pos c4] at H;have ax:decide (23<(l0.length:Int))=true:=decide_eq_true c4;have aU:decide (23<l0.length)=true:=decide_eq_true (by omega);clear c4;simp only [Option.some.injEq,Prod.mk.injEq] at H;obtain ⟨rfl,rfl⟩:=H
  go_enter Tryz.func14,Tryz.ntmps14
  go_wp2_with (first|((with_reducible refine gate_callee (f:=63) rfl ?_);refine gl (some 6) Tryz.func63 #[.slice A0 l0.length c0] ?_;(with_reducible refine (slices_Clone.calls _ _ l0 aa _ (pc (HR0.out)) HC0.out A2.out).mono ?_);rintro e w5 ⟨aL,rfl,ho0,hb⟩;refine ⟨_,rfl,?_⟩;have ac:=lw ho0;replace HB:=hbs hb;(try clear hb);(try clear hb2);(try clear hk);(try clear hi);(try clear ho0);obtain ⟨Ao6,co6,eo6⟩:=Kd.R_slice ac.out;subst eo6)|((with_reducible refine gate_callee (f:=64) rfl ?_);refine gl (some 8) Tryz.func64 #[.slice Ao6 aa.length co6] ?_;(with_reducible refine (slices_Sort.calls (fun k_=>some k_=(.slice Ao6 aa.length co6:Value).ownBlock) (.slice Ao6 aa.length co6) aa ai w _ ?side1 ?side2 A3.out).mono ?_);(case side1=>exact hq);(case side2=>exact Kd.R_tight rfl ac.out);rintro e w7 ⟨rfl,hy0,hb,hkp⟩;refine ⟨_,rfl,?_⟩;replace ac:=ak (Kd.R_reok rfl hy0 (fun k_ e_=>ac.out.1 k_ e_));replace HB:=ak (hb);(try clear hb hkp hy0)))
  go_ret2
  exact ⟨ew,hq⟩
 rw [if_neg c4] at H;have ax:decide (23<(l0.length:Int))=false:=decide_eq_false c4;have aU:decide (23<l0.length)=false:=decide_eq_false (by omega);clear c4;replace H:=bs H;obtain ⟨ae,A8,H⟩:=H;(try dsimp only at H);obtain c9|c9:=nem ((ae.length:Int)=(l0.length:Int))
 ·rw [if_neg c9] at H;have aV:((ae.length:Int) == (l0.length:Int))=false:=beq_eq_false_iff_ne.mpr c9;have aW:((ae.length:Int) != (l0.length:Int))=true:=bne_iff_ne.mpr c9;have aX:(ae.length == l0.length)=false:=by first|simpa using c9|(simp at c9 ⊢;omega)
  simp only [Option.some.injEq,Prod.mk.injEq] at H;obtain ⟨rfl,rfl⟩:=H
  go_enter Tryz.func14,Tryz.ntmps14
  go_wp2_with (first|((with_reducible refine gate_callee (f:=63) rfl ?_);refine gl (some 6) Tryz.func63 #[.slice A0 l0.length c0] ?_;(with_reducible refine (slices_Clone.calls _ _ l0 aa _ (pc (HR0.out)) HC0.out A2.out).mono ?_);rintro e w17 ⟨aL,rfl,ho0,hb⟩;refine ⟨_,rfl,?_⟩;have ac:=lw ho0;replace HB:=hbs hb;(try clear hb);(try clear hb2);(try clear hk);(try clear hi);(try clear ho0);obtain ⟨an,ao,aY⟩:=Kd.R_slice ac.out;subst aY)|((with_reducible refine gate_callee (f:=64) rfl ?_);refine gl (some 8) Tryz.func64 #[.slice an aa.length ao] ?_;(with_reducible refine (slices_Sort.calls (fun k_=>some k_=(.slice an aa.length ao:Value).ownBlock) (.slice an aa.length ao) aa ai w _ ?side1 ?side2 A3.out).mono ?_);(case side1=>exact hq);(case side2=>exact Kd.R_tight rfl ac.out);rintro e w19 ⟨rfl,hy0,hb,hkp⟩;refine ⟨_,rfl,?_⟩;replace ac:=ak (Kd.R_reok rfl hy0 (fun k_ e_=>ac.out.1 k_ e_));replace HB:=ak (hb);(try clear hb hkp hy0))|(go_at_call 65;(with_reducible refine (slices_Compact.calls (fun k_=>some k_=(.slice an aa.length ao:Value).ownBlock) (.slice an aa.length ao) ai ae w _ ?side1 ?side2 A8.out).mono ?_);(case side1=>exact hq);(case side2=>exact Kd.R_tight rfl ac.out);rintro e w20 ⟨aZ,rfl,ho0,hb,hkp⟩;have ap:=ak (Kd.R_mono (ok':=fun k_=>True) ho0 (fun k_ hk_=>trivial));replace HB:=ak (hb);clear ac;(try clear hb);(try clear hkp);(try clear ho0);obtain ⟨bo,bp,a1⟩:=Kd.R_slice ap.out;subst a1))
  go_ret2
  exact ⟨ew,hq⟩
 rw [if_pos c9] at H;have aV:((ae.length:Int) == (l0.length:Int))=true:=beq_iff_eq.mpr c9;have aW:((ae.length:Int) != (l0.length:Int))=false:=bne_eq_false_iff_eq.mpr c9;have aX:(ae.length == l0.length)=true:=by first|simpa using c9|(simp at c9 ⊢;omega)
 clear c9;replace H:=bs H;obtain ⟨aB,A10,H⟩:=H;(try dsimp only at H);simp only [Option.some.injEq,Prod.mk.injEq] at H;obtain ⟨rfl,rfl⟩:=H
 go_enter Tryz.func14,Tryz.ntmps14
 go_wp2_with (first|((with_reducible refine gate_callee (f:=63) rfl ?_);refine gl (some 6) Tryz.func63 #[.slice A0 l0.length c0] ?_;(with_reducible refine (slices_Clone.calls _ _ l0 aa _ (pc (HR0.out)) HC0.out A2.out).mono ?_);rintro e w11 ⟨aL,rfl,ho0,hb⟩;refine ⟨_,rfl,?_⟩;have ac:=lw ho0;replace HB:=hbs hb;(try clear hb);(try clear hb2);(try clear hk);(try clear hi);(try clear ho0);obtain ⟨aq,ar,a2⟩:=Kd.R_slice ac.out;subst a2)|((with_reducible refine gate_callee (f:=64) rfl ?_);refine gl (some 8) Tryz.func64 #[.slice aq aa.length ar] ?_;(with_reducible refine (slices_Sort.calls (fun k_=>some k_=(.slice aq aa.length ar:Value).ownBlock) (.slice aq aa.length ar) aa ai w _ ?side1 ?side2 A3.out).mono ?_);(case side1=>exact hq);(case side2=>exact Kd.R_tight rfl ac.out);rintro e w13 ⟨rfl,hy0,hb,hkp⟩;refine ⟨_,rfl,?_⟩;replace ac:=ak (Kd.R_reok rfl hy0 (fun k_ e_=>ac.out.1 k_ e_));replace HB:=ak (hb);(try clear hb hkp hy0))|(go_at_call 65;(with_reducible refine (slices_Compact.calls (fun k_=>some k_=(.slice aq aa.length ar:Value).ownBlock) (.slice aq aa.length ar) ai ae w _ ?side1 ?side2 A8.out).mono ?_);(case side1=>exact hq);(case side2=>exact Kd.R_tight rfl ac.out);rintro e w14 ⟨aZ,rfl,ho0,hb,hkp⟩;have ap:=ak (Kd.R_mono (ok':=fun k_=>True) ho0 (fun k_ hk_=>trivial));replace HB:=ak (hb);clear ac;(try clear hb);(try clear hkp);(try clear ho0);obtain ⟨bq,br,a3⟩:=Kd.R_slice ap.out;subst a3)|((with_reducible refine gate_callee (f:=66) rfl ?_);refine gl (some 21) Tryz.func66 #[.slice A0 l0.length c0] ?_;(with_reducible refine (impl_decreasing.calls k _ _ l0 aB _ (pc (Kd.C_below HR0.out HB.out)) HC0.out A10.out).mono ?_);rintro e w16 ⟨rfl,hb⟩;refine ⟨_,rfl,?_⟩;replace ap:=rb ap hb;replace HB:=hbs hb;(try clear hb)))
 go_ret2
 exact ⟨ew,hq⟩
end Go.Proofs.YtlppkilencpmeaaGreat.QFnGrowth
