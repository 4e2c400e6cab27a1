/- Functions as Lean functions, with their contracts: written by a program of this claim over the translation; some contracts are proved by hand. -/
import Derived.Test.YtimfbpmaepmdoaaQFnDrawingsx0
import Derived.Test.YtimfbpmaepmdoaaQFnDrawingsx6
import Derived.Test.YtimfbpmaepmdoaaQFnDrawingsx8
import Derived.Test.YtimfbpmaepmdoaaCv
namespace Go.Proofs.Ytimfbpmaepmdoaa.QFnDrawings
open Go.RowKit Go.Proofs.Ytimfbpmaepmdoaa.Gl Go.Proofs.YtimfbpmaepmdoaaW.PrintWords Go.Proofs.YtimfbpmaepmdoaaW.PrintLast Go.Proofs.YtimfbpmaepmdoaaW.PrintMore
attribute [local go_sem] max2_int min2_int max_two min_two max_three min_three max_four min_four   -- for this text's walks alone
set_option linter.unusedVariables false
set_option linter.unusedSimpArgs false
def slices_Max_int64_int64.l0:Nat→List Int→Int→Int→Option (Int)
 | 0,_,_,_=>none
 | k+1,x0,x3,x4=>if x4<(x0.length:Int) then (if 0≤x4 then (slices_Max_int64_int64.l0 k x0 (mx x3 (rd x0 x4)) (wrap64 (x4+1))) else (none)) else (some x3)
def slices_Max_int64_int64.f (k:Nat) (l0:List Int):Option (Int):=if (l0.length:Int)<1 then (none) else (if 0<(l0.length:Int) then (slices_Max_int64_int64.l0 k l0 (rd l0 0) 1) else (none))
set_option maxHeartbeats 8000000 in
set_option maxRecDepth 100000 in
theorem slices_Max_int64_int64.calls (k:Nat) (A0:Option Addr) (c0:Nat) (l0:List Int) (r:Int) (w:World) (hr0:Kd.C (Kd.int .i64) w A0 l0.length l0) (hc0:l0.length≤c0) (h:slices_Max_int64_int64.f k l0=some r) :
  Calls Try.prog 32 #[.slice A0 l0.length c0] w fun e w'=>e=.returned (.int .i64 r)∧Below w.heap.size w w':=by
 have HR0:=Aside0.mk hr0
 have HC0:=Aside0.mk hc0
 clear hr0 hc0
 have HB:=Aside0.mk (Below.refl w.heap.size w)
 have H:(if (l0.length:Int)<1 then (none) else (if 0<(l0.length:Int) then (slices_Max_int64_int64.l0 k l0 (rd l0 0) 1) else (none)))=some r:=h
 clear h
 by_cases c2:(l0.length:Int)<1
 ·rw [if_pos c2] at H
  exact absurd H (by simp)
 ·rw [if_neg c2] at H
  have c2b0:decide ((l0.length:Int)<1)=false:=decide_eq_false c2
  have c2b1:decide (l0.length<1)=false:=decide_eq_false (by omega)
  clear c2
  by_cases c3:0<(l0.length:Int)
  ·rw [if_pos c3] at H
   have c3b0:decide (0<(l0.length:Int))=true:=decide_eq_true c3
   have c3b1:decide (0<l0.length)=true:=decide_eq_true (by omega)
   clear c3
   have H':=Aside0.mk H
   clear H
   have p317:0≤(0:Int):=(by omega)
   have q317:0<(l0.length:Int):=of_decide_eq_true (by first|(with_reducible assumption)|assumption)
   obtain ⟨ad317,e317,hx317_0⟩:=Kd.at_int HR0.out 0 p317 q317
   cases e317
   have qi317:(0<l0.length)=True:=eq_true (by omega)
   (try rw [show ((0:Int)).toNat=0 from rfl] at hx317_0)
   (try rw [Addr.add_zero'] at hx317_0)
   replace p317:=eq_true p317
   replace q317:=eq_true q317
   go_enter Try.func32,Try.ntmps32
   go_wp2
   go_loopg [3,4] k (fun kq v3 v4 w'=>∃ (x3_1:Int) (x4_1:Int),v3=.int .i64 x3_1∧v4=.int .i64 x4_1∧Aside0 (slices_Max_int64_int64.l0 kq l0 x3_1 x4_1=some r)∧Aside0 (kq≤k)∧Aside0 (Below w.heap.size w w'))
   case atStart=>exact ⟨(rd l0 0),(1),(by first|rfl|(simp;done)|(simp [*];done)),(by first|rfl|(simp;done)|(simp [*];done)),H',⟨Nat.le_refl _⟩,⟨by repeat (first|(with_reducible first|exact HB.out|apply below_alloc|apply pw_below_drewN|apply below_drew1)|exact HB.out)⟩⟩
   case round =>
    clear H'
    try clear c2
    try clear c2b0
    try clear c2b1
    try clear p2
    try clear c3
    try clear c3b0
    try clear c3b1
    try clear p3
    try clear q3
    try clear hx3
    try clear qi3
    try clear hx317_0
    try clear p317
    try clear q317
    obtain ⟨x3_1,x4_1,rfl,rfl,HA,HK1,HB⟩:=hrel
    cases gk with
    | zero=>exact absurd HA.out (by simp [slices_Max_int64_int64.l0])
    | succ k1 =>
     have H:=HA.out
     clear HA
     simp only [slices_Max_int64_int64.l0] at H
     by_cases c4:x4_1<(l0.length:Int)
     ·rw [if_pos c4] at H
      have c4b0:decide (x4_1<(l0.length:Int))=true:=decide_eq_true c4
      clear c4
      by_cases c5:0≤x4_1
      ·rw [if_pos c5] at H
       have c5b0:decide (0≤x4_1)=true:=decide_eq_true c5
       clear c5
       obtain ⟨ji6,hji6⟩:∃ j_:Int,(mx x3_1 (rd l0 x4_1))=j_:=⟨_,rfl⟩
       replace H:(slices_Max_int64_int64.l0 k1 l0 ji6 (wrap64 (x4_1+1)))=some r:=by first|(rw [hji6] at H;exact H)|(simp only [hji6] at H ⊢;exact H)
       have hji6_:(if x3_1<(rd l0 x4_1) then (rd l0 x4_1) else x3_1)=ji6:=hji6
       have H':=Aside0.mk H
       clear H
       have p318:0≤(x4_1:Int):=of_decide_eq_true (by first|(with_reducible assumption)|assumption)
       have q318:x4_1<(l0.length:Int):=of_decide_eq_true (by first|(with_reducible assumption)|assumption)
       obtain ⟨ad318,e318,hx318_0⟩:=Kd.at_int HR0.out x4_1 p318 q318
       obtain rfl:ad317=ad318:=(by injection e318)
       replace hx318_0:=(HB.out.cell (World.block_lt_of_cell? w _ hx318_0)).trans hx318_0
       replace p318:=eq_true p318
       replace q318:=eq_true q318
       go_wp2
       go_roundg k1
       case measure=>have:=HK1.out;omega
       case rel=>exact ⟨(ji6),(wrap64 (x4_1+1)),(by first|rfl|(simp;done)|(simp only [← hji6] <;> (first|rfl|simp))|(simp [*];done)),(by first|rfl|(simp;done)|(simp [*];done)),H',⟨by have:=HK1.out;omega⟩,⟨by repeat (first|(with_reducible first|exact HB.out|apply below_alloc|apply pw_below_drewN|apply below_drew1)|exact HB.out)⟩⟩
      ·rw [if_neg c5] at H
       exact absurd H (by simp)
     ·rw [if_neg c4] at H
      have c4b0:decide (x4_1<(l0.length:Int))=false:=decide_eq_false c4
      clear c4
      obtain rfl:=Option.some.inj H
      go_wp2
      go_ret
      exact ⟨by first|rfl|(simp [errW_none,errW_some] <;> rfl)|(simp [*,errW_none,errW_some] <;> rfl),by repeat (first|(with_reducible first|exact HB.out|apply below_alloc|apply pw_below_drewN|apply below_drew1)|exact HB.out)⟩
  ·rw [if_neg c3] at H
   exact absurd H (by simp)
def strings_Repeat.f (l0:ByteArray) (a1:Int):Option ByteArray:=if 0≤a1∧a1≤1000∧l0.size≤1000 then some ⟨(Lib.repeatL l0.data.toList a1.toNat).toArray⟩ else none
theorem strings_Repeat.calls (a0:ByteArray) (a1:Int) (r:ByteArray) (w:World) (h:strings_Repeat.f a0 a1=some r) :
  Calls Try.prog 33 #[.string a0,.int .i64 a1] w fun e w'=>e=.returned (.string r)∧Below w.heap.size w w':=by
 unfold strings_Repeat.f at h
 by_cases hc:0≤a1∧a1≤1000∧a0.size≤1000
 ·rw [if_pos hc] at h
  obtain rfl:=Option.some.inj h
  obtain ⟨c,rfl⟩:=Int.eq_ofNat_of_zero_le hc.1
  have h1:a0.size*c≤1000*1000:=Nat.mul_le_mul hc.2.2 (by omega)
  exact Try.strings_Repeat a0 c w (by omega) (Nat.le_trans h1 (by decide))
 ·rw [if_neg hc] at h;cases h
def strings_Join.f (l0:List ByteArray) (a1:ByteArray):Option ByteArray:=if l0.length≤1000∧(Lib.join (l0.map (·.data.toList)) a1.data.toList).length≤1000000 then some ⟨(Lib.join (l0.map (·.data.toList)) a1.data.toList).toArray⟩ else none
theorem strings_Join.calls (A0:Option Addr) (c0:Nat) (l0:List ByteArray) (a1:ByteArray) (r:ByteArray) (w:World) (hr0:Kd.C Kd.string w A0 l0.length l0) (hc0:l0.length≤c0) (h:strings_Join.f l0 a1=some r) :
  Calls Try.prog 34 #[.slice A0 l0.length c0,.string a1] w fun e w'=>e=.returned (.string r)∧Below w.heap.size w w':=by
 unfold strings_Join.f at h
 by_cases hc:l0.length≤1000∧(Lib.join (l0.map (·.data.toList)) a1.data.toList).length≤1000000
 ·rw [if_pos hc] at h
  obtain rfl:=Option.some.inj h
  by_cases hn:l0=[]
  ·subst hn
   refine (Try.strings_Join_none A0 c0 a1 w).mono ?_
   rintro e w' ⟨rfl,rfl⟩
   exact ⟨rfl,Below.refl _ _⟩
  ·have hl:0<l0.length:=by
    cases l0 with
    | nil=>exact absurd rfl hn
    | cons x l=>simp
   obtain ⟨⟨bk,o,spot⟩,rfl,hx⟩:=Kd.at_string hr0 0 (by omega) (by omega)
   have hs:spot=none:=by
    cases spot with
    | none=>rfl
    | some q =>
     simp only [World.cell?,Addr.add] at hx
     split at hx <;> simp at hx
   subst hs
   have hbk:bk<w.heap.size:=World.block_lt_of_cell? w _ hx
   refine Try.strings_Join bk o c0 l0 a1 w (fun j x hj=>?_) hbk (by omega) hc0 (by omega)
   obtain ⟨hj1,rfl⟩:=List.getElem?_eq_some_iff.1 hj
   obtain ⟨ad,e,hx2⟩:=Kd.at_string hr0 (j:Int) (by omega) (by omega)
   obtain rfl:=Option.some.inj e
   have e2:rdOf ByteArray.empty l0 (j:Int)=l0[j]:=by
    unfold rdOf
    rw [Int.toNat_natCast,List.getD_eq_getElem?_getD,List.getElem?_eq_getElem hj1];rfl
   rw [e2] at hx2
   have ha:(⟨bk,o,none⟩:Addr).add j=⟨bk,o+j,none⟩:=by unfold Addr.add;split <;> simp_all
   rw [Int.toNat_natCast,ha] at hx2
   exact hx2
 ·rw [if_neg hc] at h;cases h
mutual
def impl_PictureOf.l0:Nat→List Int→List Int→List ByteArray→Int→Int→Option (ByteArray × Int)
 | 0,_,_,_,_,_=>none
 | k+1,x4,x5,x6,x23,x24=>if x24<x23 then ((slices_Max_int64_int64.f k x4).bind fun t332=>((strings_Repeat.f (⟨#[46]⟩:ByteArray) (wrap64 (t332+1))).bind fun t333=>(impl_PictureOf.l1 k x4 x5 x6 x24 (bytesOf t333) x23 x24 x4 (x4.length:Int) 0))) else ((strings_Join.f x6 (⟨#[47]⟩:ByteArray)).bind fun t331=>(some (t331,0)))
def impl_PictureOf.l1:Nat→List Int→List Int→List ByteArray→Int→List Int→Int→Int→List Int→Int→Int→Option (ByteArray × Int)
 | 0,_,_,_,_,_,_,_,_,_,_=>none
 | k+1,x4,x5,x6,x7,x8,x23,x24,x32,x33,x34=>if x34<x33 then (if 0≤x34 then (if x34<(x32.length:Int) then (if x34<(x5.length:Int) then (if (rd x5 x34)=x7 then (if 0≤(rd x32 x34) then (if (rd x32 x34)<(x8.length:Int) then (impl_PictureOf.l1 k x4 x5 x6 x7 (x8.set ((rd x32 x34):Int).toNat 111) x23 x24 x32 x33 (wrap64 (x34+1))) else (none)) else (none)) else (impl_PictureOf.l1 k x4 x5 x6 x7 x8 x23 x24 x32 x33 (wrap64 (x34+1)))) else (none)) else (none)) else (none)) else (if x6.length<8796093022208 then (impl_PictureOf.l0 k x4 x5 (x6++[strOfNums x8]) x23 (wrap64 (x24+1))) else (none))
end
def impl_PictureOf.f (k:Nat) (l0_0:List Int):Option (ByteArray × Int):=(impl_IsTree.f k l0_0).bind fun t320=>(if t320=true then ((impl_tidy.f k l0_0).bind fun t321=>((impl_depthsOf.f k l0_0).bind fun t324=>((slices_Max_int64_int64.f k t324).bind fun t330=>(impl_PictureOf.l0 k t321 t324 (([]:List ByteArray)) (wrap64 (t330+1)) 0)))) else (some ((⟨#[]⟩:ByteArray),1)))
def impl_PictureOf.T3:Bool × List (List Nat × List Nat):=(true,[([],[]),([0],[0]),([1],[1]),([],[]),([3],[3]),([4,2],[4]),([2,5,0,1,2],[2]),([5,6,0,1,2,3,4,5,6],[5])])
def impl_PictureOf.B3:List Nat:=[0,1,3,0,8,31,63,127]
theorem impl_PictureOf.tab3:rtab .any (opsOf Try.f8 3)=impl_PictureOf.T3:=by kernel_rfl
theorem impl_PictureOf.bits3:waitsOk impl_PictureOf.T3.2 impl_PictureOf.B3=true:=by kernel_rfl
set_option maxHeartbeats 8000000 in
set_option maxRecDepth 100000 in
theorem impl_PictureOf.calls (k:Nat) (A0_0:Option Addr) (c0_0:Nat) (l0_0:List Int) (r1:ByteArray) (r2:Int) (w:World) (hr0_0:Kd.C (Kd.int .i64) w A0_0 l0_0.length l0_0) (hc0_0:l0_0.length≤c0_0) (h:impl_PictureOf.f k l0_0=some (r1,r2)) :
  Calls Try.prog 8 #[.agg #[.slice A0_0 l0_0.length c0_0]] w fun e w'=>e=.returned (.tuple #[.string r1,.int .i64 r2])∧Below w.heap.size w w':=by
 have hu28:=Try.underlying28
 have HR0_0:=Aside0.mk hr0_0
 have HC0_0:=Aside0.mk hc0_0
 clear hr0_0 hc0_0
 have HB:=Aside0.mk (Below.refl w.heap.size w)
 have H:((impl_IsTree.f k l0_0).bind fun t320=>(if t320=true then ((impl_tidy.f k l0_0).bind fun t321=>((impl_depthsOf.f k l0_0).bind fun t324=>((slices_Max_int64_int64.f k t324).bind fun t330=>(impl_PictureOf.l0 k t321 t324 (([]:List ByteArray)) (wrap64 (t330+1)) 0)))) else (some ((⟨#[]⟩:ByteArray),1))))=some (r1,r2):=h
 clear h
 replace H:=Option.bind_eq_some_iff.mp H
 obtain ⟨t320,A20,H⟩:=H
 replace H:(if t320=true then ((impl_tidy.f k l0_0).bind fun t321=>((impl_depthsOf.f k l0_0).bind fun t324=>((slices_Max_int64_int64.f k t324).bind fun t330=>(impl_PictureOf.l0 k t321 t324 (([]:List ByteArray)) (wrap64 (t330+1)) 0)))) else (some ((⟨#[]⟩:ByteArray),1)))=some (r1,r2):=H
 have A2:=Aside0.mk A20
 clear A20
 by_cases c3:t320=true
 ·subst c3
  have H1:((impl_tidy.f k l0_0).bind fun t321=>((impl_depthsOf.f k l0_0).bind fun t324=>((slices_Max_int64_int64.f k t324).bind fun t330=>(impl_PictureOf.l0 k t321 t324 (([]:List ByteArray)) (wrap64 (t330+1)) 0))))=some (r1,r2):=by rw [if_pos rfl] at H;exact H
  clear H
  have H:=H1
  clear H1
  replace H:=Option.bind_eq_some_iff.mp H
  obtain ⟨t321,A40,H⟩:=H
  replace H:((impl_depthsOf.f k l0_0).bind fun t324=>((slices_Max_int64_int64.f k t324).bind fun t330=>(impl_PictureOf.l0 k t321 t324 (([]:List ByteArray)) (wrap64 (t330+1)) 0)))=some (r1,r2):=H
  have A4:=Aside0.mk A40
  clear A40
  replace H:=Option.bind_eq_some_iff.mp H
  obtain ⟨t324,A50,H⟩:=H
  replace H:((slices_Max_int64_int64.f k t324).bind fun t330=>(impl_PictureOf.l0 k t321 t324 (([]:List ByteArray)) (wrap64 (t330+1)) 0))=some (r1,r2):=H
  have A5:=Aside0.mk A50
  clear A50
  obtain ⟨y327,hy327⟩:∃ y_:List ByteArray,y_=(([]:List ByteArray)):=⟨_,rfl⟩
  replace H:((slices_Max_int64_int64.f k t324).bind fun t330=>(impl_PictureOf.l0 k t321 t324 y327 (wrap64 (t330+1)) 0))=some (r1,r2):=by first|(rw [hy327];with_reducible exact H)|(have H2_:=(Option.bind_some _ _).symm.trans H;rw [hy327];with_reducible exact H2_)|(have H2_:=(Option.bind_some _ _).symm.trans H;with_reducible exact H2_)|with_reducible exact H|(rw [hy327];exact H)|exact H
  have Ny327:=Aside0.mk hy327
  clear hy327
  replace H:=Option.bind_eq_some_iff.mp H
  obtain ⟨t330,A60,H⟩:=H
  replace H:(impl_PictureOf.l0 k t321 t324 y327 (wrap64 (t330+1)) 0)=some (r1,r2):=H
  have A6:=Aside0.mk A60
  clear A60
  have H':=Aside0.mk H
  clear H
  go_enter Try.func8,Try.ntmps8
  try go_wp2_with (first|((with_reducible refine gate_dst (N:=1) rfl ?_);refine box_event ?hg (N:=1) ?hd (cs:=#[.slice A0_0 l0_0.length c0_0]) (t:=28) ?hr ?_;(case hd=>rfl);(case hg=>rfl);(case hr=>first|(go_simp;done)|(go_simp;rfl));intro gb319 hg w7 hbox hb;have n0_:=Aside0.mk (below_step (by repeat (first|(with_reducible first|exact HB.out|apply below_alloc|apply pw_below_drewN|apply below_drew1)|exact HB.out)) hb);have n1_:=Aside0.mk (hbox);have n2_:=Aside0.mk ((by rw [hg];exact (below_size (by repeat (first|(with_reducible first|exact HB.out|apply below_alloc|apply pw_below_drewN|apply below_drew1)|exact HB.out))):w.heap.size≤gb319));have n3_:=Aside0.mk ((by rw [hg];exact (below_size (by repeat (first|(with_reducible first|exact HB.out|apply below_alloc|apply pw_below_drewN|apply below_drew1)|exact HB.out))):w.heap.size≤gb319));clear HB;have HB:=n0_;have BK319:=n1_;have GW319:=n2_;have GE319:=n3_;clear n0_ n1_ n2_ n3_;clear hb hbox hg;have hcz8_0:w7.cell? ⟨gb319,0,none⟩=some (.slice A0_0 l0_0.length c0_0):=(blk_cell BK319.out 0).trans rfl;have hfz8_0:=blk_frozen BK319.out 0)|((with_reducible refine gate_callee (f:=29) rfl ?_);refine goesL_ (some 12) rfl rfl Try.func29 (by kernel_rfl) rfl #[.agg #[.slice A0_0 l0_0.length c0_0]] rfl (by (try simp only [List.map_toArray,List.map_cons,List.map_nil]);first|done|rfl|(simp only [List.length_drop,List.length_take];rfl)) ?_;(with_reducible refine (impl_IsTree.calls k _ _ l0_0 true _ ?side1 ?side2 A2.out).mono ?_);(case side1=>repeat (first|exact (Kd.C_below HR0_0.out HB.out)|(with_reducible refine Kd.C_alloc ?_ _)|(with_reducible refine Kd.C_drewN ?_ _)|(with_reducible refine Kd.C_drew ?_)));(case side2=>exact HC0_0.out);rintro e w9 ⟨rfl,hb⟩;refine ⟨_,rfl,?_⟩;have n0_:=Aside0.mk (blk_below (g:=gb319) (o:=.cells #[.slice A0_0 l0_0.length c0_0] 28 (0,0)) (by (with_reducible repeat (first|refine blk_drewN ?_ _|refine blk_drew ?_|refine blk_alloc ?_ _));exact BK319.out) hb);have n1_:=Aside0.mk (below_step (by repeat (first|(with_reducible first|exact HB.out|apply below_alloc|apply pw_below_drewN|apply below_drew1|refine below_set ?_ GE319.out)|exact HB.out)) hb);clear BK319;clear HB;have BK319:=n0_;have HB:=n1_;clear n0_ n1_;(try clear hb);(try clear hb2);(try clear hk);(try clear hi)))
  have n0_:=Aside0.mk (blk_drew BK319.out)
  have n1_:=Aside0.mk (below_drew1 HB.out)
  clear BK319
  clear HB
  have BK319:=n0_
  have HB:=n1_
  clear n0_ n1_
  refine start_ (n:=8) (S:=fun w'=>w'.cell? ⟨gb319,0,none⟩=some (.slice A0_0 l0_0.length c0_0)) (ds:=[]) #[false,false,false,false,false,false,false,false] (by kernel_rfl) rfl rfl ((blk_cell BK319.out 0).trans rfl) (fun hHeld=>?_);refine with_tabW impl_PictureOf.tab3 impl_PictureOf.bits3 (fun HT_ HW_=>?_)
  generalize w9.drew=w10 at BK319 HB hHeld ⊢
  refine pure_ (i:=0) (N:=some 14) (v:=?_) (a':=?_) #[true,false,false,false,false,false,false,false] rfl rfl (any_of HT_.out (by kernel_rfl)) (fun _ _ _ h=>h) (Or.inl ⟨by rfl,?_⟩) ?_ ?_
  rotate_left
  ·intro w'
   go_simp
   with_reducible rfl
  rotate_left
  ·simp only [Act.put,sIB,sc0,scs,i64_w,i32_w]
   rfl
  refine pure_ (i:=3) (N:=some 17) (v:=?_) (a':=?_) #[true,false,false,true,false,false,false,false] rfl rfl (any_of HT_.out (by kernel_rfl)) (fun _ _ _ h=>h) (Or.inl ⟨by rfl,?_⟩) ?_ ?_
  rotate_left
  ·intro w'
   go_simp
   with_reducible rfl
  rotate_left
  ·simp only [Act.put,sIB,sc0,scs,i64_w,i32_w]
   rfl
  refine take_ (i:=1) (N:=some 15) (v:=?_) (a':=?_) #[true,true,false,true,false,false,false,false] rfl rfl (take_ofW HT_.out HW_.out (by kernel_rfl)) (fun _ _ _ h=>h) (Or.inl ⟨by rfl,?_⟩) hHeld ?_ ?_
  rotate_left
  ·intro w' s0
   go_simp
   with_reducible rfl
  rotate_left
  ·simp only [Act.put,sIB,sc0,scs,i64_w,i32_w]
   rfl
  refine take_ (i:=4) (N:=some 18) (v:=?_) (a':=?_) #[true,true,false,true,true,false,false,false] rfl rfl (take_ofW HT_.out HW_.out (by kernel_rfl)) (fun _ _ _ h=>h) (Or.inl ⟨by rfl,?_⟩) hHeld ?_ ?_
  rotate_left
  ·intro w' s0
   go_simp
   with_reducible rfl
  rotate_left
  ·simp only [Act.put,sIB,sc0,scs,i64_w,i32_w]
   rfl
  refine one_ (i:=2) (N:=some 16) #[true,true,true,true,true,false,false,false] rfl rfl (one_of HT_.out (by kernel_rfl)) (by decide) (fun K hK=>?_)
  refine goes_ Try.func30 (by kernel_rfl) rfl #[.slice A0_0 l0_0.length c0_0] (by rfl) rfl rfl (by (try simp only [List.map_toArray,List.map_cons,List.map_nil]);first|done|rfl|(simp only [List.length_drop,List.length_take];rfl)) ?_
  with_reducible refine (impl_tidy.calls k _ _ l0_0 t321 _ ?side1 ?side2 A4.out).mono ?_
  (case side1=>repeat (first|exact (Kd.C_below HR0_0.out HB.out)|(with_reducible refine Kd.C_alloc ?_ _)|(with_reducible refine Kd.C_drewN ?_ _)|(with_reducible refine Kd.C_drew ?_)))
  (case side2=>exact HC0_0.out)
  rintro e w11 ⟨v322,rfl,ho0,hb⟩
  refine ⟨_,rfl,?_⟩
  have n0_:=Aside0.mk (Kd.R_lower ho0 (below_size (by repeat (first|(with_reducible first|exact HB.out|apply below_alloc|apply pw_below_drewN|apply below_drew1|refine below_set ?_ GE319.out)|exact HB.out))))
  have n1_:=Aside0.mk (blk_below (g:=gb319) (o:=.cells #[.slice A0_0 l0_0.length c0_0] 28 (0,0)) (by (with_reducible repeat (first|refine blk_drewN ?_ _|refine blk_drew ?_|refine blk_alloc ?_ _));exact BK319.out) hb)
  have n2_:=Aside0.mk (below_step (by repeat (first|(with_reducible first|exact HB.out|apply below_alloc|apply pw_below_drewN|apply below_drew1|refine below_set ?_ GE319.out)|exact HB.out)) hb)
  clear BK319
  clear HB
  have HO323:=n0_
  have BK319:=n1_
  have HB:=n2_
  clear n0_ n1_ n2_
  (try clear hb)
  (try clear hb2)
  (try clear hk)
  (try clear hi)
  (try clear ho0)
  refine hK.out _ _ ((blk_cell BK319.out 0).trans rfl) (fun hHeld=>?_)
  clear hK K
  refine norm_ (a':=?_) ?_ ?_
  rotate_left
  ·show Act.put _ (some 16) _=_
   simp only [Act.put,sIB,sc0,scs,i64_w,i32_w]
   rfl
  refine one_ (i:=5) (N:=some 19) #[true,true,true,true,true,true,false,false] rfl rfl (one_of HT_.out (by kernel_rfl)) (by decide) (fun K hK=>?_)
  refine goes_ Try.func31 (by kernel_rfl) rfl #[.slice A0_0 l0_0.length c0_0] (by rfl) rfl rfl (by (try simp only [List.map_toArray,List.map_cons,List.map_nil]);first|done|rfl|(simp only [List.length_drop,List.length_take];rfl)) ?_
  with_reducible refine (impl_depthsOf.calls k _ _ l0_0 t324 _ ?side1 ?side2 A5.out).mono ?_
  (case side1=>repeat (first|exact (Kd.C_below HR0_0.out HB.out)|(with_reducible refine Kd.C_alloc ?_ _)|(with_reducible refine Kd.C_drewN ?_ _)|(with_reducible refine Kd.C_drew ?_)))
  (case side2=>exact HC0_0.out)
  rintro e w12 ⟨v325,rfl,ho0,hb⟩
  refine ⟨_,rfl,?_⟩
  have n0_:=Aside0.mk (Kd.R_elder' (by (with_reducible repeat (first|apply Kd.R_alloc|apply Kd.R_drewN|apply Kd.R_drew));exact HO323.out) (Kd.R_base ho0) hb)
  have n1_:=Aside0.mk (Kd.R_lower (Kd.R_new' ho0 (Kd.R_lt (by (with_reducible repeat (first|apply Kd.R_alloc|apply Kd.R_drewN|apply Kd.R_drew));exact HO323.out))) (below_size (by repeat (first|(with_reducible first|exact HB.out|apply below_alloc|apply pw_below_drewN|apply below_drew1|refine below_set ?_ GE319.out)|exact HB.out))))
  have n2_:=Aside0.mk (blk_below (g:=gb319) (o:=.cells #[.slice A0_0 l0_0.length c0_0] 28 (0,0)) (by (with_reducible repeat (first|refine blk_drewN ?_ _|refine blk_drew ?_|refine blk_alloc ?_ _));exact BK319.out) hb)
  have n3_:=Aside0.mk (below_step (by repeat (first|(with_reducible first|exact HB.out|apply below_alloc|apply pw_below_drewN|apply below_drew1|refine below_set ?_ GE319.out)|exact HB.out)) hb)
  clear HO323
  clear BK319
  clear HB
  have HO323:=n0_
  have HO326:=n1_
  have BK319:=n2_
  have HB:=n3_
  clear n0_ n1_ n2_ n3_
  (try clear hb)
  (try clear hb2)
  (try clear hk)
  (try clear hi)
  (try clear ho0)
  refine hK.out _ _ ((blk_cell BK319.out 0).trans rfl) (fun hHeld=>?_)
  clear hK K
  refine norm_ (a':=?_) ?_ ?_
  rotate_left
  ·show Act.put _ (some 19) _=_
   simp only [Act.put,sIB,sc0,scs,i64_w,i32_w]
   rfl
  refine pure_ (i:=6) (N:=some 4) (v:=?_) (a':=?_) #[true,true,true,true,true,true,true,false] rfl rfl (any_of HT_.out (by kernel_rfl)) (fun _ _ _ h=>h) (Or.inl ⟨by rfl,?_⟩) ?_ ?_
  rotate_left
  ·intro w'
   go_simp
   with_reducible rfl
  rotate_left
  ·simp only [Act.put,sIB,sc0,scs,i64_w,i32_w]
   rfl
  refine pure_ (i:=7) (N:=some 5) (v:=?_) (a':=?_) #[true,true,true,true,true,true,true,true] rfl rfl (any_of HT_.out (by kernel_rfl)) (fun _ _ _ h=>h) (Or.inl ⟨by rfl,?_⟩) ?_ ?_
  rotate_left
  ·intro w'
   go_simp
   with_reducible rfl
  rotate_left
  ·simp only [Act.put,sIB,sc0,scs,i64_w,i32_w]
   rfl
  refine done_ (done_of HT_.out (by kernel_rfl)) ?_
  try go_wp2_with (first|((with_reducible refine gate_dst (N:=20) rfl ?_);refine Kd.R_lit Kd.string _ 9 ?hg (N:=20) ?hd (xs:=([]:List ByteArray)) (inner:=[]) (ok:=fun _=>True) (okp:=fun _=>True) ?hr ?hp (fun _ hk=>hk) trivial (Below.refl _ _) (Nat.le_refl _) (by simp) ?_;(case hd=>rfl);(case hg=>rfl);(case hr=>first|(go_simp;done)|(go_simp;rfl));(case hp=>exact (Reps.none _ _));intro v328 w13 ho14 hb hg_ hnew_;clear hg_ hnew_;(first|rw [← Ny327.out] at ho14|(simp only [Int.reduceToNat] at ho14;rw [← Ny327.out] at ho14));have n0_:=Aside0.mk (Kd.R_below (by (with_reducible repeat (first|apply Kd.R_alloc|apply Kd.R_drewN|apply Kd.R_drew));exact HO323.out) hb);have n1_:=Aside0.mk (Kd.R_below (by (with_reducible repeat (first|apply Kd.R_alloc|apply Kd.R_drewN|apply Kd.R_drew));exact HO326.out) hb);have n2_:=Aside0.mk (Kd.R_lower ho14 (below_size (by repeat (first|(with_reducible first|exact HB.out|apply below_alloc|apply pw_below_drewN|apply below_drew1|refine below_set ?_ GE319.out)|exact HB.out))));have n3_:=Aside0.mk (blk_below (g:=gb319) (o:=.cells #[.slice A0_0 l0_0.length c0_0] 28 (0,0)) (by (with_reducible repeat (first|refine blk_drewN ?_ _|refine blk_drew ?_|refine blk_alloc ?_ _));exact BK319.out) hb);have n4_:=Aside0.mk (below_step (by repeat (first|(with_reducible first|exact HB.out|apply below_alloc|apply pw_below_drewN|apply below_drew1|refine below_set ?_ GE319.out)|exact HB.out)) hb);clear HO323;clear HO326;clear BK319;clear HB;have HO323:=n0_;have HO326:=n1_;have HO329:=n2_;have BK319:=n3_;have HB:=n4_;clear n0_ n1_ n2_ n3_ n4_;clear hb ho14;obtain ⟨Ao15,co15,eo15⟩:=Kd.R_slice HO326.out;subst eo15)|((with_reducible refine gate_callee (f:=32) rfl ?_);refine goesL_ (some 22) rfl rfl Try.func32 (by kernel_rfl) rfl #[.slice Ao15 t324.length co15] rfl (by (try simp only [List.map_toArray,List.map_cons,List.map_nil]);first|done|rfl|(simp only [List.length_drop,List.length_take];rfl)) ?_;(with_reducible refine (slices_Max_int64_int64.calls k _ _ t324 t330 _ ?side1 ?side2 A6.out).mono ?_);(case side1=>repeat (first|exact (Kd.R_reads' HO326.out).2.2|(with_reducible refine Kd.C_alloc ?_ _)|(with_reducible refine Kd.C_drewN ?_ _)|(with_reducible refine Kd.C_drew ?_)));(case side2=>exact (Kd.R_reads' HO326.out).2.1);rintro e w16 ⟨rfl,hb⟩;refine ⟨_,rfl,?_⟩;have n0_:=Aside0.mk (Kd.R_below (by (with_reducible repeat (first|apply Kd.R_alloc|apply Kd.R_drewN|apply Kd.R_drew));exact HO323.out) hb);have n1_:=Aside0.mk (Kd.R_below (by (with_reducible repeat (first|apply Kd.R_alloc|apply Kd.R_drewN|apply Kd.R_drew));exact HO326.out) hb);have n2_:=Aside0.mk (Kd.R_below (by (with_reducible repeat (first|apply Kd.R_alloc|apply Kd.R_drewN|apply Kd.R_drew));exact HO329.out) hb);have n3_:=Aside0.mk (blk_below (g:=gb319) (o:=.cells #[.slice A0_0 l0_0.length c0_0] 28 (0,0)) (by (with_reducible repeat (first|refine blk_drewN ?_ _|refine blk_drew ?_|refine blk_alloc ?_ _));exact BK319.out) hb);have n4_:=Aside0.mk (below_step (by repeat (first|(with_reducible first|exact HB.out|apply below_alloc|apply pw_below_drewN|apply below_drew1|refine below_set ?_ GE319.out)|exact HB.out)) hb);clear HO323;clear HO326;clear HO329;clear BK319;clear HB;have HO323:=n0_;have HO326:=n1_;have HO329:=n2_;have BK319:=n3_;have HB:=n4_;clear n0_ n1_ n2_ n3_ n4_;(try clear hb);(try clear hb2);(try clear hk);(try clear hi)))
  go_loopg [6,24] k (fun kq v6 v24 w'=>∃ (x6_1:List ByteArray) (x24_1:Int),v24=.int .i64 x24_1∧Aside0 (impl_PictureOf.l0 kq t321 t324 x6_1 (wrap64 (t330+1)) x24_1=some (r1,r2))∧Aside0 (kq≤k)∧Aside0 (Kd.R (Kd.int .i64) 2 w' w.heap.size (fun k_=>some k_≠((.slice Ao15 t324.length co15):Value).ownBlock) v322 t321)∧Aside0 (Kd.R (Kd.int .i64) 2 w' w.heap.size (fun k_=>some k_≠(v322:Value).ownBlock) (.slice Ao15 t324.length co15) t324)∧Aside0 (Kd.R Kd.string 9 w' w.heap.size (fun _=>True) v6 x6_1)∧Aside0 (w'.heap[gb319]?=some (.cells #[(.slice A0_0 l0_0.length c0_0)] 28 (0,0)))∧Aside0 (Below w.heap.size w w'))
  case atStart=>exact ⟨(y327),(0),(by first|rfl|(simp;done)|(simp [*];done)),H',⟨Nat.le_refl _⟩,⟨by (with_reducible repeat (first|apply Kd.R_alloc|apply Kd.R_drewN|apply Kd.R_drew));exact Kd.R_mono HO323.out (fun _ hk=>hk.2)⟩,⟨by (with_reducible repeat (first|apply Kd.R_alloc|apply Kd.R_drewN|apply Kd.R_drew));exact Kd.R_mono HO326.out (fun _ hk=>hk.2)⟩,⟨by (with_reducible repeat (first|apply Kd.R_alloc|apply Kd.R_drewN|apply Kd.R_drew));exact HO329.out⟩,⟨by (with_reducible repeat (first|refine blk_drewN ?_ _|refine blk_drew ?_|refine blk_alloc ?_ _));exact BK319.out⟩,⟨by repeat (first|(with_reducible first|exact HB.out|apply below_alloc|apply pw_below_drewN|apply below_drew1|refine below_set ?_ GE319.out)|exact HB.out)⟩⟩
  case round =>
   clear H'
   try clear c2
   try clear p2
   try clear c3
   try clear p6
   try clear c8
   try clear hcz8_0
   try clear hfz8_0
   obtain ⟨x6_1,x24_1,rfl,HA,HK1,HO_4,HO_5,HO_6,BK319,HB⟩:=hrel
   cases gk with
   | zero=>exact absurd HA.out (by simp [impl_PictureOf.l0])
   | succ k1 =>
    have H:=HA.out
    clear HA
    simp only [impl_PictureOf.l0] at H
    by_cases c17:x24_1<(wrap64 (t330+1))
    ·rw [if_pos c17] at H
     have c17b0:decide (x24_1<(wrap64 (t330+1)))=true:=decide_eq_true c17
     clear c17
     replace H:=Option.bind_eq_some_iff.mp H
     obtain ⟨t332,A180,H⟩:=H
     replace H:((strings_Repeat.f (⟨#[46]⟩:ByteArray) (wrap64 (t332+1))).bind fun t333=>(impl_PictureOf.l1 k1 t321 t324 x6_1 x24_1 (bytesOf t333) (wrap64 (t330+1)) x24_1 t321 (t321.length:Int) 0))=some (r1,r2):=H
     have A18:=Aside0.mk A180
     clear A180
     replace H:=Option.bind_eq_some_iff.mp H
     obtain ⟨t333,A190,H⟩:=H
     replace H:(impl_PictureOf.l1 k1 t321 t324 x6_1 x24_1 (bytesOf t333) (wrap64 (t330+1)) x24_1 t321 (t321.length:Int) 0)=some (r1,r2):=H
     have A19:=Aside0.mk A190
     clear A190
     obtain ⟨y334,hy334⟩:∃ y_:List Int,y_=(bytesOf t333):=⟨_,rfl⟩
     replace H:(impl_PictureOf.l1 k1 t321 t324 x6_1 x24_1 y334 (wrap64 (t330+1)) x24_1 t321 (t321.length:Int) 0)=some (r1,r2):=by first|(rw [hy334];with_reducible exact H)|(have H2_:=(Option.bind_some _ _).symm.trans H;rw [hy334];with_reducible exact H2_)|(have H2_:=(Option.bind_some _ _).symm.trans H;with_reducible exact H2_)|with_reducible exact H|(rw [hy334];exact H)|exact H
     have Ny334:=Aside0.mk hy334
     clear hy334
     have H':=Aside0.mk H
     clear H
     obtain ⟨Ao20,co20,eo20⟩:=Kd.R_slice HO_4.out
     subst eo20
     go_wp2_with (first|((with_reducible refine gate_callee (f:=32) rfl ?_);refine goesL_ (some 28) rfl rfl Try.func32 (by kernel_rfl) rfl #[.slice Ao20 t321.length co20] rfl (by (try simp only [List.map_toArray,List.map_cons,List.map_nil]);first|done|rfl|(simp only [List.length_drop,List.length_take];rfl)) ?_;(with_reducible refine (slices_Max_int64_int64.calls k1 _ _ t321 t332 _ ?side1 ?side2 A18.out).mono ?_);(case side1=>repeat (first|exact (Kd.R_reads' HO_4.out).2.2|(with_reducible refine Kd.C_alloc ?_ _)|(with_reducible refine Kd.C_drewN ?_ _)|(with_reducible refine Kd.C_drew ?_)));(case side2=>exact (Kd.R_reads' HO_4.out).2.1);rintro e w21 ⟨rfl,hb⟩;refine ⟨_,rfl,?_⟩;have n0_:=Aside0.mk (Kd.R_below (by (with_reducible repeat (first|apply Kd.R_alloc|apply Kd.R_drewN|apply Kd.R_drew));exact HO_4.out) hb);have n1_:=Aside0.mk (Kd.R_below (by (with_reducible repeat (first|apply Kd.R_alloc|apply Kd.R_drewN|apply Kd.R_drew));exact HO_5.out) hb);have n2_:=Aside0.mk (Kd.R_below (by (with_reducible repeat (first|apply Kd.R_alloc|apply Kd.R_drewN|apply Kd.R_drew));exact HO_6.out) hb);have n3_:=Aside0.mk (blk_below (g:=gb319) (o:=.cells #[.slice A0_0 l0_0.length c0_0] 28 (0,0)) (by (with_reducible repeat (first|refine blk_drewN ?_ _|refine blk_drew ?_|refine blk_alloc ?_ _));exact BK319.out) hb);have n4_:=Aside0.mk (below_step (by repeat (first|(with_reducible first|exact HB.out|apply below_alloc|apply pw_below_drewN|apply below_drew1|refine below_set ?_ GE319.out)|exact HB.out)) hb);clear HO_4;clear HO_5;clear HO_6;clear BK319;clear HB;have HO_4:=n0_;have HO_5:=n1_;have HO_6:=n2_;have BK319:=n3_;have HB:=n4_;clear n0_ n1_ n2_ n3_ n4_;(try clear hb);(try clear hb2);(try clear hk);(try clear hi))|((with_reducible refine gate_callee (f:=33) rfl ?_);refine goesL_ (some 30) rfl rfl Try.func33 (by kernel_rfl) rfl #[.string (⟨#[46]⟩:ByteArray),.int .i64 (wrap64 (t332+1))] rfl (by (try simp only [List.map_toArray,List.map_cons,List.map_nil]);first|done|rfl|(simp only [List.length_drop,List.length_take];rfl)) ?_;(with_reducible refine (strings_Repeat.calls (⟨#[46]⟩:ByteArray) (wrap64 (t332+1)) t333 _ A19.out).mono ?_);rintro e w22 ⟨rfl,hb⟩;refine ⟨_,rfl,?_⟩;have n0_:=Aside0.mk (Kd.R_below (by (with_reducible repeat (first|apply Kd.R_alloc|apply Kd.R_drewN|apply Kd.R_drew));exact HO_4.out) hb);have n1_:=Aside0.mk (Kd.R_below (by (with_reducible repeat (first|apply Kd.R_alloc|apply Kd.R_drewN|apply Kd.R_drew));exact HO_5.out) hb);have n2_:=Aside0.mk (Kd.R_below (by (with_reducible repeat (first|apply Kd.R_alloc|apply Kd.R_drewN|apply Kd.R_drew));exact HO_6.out) hb);have n3_:=Aside0.mk (blk_below (g:=gb319) (o:=.cells #[.slice A0_0 l0_0.length c0_0] 28 (0,0)) (by (with_reducible repeat (first|refine blk_drewN ?_ _|refine blk_drew ?_|refine blk_alloc ?_ _));exact BK319.out) hb);have n4_:=Aside0.mk (below_step (by repeat (first|(with_reducible first|exact HB.out|apply below_alloc|apply pw_below_drewN|apply below_drew1|refine below_set ?_ GE319.out)|exact HB.out)) hb);clear HO_4;clear HO_5;clear HO_6;clear BK319;clear HB;have HO_4:=n0_;have HO_5:=n1_;have HO_6:=n2_;have BK319:=n3_;have HB:=n4_;clear n0_ n1_ n2_ n3_ n4_;(try clear hb);(try clear hb2);(try clear hk);(try clear hi))|((with_reducible refine gate_dst (N:=31) rfl ?_);refine Cv.make_event _ 5 rfl (N:=31) rfl 9 32 _ rfl t333 rfl Try.underlying9 Try.underlying32 Try.underlying5 (Below.refl _ _) (Nat.le_refl _) ?_;intro v335 w23 ho24 hb;rw [← Ny334.out] at ho24;have n0_:=Aside0.mk (Kd.R_below (by (with_reducible repeat (first|apply Kd.R_alloc|apply Kd.R_drewN|apply Kd.R_drew));exact HO_4.out) hb);have n1_:=Aside0.mk (Kd.R_below (by (with_reducible repeat (first|apply Kd.R_alloc|apply Kd.R_drewN|apply Kd.R_drew));exact HO_5.out) hb);have n2_:=Aside0.mk (Kd.R_below (by (with_reducible repeat (first|apply Kd.R_alloc|apply Kd.R_drewN|apply Kd.R_drew));exact HO_6.out) hb);have n3_:=Aside0.mk (Cv.Cv.lower ho24 (below_size (by repeat (first|(with_reducible first|exact HB.out|apply below_alloc|apply pw_below_drewN|apply below_drew1|refine below_set ?_ GE319.out)|exact HB.out))));have n4_:=Aside0.mk (blk_below (g:=gb319) (o:=.cells #[.slice A0_0 l0_0.length c0_0] 28 (0,0)) (by (with_reducible repeat (first|refine blk_drewN ?_ _|refine blk_drew ?_|refine blk_alloc ?_ _));exact BK319.out) hb);have n5_:=Aside0.mk (below_step (by repeat (first|(with_reducible first|exact HB.out|apply below_alloc|apply pw_below_drewN|apply below_drew1|refine below_set ?_ GE319.out)|exact HB.out)) hb);clear HO_4;clear HO_5;clear HO_6;clear BK319;clear HB;have HO_4:=n0_;have HO_5:=n1_;have HO_6:=n2_;have HO336:=n3_;have BK319:=n4_;have HB:=n5_;clear n0_ n1_ n2_ n3_ n4_ n5_;clear hb ho24))
     go_loopg [34] k1 (fun kq v34 w'=>∃ (x8_2:List Int) (x34_2:Int),v34=.int .i64 x34_2∧Aside0 (impl_PictureOf.l1 kq t321 t324 x6_1 x24_1 x8_2 (wrap64 (t330+1)) x24_1 t321 (t321.length:Int) x34_2=some (r1,r2))∧Aside0 (kq≤k1)∧Aside0 (Kd.R (Kd.int .i64) 2 w' w.heap.size (fun k_=>some k_≠((.slice Ao15 t324.length co15):Value).ownBlock) (.slice Ao20 t321.length co20) t321)∧Aside0 (Kd.R (Kd.int .i64) 2 w' w.heap.size (fun k_=>some k_≠((.slice Ao20 t321.length co20):Value).ownBlock∧some k_≠((.slice Ao20 t321.length co20):Value).ownBlock) (.slice Ao15 t324.length co15) t324)∧Aside0 (Kd.R Kd.string 9 w' w.heap.size (fun _=>True) u6 x6_1)∧Aside0 (Cv.Cv 5 w' w.heap.size v335 x8_2)∧Aside0 (Kd.R (Kd.int .i64) 2 w' w.heap.size (fun k_=>some k_≠((.slice Ao15 t324.length co15):Value).ownBlock) (.slice Ao20 t321.length co20) t321)∧Aside0 (w'.heap[gb319]?=some (.cells #[(.slice A0_0 l0_0.length c0_0)] 28 (0,0)))∧Aside0 (Below w.heap.size w w'))
     case atStart=>exact ⟨(y334),(0),(by first|rfl|(simp;done)|(simp [*];done)),H',⟨Nat.le_refl _⟩,⟨by (with_reducible repeat (first|apply Kd.R_alloc|apply Kd.R_drewN|apply Kd.R_drew));exact HO_4.out⟩,⟨by (with_reducible repeat (first|apply Kd.R_alloc|apply Kd.R_drewN|apply Kd.R_drew));exact Kd.R_mono HO_5.out (fun _ hk=>⟨hk,hk⟩)⟩,⟨by (with_reducible repeat (first|apply Kd.R_alloc|apply Kd.R_drewN|apply Kd.R_drew));exact HO_6.out⟩,⟨by (with_reducible repeat (first|apply Kd.R_alloc|apply Kd.R_drewN|apply Kd.R_drew));exact HO336.out⟩,⟨by (with_reducible repeat (first|apply Kd.R_alloc|apply Kd.R_drewN|apply Kd.R_drew));exact HO_4.out⟩,⟨by (with_reducible repeat (first|refine blk_drewN ?_ _|refine blk_drew ?_|refine blk_alloc ?_ _));exact BK319.out⟩,⟨by repeat (first|(with_reducible first|exact HB.out|apply below_alloc|apply pw_below_drewN|apply below_drew1|refine below_set ?_ GE319.out)|exact HB.out)⟩⟩
     case round =>
      clear H'
      try clear c1
      try clear c2
      try clear p2
      try clear c3
      try clear p6
      try clear c8
      try clear c17
      try clear c17b0
      try clear hcz8_0
      try clear hfz8_0
      try clear p2
      try clear p6
      obtain ⟨x8_2,x34_2,rfl,HA,HK2,HO_4,HO_5,HO_6,HO_8,HO_32,BK319,HB⟩:=hrel
      cases gk with
      | zero=>exact absurd HA.out (by simp [impl_PictureOf.l1])
      | succ k2 =>
       have H:=HA.out
       clear HA
       simp only [impl_PictureOf.l1] at H
       by_cases c25:x34_2<(t321.length:Int)
       ·rw [if_pos c25] at H
        have c25b0:decide (x34_2<(t321.length:Int))=true:=decide_eq_true c25
        clear c25
        by_cases c26:0≤x34_2
        ·rw [if_pos c26] at H
         have c26b0:decide (0≤x34_2)=true:=decide_eq_true c26
         clear c26
         by_cases c27:x34_2<(t321.length:Int)
         ·rw [if_pos c27] at H
          have c27b0:decide (x34_2<(t321.length:Int))=true:=decide_eq_true c27
          clear c27
          by_cases c28:x34_2<(t324.length:Int)
          ·rw [if_pos c28] at H
           have c28b0:decide (x34_2<(t324.length:Int))=true:=decide_eq_true c28
           clear c28
           by_cases c29:(rd t324 x34_2)=x24_1
           ·rw [if_pos c29] at H
            have c29b0:((rd t324 x34_2) == x24_1)=true:=beq_iff_eq.mpr c29
            have c29b1:((rd t324 x34_2) != x24_1)=false:=bne_eq_false_iff_eq.mpr c29
            clear c29
            by_cases c30:0≤(rd t321 x34_2)
            ·rw [if_pos c30] at H
             have c30b0:decide (0≤(rd t321 x34_2))=true:=decide_eq_true c30
             clear c30
             by_cases c31:(rd t321 x34_2)<(x8_2.length:Int)
             ·rw [if_pos c31] at H
              have c31b0:decide ((rd t321 x34_2)<(x8_2.length:Int))=true:=decide_eq_true c31
              clear c31
              obtain ⟨y339,hy339⟩:∃ y_:List Int,y_=(x8_2.set ((rd t321 x34_2):Int).toNat 111):=⟨_,rfl⟩
              replace H:(impl_PictureOf.l1 k2 t321 t324 x6_1 x24_1 y339 (wrap64 (t330+1)) x24_1 t321 (t321.length:Int) (wrap64 (x34_2+1)))=some (r1,r2):=by first|(rw [hy339];with_reducible exact H)|(have H2_:=(Option.bind_some _ _).symm.trans H;rw [hy339];with_reducible exact H2_)|(have H2_:=(Option.bind_some _ _).symm.trans H;with_reducible exact H2_)|with_reducible exact H|(rw [hy339];exact H)|exact H
              have Ny339:=Aside0.mk hy339
              clear hy339
              have H':=Aside0.mk H
              clear H
              have p337:0≤(x34_2:Int):=of_decide_eq_true (by first|(with_reducible assumption)|assumption)
              have q337:x34_2<(t321.length:Int):=of_decide_eq_true (by first|(with_reducible assumption)|assumption)
              (try (obtain ⟨Aop_,cop_,eop_⟩:=Kd.R_slice HO_32.out;subst eop_))
              obtain ⟨ad337,e337,hx337_0⟩:=Kd.at_int (Kd.R_reads' HO_32.out).2.2 x34_2 p337 q337
              cases e337
              replace p337:=eq_true p337
              replace q337:=eq_true q337
              have p338:0≤(x34_2:Int):=of_decide_eq_true (by first|(with_reducible assumption)|assumption)
              have q338:x34_2<(t324.length:Int):=of_decide_eq_true (by first|(with_reducible assumption)|assumption)
              (try (obtain ⟨Aop_,cop_,eop_⟩:=Kd.R_slice HO_5.out;subst eop_))
              obtain ⟨ad338,e338,hx338_0⟩:=Kd.at_int (Kd.R_reads' HO_5.out).2.2 x34_2 p338 q338
              cases e338
              replace p338:=eq_true p338
              replace q338:=eq_true q338
              have p32:0≤((rd t321 x34_2):Int):=of_decide_eq_true (by first|(with_reducible assumption)|assumption)
              have q32:((rd t321 x34_2):Int)<((x8_2.length:Int):Int):=of_decide_eq_true (by first|(with_reducible assumption)|assumption)
              obtain ⟨go32,co32,eo32,gb32,gl32⟩:=Cv.Cv.form HO_8.out
              (first|cases eo32|(injection eo32 with ea_ en_ ec_;(first|subst ea_|(injection ea_ with ea_;subst ea_));subst ec_;clear en_))
              have GB32:=Aside0.mk gb32
              clear gb32 gl32
              obtain ⟨hx32_0,hf32_0⟩:=Cv.Cv.cell HO_8.out ((rd t321 x34_2):Int) p32 q32
              replace p32:=eq_true p32
              replace q32:=eq_true q32
              have HP33:=Cv.Cv.put HO_8.out ((rd t321 x34_2):Int) 111 (of_eq_true p32) (of_eq_true q32)
              go_wp2_with (first|((with_reducible refine gate_store (t:=5) (p:=47) rfl ?_);refine store_event (t:=5) (p:=47) (v:=?vo_w34) (w1:=(wr.setCell ⟨go32,((rd t321 x34_2):Int).toNat,none⟩ (.int .u8 111))) ?hg ?ho ?hn ?hr ?_;(case ho=>rfl);(case hg=>rfl);(case hn=>rfl);(case hr=>first|(go_simp;done)|(go_simp;rfl));intro w34 hw;have hg:wr.grownBy w34 (some go32):=(by rw [hw];exact HP33.2);have hp_:Cv.Cv 5 w34 w.heap.size (.slice (some ⟨go32,0,none⟩) x8_2.length co32) y339:=(by rw [hw,Ny339.out];exact HP33.1);clear HP33;have n0_:=Aside0.mk (Cv.R_overF (v:=(.slice (some ⟨go32,0,none⟩) x8_2.length co32)) (by (with_reducible repeat (first|apply Kd.R_alloc|apply Kd.R_drewN|apply Kd.R_drew));exact HO_4.out) (Cv.Cv.typed HO_8.out) (by decide) hg);have n1_:=Aside0.mk (Cv.R_overF (v:=(.slice (some ⟨go32,0,none⟩) x8_2.length co32)) (by (with_reducible repeat (first|apply Kd.R_alloc|apply Kd.R_drewN|apply Kd.R_drew));exact HO_5.out) (Cv.Cv.typed HO_8.out) (by decide) hg);have n2_:=Aside0.mk (Cv.R_overF (v:=(.slice (some ⟨go32,0,none⟩) x8_2.length co32)) (by (with_reducible repeat (first|apply Kd.R_alloc|apply Kd.R_drewN|apply Kd.R_drew));exact HO_6.out) (Cv.Cv.typed HO_8.out) (by decide) hg);have n3_:=Aside0.mk (hp_);have n4_:=Aside0.mk (Cv.R_overF (v:=(.slice (some ⟨go32,0,none⟩) x8_2.length co32)) (by (with_reducible repeat (first|apply Kd.R_alloc|apply Kd.R_drewN|apply Kd.R_drew));exact HO_32.out) (Cv.Cv.typed HO_8.out) (by decide) hg);have n5_:=Aside0.mk (blk_grown (g:=gb319) (o:=.cells #[.slice A0_0 l0_0.length c0_0] 28 (0,0)) (by (with_reducible repeat (first|refine blk_drewN ?_ _|refine blk_drew ?_|refine blk_alloc ?_ _));exact BK319.out) hg (Cv.Cv.ne HO_8.out BK319.out (by decide)));have n6_:=Aside0.mk ((by rw [hw];exact below_set (HB.out) GB32.out:Below w.heap.size w w34));clear HO_4;clear HO_5;clear HO_6;clear HO_8;clear HO_32;clear BK319;clear HB;have HO_4:=n0_;have HO_5:=n1_;have HO_6:=n2_;have HO_8:=n3_;have HO_32:=n4_;have BK319:=n5_;have HB:=n6_;clear n0_ n1_ n2_ n3_ n4_ n5_ n6_;clear hg hw hp_))
              go_roundg k2
              case measure=>have:=HK1.out;have:=HK2.out;omega
              case rel=>exact ⟨(y339),(wrap64 (x34_2+1)),(by first|rfl|(simp;done)|(simp [*];done)),H',⟨by have:=HK1.out;have:=HK2.out;omega⟩,⟨by (with_reducible repeat (first|apply Kd.R_alloc|apply Kd.R_drewN|apply Kd.R_drew));exact HO_4.out⟩,⟨by (with_reducible repeat (first|apply Kd.R_alloc|apply Kd.R_drewN|apply Kd.R_drew));exact HO_5.out⟩,⟨by (with_reducible repeat (first|apply Kd.R_alloc|apply Kd.R_drewN|apply Kd.R_drew));exact HO_6.out⟩,⟨by (with_reducible repeat (first|apply Kd.R_alloc|apply Kd.R_drewN|apply Kd.R_drew));exact HO_8.out⟩,⟨by (with_reducible repeat (first|apply Kd.R_alloc|apply Kd.R_drewN|apply Kd.R_drew));exact HO_32.out⟩,⟨by (with_reducible repeat (first|refine blk_drewN ?_ _|refine blk_drew ?_|refine blk_alloc ?_ _));exact BK319.out⟩,⟨by repeat (first|(with_reducible first|exact HB.out|apply below_alloc|apply pw_below_drewN|apply below_drew1|refine below_set ?_ GE319.out)|exact HB.out)⟩⟩
             ·rw [if_neg c31] at H
              exact absurd H (by simp)
            ·rw [if_neg c30] at H
             exact absurd H (by simp)
           ·rw [if_neg c29] at H
            have c29b0:((rd t324 x34_2) == x24_1)=false:=beq_eq_false_iff_ne.mpr c29
            have c29b1:((rd t324 x34_2) != x24_1)=true:=bne_iff_ne.mpr c29
            have H':=Aside0.mk H
            clear H
            have p337:0≤(x34_2:Int):=of_decide_eq_true (by first|(with_reducible assumption)|assumption)
            have q337:x34_2<(t321.length:Int):=of_decide_eq_true (by first|(with_reducible assumption)|assumption)
            (try (obtain ⟨Aop_,cop_,eop_⟩:=Kd.R_slice HO_32.out;subst eop_))
            obtain ⟨ad337,e337,hx337_0⟩:=Kd.at_int (Kd.R_reads' HO_32.out).2.2 x34_2 p337 q337
            cases e337
            replace p337:=eq_true p337
            replace q337:=eq_true q337
            have p338:0≤(x34_2:Int):=of_decide_eq_true (by first|(with_reducible assumption)|assumption)
            have q338:x34_2<(t324.length:Int):=of_decide_eq_true (by first|(with_reducible assumption)|assumption)
            (try (obtain ⟨Aop_,cop_,eop_⟩:=Kd.R_slice HO_5.out;subst eop_))
            obtain ⟨ad338,e338,hx338_0⟩:=Kd.at_int (Kd.R_reads' HO_5.out).2.2 x34_2 p338 q338
            cases e338
            replace p338:=eq_true p338
            replace q338:=eq_true q338
            go_wp2
            go_roundg k2
            case measure=>have:=HK1.out;have:=HK2.out;omega
            case rel=>exact ⟨(x8_2),(wrap64 (x34_2+1)),(by first|rfl|(simp;done)|(simp [*];done)),H',⟨by have:=HK1.out;have:=HK2.out;omega⟩,⟨by (with_reducible repeat (first|apply Kd.R_alloc|apply Kd.R_drewN|apply Kd.R_drew));exact HO_4.out⟩,⟨by (with_reducible repeat (first|apply Kd.R_alloc|apply Kd.R_drewN|apply Kd.R_drew));exact HO_5.out⟩,⟨by (with_reducible repeat (first|apply Kd.R_alloc|apply Kd.R_drewN|apply Kd.R_drew));exact HO_6.out⟩,⟨by (with_reducible repeat (first|apply Kd.R_alloc|apply Kd.R_drewN|apply Kd.R_drew));exact HO_8.out⟩,⟨by (with_reducible repeat (first|apply Kd.R_alloc|apply Kd.R_drewN|apply Kd.R_drew));exact HO_32.out⟩,⟨by (with_reducible repeat (first|refine blk_drewN ?_ _|refine blk_drew ?_|refine blk_alloc ?_ _));exact BK319.out⟩,⟨by repeat (first|(with_reducible first|exact HB.out|apply below_alloc|apply pw_below_drewN|apply below_drew1|refine below_set ?_ GE319.out)|exact HB.out)⟩⟩
          ·rw [if_neg c28] at H
           exact absurd H (by simp)
         ·rw [if_neg c27] at H
          exact absurd H (by simp)
        ·rw [if_neg c26] at H
         exact absurd H (by simp)
       ·rw [if_neg c25] at H
        have c25b0:decide (x34_2<(t321.length:Int))=false:=decide_eq_false c25
        clear c25
        by_cases c35:x6_1.length<8796093022208
        ·rw [if_pos c35] at H
         have LMc35:=Aside0.mk c35
         clear c35
         obtain ⟨y340,hy340⟩:∃ y_:List ByteArray,y_=(x6_1++[strOfNums x8_2]):=⟨_,rfl⟩
         replace H:(impl_PictureOf.l0 k2 t321 t324 y340 (wrap64 (t330+1)) (wrap64 (x24_1+1)))=some (r1,r2):=by first|(rw [hy340];with_reducible exact H)|(have H2_:=(Option.bind_some _ _).symm.trans H;rw [hy340];with_reducible exact H2_)|(have H2_:=(Option.bind_some _ _).symm.trans H;with_reducible exact H2_)|with_reducible exact H|(rw [hy340];exact H)|exact H
         have Ny340:=Aside0.mk hy340
         clear hy340
         have H':=Aside0.mk H
         clear H
         have hcv36:=Cv.Cv.string (P:=Try.prog) Try.underlying32 Try.underlying5 Try.underlying9 HO_8.out
         go_wp2_with (first|((with_reducible refine gate_builtin (b:=.append) (xs:=#[.tmp 49,.tmp 52]) rfl ?_);at_builtin;refine Kd.R_append Kd.string (w0:=w) w.heap.size rfl (.tmp 49) (.tmp 52) 46 9 (.string ⟨#[]⟩) 16 rfl Try.underlying46 info9 rfl (by decide) (by omega) u6 x6_1 (strOfNums x8_2) [.string (strOfNums x8_2)] (fun _=>True) (fun _=>False) rfl rfl ?aP (fun _ hk=>hk.elim) ?aF ?aO ?aB ?aS ?aL ?_;(case aP=>exact rfl);(case aB=>exact (by repeat (first|(with_reducible first|exact HB.out|apply below_alloc|apply pw_below_drewN|apply below_drew1|refine below_set ?_ GE319.out)|exact HB.out)));(case aF=>exact (fun _ _=>trivial));(case aO=>exact (by (with_reducible repeat (first|apply Kd.R_alloc|apply Kd.R_drewN|apply Kd.R_drew));exact HO_6.out));(case aS=>exact (below_size (by repeat (first|(with_reducible first|exact HB.out|apply below_alloc|apply pw_below_drewN|apply below_drew1|refine below_set ?_ GE319.out)|exact HB.out))));(case aL=>have:=LMc35.out;omega);intro v341 w37 ho hb hg hat;rw [← Ny340.out] at ho;have n0_:=Aside0.mk (Kd.R_over' (by (with_reducible repeat (first|apply Kd.R_alloc|apply Kd.R_drewN|apply Kd.R_drew));exact HO_4.out) (Kd.R_typed (by (with_reducible repeat (first|apply Kd.R_alloc|apply Kd.R_drewN|apply Kd.R_drew));exact HO_6.out)) (by decide) hg);have n1_:=Aside0.mk (Kd.R_over' (by (with_reducible repeat (first|apply Kd.R_alloc|apply Kd.R_drewN|apply Kd.R_drew));exact HO_5.out) (Kd.R_typed (by (with_reducible repeat (first|apply Kd.R_alloc|apply Kd.R_drewN|apply Kd.R_drew));exact HO_6.out)) (by decide) hg);have n2_:=Aside0.mk (Cv.Cv.over HO_8.out (Kd.R_typed (by (with_reducible repeat (first|apply Kd.R_alloc|apply Kd.R_drewN|apply Kd.R_drew));exact HO_6.out)) (by decide) hg);have n3_:=Aside0.mk (Kd.R_over' (by (with_reducible repeat (first|apply Kd.R_alloc|apply Kd.R_drewN|apply Kd.R_drew));exact HO_32.out) (Kd.R_typed (by (with_reducible repeat (first|apply Kd.R_alloc|apply Kd.R_drewN|apply Kd.R_drew));exact HO_6.out)) (by decide) hg);have n4_:=Aside0.mk (blk_grown (g:=gb319) (o:=.cells #[.slice A0_0 l0_0.length c0_0] 28 (0,0)) (by (with_reducible repeat (first|refine blk_drewN ?_ _|refine blk_drew ?_|refine blk_alloc ?_ _));exact BK319.out) hg (Kd.R_ne HO_6.out BK319.out (by decide)));have n5_:=Aside0.mk (hb);have n6_:=Aside0.mk (ho);clear HO_4;clear HO_5;clear HO_8;clear HO_32;clear BK319;clear HB;clear HO_6;have HO_4:=n0_;have HO_5:=n1_;have HO_8:=n2_;have HO_32:=n3_;have BK319:=n4_;have HB:=n5_;have HO342:=n6_;clear n0_ n1_ n2_ n3_ n4_ n5_ n6_;clear ho hb hg hat))
         go_roundg k2
         case measure=>have:=HK1.out;have:=HK2.out;omega
         case rel=>exact ⟨(y340),(wrap64 (x24_1+1)),(by first|rfl|(simp;done)|(simp [*];done)),H',⟨by have:=HK1.out;have:=HK2.out;omega⟩,⟨by (with_reducible repeat (first|apply Kd.R_alloc|apply Kd.R_drewN|apply Kd.R_drew));exact HO_4.out⟩,⟨by (with_reducible repeat (first|apply Kd.R_alloc|apply Kd.R_drewN|apply Kd.R_drew));exact Kd.R_mono HO_5.out (fun _ hk=>hk.1)⟩,⟨by (with_reducible repeat (first|apply Kd.R_alloc|apply Kd.R_drewN|apply Kd.R_drew));exact HO342.out⟩,⟨by (with_reducible repeat (first|refine blk_drewN ?_ _|refine blk_drew ?_|refine blk_alloc ?_ _));exact BK319.out⟩,⟨by repeat (first|(with_reducible first|exact HB.out|apply below_alloc|apply pw_below_drewN|apply below_drew1|refine below_set ?_ GE319.out)|exact HB.out)⟩⟩
        ·rw [if_neg c35] at H
         exact absurd H (by simp)
    ·rw [if_neg c17] at H
     have c17b0:decide (x24_1<(wrap64 (t330+1)))=false:=decide_eq_false c17
     clear c17
     replace H:=Option.bind_eq_some_iff.mp H
     obtain ⟨t331,A380,H⟩:=H
     replace H:(some (t331,0))=some (r1,r2):=H
     have A38:=Aside0.mk A380
     clear A380
     simp only [Option.some.injEq,Prod.mk.injEq] at H
     obtain ⟨rfl,rfl⟩:=H
     obtain ⟨Ao39,co39,eo39⟩:=Kd.R_slice HO_6.out
     subst eo39
     go_wp2_with (first|((with_reducible refine gate_callee (f:=34) rfl ?_);refine goesL_ (some 56) rfl rfl Try.func34 (by kernel_rfl) rfl #[.slice Ao39 x6_1.length co39,.string (⟨#[47]⟩:ByteArray)] rfl (by (try simp only [List.map_toArray,List.map_cons,List.map_nil]);first|done|rfl|(simp only [List.length_drop,List.length_take];rfl)) ?_;(with_reducible refine (strings_Join.calls _ _ x6_1 (⟨#[47]⟩:ByteArray) t331 _ ?side1 ?side2 A38.out).mono ?_);(case side1=>repeat (first|exact (Kd.R_reads' HO_6.out).2.2|(with_reducible refine Kd.C_alloc ?_ _)|(with_reducible refine Kd.C_drewN ?_ _)|(with_reducible refine Kd.C_drew ?_)));(case side2=>exact (Kd.R_reads' HO_6.out).2.1);rintro e w40 ⟨rfl,hb⟩;refine ⟨_,rfl,?_⟩;have n0_:=Aside0.mk (Kd.R_below (by (with_reducible repeat (first|apply Kd.R_alloc|apply Kd.R_drewN|apply Kd.R_drew));exact HO_4.out) hb);have n1_:=Aside0.mk (Kd.R_below (by (with_reducible repeat (first|apply Kd.R_alloc|apply Kd.R_drewN|apply Kd.R_drew));exact HO_5.out) hb);have n2_:=Aside0.mk (Kd.R_below (by (with_reducible repeat (first|apply Kd.R_alloc|apply Kd.R_drewN|apply Kd.R_drew));exact HO_6.out) hb);have n3_:=Aside0.mk (blk_below (g:=gb319) (o:=.cells #[.slice A0_0 l0_0.length c0_0] 28 (0,0)) (by (with_reducible repeat (first|refine blk_drewN ?_ _|refine blk_drew ?_|refine blk_alloc ?_ _));exact BK319.out) hb);have n4_:=Aside0.mk (below_step (by repeat (first|(with_reducible first|exact HB.out|apply below_alloc|apply pw_below_drewN|apply below_drew1|refine below_set ?_ GE319.out)|exact HB.out)) hb);clear HO_4;clear HO_5;clear HO_6;clear BK319;clear HB;have HO_4:=n0_;have HO_5:=n1_;have HO_6:=n2_;have BK319:=n3_;have HB:=n4_;clear n0_ n1_ n2_ n3_ n4_;(try clear hb);(try clear hb2);(try clear hk);(try clear hi)))
     go_ret2
     exact ⟨by first|rfl|(simp [errW_none,errW_some] <;> rfl)|(simp [*,errW_none,errW_some] <;> rfl),by repeat (first|(with_reducible first|exact HB.out|apply below_alloc|apply pw_below_drewN|apply below_drew1|refine below_set ?_ GE319.out)|exact HB.out)⟩
 ·replace c3:=Bool.eq_false_iff.mpr c3
  subst c3
  have H1:(some ((⟨#[]⟩:ByteArray),1))=some (r1,r2):=by rw [if_neg (show ¬ (false=true) by decide)] at H;exact H
  clear H
  have H:=H1
  clear H1
  simp only [Option.some.injEq,Prod.mk.injEq] at H
  obtain ⟨rfl,rfl⟩:=H
  go_enter Try.func8,Try.ntmps8
  go_wp2_with (first|((with_reducible refine gate_dst (N:=1) rfl ?_);refine box_event ?hg (N:=1) ?hd (cs:=#[.slice A0_0 l0_0.length c0_0]) (t:=28) ?hr ?_;(case hd=>rfl);(case hg=>rfl);(case hr=>first|(go_simp;done)|(go_simp;rfl));intro gb319 hg w41 hbox hb;have n0_:=Aside0.mk (below_step (by repeat (first|(with_reducible first|exact HB.out|apply below_alloc|apply pw_below_drewN|apply below_drew1)|exact HB.out)) hb);have n1_:=Aside0.mk (hbox);have n2_:=Aside0.mk ((by rw [hg];exact (below_size (by repeat (first|(with_reducible first|exact HB.out|apply below_alloc|apply pw_below_drewN|apply below_drew1)|exact HB.out))):w.heap.size≤gb319));have n3_:=Aside0.mk ((by rw [hg];exact (below_size (by repeat (first|(with_reducible first|exact HB.out|apply below_alloc|apply pw_below_drewN|apply below_drew1)|exact HB.out))):w.heap.size≤gb319));clear HB;have HB:=n0_;have BK319:=n1_;have GW319:=n2_;have GE319:=n3_;clear n0_ n1_ n2_ n3_;clear hb hbox hg;have hcz42_0:w41.cell? ⟨gb319,0,none⟩=some (.slice A0_0 l0_0.length c0_0):=(blk_cell BK319.out 0).trans rfl;have hfz42_0:=blk_frozen BK319.out 0)|((with_reducible refine gate_callee (f:=29) rfl ?_);refine goesL_ (some 12) rfl rfl Try.func29 (by kernel_rfl) rfl #[.agg #[.slice A0_0 l0_0.length c0_0]] rfl (by (try simp only [List.map_toArray,List.map_cons,List.map_nil]);first|done|rfl|(simp only [List.length_drop,List.length_take];rfl)) ?_;(with_reducible refine (impl_IsTree.calls k _ _ l0_0 false _ ?side1 ?side2 A2.out).mono ?_);(case side1=>repeat (first|exact (Kd.C_below HR0_0.out HB.out)|(with_reducible refine Kd.C_alloc ?_ _)|(with_reducible refine Kd.C_drewN ?_ _)|(with_reducible refine Kd.C_drew ?_)));(case side2=>exact HC0_0.out);rintro e w43 ⟨rfl,hb⟩;refine ⟨_,rfl,?_⟩;have n0_:=Aside0.mk (blk_below (g:=gb319) (o:=.cells #[.slice A0_0 l0_0.length c0_0] 28 (0,0)) (by (with_reducible repeat (first|refine blk_drewN ?_ _|refine blk_drew ?_|refine blk_alloc ?_ _));exact BK319.out) hb);have n1_:=Aside0.mk (below_step (by repeat (first|(with_reducible first|exact HB.out|apply below_alloc|apply pw_below_drewN|apply below_drew1|refine below_set ?_ GE319.out)|exact HB.out)) hb);clear BK319;clear HB;have BK319:=n0_;have HB:=n1_;clear n0_ n1_;(try clear hb);(try clear hb2);(try clear hk);(try clear hi)))
  go_ret2
  exact ⟨by first|rfl|(simp [errW_none,errW_some] <;> rfl)|(simp [*,errW_none,errW_some] <;> rfl),by repeat (first|(with_reducible first|exact HB.out|apply below_alloc|apply pw_below_drewN|apply below_drew1|refine below_set ?_ GE319.out)|exact HB.out)⟩
def laws_big.f (l0:List Int):Option (Bool):=some (decide ((l0.length:Int)>4096))
set_option maxHeartbeats 8000000 in
set_option maxRecDepth 100000 in
theorem laws_big.calls (A0:Option Addr) (c0:Nat) (l0:List Int) (r:Bool) (w:World) (hr0:Kd.C (Kd.int .u8) w A0 l0.length l0) (hc0:l0.length≤c0) (h:laws_big.f l0=some r) :
  Calls Try.prog 10 #[.slice A0 l0.length c0] w fun e w'=>e=.returned (.bool r)∧Drawn0 w w':=by
 have HR0:=Aside0.mk hr0
 have HC0:=Aside0.mk hc0
 clear hr0 hc0
 have H:(some (decide ((l0.length:Int)>4096)))=some r:=h
 clear h
 obtain rfl:=Option.some.inj H
 go_enter Try.func10,Try.ntmps10
 go_wp2
 go_ret
 exact ⟨by first|rfl|(simp;done)|(simp [*];done),by repeat (first|exact Drawn0.refl _|apply Drawn0.step)⟩
def spec_l01Own.f (l0:List Int):Option (List Int):=(some (([]:List Int):List Int)).bind fun y343=>(if y343.length+l0.length<17592186044416 then (some (y343++l0)) else (none))
set_option maxHeartbeats 8000000 in
set_option maxRecDepth 100000 in
theorem spec_l01Own.calls (A0:Option Addr) (c0:Nat) (l0:List Int) (r:List Int) (w:World) (hr0:Kd.C (Kd.int .i64) w A0 l0.length l0) (hc0:l0.length≤c0) (h:spec_l01Own.f l0=some r) :
  Calls Try.prog 78 #[.slice A0 l0.length c0] w fun e w'=>∃ v0_:Value,e=.returned (v0_)∧Kd.R (Kd.int .i64) 2 w' w.heap.size (fun _=>True) v0_ r∧Below w.heap.size w w':=by
 have HR0:=Aside0.mk hr0
 have HC0:=Aside0.mk hc0
 clear hr0 hc0
 have HB:=Aside0.mk (Below.refl w.heap.size w)
 have H:((some (([]:List Int):List Int)).bind fun y343=>(if y343.length+l0.length<17592186044416 then (some (y343++l0)) else (none)))=some r:=h
 clear h
 obtain ⟨y343,hy343⟩:∃ y_:List Int,y_=(([]:List Int)):=⟨_,rfl⟩
 replace H:(if y343.length+l0.length<17592186044416 then (some (y343++l0)) else (none))=some r:=by first|(rw [hy343];with_reducible exact H)|(have H2_:=(Option.bind_some _ _).symm.trans H;rw [hy343];with_reducible exact H2_)|(have H2_:=(Option.bind_some _ _).symm.trans H;with_reducible exact H2_)|with_reducible exact H|(rw [hy343];exact H)|exact H
 have Ny343:=Aside0.mk hy343
 clear hy343
 by_cases c2:y343.length+l0.length<17592186044416
 ·rw [if_pos c2] at H
  have LMc2:=Aside0.mk c2
  clear c2
  obtain ⟨y346,hy346⟩:∃ y_:List Int,y_=(y343++l0):=⟨_,rfl⟩
  replace H:(some y346)=some r:=by first|(rw [hy346];with_reducible exact H)|(have H2_:=(Option.bind_some _ _).symm.trans H;rw [hy346];with_reducible exact H2_)|(have H2_:=(Option.bind_some _ _).symm.trans H;with_reducible exact H2_)|with_reducible exact H|(rw [hy346];exact H)|exact H
  have Ny346:=Aside0.mk hy346
  clear hy346
  obtain rfl:=Option.some.inj H
  go_enter Try.func78,Try.ntmps78
  go_wp2_with (first|((with_reducible refine gate_dst (N:=3) rfl ?_);refine Kd.R_lit (Kd.int .i64) _ 2 ?hg (N:=3) ?hd (xs:=([]:List Int)) (inner:=[]) (ok:=fun _=>True) (okp:=fun _=>True) ?hr ?hp (fun _ hk=>hk) trivial (Below.refl _ _) (Nat.le_refl _) (by simp) ?_;(case hd=>rfl);(case hg=>rfl);(case hr=>first|(go_simp;done)|(go_simp;rfl));(case hp=>exact (Reps.none _ _));intro v344 w3 ho4 hb hg_ hnew_;clear hg_ hnew_;(first|rw [← Ny343.out] at ho4|(simp only [Int.reduceToNat] at ho4;rw [← Ny343.out] at ho4));have n0_:=Aside0.mk (Kd.R_lower ho4 (below_size (by repeat (first|(with_reducible first|exact HB.out|apply below_alloc|apply pw_below_drewN|apply below_drew1)|exact HB.out))));have n1_:=Aside0.mk (below_step (by repeat (first|(with_reducible first|exact HB.out|apply below_alloc|apply pw_below_drewN|apply below_drew1)|exact HB.out)) hb);clear HB;have HO345:=n0_;have HB:=n1_;clear n0_ n1_;clear hb ho4)|((with_reducible refine gate_builtin (b:=.append) (xs:=#[.tmp 3,.tmp 4]) rfl ?_);at_builtin;refine Kd.R_append_rows (Kd.int .i64) (w0:=w) w.heap.size rfl (.tmp 3) (.tmp 4) 22 2 (.int .i64 0) 8 rfl Try.underlying22 info2 rfl (by decide) (by omega) v344 y343 l0 _ _ _ (fun _=>True) (fun _=>False) rfl rfl ?aO ?aR (fun _ _ h=>h) (fun _ h=>h.elim) ?aF ?aB ?aS ?aL ?_;(case aR=>repeat (first|exact (Kd.C_below HR0.out HB.out)|(with_reducible refine Kd.C_alloc ?_ _)|(with_reducible refine Kd.C_drewN ?_ _)|(with_reducible refine Kd.C_drew ?_)));(case aB=>exact (by repeat (first|(with_reducible first|exact HB.out|apply below_alloc|apply pw_below_drewN|apply below_drew1)|exact HB.out)));(case aF=>exact (fun _ _=>trivial));(case aO=>exact (by (with_reducible repeat (first|apply Kd.R_alloc|apply Kd.R_drewN|apply Kd.R_drew));exact HO345.out));(case aS=>exact (below_size (by repeat (first|(with_reducible first|exact HB.out|apply below_alloc|apply pw_below_drewN|apply below_drew1)|exact HB.out))));(case aL=>have:=LMc2.out;omega);intro v347 w5 ho hb hg hat;rw [← Ny346.out] at ho;have n0_:=Aside0.mk (hb);have n1_:=Aside0.mk (ho);clear HB;clear HO345;have HB:=n0_;have HO348:=n1_;clear n0_ n1_;clear ho hb hg hat))
  go_ret
  exact ⟨_,by first|rfl|(simp [errW_none,errW_some] <;> rfl)|(simp [*,errW_none,errW_some] <;> rfl),by (with_reducible repeat (first|apply Kd.R_alloc|apply Kd.R_drewN|apply Kd.R_drew));exact HO348.out,by repeat (first|(with_reducible first|exact HB.out|apply below_alloc|apply pw_below_drewN|apply below_drew1)|exact HB.out)⟩
 ·rw [if_neg c2] at H
  exact absurd H (by simp)
def spec_l01Make.f (l0:List Int):Option (List Int):=(spec_l01Own.f l0).bind fun t350=>(some t350)
set_option maxHeartbeats 8000000 in
set_option maxRecDepth 100000 in
theorem spec_l01Make.calls (A0:Option Addr) (c0:Nat) (l0:List Int) (r:List Int) (w:World) (hr0:Kd.C (Kd.int .i64) w A0 l0.length l0) (hc0:l0.length≤c0) (h:spec_l01Make.f l0=some r) :
  Calls Try.prog 77 #[.slice A0 l0.length c0] w fun e w'=>∃ v0_:Value,e=.returned (.agg #[v0_])∧Kd.R (Kd.int .i64) 2 w' w.heap.size (fun _=>True) v0_ r∧Below w.heap.size w w':=by
 have hu28:=Try.underlying28
 have HR0:=Aside0.mk hr0
 have HC0:=Aside0.mk hc0
 clear hr0 hc0
 have HB:=Aside0.mk (Below.refl w.heap.size w)
 have H:((spec_l01Own.f l0).bind fun t350=>(some t350))=some r:=h
 clear h
 replace H:=Option.bind_eq_some_iff.mp H
 obtain ⟨t350,A20,H⟩:=H
 replace H:(some t350)=some r:=H
 have A2:=Aside0.mk A20
 clear A20
 obtain rfl:=Option.some.inj H
 go_enter Try.func77,Try.ntmps77
 go_wp2_with (first|((with_reducible refine gate_dst (N:=2) rfl ?_);refine box_event ?hg (N:=2) ?hd (cs:=#[.slice none 0 0]) (t:=28) ?hr ?_;(case hd=>rfl);(case hg=>rfl);(case hr=>first|(go_simp;done)|(go_simp;rfl));intro gb349 hg w3 hbox hb;have n0_:=Aside0.mk (below_step (by repeat (first|(with_reducible first|exact HB.out|apply below_alloc|apply pw_below_drewN|apply below_drew1)|exact HB.out)) hb);have n1_:=Aside0.mk (hbox);have n2_:=Aside0.mk ((by rw [hg];exact (below_size (by repeat (first|(with_reducible first|exact HB.out|apply below_alloc|apply pw_below_drewN|apply below_drew1)|exact HB.out))):w.heap.size≤gb349));have n3_:=Aside0.mk ((by rw [hg];exact (below_size (by repeat (first|(with_reducible first|exact HB.out|apply below_alloc|apply pw_below_drewN|apply below_drew1)|exact HB.out))):w.heap.size≤gb349));clear HB;have HB:=n0_;have BK349:=n1_;have GW349:=n2_;have GE349:=n3_;clear n0_ n1_ n2_ n3_;clear hb hbox hg)|((with_reducible refine gate_callee (f:=78) rfl ?_);refine goesL_ (some 4) rfl rfl Try.func78 (by kernel_rfl) rfl #[.slice A0 l0.length c0] rfl (by (try simp only [List.map_toArray,List.map_cons,List.map_nil]);first|done|rfl|(simp only [List.length_drop,List.length_take];rfl)) ?_;(with_reducible refine (spec_l01Own.calls _ _ l0 t350 _ ?side1 ?side2 A2.out).mono ?_);(case side1=>repeat (first|exact (Kd.C_below HR0.out HB.out)|(with_reducible refine Kd.C_alloc ?_ _)|(with_reducible refine Kd.C_drewN ?_ _)|(with_reducible refine Kd.C_drew ?_)));(case side2=>exact HC0.out);rintro e w4 ⟨v351,rfl,ho0,hb⟩;refine ⟨_,rfl,?_⟩;have n0_:=Aside0.mk (Kd.R_lower ho0 (below_size (by repeat (first|(with_reducible first|exact HB.out|apply below_alloc|apply pw_below_drewN|apply below_drew1|refine below_set ?_ GE349.out)|exact HB.out))));have n1_:=Aside0.mk (blk_below (g:=gb349) (o:=.cells #[.slice none 0 0] 28 (0,0)) (by (with_reducible repeat (first|refine blk_drewN ?_ _|refine blk_drew ?_|refine blk_alloc ?_ _));exact BK349.out) hb);have n2_:=Aside0.mk (below_step (by repeat (first|(with_reducible first|exact HB.out|apply below_alloc|apply pw_below_drewN|apply below_drew1|refine below_set ?_ GE349.out)|exact HB.out)) hb);clear BK349;clear HB;have HO352:=n0_;have BK349:=n1_;have HB:=n2_;clear n0_ n1_ n2_;(try clear hb);(try clear hb2);(try clear hk);(try clear hi);(try clear ho0);obtain ⟨Ao5,co5,eo5⟩:=Kd.R_slice HO352.out;subst eo5;have hcz6_0:w4.cell? ⟨gb349,0,none⟩=some (.slice none 0 0):=(blk_cell BK349.out 0).trans rfl;have hfz6_0:=blk_frozen BK349.out 0))
 refine bodyPost_ret (results_cell_row rfl _ _ gb349 28 #[.slice Ao5 t350.length co5] (0,0) _ rfl (by (with_reducible repeat (first|refine blk_drewN ?_ _|refine blk_drew ?_|refine blk_alloc ?_ _));refine blk_put (cs:=#[.slice none 0 0]) ?_ 0 _ rfl;(with_reducible repeat (first|refine blk_drewN ?_ _|refine blk_drew ?_|refine blk_alloc ?_ _));exact BK349.out) Try.underlying28 rfl (by kernel_rfl)) rfl ?_
 exact ⟨_,by first|rfl|(simp [errW_none,errW_some] <;> rfl)|(simp [*,errW_none,errW_some] <;> rfl),by (with_reducible repeat (first|apply Kd.R_alloc|apply Kd.R_drewN|apply Kd.R_drew));exact Kd.R_mono (Kd.R_far (p:=⟨gb349,0,none⟩) (Kd.R_types HO352.out BK349.out (by decide)) (fun _ hk=>hk.2) (.slice Ao5 t350.length co5)) (fun _ hk=>trivial),by repeat (first|(with_reducible first|exact HB.out|apply below_alloc|apply pw_below_drewN|apply below_drew1|refine below_set ?_ GE349.out)|exact HB.out)⟩
def spec_l01Copy.f (l0_0:List Int):Option (List Int):=(spec_l01Make.f l0_0).bind fun t355=>(some t355)
set_option maxHeartbeats 8000000 in
set_option maxRecDepth 100000 in
theorem spec_l01Copy.calls (A0_0:Option Addr) (c0_0:Nat) (l0_0:List Int) (r:List Int) (w:World) (hr0_0:Kd.C (Kd.int .i64) w A0_0 l0_0.length l0_0) (hc0_0:l0_0.length≤c0_0) (h:spec_l01Copy.f l0_0=some r) :
  Calls Try.prog 67 #[.agg #[.slice A0_0 l0_0.length c0_0]] w fun e w'=>∃ v0_:Value,e=.returned (.agg #[v0_])∧Kd.R (Kd.int .i64) 2 w' w.heap.size (fun _=>True) v0_ r∧Below w.heap.size w w':=by
 have hu28:=Try.underlying28
 have HR0_0:=Aside0.mk hr0_0
 have HC0_0:=Aside0.mk hc0_0
 clear hr0_0 hc0_0
 have HB:=Aside0.mk (Below.refl w.heap.size w)
 have H:((spec_l01Make.f l0_0).bind fun t355=>(some t355))=some r:=h
 clear h
 replace H:=Option.bind_eq_some_iff.mp H
 obtain ⟨t355,A20,H⟩:=H
 replace H:(some t355)=some r:=H
 have A2:=Aside0.mk A20
 clear A20
 obtain rfl:=Option.some.inj H
 go_enter Try.func67,Try.ntmps67
 go_wp2_with (first|((with_reducible refine gate_dst (N:=1) rfl ?_);refine box_event ?hg (N:=1) ?hd (cs:=#[.slice A0_0 l0_0.length c0_0]) (t:=28) ?hr ?_;(case hd=>rfl);(case hg=>rfl);(case hr=>first|(go_simp;done)|(go_simp;rfl));intro gb353 hg w3 hbox hb;have n0_:=Aside0.mk (below_step (by repeat (first|(with_reducible first|exact HB.out|apply below_alloc|apply pw_below_drewN|apply below_drew1)|exact HB.out)) hb);have n1_:=Aside0.mk (hbox);have n2_:=Aside0.mk ((by rw [hg];exact (below_size (by repeat (first|(with_reducible first|exact HB.out|apply below_alloc|apply pw_below_drewN|apply below_drew1)|exact HB.out))):w.heap.size≤gb353));have n3_:=Aside0.mk ((by rw [hg];exact (below_size (by repeat (first|(with_reducible first|exact HB.out|apply below_alloc|apply pw_below_drewN|apply below_drew1)|exact HB.out))):w.heap.size≤gb353));clear HB;have HB:=n0_;have BK353:=n1_;have GW353:=n2_;have GE353:=n3_;clear n0_ n1_ n2_ n3_;clear hb hbox hg)|((with_reducible refine gate_dst (N:=2) rfl ?_);refine box_event ?hg (N:=2) ?hd (cs:=#[.slice none 0 0]) (t:=28) ?hr ?_;(case hd=>rfl);(case hg=>rfl);(case hr=>first|(go_simp;done)|(go_simp;rfl));intro gb354 hg w4 hbox hb;have n0_:=Aside0.mk (blk_below (g:=gb353) (o:=.cells #[.slice A0_0 l0_0.length c0_0] 28 (0,0)) (by (with_reducible repeat (first|refine blk_drewN ?_ _|refine blk_drew ?_|refine blk_alloc ?_ _));exact BK353.out) hb);have n1_:=Aside0.mk (below_step (by repeat (first|(with_reducible first|exact HB.out|apply below_alloc|apply pw_below_drewN|apply below_drew1|refine below_set ?_ GE353.out)|exact HB.out)) hb);have n2_:=Aside0.mk (hbox);have n3_:=Aside0.mk ((by rw [hg];exact (below_size (by repeat (first|(with_reducible first|exact HB.out|apply below_alloc|apply pw_below_drewN|apply below_drew1|refine below_set ?_ GE353.out)|exact HB.out))):w.heap.size≤gb354));have n4_:=Aside0.mk ((by rw [hg];exact (below_size (by repeat (first|(with_reducible first|exact HB.out|apply below_alloc|apply pw_below_drewN|apply below_drew1|refine below_set ?_ GE353.out)|exact HB.out))):w.heap.size≤gb354));have n5_:=Aside0.mk ((by rw [hg];exact Nat.ne_of_lt (blk_lt (g:=gb353) (o:=.cells #[.slice A0_0 l0_0.length c0_0] 28 (0,0)) (by (with_reducible repeat (first|refine blk_drewN ?_ _|refine blk_drew ?_|refine blk_alloc ?_ _));exact BK353.out)):gb353≠gb354));have n6_:=Aside0.mk ((by rw [hg];exact Nat.ne_of_gt (blk_lt (g:=gb353) (o:=.cells #[.slice A0_0 l0_0.length c0_0] 28 (0,0)) (by (with_reducible repeat (first|refine blk_drewN ?_ _|refine blk_drew ?_|refine blk_alloc ?_ _));exact BK353.out)):gb354≠gb353));clear BK353;clear HB;have BK353:=n0_;have HB:=n1_;have BK354:=n2_;have GW354:=n3_;have GE354:=n4_;have NB353_354:=n5_;have NB354_353:=n6_;clear n0_ n1_ n2_ n3_ n4_ n5_ n6_;clear hb hbox hg;have hnb5:=NB353_354.out;have hnc5:=NB354_353.out;have hcz6_0:w4.cell? ⟨gb353,0,none⟩=some (.slice A0_0 l0_0.length c0_0):=(blk_cell BK353.out 0).trans rfl;have hfz6_0:=blk_frozen BK353.out 0)|((with_reducible refine gate_callee (f:=77) rfl ?_);refine goesL_ (some 5) rfl rfl Try.func77 (by kernel_rfl) rfl #[.slice A0_0 l0_0.length c0_0] rfl (by (try simp only [List.map_toArray,List.map_cons,List.map_nil]);first|done|rfl|(simp only [List.length_drop,List.length_take];rfl)) ?_;(with_reducible refine (spec_l01Make.calls _ _ l0_0 t355 _ ?side1 ?side2 A2.out).mono ?_);(case side1=>repeat (first|exact (Kd.C_below HR0_0.out HB.out)|(with_reducible refine Kd.C_alloc ?_ _)|(with_reducible refine Kd.C_drewN ?_ _)|(with_reducible refine Kd.C_drew ?_)));(case side2=>exact HC0_0.out);rintro e w7 ⟨v356,rfl,ho0,hb⟩;refine ⟨_,rfl,?_⟩;have n0_:=Aside0.mk (Kd.R_lower ho0 (below_size (by repeat (first|(with_reducible first|exact HB.out|apply below_alloc|apply pw_below_drewN|apply below_drew1|refine below_set ?_ GE353.out|refine below_set ?_ GE354.out)|exact HB.out))));have n1_:=Aside0.mk (blk_below (g:=gb353) (o:=.cells #[.slice A0_0 l0_0.length c0_0] 28 (0,0)) (by (with_reducible repeat (first|refine blk_drewN ?_ _|refine blk_drew ?_|refine blk_alloc ?_ _));exact BK353.out) hb);have n2_:=Aside0.mk (blk_below (g:=gb354) (o:=.cells #[.slice none 0 0] 28 (0,0)) (by (with_reducible repeat (first|refine blk_drewN ?_ _|refine blk_drew ?_|refine blk_alloc ?_ _));exact BK354.out) hb);have n3_:=Aside0.mk (below_step (by repeat (first|(with_reducible first|exact HB.out|apply below_alloc|apply pw_below_drewN|apply below_drew1|refine below_set ?_ GE353.out|refine below_set ?_ GE354.out)|exact HB.out)) hb);clear BK353;clear BK354;clear HB;have HO357:=n0_;have BK353:=n1_;have BK354:=n2_;have HB:=n3_;clear n0_ n1_ n2_ n3_;(try clear hb);(try clear hb2);(try clear hk);(try clear hi);(try clear ho0);obtain ⟨Ao8,co8,eo8⟩:=Kd.R_slice HO357.out;subst eo8;have hcz9_0:w7.cell? ⟨gb354,0,none⟩=some (.slice none 0 0):=(blk_cell BK354.out 0).trans rfl;have hfz9_0:=blk_frozen BK354.out 0))
 refine bodyPost_ret (results_cell_row rfl _ _ gb354 28 #[.slice Ao8 t355.length co8] (0,0) _ rfl (by (with_reducible repeat (first|refine blk_drewN ?_ _|refine blk_drew ?_|refine blk_alloc ?_ _));refine blk_put (cs:=#[.slice none 0 0]) ?_ 0 _ rfl;(with_reducible repeat (first|refine blk_drewN ?_ _|refine blk_drew ?_|refine blk_alloc ?_ _));exact BK354.out) Try.underlying28 rfl (by kernel_rfl)) rfl ?_
 exact ⟨_,by first|rfl|(simp [errW_none,errW_some] <;> rfl)|(simp [*,errW_none,errW_some] <;> rfl),by (with_reducible repeat (first|apply Kd.R_alloc|apply Kd.R_drewN|apply Kd.R_drew));exact Kd.R_mono (Kd.R_far (p:=⟨gb354,0,none⟩) (Kd.R_types HO357.out BK354.out (by decide)) (fun _ hk=>hk.2) (.slice Ao8 t355.length co8)) (fun _ hk=>trivial),by repeat (first|(with_reducible first|exact HB.out|apply below_alloc|apply pw_below_drewN|apply below_drew1|refine below_set ?_ GE353.out|refine below_set ?_ GE354.out)|exact HB.out)⟩
def IsS79 (w0 W:World) (g:Nat) (f0:List Int) (f1:Int) (f2:Int):Prop:=∃ A0 c0,W.heap[g]?=some (.cells #[.slice A0 f0.length c0,.int .i64 f1,.int .u64 f2] 79 (0,0))∧w0.heap.size≤g∧Kd.C (Kd.int .u8) w0 A0 f0.length f0
theorem IsS79.grown {w0 W:World} {g:Nat} {f0:List Int} {f1:Int} {f2:Int} {W1:World} {row:Option Nat} (h:IsS79 w0 W g f0 f1 f2) (hw:W.grownBy W1 row) (hne:some g≠row):IsS79 w0 W1 g f0 f1 f2:=by
 obtain ⟨A0,c0,hb,hg,hr0⟩:=h
 exact ⟨A0,c0,blk_grown hb hw hne,hg,hr0⟩
theorem IsS79.below {w0 W:World} {g:Nat} {f0:List Int} {f1:Int} {f2:Int} {W1:World} (h:IsS79 w0 W g f0 f1 f2) (hw:Below W.heap.size W W1):IsS79 w0 W1 g f0 f1 f2:=h.grown (grown_of_below hw none) (by simp)
theorem IsS79.drewN {w0 W:World} {g:Nat} {f0:List Int} {f1:Int} {f2:Int} (h:IsS79 w0 W g f0 f1 f2) (m:Nat):IsS79 w0 (W.drewN m) g f0 f1 f2:=h
theorem IsS79.drew {w0 W:World} {g:Nat} {f0:List Int} {f1:Int} {f2:Int} (h:IsS79 w0 W g f0 f1 f2):IsS79 w0 W.drew g f0 f1 f2:=h
theorem IsS79.apart {w0 W:World} {g:Nat} {f0:List Int} {f1:Int} {f2:Int} {α:Type} {d:Kd α} {e:Nat} {base:Nat} {ok:Nat→Prop} {v:Value} {xs:List α} (h:IsS79 w0 W g f0 f1 f2) (ho:d.R e W base ok v xs) (ht:∀ q,q∈e :: d.E→q≠79):d.R e W base (fun k=>ok k∧k≠g) v xs:=by
 obtain ⟨A0,c0,hb,hg,hr0⟩:=h
 exact Kd.R_types ho hb ht
theorem IsS79.own_ne {w0 W:World} {g:Nat} {f0:List Int} {f1:Int} {f2:Int} {α:Type} {d:Kd α} {e:Nat} {base:Nat} {ok:Nat→Prop} {v:Value} {xs:List α} (h:IsS79 w0 W g f0 f1 f2) (ho:d.R e W base ok v xs) (ht:e≠79):some g≠v.ownBlock:=by
 obtain ⟨A0,c0,hb,hg,hr0⟩:=h
 exact Kd.R_ne ho hb ht
theorem IsS79.lt {w0 W:World} {g:Nat} {f0:List Int} {f1:Int} {f2:Int} (h:IsS79 w0 W g f0 f1 f2):g<W.heap.size:=by
 obtain ⟨A0,c0,hb,hg,hr0⟩:=h
 exact blk_lt hb
theorem IsS79.ge {w0 W:World} {g:Nat} {f0:List Int} {f1:Int} {f2:Int} (h:IsS79 w0 W g f0 f1 f2):w0.heap.size≤g:=by
 obtain ⟨A0,c0,hb,hg,hr0⟩:=h
 exact hg
theorem IsS79.ne_blk {w0 W:World} {g:Nat} {f0:List Int} {f1:Int} {f2:Int} {a:Nat} {cs:Array Value} {t:TypeId} {fr:Nat × Nat} (h:IsS79 w0 W g f0 f1 f2) (hb2:W.heap[a]?=some (.cells cs t fr)) (ht:t≠79):g≠a:=by
 obtain ⟨A0,c0,hb,hg,hr0⟩:=h
 rintro rfl
 rw [hb] at hb2
 injection hb2 with hb2
 injection hb2 with _ ht2
 exact ht ht2.symm
theorem IsS79.far {w0 W:World} {g:Nat} {f0:List Int} {f1:Int} {f2:Int} {p:Addr} (h:IsS79 w0 W g f0 f1 f2) (hne:g≠p.block) (u:Value):IsS79 w0 (W.setCell p u) g f0 f1 f2:=by
 obtain ⟨A0,c0,hb,hg,hr0⟩:=h
 exact ⟨A0,c0,blk_far hb hne u,hg,hr0⟩
theorem cellS79_0 {W:World} {g:Nat} {A0:Option Addr} {c0:Nat} {f0:List Int} {f1:Int} {f2:Int} (h:W.heap[g]?=some (.cells #[.slice A0 f0.length c0,.int .i64 f1,.int .u64 f2] 79 (0,0))):W.cell? ⟨g,0,none⟩=some (.slice A0 f0.length c0):=(blk_cell h 0).trans rfl
theorem cellS79_1 {W:World} {g:Nat} {A0:Option Addr} {c0:Nat} {f0:List Int} {f1:Int} {f2:Int} (h:W.heap[g]?=some (.cells #[.slice A0 f0.length c0,.int .i64 f1,.int .u64 f2] 79 (0,0))):W.cell? ⟨g,1,none⟩=some (.int .i64 f1):=(blk_cell h 1).trans rfl
theorem IsS79.set_1 {w0 W:World} {g:Nat} {f0:List Int} {f1:Int} {f2:Int} (h:IsS79 w0 W g f0 f1 f2) (x:Int):IsS79 w0 (W.setCell ⟨g,1,none⟩ (.int .i64 x)) g f0 x f2:=by
 obtain ⟨A0,c0,hb,hg,hr0⟩:=h
 exact ⟨A0,c0,by simpa using blk_set hb 1 (.int .i64 x),hg,hr0⟩
theorem cellS79_2 {W:World} {g:Nat} {A0:Option Addr} {c0:Nat} {f0:List Int} {f1:Int} {f2:Int} (h:W.heap[g]?=some (.cells #[.slice A0 f0.length c0,.int .i64 f1,.int .u64 f2] 79 (0,0))):W.cell? ⟨g,2,none⟩=some (.int .u64 f2):=(blk_cell h 2).trans rfl
theorem IsS79.set_2 {w0 W:World} {g:Nat} {f0:List Int} {f1:Int} {f2:Int} (h:IsS79 w0 W g f0 f1 f2) (x:Int):IsS79 w0 (W.setCell ⟨g,2,none⟩ (.int .u64 x)) g f0 f1 x:=by
 obtain ⟨A0,c0,hb,hg,hr0⟩:=h
 exact ⟨A0,c0,by simpa using blk_set hb 2 (.int .u64 x),hg,hr0⟩
def spec_l01Next.f (s0_0:List Int) (s0_1:Int) (s0_2:Int) (a1:Int):Option (Int × Int × Int):=if a1<1 then (some (0,s0_1,s0_2)) else (if s0_1<(s0_0.length:Int) then (if 0≤s0_1 then (if a1=0 then (none) else (some (Int.tmod (wrap64 ((wrap64 (Go.bits .and .u64 ((IntKind.u64.wrap ((IntKind.u64.wrap (s0_2*6364136223846793005))+1442695040888963407)) / 8589934592) 16777215))+(wrap64 (rd s0_0 s0_1)))) a1,wrap64 (s0_1+1),IntKind.u64.wrap ((IntKind.u64.wrap (s0_2*6364136223846793005))+1442695040888963407)))) else (none)) else (if a1=0 then (none) else (some (Int.tmod (wrap64 (Go.bits .and .u64 ((IntKind.u64.wrap ((IntKind.u64.wrap (s0_2*6364136223846793005))+1442695040888963407)) / 8589934592) 16777215)) a1,s0_1,IntKind.u64.wrap ((IntKind.u64.wrap (s0_2*6364136223846793005))+1442695040888963407)))))
set_option maxHeartbeats 8000000 in
set_option maxRecDepth 100000 in
theorem spec_l01Next.calls (g:Nat) (s0_0:List Int) (s0_1:Int) (s0_2:Int) (a1:Int) (r1:Int) (r2:Int) (r3:Int) (w0 w:World) (hI:IsS79 w0 w g s0_0 s0_1 s0_2) (hB:Below w0.heap.size w0 w) (h:spec_l01Next.f s0_0 s0_1 s0_2 a1=some (r1,r2,r3)) :
  Calls Try.prog 68 #[.pointer (some ⟨g,0,none⟩),.int .i64 a1] w fun e w'=>e=.returned (.int .i64 r1)∧IsS79 w0 w' g s0_0 r2 r3∧Below w0.heap.size w0 w'∧KeepBut w w' g none:=by
 have HI0:=Aside0.mk hI
 have HK:=Aside0.mk (KeepBut.refl w g none)
 have HL:=Aside0.mk hB.size
 clear hI
 have HW0:=Aside0.mk hB.size
 have HB:=Aside0.mk hB
 clear hB
 have H:(if a1<1 then (some (0,s0_1,s0_2)) else (if s0_1<(s0_0.length:Int) then (if 0≤s0_1 then (if a1=0 then (none) else (some (Int.tmod (wrap64 ((wrap64 (Go.bits .and .u64 ((IntKind.u64.wrap ((IntKind.u64.wrap (s0_2*6364136223846793005))+1442695040888963407)) / 8589934592) 16777215))+(wrap64 (rd s0_0 s0_1)))) a1,wrap64 (s0_1+1),IntKind.u64.wrap ((IntKind.u64.wrap (s0_2*6364136223846793005))+1442695040888963407)))) else (none)) else (if a1=0 then (none) else (some (Int.tmod (wrap64 (Go.bits .and .u64 ((IntKind.u64.wrap ((IntKind.u64.wrap (s0_2*6364136223846793005))+1442695040888963407)) / 8589934592) 16777215)) a1,s0_1,IntKind.u64.wrap ((IntKind.u64.wrap (s0_2*6364136223846793005))+1442695040888963407))))))=some (r1,r2,r3):=h
 clear h
 by_cases c3:a1<1
 ·rw [if_pos c3] at H
  have c3b0:decide (a1<1)=true:=decide_eq_true c3
  clear c3
  simp only [Option.some.injEq,Prod.mk.injEq] at H
  obtain ⟨rfl,rfl,rfl⟩:=H
  go_enter Try.func68,Try.ntmps68
  go_wp2
  repeat (go_quiet (fail);try go_wp2)
  go_ret
  exact ⟨by first|rfl|(simp [errW_none,errW_some] <;> rfl)|(simp [*,errW_none,errW_some] <;> rfl),by repeat (first|(with_reducible first|exact HI0.out|apply IsS79.alloc|apply IsS79.drewN|apply IsS79.drew|apply IsS79.set_1|apply IsS79.set_2)|exact HI0.out),by repeat (first|(with_reducible first|exact HB.out|apply below_alloc|apply pw_below_drewN|apply below_drew1|refine below_set ?_ (IsS79.ge HI0.out))|exact HB.out),by repeat (first|(with_reducible first|exact HK.out|apply KeepBut.set_|apply keep_drewN|apply keep_drew|apply keep_alloc)|exact HK.out)⟩
 ·rw [if_neg c3] at H
  have c3b0:decide (a1<1)=false:=decide_eq_false c3
  clear c3
  by_cases c4:s0_1<(s0_0.length:Int)
  ·rw [if_pos c4] at H
   have c4b0:decide (s0_1<(s0_0.length:Int))=true:=decide_eq_true c4
   clear c4
   by_cases c5:0≤s0_1
   ·rw [if_pos c5] at H
    have c5b0:decide (0≤s0_1)=true:=decide_eq_true c5
    clear c5
    by_cases c6:a1=0
    ·rw [if_pos c6] at H
     exact absurd H (by simp)
    ·rw [if_neg c6] at H
     have c6b0:(a1 == 0)=false:=beq_eq_false_iff_ne.mpr c6
     have c6b1:(a1 != 0)=true:=bne_iff_ne.mpr c6
     simp only [Option.some.injEq,Prod.mk.injEq] at H
     obtain ⟨rfl,rfl,rfl⟩:=H
     obtain ⟨ASz7_0,cSz7_0,HGz7,hgz7,HSz7_0⟩:=HI0.out
     have hcz7_0:=cellS79_0 HGz7
     have hcz7_1:=cellS79_1 HGz7
     have hcz7_2:=cellS79_2 HGz7
     have hfz7_1:=blk_frozen HGz7 1
     have hfz7_2:=blk_frozen HGz7 2
     clear HGz7 hgz7
     have p358:0≤(s0_1:Int):=of_decide_eq_true (by first|(with_reducible assumption)|assumption)
     have q358:s0_1<(s0_0.length:Int):=of_decide_eq_true (by first|(with_reducible assumption)|assumption)
     obtain ⟨ad358,e358,hx358_0⟩:=Kd.at_int HSz7_0 s0_1 p358 q358
     cases e358
     have hn358_0:ad358.block≠g:=Nat.ne_of_lt (Nat.lt_of_lt_of_le (by have:=World.block_lt_of_cell? _ _ hx358_0;first|rwa [add_block] at this|exact this) (IsS79.ge HI0.out))
     replace hx358_0:=pw_cell_below HB.out hx358_0
     replace hx358_0:=(cell_far (p:=⟨g,2,none⟩) (by first|(rw [add_block];exact hn358_0)|(show (Addr.add _ _).block≠_;rw [add_block];exact hn358_0)|exact hn358_0) (.int .u64 (IntKind.u64.wrap ((IntKind.u64.wrap (s0_2*6364136223846793005))+1442695040888963407)))).trans hx358_0
     (try have hy358_0:=fun (n_:Nat)=>(show (((w.drewN n_).setCell ⟨g,2,none⟩ (.int .u64 (IntKind.u64.wrap ((IntKind.u64.wrap (s0_2*6364136223846793005))+1442695040888963407))))).cell? _=some _ from hx358_0))
     clear hn358_0
     replace p358:=eq_true p358
     replace q358:=eq_true q358
     go_enter Try.func68,Try.ntmps68
     go_wp2
     repeat (go_quiet (fail);try go_wp2)
     go_ret
     exact ⟨by first|rfl|(simp [errW_none,errW_some] <;> rfl)|(simp [*,errW_none,errW_some] <;> rfl),by repeat (first|(with_reducible first|exact HI0.out|apply IsS79.alloc|apply IsS79.drewN|apply IsS79.drew|apply IsS79.set_1|apply IsS79.set_2)|exact HI0.out),by repeat (first|(with_reducible first|exact HB.out|apply below_alloc|apply pw_below_drewN|apply below_drew1|refine below_set ?_ (IsS79.ge HI0.out))|exact HB.out),by repeat (first|(with_reducible first|exact HK.out|apply KeepBut.set_|apply keep_drewN|apply keep_drew|apply keep_alloc)|exact HK.out)⟩
   ·rw [if_neg c5] at H
    exact absurd H (by simp)
  ·rw [if_neg c4] at H
   have c4b0:decide (s0_1<(s0_0.length:Int))=false:=decide_eq_false c4
   clear c4
   by_cases c8:a1=0
   ·rw [if_pos c8] at H
    exact absurd H (by simp)
   ·rw [if_neg c8] at H
    have c8b0:(a1 == 0)=false:=beq_eq_false_iff_ne.mpr c8
    have c8b1:(a1 != 0)=true:=bne_iff_ne.mpr c8
    simp only [Option.some.injEq,Prod.mk.injEq] at H
    obtain ⟨rfl,rfl,rfl⟩:=H
    obtain ⟨ASz9_0,cSz9_0,HGz9,hgz9,HSz9_0⟩:=HI0.out
    have hcz9_0:=cellS79_0 HGz9
    have hcz9_1:=cellS79_1 HGz9
    have hcz9_2:=cellS79_2 HGz9
    have hfz9_1:=blk_frozen HGz9 1
    have hfz9_2:=blk_frozen HGz9 2
    clear HGz9 hgz9
    go_enter Try.func68,Try.ntmps68
    go_wp2
    repeat (go_quiet (fail);try go_wp2)
    go_ret
    exact ⟨by first|rfl|(simp [errW_none,errW_some] <;> rfl)|(simp [*,errW_none,errW_some] <;> rfl),by repeat (first|(with_reducible first|exact HI0.out|apply IsS79.alloc|apply IsS79.drewN|apply IsS79.drew|apply IsS79.set_1|apply IsS79.set_2)|exact HI0.out),by repeat (first|(with_reducible first|exact HB.out|apply below_alloc|apply pw_below_drewN|apply below_drew1|refine below_set ?_ (IsS79.ge HI0.out))|exact HB.out),by repeat (first|(with_reducible first|exact HK.out|apply KeepBut.set_|apply keep_drewN|apply keep_drew|apply keep_alloc)|exact HK.out)⟩
end Go.Proofs.Ytimfbpmaepmdoaa.QFnDrawings
