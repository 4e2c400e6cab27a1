/- Functions as Lean functions, with their contracts: written by a program of this claim over the translation; some contracts are proved by hand. -/
import Derived.Test.YtlppkilencpmeaaGreatQFnGrowthx0
import Derived.Test.YtlppkilencpmeaaGreatQFnGrowthx1
import Derived.Test.YtlppkilencpmeaaGreatQFnGrowthx11
import Derived.Test.YtlppkilencpmeaaGreatQFnGrowthx12
namespace Go.Proofs.YtlppkilencpmeaaGreat.QFnGrowth
open Go.RowKit Go.Proofs.YtlppkilencpmeaaGreat.Gl Go.Proofs.YtlppkilencpmeaaGreat.Sz Go.Proofs.YtlppkilencpmeaaGreatW.PrintWords Go.Proofs.YtlppkilencpmeaaGreatW.PrintLast Go.Proofs.YtlppkilencpmeaaGreatW.PrintMore
attribute [local go_sem] max2_int min2_int max_two min_two max_three min_three max_four min_four   -- for this text's walks alone
set_option linter.unusedVariables false
set_option linter.unusedSimpArgs false
theorem q13_0 {P:Prop} (h:P:=by repeat (first|(with_reducible first|exact HI0.out|apply IsS90.alloc|apply IsS90.drewN|apply IsS90.drew|apply IsS90.set_1|apply IsS90.set_2|refine IsS90.far ?_ (Aside0.out (by with_reducible assumption)) _)|exact HI0.out)):P:=h
theorem q13_1 {P:Prop} (h:P:=by repeat (first|(with_reducible first|exact HI0.out|apply IsS90.alloc|apply IsS90.drewN|apply IsS90.drew|apply IsS90.set_1|apply IsS90.set_2)|exact HI0.out)):P:=h
theorem q13_2 {P:Prop} (h:P:=by repeat (first|(with_reducible first|exact HK.out|apply KeepBut.set_|apply keep_drewN|apply keep_drew|apply keep_alloc)|exact HK.out)):P:=h
theorem q13_3 {P:Prop} (h:P:=by repeat (first|(with_reducible first|exact HB.out|apply below_alloc|apply pw_below_drewN|apply below_drew1|refine below_set ?_ (IsS90.ge HI0.out)|refine below_set ?_ (Aside0.out (by with_reducible assumption)))|exact HB.out)):P:=h
theorem q13_4 {P:Prop} (h:P:=by repeat (first|(with_reducible first|exact HK.out|apply KeepBut.set_|apply keep_drewN|apply keep_drew|apply keep_alloc|refine keep_far ?_ ai.out _)|exact HK.out)):P:=h
theorem q13_5 {P:Prop} (h:P:=by repeat (first|(with_reducible first|exact HB.out|apply below_alloc|apply pw_below_drewN|apply below_drew1|refine below_set ?_ (IsS90.ge HI0.out))|exact HB.out)):P:=h
theorem q13_6 {P:Prop} (h:P:=by first|rfl|(simp;done)|(simp [*];done)):P:=h
theorem q13_7 {P:Prop} (h:P:=by repeat (first|exact Drawn0.refl _|apply Drawn0.step)):P:=h
theorem q13_8 {P:Prop} (h:P:=by first|(with_reducible assumption)|assumption):P:=h
theorem q13_9 {P:Prop} (h:P:=by repeat (first|(with_reducible first|exact HB.out|apply below_alloc|apply pw_below_drewN|apply below_drew1|refine below_set ?_ (IsS90.ge av.out))|exact HB.out)):P:=h
theorem q13_10 {P:Prop} (h:P:=by rw [hg];exact (keep_size (w:=w) (g:=g) (row:=none) q13_2)):P:=h
theorem q13_11 {P:Prop} (h:P:=by (with_reducible repeat (first|refine blk_drewN ?_ _|refine blk_drew ?_|refine blk_alloc ?_ _));refine blk_put (cs:=#[.slice none 0 0]) ?_ 0 _ rfl;exact pb ab.out):P:=h
theorem q13_12 {P:Prop} (h:P:=by repeat (first|(with_reducible first|exact av.out|apply IsS90.alloc|apply IsS90.drewN|apply IsS90.drew|apply IsS90.set_1|apply IsS90.set_2)|exact av.out)):P:=h
set_option maxHeartbeats 8000000
set_option maxRecDepth 100000
mutual
def spec_l03End.l0:Nat→ByteArray→Int→Int→Option (Int)
 | 0,_,_,_=>none
 | k+1,x0,x1,x5=>if x5>0 then (if x1≥(x0.size:Int) then (spec_l03End.j1 k x0 x1 x5 true) else (if 0≤x1 then (if x1<(x0.size:Int) then (if (bt x0 x1)=48 then (spec_l03End.j1 k x0 x1 x5 false) else (spec_l03End.j1 k x0 x1 x5 ((bt x0 x1) != 49))) else (none)) else (none))) else (some x1)
def spec_l03End.j1:Nat→ByteArray→Int→Int→Bool→Option (Int)
 | 0,_,_,_,_=>none
 | k+1,x0,x1,x5,x23=>if x23=true then (some (-1)) else (if 0≤x1 then (if x1<(x0.size:Int) then (if (bt x0 x1)=49 then (spec_l03End.l0 k x0 (wrap64 (x1+1)) (wrap64 (x5+1))) else (spec_l03End.l0 k x0 (wrap64 (x1+1)) (wrap64 (x5 - 1)))) else (none)) else (none))
end
def spec_l03End.f (k:Nat) (a0:ByteArray) (a1:Int):Option (Int):=spec_l03End.l0 k a0 a1 1
theorem spec_l03End.calls (k:Nat) (a0:ByteArray) (a1:Int) (r:Int) (w:World) (h:spec_l03End.f k a0 a1=some r) :
  Calls Tryz.prog 113 #[.string a0,.int .i64 a1] w fun e w'=>e=.returned (.int .i64 r)∧Drawn0 w w':=by
 have H:(spec_l03End.l0 k a0 a1 1)=some r:=h;clear h;have H':=ak H;clear H
 go_enter Tryz.func113,Tryz.ntmps113
 go_wp2
 go_loopg [1,5] k (fun kq v1 v5 w'=>∃ (ac:Int) (aq:Int),v1=.int .i64 ac∧v5=.int .i64 aq∧Aside0 (spec_l03End.l0 kq a0 ac aq=some r)∧Aside0 (kq≤k)∧Drawn0 w w')
 case atStart=>exact ⟨(a1),(1),q13_6,q13_6,H',⟨Nat.le_refl _⟩,q13_7⟩
 case round =>
  clear H';obtain ⟨ac,aq,rfl,rfl,HA,HK1,⟨m1,rfl⟩⟩:=hrel
  cases gk with|zero=>exact absurd HA.out (by simp [spec_l03End.l0])|succ k1=>?_
  have H:=HA.out;clear HA;simp only [spec_l03End.l0] at H;obtain c3|c3:=nem (aq>0)
  ·rw [if_neg c3] at H;have a4:decide (0<aq)=false:=decide_eq_false c3;clear c3;obtain rfl:=Option.some.inj H;go_wp2
   go_ret
   exact ⟨q13_6,q13_7⟩
  rw [if_pos c3] at H;have a4:decide (0<aq)=true:=decide_eq_true c3;clear c3;have HC4:=ak H;clear H
  go_upto_region 3 with (fail)
  go_cut [23] (fun v23 wc=>∃ (kq:Nat) (aG:Bool),v23=.bool aG∧Aside0 (spec_l03End.j1 kq a0 ac aq aG=some r)∧Aside0 (kq≤k1)∧Drawn0 w wc)
  case first =>
   have H:=HC4.out;clear HC4
   by_cases c5:ac≥(a0.size:Int)
   ·rw [if_pos c5] at H;have ax:decide ((a0.size:Int)≤ac)=true:=decide_eq_true c5;clear c5;(first|rw [ax]|(simp only [i64_w,i32_w];rw [ax])|skip);have H':=ak H;clear H;go_wp2
    go_meet
    case rel=>exact ⟨_,(true),q13_6,H',⟨by have:=HK1.out;first|omega|exact Nat.le_refl _⟩,q13_7⟩
   rw [if_neg c5] at H;have ax:decide ((a0.size:Int)≤ac)=false:=decide_eq_false c5;clear c5;(first|rw [ax]|(simp only [i64_w,i32_w];rw [ax])|skip);replace H:=ifs H;obtain ⟨c6,H⟩:=H;have bj:=dt c6;clear c6;replace H:=ifs H;obtain ⟨c7,H⟩:=H;have aK:=dt c7;clear c7
   by_cases c9:(bt a0 ac)=48
   ·rw [if_pos c9] at H;have bk:((bt a0 ac) == 48)=true:=beq_iff_eq.mpr c9;have bl:((bt a0 ac) != 48)=false:=bne_eq_false_iff_eq.mpr c9;clear c9;have H':=ak H;clear H;have p8:0≤(ac:Int):=od q13_8;have q8:ac<(a0.size:Int):=od q13_8;have hx8:=bt_at a0 ac;replace p8:=eq_true p8;replace q8:=eq_true q8;go_wp2
    go_meet
    case rel=>exact ⟨_,(false),q13_6,H',⟨by have:=HK1.out;first|omega|exact Nat.le_refl _⟩,q13_7⟩
   rw [if_neg c9] at H;have bk:((bt a0 ac) == 48)=false:=beq_eq_false_iff_ne.mpr c9;have bl:((bt a0 ac) != 48)=true:=bne_iff_ne.mpr c9;have H':=ak H;clear H;have p8:0≤(ac:Int):=od q13_8;have q8:ac<(a0.size:Int):=od q13_8;have hx8:=bt_at a0 ac;replace p8:=eq_true p8;replace q8:=eq_true q8;have p10:0≤(ac:Int):=od q13_8;have q10:ac<(a0.size:Int):=od q13_8;have bN:=bt_at a0 ac;replace p10:=eq_true p10;replace q10:=eq_true q10;go_wp2
   go_meet
   case rel=>exact ⟨_,((bt a0 ac) != 49),q13_6,H',⟨by have:=HK1.out;first|omega|exact Nat.le_refl _⟩,q13_7⟩
  clear HC4;obtain ⟨kq,aG,rfl,HA,HJ3,⟨mc3,rfl⟩⟩:=hcut
  cases kq with|zero=>exact absurd HA.out (by simp [spec_l03End.j1])|succ kj3=>?_
  have H:=HA.out;clear HA;simp only [spec_l03End.j1] at H
  by_cases c11:aG=true
  ·subst c11;replace H:(some (-1))=some r:=by rw [if_pos rfl] at H;exact H
   obtain rfl:=Option.some.inj H;go_wp2
   go_ret
   exact ⟨q13_6,q13_7⟩
  replace c11:=Bool.eq_false_iff.mpr c11;subst c11;have H1:(if 0≤ac then (if ac<(a0.size:Int) then (if (bt a0 ac)=49 then (spec_l03End.l0 kj3 a0 (wrap64 (ac+1)) (wrap64 (aq+1))) else (spec_l03End.l0 kj3 a0 (wrap64 (ac+1)) (wrap64 (aq - 1)))) else (none)) else (none))=some r:=by rw [if_neg (show ¬ (false=true) by decide)] at H;exact H
  clear H;have H:=H1;clear H1;replace H:=ifs H;obtain ⟨c12,H⟩:=H;have bO:=dt c12;clear c12;replace H:=ifs H;obtain ⟨c13,H⟩:=H;have bP:=dt c13;clear c13;obtain c15|c15:=nem ((bt a0 ac)=49)
  ·rw [if_neg c15] at H;have bm:((bt a0 ac) == 49)=false:=beq_eq_false_iff_ne.mpr c15;have bo:((bt a0 ac) != 49)=true:=bne_iff_ne.mpr c15;have H':=ak H;clear H;have p14:0≤(ac:Int):=od q13_8;have q14:ac<(a0.size:Int):=od q13_8;have bp:=bt_at a0 ac;replace p14:=eq_true p14;replace q14:=eq_true q14;go_wp2
   go_roundg kj3
   case measure=>have:=HK1.out;have:=HJ3.out;omega
   case rel=>exact ⟨(wrap64 (ac+1)),(wrap64 (aq - 1)),q13_6,q13_6,H',⟨by have:=HK1.out;have:=HJ3.out;omega⟩,q13_7⟩
  rw [if_pos c15] at H;have bm:((bt a0 ac) == 49)=true:=beq_iff_eq.mpr c15;have bo:((bt a0 ac) != 49)=false:=bne_eq_false_iff_eq.mpr c15;clear c15;have H':=ak H;clear H;have p14:0≤(ac:Int):=od q13_8;have q14:ac<(a0.size:Int):=od q13_8;have bp:=bt_at a0 ac;replace p14:=eq_true p14;replace q14:=eq_true q14;go_wp2
  go_roundg kj3
  case measure=>have:=HK1.out;have:=HJ3.out;omega
  case rel=>exact ⟨(wrap64 (ac+1)),(wrap64 (aq+1)),q13_6,q13_6,H',⟨by have:=HK1.out;have:=HJ3.out;omega⟩,q13_7⟩
def spec_l03Sides.f (k:Nat) (a0:ByteArray):Option (ByteArray × ByteArray):=(spec_l03End.f k a0 1).bind fun t458=>(if 1≤t458 then (if t458≤(a0.size:Int) then (if 0≤t458 then (some (a0.extract 1 (t458:Int).toNat,a0.extract (t458:Int).toNat a0.size)) else (none)) else (none)) else (none))
theorem spec_l03Sides.calls (k:Nat) (a0:ByteArray) (r1:ByteArray) (r2:ByteArray) (w:World) (h:spec_l03Sides.f k a0=some (r1,r2)) :
  Calls Tryz.prog 114 #[.string a0] w fun e w'=>e=.returned (.tuple #[.string r1,.string r2])∧Drawn0 w w':=by
 have H:((spec_l03End.f k a0 1).bind fun ap=>(if 1≤ap then (if ap≤(a0.size:Int) then (if 0≤ap then (some (a0.extract 1 (ap:Int).toNat,a0.extract (ap:Int).toNat a0.size)) else (none)) else (none)) else (none)))=some (r1,r2):=h;clear h;replace H:=bs H;obtain ⟨ap,A2,H⟩:=H;(try dsimp only at H);replace H:=ifs H;obtain ⟨c3,H⟩:=H;have a4:=eq_true c3;have bQ:decide (1≤ap)=true:=decide_eq_true c3;clear c3;replace H:=ifs H;obtain ⟨c4,H⟩:=H;have bR:=eq_true c4;have bS:decide (ap≤(a0.size:Int))=true:=decide_eq_true c4;clear c4;replace H:=ifs H;obtain ⟨c5,H⟩:=H;have ax:=eq_true c5;have bq:decide (0≤ap)=true:=decide_eq_true c5;clear c5;have bj:=eq_true (od q13_8:ap≤(a0.size:Int));simp only [Option.some.injEq,Prod.mk.injEq] at H;obtain ⟨rfl,rfl⟩:=H
 go_enter Tryz.func114,Tryz.ntmps114
 iterate 4 ((try go_wp2_with (first|(go_at_call 113;(with_reducible refine (spec_l03End.calls k a0 1 ap _ A2.out).mono ?_);rintro e w' ⟨rfl,⟨nd,rfl⟩⟩;(try exact dn))));(try go_quiet (first|(go_at_call 113;(with_reducible refine (spec_l03End.calls k a0 1 ap _ A2.out).mono ?_);rintro e w' ⟨rfl,⟨nd,rfl⟩⟩;(try exact dn)))))
 go_ret2
 exact ⟨q13_6,q13_7⟩
def spec_l03Mirror.f:Nat→ByteArray→Option (ByteArray)
 | 0,_=>none
 | k+1,a0=>if a0.toList=([48]:List UInt8) then (some a0) else ((spec_l03Sides.f k a0).bind fun bt459=>((spec_l03Mirror.f k bt459.2).bind fun t461=>(if 1+t461.size≤9223372036854775807 then ((spec_l03Mirror.f k bt459.1).bind fun t462=>(if ((⟨#[49]⟩:ByteArray)++t461).size+t462.size≤9223372036854775807 then (some (((⟨#[49]⟩:ByteArray)++t461)++t462)) else (none))) else (none))))
theorem spec_l03Mirror.calls (k:Nat):∀ (a0:ByteArray) (r:ByteArray) (w:World) (h:spec_l03Mirror.f k a0=some r),
  Calls Tryz.prog 152 #[.string a0] w fun e w'=>e=.returned (.string r)∧Drawn0 w w':=by
 induction k using Nat.strongRecOn with
 | _ k ih =>
 intro a0 r w h
 cases k with
 | zero=>exact absurd h (by simp [spec_l03Mirror.f])
 | succ k =>
 simp only [spec_l03Mirror.f] at h;have H:(if a0.toList=([48]:List UInt8) then (some a0) else ((spec_l03Sides.f k a0).bind fun a5=>((spec_l03Mirror.f k a5.2).bind fun ar=>(if 1+ar.size≤9223372036854775807 then ((spec_l03Mirror.f k a5.1).bind fun ay=>(if ((⟨#[49]⟩:ByteArray)++ar).size+ay.size≤9223372036854775807 then (some (((⟨#[49]⟩:ByteArray)++ar)++ay)) else (none))) else (none)))))=some r:=h;clear h
 by_cases c2:a0.toList=([48]:List UInt8)
 ·rw [if_pos c2] at H;have br:(a0.toList == ([48]:List UInt8))=true:=beq_iff_eq.mpr c2;have bu:(a0.toList != ([48]:List UInt8))=false:=bne_eq_false_iff_eq.mpr c2;clear c2;obtain rfl:=Option.some.inj H
  go_enter Tryz.func152,Tryz.ntmps152
  go_wp2
  go_ret
  exact ⟨q13_6,q13_7⟩
 rw [if_neg c2] at H;have br:(a0.toList == ([48]:List UInt8))=false:=beq_eq_false_iff_ne.mpr c2;have bu:(a0.toList != ([48]:List UInt8))=true:=bne_iff_ne.mpr c2;replace H:=bs H;obtain ⟨⟨aL,aM⟩,A3,H⟩:=H;(try dsimp only at H);replace H:=bs H;obtain ⟨ar,A4,H⟩:=H;(try dsimp only at H);replace H:=ifs H;obtain ⟨c5,H⟩:=H;have ax:=eq_true c5;have bq:decide (1+ar.size≤9223372036854775807)=true:=decide_eq_true c5
 try have bT:(9223372036854775807<1+ar.size)=False:=eq_false (Nat.not_lt.2 c5)
 replace H:=bs H;obtain ⟨ay,A6,H⟩:=H;(try dsimp only at H);replace H:=ifs H;obtain ⟨c7,H⟩:=H;have aK:=eq_true c7;have a6:decide (((⟨#[49]⟩:ByteArray)++ar).size+ay.size≤9223372036854775807)=true:=decide_eq_true c7
 try have bv:(9223372036854775807<((⟨#[49]⟩:ByteArray)++ar).size+ay.size)=False:=eq_false (Nat.not_lt.2 c7)
 try have bU:(9223372036854775807<1+ar.size+ay.size)=False:=(by have h_:=bv;rw [ByteArray.size_append] at h_;exact h_)
 obtain rfl:=Option.some.inj H
 go_enter Tryz.func152,Tryz.ntmps152
 go_wp2_with (first|((with_reducible refine gate_callee (f:=114) rfl ?_);refine gl (some 10) Tryz.func114 #[.string a0] ?_;(with_reducible refine (spec_l03Sides.calls k a0 aL aM _ A3.out).mono ?_);rintro e w' ⟨rfl,⟨nd,rfl⟩⟩;refine ⟨_,rfl,?_⟩)|((with_reducible refine gate_callee (f:=152) rfl ?_);refine gl (some 14) Tryz.func152 #[.string aM] ?_;(with_reducible refine (ih k (by omega) aM ar _ A4.out).mono ?_);rintro e w' ⟨rfl,⟨nd,rfl⟩⟩;refine ⟨_,rfl,?_⟩)|((with_reducible refine gate_callee (f:=152) rfl ?_);refine gl (some 17) Tryz.func152 #[.string aL] ?_;(with_reducible refine (ih k (by omega) aL ay _ A6.out).mono ?_);rintro e w' ⟨rfl,⟨nd,rfl⟩⟩;refine ⟨_,rfl,?_⟩))
 go_ret
 exact ⟨q13_6,q13_7⟩
def spec_l03DrawOf.f (k:Nat) (s0_0:List Int) (s0_1:Int) (s0_2:Int) (a1:Int):Option (ByteArray × Int × Int):=(spec_l01DrawOf.f k s0_0 s0_1 s0_2 (wrap64 (a1+1))).bind fun bt463=>((spec_l01Children.f k bt463.1 0).bind fun t469=>((spec_l03Binary.f k bt463.1 t469).bind fun t472=>((spec_l01Next.f s0_0 bt463.2.1 bt463.2.2 2).bind fun bt473=>(if bt473.1=0 then ((spec_l03Mirror.f k t472).bind fun t476=>(some (t476,bt473.2.1,bt473.2.2))) else (some (t472,bt473.2.1,bt473.2.2))))))
theorem spec_l03DrawOf.calls (k:Nat) (g:Nat) (s0_0:List Int) (s0_1:Int) (s0_2:Int) (a1:Int) (r1:ByteArray) (r2:Int) (r3:Int) (w0 w:World) (hI:IsS90 w0 w g s0_0 s0_1 s0_2) (hB:Below w0.heap.size w0 w) (h:spec_l03DrawOf.f k s0_0 s0_1 s0_2 a1=some (r1,r2,r3)) :
  Calls Tryz.prog 138 #[.pointer (some ⟨g,0,none⟩),.int .i64 a1] w fun e w'=>e=.returned (.string r1)∧IsS90 w0 w' g s0_0 r2 r3∧Below w0.heap.size w0 w'∧KeepBut w w' g none:=by
 have hu27:=Tryz.underlying27;have HI0:=ak hI;have HK:=ak (KeepBut.refl w g none);have HL:=ak hB.size;clear hI;have HW0:=ak hB.size;have HB:=ak hB;clear hB;have H:((spec_l01DrawOf.f k s0_0 s0_1 s0_2 (wrap64 (a1+1))).bind fun aH=>((spec_l01Children.f k aH.1 0).bind fun aw=>((spec_l03Binary.f k aH.1 aw).bind fun az=>((spec_l01Next.f s0_0 aH.2.1 aH.2.2 2).bind fun aD=>(if aD.1=0 then ((spec_l03Mirror.f k az).bind fun aN=>(some (aN,aD.2.1,aD.2.2))) else (some (az,aD.2.1,aD.2.2)))))))=some (r1,r2,r3):=h;clear h;replace H:=bs H;obtain ⟨⟨ad,ag,ah⟩,A3,H⟩:=H;(try dsimp only at H);replace H:=bs H;obtain ⟨aw,A4,H⟩:=H;(try dsimp only at H);replace H:=bs H;obtain ⟨az,A5,H⟩:=H;(try dsimp only at H);replace H:=bs H;obtain ⟨⟨aE,a7,a8⟩,A6,H⟩:=H;(try dsimp only at H);obtain c7|c7:=nem (aE=0)
 ·rw [if_neg c7] at H;have aK:(aE == 0)=false:=beq_eq_false_iff_ne.mpr c7;have a6:(aE != 0)=true:=bne_iff_ne.mpr c7;simp only [Option.some.injEq,Prod.mk.injEq] at H;obtain ⟨rfl,rfl,rfl⟩:=H
  go_enter Tryz.func138,Tryz.ntmps138
  try go_wp2_with (first|((with_reducible refine gate_callee (f:=100) rfl ?_);refine gl (some 10) Tryz.func100 #[.pointer (some ⟨g,0,none⟩),.int .i64 (wrap64 (a1+1))] ?_;(with_reducible refine (spec_l01DrawOf.calls k g s0_0 s0_1 s0_2 (wrap64 (a1+1)) ad ag ah w0 _ ?side1 ?side2 A3.out).mono ?_);(case side1=>exact q13_1);(case side2=>exact q13_5);rintro e w20 ⟨bw,rfl,ho0,hi,hb,hk⟩;refine ⟨_,rfl,?_⟩;have aa:=ak (Kd.R_lower ho0 (keep_size (w:=w) (g:=g) (row:=none) q13_2));replace HK:=ak (KeepBut.trans q13_2 hk (.inl rfl));replace HB:=ak (hb);replace HI0:=ak (hi);(try clear hb hk hi ho0))|((with_reducible refine gate_dst (N:=5) rfl ?_);refine bev (N:=5) (cs:=#[.slice none 0 0]) (t:=27) ?_;intro ae hg w21 hbox hb;replace aa:=rb aa hb;replace HB:=ak (below_step q13_5 hb);have ab:=ak (hbox);have ai:=ak (q13_10:w.heap.size≤ae);have bx:=ak (Nat.le_trans HW0.out (q13_10:w.heap.size≤ae):w0.heap.size≤ae);replace HK:=ak (KeepBut.trans q13_2 (KeepBut.of_below hb g none) (.inl rfl));have aO:=ak (by rw [hg];exact Nat.ne_of_lt (IsS90.lt (show IsS90 w0 _ g s0_0 ag ah from q13_1)):g≠ae);have aF:=ak (by rw [hg];exact Nat.ne_of_gt (IsS90.lt (show IsS90 w0 _ g s0_0 ag ah from q13_1)):ae≠g);replace HI0:=ak (IsS90.below q13_1 hb);clear hb hbox hg;obtain ⟨aj,al,bz⟩:=Kd.R_slice aa.out;subst bz;have bV:=aF.out;have bW:=aO.out;have bX:=bc ab.out;have bY:=blk_frozen ab.out 0))
  have n0_:Aside0 (Kd.R (Kd.int .i64) 2 (w21.setCell ⟨ae,0,none⟩ (.slice aj ad.length al)) w.heap.size (fun _=>True) (.slice aj ad.length al) ad):=⟨pe (Kd.R_mono (Kd.R_far (p:=⟨ae,0,none⟩) (Kd.R_types aa.out ab.out dc) (fun _ hk=>hk.2) (.slice aj ad.length al)) (fun _ hk=>trivial))⟩;have n1_:Aside0 ((w21.setCell ⟨ae,0,none⟩ (.slice aj ad.length al)).heap[ae]?=some (.cells #[.slice aj ad.length al] 27 (0,0))):=⟨q13_11⟩;have n2_:Aside0 (IsS90 w0 (w21.setCell ⟨ae,0,none⟩ (.slice aj ad.length al)) g s0_0 ag ah):=⟨q13_0⟩;have n3_:Aside0 (KeepBut w (w21.setCell ⟨ae,0,none⟩ (.slice aj ad.length al)) g none):=⟨q13_4⟩;have n4_:Aside0 (Below w0.heap.size w0 (w21.setCell ⟨ae,0,none⟩ (.slice aj ad.length al))):=⟨q13_3⟩;(try clear aa);(try clear ab);(try clear HI0);(try clear HK);(try clear HB);generalize (w21.setCell ⟨ae,0,none⟩ (.slice aj ad.length al))=w25 at n0_ n1_ n2_ n3_ n4_ ⊢;have aa:=n0_;have ab:=n1_;have HI0:=n2_;have HK:=n3_;have HB:=n4_;clear n0_ n1_ n2_ n3_ n4_;have n0_:=ak (Kd.R_drew aa.out);have n1_:=ak (blk_drew ab.out);have n2_:=ak (IsS90.drew HI0.out);have n3_:=ak (keep_drew HK.out);have n4_:=ak (below_drew1 HB.out);clear aa ab HI0 HK HB;have aa:=n0_;have ab:=n1_;have HI0:=n2_;have HK:=n3_;have HB:=n4_;clear n0_ n1_ n2_ n3_ n4_
  refine start_ (n:=5) (S:=fun w'=>w'.cell? ⟨ae,0,none⟩=some (.slice aj ad.length al)) (ds:=[]) #[false,false,false,false,false] kr rfl rfl ((blk_cell ab.out 0).trans rfl) (fun hHeld=>?_)
  generalize w25.drew=w26 at aa ab HI0 HK HB hHeld ⊢
  refine take_ (i:=0) (N:=some 11) (v:=?_) (a':=?_) #[true,false,false,false,false] rfl rfl kr (fun _ _ _ h=>h) (Or.inl ⟨by rfl,?_⟩) hHeld ?_ ?_
  rotate_left
  ·intro w' s0
   go_simp
   with_reducible rfl
  rotate_left
  ·simp only [Act.put,sIB,sc0,scs,i64_w,i32_w]
   rfl
  refine take_ (i:=1) (N:=some 12) (v:=?_) (a':=?_) #[true,true,false,false,false] rfl rfl kr (fun _ _ _ h=>h) (Or.inl ⟨by rfl,?_⟩) hHeld ?_ ?_
  rotate_left
  ·intro w' s0
   go_simp
   with_reducible rfl
  rotate_left
  ·simp only [Act.put,sIB,sc0,scs,i64_w,i32_w]
   rfl
  refine one_ (i:=2) (N:=some 13) #[true,true,true,false,false] rfl rfl kr dc (fun K hK=>?_)
  refine goes_ Tryz.func81 kr rfl #[.agg #[.slice aj ad.length al],.int .i64 0] (by rfl) rfl rfl am ?_
  with_reducible refine (spec_l01Children.calls k _ _ ad 0 aw _ ?side1 ?side2 A4.out).mono ?_
  (case side1=>exact pc ((Kd.R_reads' aa.out).2.2))
  (case side2=>exact (Kd.R_reads' aa.out).2.1)
  rintro e w27 ⟨bA,rfl,ho0,hb⟩
  refine ⟨_,rfl,?_⟩
  have n0_:=rn aa ho0 hb;have n1_:=ak (Kd.R_lower (nw ho0 aa) (keep_size (w:=w) (g:=g) (row:=none) q13_4));have n2_:=ak (IsS90.below q13_0 hb);have n3_:=bb ab hb;have n4_:=ak (KeepBut.trans q13_4 (KeepBut.of_below hb g none) (.inl rfl));have n5_:=ak (below_step q13_3 hb);clear aa HI0 ab HK HB;have aa:=n0_;have af:=n1_;have HI0:=n2_;have ab:=n3_;have HK:=n4_;have HB:=n5_;clear n0_ n1_ n2_ n3_ n4_ n5_;(try clear hb);(try clear hb2);(try clear hk);(try clear hi);(try clear ho0);obtain ⟨bB,bC,a9⟩:=Kd.R_slice af.out;(first|subst a9|(injection a9 with f1_ f2_ f3_;have f4_:=f1_.symm;have f5_:=f3_.symm;clear f1_ f2_ f3_;subst f4_;subst f5_))
  refine hK.out _ _ ((blk_cell ab.out 0).trans rfl) (fun hHeld=>?_)
  clear hK K
  refine norm_ (a':=?_) ?_ ?_
  rotate_left
  ·show Act.put _ (some 13) _=_;simp only [Act.put,sIB,sc0,scs,i64_w,i32_w]
   rfl
  refine one_ (i:=3) (N:=some 14) #[true,true,true,true,false] rfl rfl kr dc (fun K hK=>?_)
  refine goes_ Tryz.func151 kr rfl #[.agg #[.slice aj ad.length al],.slice bB aw.length bC] (by rfl) rfl rfl am ?_
  with_reducible refine (spec_l03Binary.calls k _ _ ad _ _ aw az _ ?side1 ?side2 ?side3 ?side4 A5.out).mono ?_
  (case side1=>exact pc ((Kd.R_reads' aa.out).2.2))
  (case side2=>exact (Kd.R_reads' aa.out).2.1)
  (case side3=>exact pc ((Kd.R_reads' af.out).2.2))
  (case side4=>exact (Kd.R_reads' af.out).2.1)
  rintro e w29 ⟨rfl,hb⟩
  refine ⟨_,rfl,?_⟩
  have n0_:=rb aa hb;have n1_:=rb af hb;have n2_:=ak (IsS90.below q13_0 hb);have n3_:=bb ab hb;have n4_:=ak (KeepBut.trans q13_4 (KeepBut.of_below hb g none) (.inl rfl));have n5_:=ak (below_step q13_3 hb);clear aa af HI0 ab HK HB;have aa:=n0_;have af:=n1_;have HI0:=n2_;have ab:=n3_;have HK:=n4_;have HB:=n5_;clear n0_ n1_ n2_ n3_ n4_ n5_;(try clear hb);(try clear hb2);(try clear hk);(try clear hi)
  refine hK.out _ _ ((blk_cell ab.out 0).trans rfl) (fun hHeld=>?_)
  clear hK K
  refine norm_ (a':=?_) ?_ ?_
  rotate_left
  ·show Act.put _ (some 14) _=_;simp only [Act.put,sIB,sc0,scs,i64_w,i32_w]
   rfl
  refine pure_ (i:=4) (N:=some 6) (v:=?_) (a':=?_) #[true,true,true,true,true] rfl rfl kr (fun _ _ _ h=>h) (Or.inl ⟨by rfl,?_⟩) ?_ ?_
  rotate_left
  ·intro w'
   go_simp
   with_reducible rfl
  rotate_left
  ·simp only [Act.put,sIB,sc0,scs,i64_w,i32_w]
   rfl
  refine done_ kr ?_
  try go_wp2_with (first|((with_reducible refine gate_callee (f:=50) rfl ?_);refine gl (some 16) Tryz.func50 #[.pointer (some ⟨g,0,none⟩),.int .i64 2] ?_;(with_reducible refine (spec_l01Next.calls g s0_0 ag ah 2 aE a7 a8 w0 _ ?side1 ?side2 A6.out).mono ?_);(case side1=>exact q13_0);(case side2=>exact q13_3);rintro e w30 ⟨rfl,hi,hb,hk⟩;refine ⟨_,rfl,?_⟩;replace aa:=ak (Kd.R_mono (Kd.R_keep (IsS90.apart (show IsS90 w0 _ g s0_0 ag ah from q13_0) (pe aa.out) dc) hk (fun _ h=>h.2)) (fun _ h=>h.1));replace ab:=ak (KeepBut.blk hk (g':=ae) (o:=.cells #[.slice aj ad.length al] 27 (0,0)) (pb ab.out) aF.out (by simp));replace af:=ak (Kd.R_mono (Kd.R_keep (IsS90.apart (show IsS90 w0 _ g s0_0 ag ah from q13_0) (pe af.out) dc) hk (fun _ h=>h.2)) (fun _ h=>h.1));replace HK:=ak (KeepBut.trans q13_4 hk (.inl rfl));replace HB:=ak (hb);replace HI0:=ak (hi);(try clear hb hk hi)))
  go_ret
  exact ⟨ew,q13_0,q13_3,q13_4⟩
 rw [if_pos c7] at H;have aK:=be c7;have a6:=bn c7;clear c7;replace H:=bs H;obtain ⟨aN,A8,H⟩:=H;(try dsimp only at H);simp only [Option.some.injEq,Prod.mk.injEq] at H;obtain ⟨rfl,rfl,rfl⟩:=H
 go_enter Tryz.func138,Tryz.ntmps138
 try go_wp2_with (first|((with_reducible refine gate_callee (f:=100) rfl ?_);refine gl (some 10) Tryz.func100 #[.pointer (some ⟨g,0,none⟩),.int .i64 (wrap64 (a1+1))] ?_;(with_reducible refine (spec_l01DrawOf.calls k g s0_0 s0_1 s0_2 (wrap64 (a1+1)) ad ag ah w0 _ ?side1 ?side2 A3.out).mono ?_);(case side1=>exact q13_1);(case side2=>exact q13_5);rintro e w9 ⟨bw,rfl,ho0,hi,hb,hk⟩;refine ⟨_,rfl,?_⟩;have aa:=ak (Kd.R_lower ho0 (keep_size (w:=w) (g:=g) (row:=none) q13_2));replace HK:=ak (KeepBut.trans q13_2 hk (.inl rfl));replace HB:=ak (hb);replace HI0:=ak (hi);(try clear hb hk hi ho0))|((with_reducible refine gate_dst (N:=5) rfl ?_);refine bev (N:=5) (cs:=#[.slice none 0 0]) (t:=27) ?_;intro ae hg w10 hbox hb;replace aa:=rb aa hb;replace HB:=ak (below_step q13_5 hb);have ab:=ak (hbox);have ai:=ak (q13_10:w.heap.size≤ae);have bx:=ak (Nat.le_trans HW0.out (q13_10:w.heap.size≤ae):w0.heap.size≤ae);replace HK:=ak (KeepBut.trans q13_2 (KeepBut.of_below hb g none) (.inl rfl));have aO:=ak (by rw [hg];exact Nat.ne_of_lt (IsS90.lt (show IsS90 w0 _ g s0_0 ag ah from q13_1)):g≠ae);have aF:=ak (by rw [hg];exact Nat.ne_of_gt (IsS90.lt (show IsS90 w0 _ g s0_0 ag ah from q13_1)):ae≠g);replace HI0:=ak (IsS90.below q13_1 hb);clear hb hbox hg;obtain ⟨an,ao,bD⟩:=Kd.R_slice aa.out;subst bD;have bZ:=aF.out;have b0:=aO.out;have b1:=bc ab.out;have b2:=blk_frozen ab.out 0))
 have n0_:Aside0 (Kd.R (Kd.int .i64) 2 (w10.setCell ⟨ae,0,none⟩ (.slice an ad.length ao)) w.heap.size (fun _=>True) (.slice an ad.length ao) ad):=⟨pe (Kd.R_mono (Kd.R_far (p:=⟨ae,0,none⟩) (Kd.R_types aa.out ab.out dc) (fun _ hk=>hk.2) (.slice an ad.length ao)) (fun _ hk=>trivial))⟩;have n1_:Aside0 ((w10.setCell ⟨ae,0,none⟩ (.slice an ad.length ao)).heap[ae]?=some (.cells #[.slice an ad.length ao] 27 (0,0))):=⟨q13_11⟩;have n2_:Aside0 (IsS90 w0 (w10.setCell ⟨ae,0,none⟩ (.slice an ad.length ao)) g s0_0 ag ah):=⟨q13_0⟩;have n3_:Aside0 (KeepBut w (w10.setCell ⟨ae,0,none⟩ (.slice an ad.length ao)) g none):=⟨q13_4⟩;have n4_:Aside0 (Below w0.heap.size w0 (w10.setCell ⟨ae,0,none⟩ (.slice an ad.length ao))):=⟨q13_3⟩;(try clear aa);(try clear ab);(try clear HI0);(try clear HK);(try clear HB);generalize (w10.setCell ⟨ae,0,none⟩ (.slice an ad.length ao))=w14 at n0_ n1_ n2_ n3_ n4_ ⊢;have aa:=n0_;have ab:=n1_;have HI0:=n2_;have HK:=n3_;have HB:=n4_;clear n0_ n1_ n2_ n3_ n4_;have n0_:=ak (Kd.R_drew aa.out);have n1_:=ak (blk_drew ab.out);have n2_:=ak (IsS90.drew HI0.out);have n3_:=ak (keep_drew HK.out);have n4_:=ak (below_drew1 HB.out);clear aa ab HI0 HK HB;have aa:=n0_;have ab:=n1_;have HI0:=n2_;have HK:=n3_;have HB:=n4_;clear n0_ n1_ n2_ n3_ n4_
 refine start_ (n:=5) (S:=fun w'=>w'.cell? ⟨ae,0,none⟩=some (.slice an ad.length ao)) (ds:=[]) #[false,false,false,false,false] kr rfl rfl ((blk_cell ab.out 0).trans rfl) (fun hHeld=>?_)
 generalize w14.drew=w15 at aa ab HI0 HK HB hHeld ⊢
 refine take_ (i:=0) (N:=some 11) (v:=?_) (a':=?_) #[true,false,false,false,false] rfl rfl kr (fun _ _ _ h=>h) (Or.inl ⟨by rfl,?_⟩) hHeld ?_ ?_
 rotate_left
 ·intro w' s0
  go_simp
  with_reducible rfl
 rotate_left
 ·simp only [Act.put,sIB,sc0,scs,i64_w,i32_w]
  rfl
 refine take_ (i:=1) (N:=some 12) (v:=?_) (a':=?_) #[true,true,false,false,false] rfl rfl kr (fun _ _ _ h=>h) (Or.inl ⟨by rfl,?_⟩) hHeld ?_ ?_
 rotate_left
 ·intro w' s0
  go_simp
  with_reducible rfl
 rotate_left
 ·simp only [Act.put,sIB,sc0,scs,i64_w,i32_w]
  rfl
 refine one_ (i:=2) (N:=some 13) #[true,true,true,false,false] rfl rfl kr dc (fun K hK=>?_)
 refine goes_ Tryz.func81 kr rfl #[.agg #[.slice an ad.length ao],.int .i64 0] (by rfl) rfl rfl am ?_
 with_reducible refine (spec_l01Children.calls k _ _ ad 0 aw _ ?side1 ?side2 A4.out).mono ?_
 (case side1=>exact pc ((Kd.R_reads' aa.out).2.2))
 (case side2=>exact (Kd.R_reads' aa.out).2.1)
 rintro e w16 ⟨bA,rfl,ho0,hb⟩
 refine ⟨_,rfl,?_⟩
 have n0_:=rn aa ho0 hb;have n1_:=ak (Kd.R_lower (nw ho0 aa) (keep_size (w:=w) (g:=g) (row:=none) q13_4));have n2_:=ak (IsS90.below q13_0 hb);have n3_:=bb ab hb;have n4_:=ak (KeepBut.trans q13_4 (KeepBut.of_below hb g none) (.inl rfl));have n5_:=ak (below_step q13_3 hb);clear aa HI0 ab HK HB;have aa:=n0_;have af:=n1_;have HI0:=n2_;have ab:=n3_;have HK:=n4_;have HB:=n5_;clear n0_ n1_ n2_ n3_ n4_ n5_;(try clear hb);(try clear hb2);(try clear hk);(try clear hi);(try clear ho0);obtain ⟨bE,bF,ba⟩:=Kd.R_slice af.out;(first|subst ba|(injection ba with f1_ f2_ f3_;have f4_:=f1_.symm;have f5_:=f3_.symm;clear f1_ f2_ f3_;subst f4_;subst f5_))
 refine hK.out _ _ ((blk_cell ab.out 0).trans rfl) (fun hHeld=>?_)
 clear hK K
 refine norm_ (a':=?_) ?_ ?_
 rotate_left
 ·show Act.put _ (some 13) _=_;simp only [Act.put,sIB,sc0,scs,i64_w,i32_w]
  rfl
 refine one_ (i:=3) (N:=some 14) #[true,true,true,true,false] rfl rfl kr dc (fun K hK=>?_)
 refine goes_ Tryz.func151 kr rfl #[.agg #[.slice an ad.length ao],.slice bE aw.length bF] (by rfl) rfl rfl am ?_
 with_reducible refine (spec_l03Binary.calls k _ _ ad _ _ aw az _ ?side1 ?side2 ?side3 ?side4 A5.out).mono ?_
 (case side1=>exact pc ((Kd.R_reads' aa.out).2.2))
 (case side2=>exact (Kd.R_reads' aa.out).2.1)
 (case side3=>exact pc ((Kd.R_reads' af.out).2.2))
 (case side4=>exact (Kd.R_reads' af.out).2.1)
 rintro e w18 ⟨rfl,hb⟩
 refine ⟨_,rfl,?_⟩
 have n0_:=rb aa hb;have n1_:=rb af hb;have n2_:=ak (IsS90.below q13_0 hb);have n3_:=bb ab hb;have n4_:=ak (KeepBut.trans q13_4 (KeepBut.of_below hb g none) (.inl rfl));have n5_:=ak (below_step q13_3 hb);clear aa af HI0 ab HK HB;have aa:=n0_;have af:=n1_;have HI0:=n2_;have ab:=n3_;have HK:=n4_;have HB:=n5_;clear n0_ n1_ n2_ n3_ n4_ n5_;(try clear hb);(try clear hb2);(try clear hk);(try clear hi)
 refine hK.out _ _ ((blk_cell ab.out 0).trans rfl) (fun hHeld=>?_)
 clear hK K
 refine norm_ (a':=?_) ?_ ?_
 rotate_left
 ·show Act.put _ (some 14) _=_;simp only [Act.put,sIB,sc0,scs,i64_w,i32_w]
  rfl
 refine pure_ (i:=4) (N:=some 6) (v:=?_) (a':=?_) #[true,true,true,true,true] rfl rfl kr (fun _ _ _ h=>h) (Or.inl ⟨by rfl,?_⟩) ?_ ?_
 rotate_left
 ·intro w'
  go_simp
  with_reducible rfl
 rotate_left
 ·simp only [Act.put,sIB,sc0,scs,i64_w,i32_w]
  rfl
 refine done_ kr ?_
 try go_wp2_with (first|((with_reducible refine gate_callee (f:=50) rfl ?_);refine gl (some 16) Tryz.func50 #[.pointer (some ⟨g,0,none⟩),.int .i64 2] ?_;(with_reducible refine (spec_l01Next.calls g s0_0 ag ah 2 aE a7 a8 w0 _ ?side1 ?side2 A6.out).mono ?_);(case side1=>exact q13_0);(case side2=>exact q13_3);rintro e w19 ⟨rfl,hi,hb,hk⟩;refine ⟨_,rfl,?_⟩;replace aa:=ak (Kd.R_mono (Kd.R_keep (IsS90.apart (show IsS90 w0 _ g s0_0 ag ah from q13_0) (pe aa.out) dc) hk (fun _ h=>h.2)) (fun _ h=>h.1));replace ab:=ak (KeepBut.blk hk (g':=ae) (o:=.cells #[.slice an ad.length ao] 27 (0,0)) (pb ab.out) aF.out (by simp));replace af:=ak (Kd.R_mono (Kd.R_keep (IsS90.apart (show IsS90 w0 _ g s0_0 ag ah from q13_0) (pe af.out) dc) hk (fun _ h=>h.2)) (fun _ h=>h.1));replace HK:=ak (KeepBut.trans q13_4 hk (.inl rfl));replace HB:=ak (hb);replace HI0:=ak (hi);(try clear hb hk hi))|((with_reducible refine gate_callee (f:=152) rfl ?_);refine gl (some 19) Tryz.func152 #[.string az] ?_;(with_reducible refine (spec_l03Mirror.calls k az aN _ A8.out).mono ?_);rintro e w' ⟨rfl,⟨nd,rfl⟩⟩;refine ⟨_,rfl,?_⟩))
 go_ret
 exact ⟨ew,q13_0,q13_3,q13_4⟩
def spec_l03Draw.f (k:Nat) (s0_0:List Int) (s0_1:Int) (s0_2:Int):Option (ByteArray × Int × Int):=(spec_l01Pick.f s0_0 s0_1 s0_2 ([5,9,24]:List Int)).bind fun bt480=>((spec_l01Next.f s0_0 bt480.2.1 bt480.2.2 bt480.1).bind fun bt483=>((spec_l03DrawOf.f k s0_0 bt483.2.1 bt483.2.2 bt483.1).bind fun bt486=>(some (bt486.1,bt486.2.1,bt486.2.2))))
theorem spec_l03Draw.calls (k:Nat) (g:Nat) (s0_0:List Int) (s0_1:Int) (s0_2:Int) (r1:ByteArray) (r2:Int) (r3:Int) (w0 w:World) (hI:IsS90 w0 w g s0_0 s0_1 s0_2) (hB:Below w0.heap.size w0 w) (h:spec_l03Draw.f k s0_0 s0_1 s0_2=some (r1,r2,r3)) :
  Calls Tryz.prog 112 #[.pointer (some ⟨g,0,none⟩)] w fun e w'=>e=.returned (.string r1)∧IsS90 w0 w' g s0_0 r2 r3∧Below w0.heap.size w0 w'∧KeepBut w w' g none:=by
 have HI0:=ak hI;have HK:=ak (KeepBut.refl w g none);have HL:=ak hB.size;clear hI;have HW0:=ak hB.size;have HB:=ak hB;clear hB;have H:((spec_l01Pick.f s0_0 s0_1 s0_2 ([5,9,24]:List Int)).bind fun aA=>((spec_l01Next.f s0_0 aA.2.1 aA.2.2 aA.1).bind fun aB=>((spec_l03DrawOf.f k s0_0 aB.2.1 aB.2.2 aB.1).bind fun aC=>(some (aC.1,aC.2.1,aC.2.2)))))=some (r1,r2,r3):=h;clear h;obtain ⟨aP,hY⟩:∃ y_:List Int,y_=([5,9,24]:List Int):=⟨_,rfl⟩;replace H:((spec_l01Pick.f s0_0 s0_1 s0_2 aP).bind fun aA=>((spec_l01Next.f s0_0 aA.2.1 aA.2.2 aA.1).bind fun aB=>((spec_l03DrawOf.f k s0_0 aB.2.1 aB.2.2 aB.1).bind fun aC=>(some (aC.1,aC.2.1,aC.2.2)))))=some (r1,r2,r3):=hh;have bd:=ak hY;clear hY;replace H:=bs H;obtain ⟨⟨aQ,aR,aS⟩,A2,H⟩:=H;(try dsimp only at H);replace H:=bs H;obtain ⟨⟨aT,aU,aV⟩,A3,H⟩:=H;(try dsimp only at H);replace H:=bs H;obtain ⟨⟨bG,bH,bI⟩,A4,H⟩:=H;(try dsimp only at H);simp only [Option.some.injEq,Prod.mk.injEq] at H;obtain ⟨rfl,rfl,rfl⟩:=H
 go_enter Tryz.func112,Tryz.ntmps112
 go_wp2_with (first|((with_reducible refine gate_dst (N:=6) rfl ?_);refine Kd.R_lit (Kd.int .i64) _ 2 ?hg (N:=6) ?hd (xs:=([5,9,24]:List Int)) (inner:=[.int .i64 5,.int .i64 9,.int .i64 24]) (ok:=fun _=>True) (okp:=fun _=>True) ?hr ?hp (fun _ hk=>hk) trivial (Below.refl _ _) (Nat.le_refl _) (by simp) ?_;(case hd=>rfl);(case hg=>rfl);(case hr=>exact gs);(case hp=>exact (Reps.one (show Kd.M (Kd.int .i64) _ _ _ 5 [.int .i64 5] from rfl) (Reps.one (show Kd.M (Kd.int .i64) _ _ _ 9 [.int .i64 9] from rfl) (Reps.one (show Kd.M (Kd.int .i64) _ _ _ 24 [.int .i64 24] from rfl) (Reps.none _ _)))));intro b3 w5 ho6 hb hg_ hnew_;clear hg_ hnew_;(first|rw [← bd.out] at ho6|(simp only [Int.reduceToNat] at ho6;rw [← bd.out] at ho6));have au:=ak (Kd.R_lower ho6 (keep_size (w:=w) (g:=g) (row:=none) q13_2));replace HK:=ak (KeepBut.trans q13_2 (KeepBut.of_below hb g none) (.inl rfl));replace HB:=ak (below_step q13_5 hb);replace HI0:=ak (IsS90.below q13_1 hb);clear hb ho6;obtain ⟨Ao7,co7,eo7⟩:=Kd.R_slice au.out;subst eo7)|((with_reducible refine gate_callee (f:=51) rfl ?_);refine gl (some 7) Tryz.func51 #[.pointer (some ⟨g,0,none⟩),.slice Ao7 aP.length co7] ?_;(with_reducible refine (spec_l01Pick.calls g s0_0 s0_1 s0_2 _ _ aP aQ aR aS w0 _ ?side1 ?side2 (pc ((Kd.R_reads' au.out).2.2)) (Kd.R_reads' au.out).2.1 ?side5 A2.out).mono ?_);(case side1=>exact q13_1);(case side2=>exact q13_5);(case side5=>exact far_slice (IsS90.own_ne HI0.out au.out dc));rintro e w8 ⟨rfl,hi,hb,hk⟩;refine ⟨_,rfl,?_⟩;replace au:=ak (Kd.R_mono (Kd.R_keep (IsS90.apart (show IsS90 w0 _ g s0_0 s0_1 s0_2 from q13_1) (pe au.out) dc) hk (fun _ h=>h.2)) (fun _ h=>h.1));replace HK:=ak (KeepBut.trans q13_2 hk (.inl rfl));replace HB:=ak (hb);replace HI0:=ak (hi);(try clear hb hk hi))|((with_reducible refine gate_callee (f:=50) rfl ?_);refine gl (some 8) Tryz.func50 #[.pointer (some ⟨g,0,none⟩),.int .i64 aQ] ?_;(with_reducible refine (spec_l01Next.calls g s0_0 aR aS aQ aT aU aV w0 _ ?side1 ?side2 A3.out).mono ?_);(case side1=>exact q13_1);(case side2=>exact q13_5);rintro e w9 ⟨rfl,hi,hb,hk⟩;refine ⟨_,rfl,?_⟩;replace au:=ak (Kd.R_mono (Kd.R_keep (IsS90.apart (show IsS90 w0 _ g s0_0 aR aS from q13_1) (pe au.out) dc) hk (fun _ h=>h.2)) (fun _ h=>h.1));replace HK:=ak (KeepBut.trans q13_2 hk (.inl rfl));replace HB:=ak (hb);replace HI0:=ak (hi);(try clear hb hk hi))|((with_reducible refine gate_callee (f:=138) rfl ?_);refine gl (some 9) Tryz.func138 #[.pointer (some ⟨g,0,none⟩),.int .i64 aT] ?_;(with_reducible refine (spec_l03DrawOf.calls k g s0_0 aU aV aT bG bH bI w0 _ ?side1 ?side2 A4.out).mono ?_);(case side1=>exact q13_1);(case side2=>exact q13_5);rintro e w10 ⟨rfl,hi,hb,hk⟩;refine ⟨_,rfl,?_⟩;replace au:=ak (Kd.R_mono (Kd.R_keep (IsS90.apart (show IsS90 w0 _ g s0_0 aU aV from q13_1) (pe au.out) dc) hk (fun _ h=>h.2)) (fun _ h=>h.1));replace HK:=ak (KeepBut.trans q13_2 hk (.inl rfl));replace HB:=ak (hb);replace HI0:=ak (hi);(try clear hb hk hi)))
 go_ret
 exact ⟨ew,q13_1,q13_5,q13_2⟩
def spec_l03Spoil.f (k:Nat) (l0:List Int):Option (ByteArray):=(spec_l01From.f k l0).bind fun bt489=>((spec_l03Draw.f k bt489.1 bt489.2.1 bt489.2.2).bind fun bt493=>((spec_l03Bad.f bt489.1 bt493.2.1 bt493.2.2 bt493.1).bind fun bt496=>(some bt496.1)))
theorem spec_l03Spoil.calls (k:Nat) (A0:Option Addr) (c0:Nat) (l0:List Int) (r:ByteArray) (w:World) (hr0:Kd.C (Kd.int .u8) w A0 l0.length l0) (hc0:l0.length≤c0) (h:spec_l03Spoil.f k l0=some r) :
  Calls Tryz.prog 73 #[.slice A0 l0.length c0] w fun e w'=>e=.returned (.string r)∧Below w.heap.size w w':=by
 have HR0:=ak hr0;have HC0:=ak hc0;clear hr0 hc0;have HB:=ak (Below.refl w.heap.size w);have H:((spec_l01From.f k l0).bind fun aI=>((spec_l03Draw.f k aI.1 aI.2.1 aI.2.2).bind fun aW=>((spec_l03Bad.f aI.1 aW.2.1 aW.2.2 aW.1).bind fun bJ=>(some bJ.1))))=some r:=h;clear h;replace H:=bs H;obtain ⟨⟨aX,bf,bg⟩,A2,H⟩:=H;(try dsimp only at H);replace H:=bs H;obtain ⟨⟨aY,bh,bi⟩,A3,H⟩:=H;(try dsimp only at H);replace H:=bs H;obtain ⟨⟨bK,bL,bM⟩,A4,H⟩:=H;(try dsimp only at H);obtain rfl:=Option.some.inj H
 go_enter Tryz.func73,Tryz.ntmps73
 go_wp2_with (first|((with_reducible refine gate_callee (f:=49) rfl ?_);refine gl (some 5) Tryz.func49 #[.slice A0 l0.length c0] ?_;(with_reducible refine (spec_l01From.calls k _ _ l0 aX bf bg w _ ?side1 HR0.out HC0.out A2.out).mono ?_);(case side1=>exact hq);rintro e w5 ⟨aJ,rfl,hi,hb,hb2⟩;refine ⟨_,rfl,?_⟩;replace HB:=ak (hb);have av:=ak (hi);(try clear hb hb2 hi))|((with_reducible refine gate_callee (f:=112) rfl ?_);refine gl (some 8) Tryz.func112 #[.pointer (some ⟨aJ,0,none⟩)] ?_;(with_reducible refine (spec_l03Draw.calls k aJ aX bf bg aY bh bi w _ ?side1 ?side2 A3.out).mono ?_);(case side1=>exact q13_12);(case side2=>exact q13_9);rintro e w6 ⟨rfl,hi,hb,hk⟩;refine ⟨_,rfl,?_⟩;replace HB:=ak (hb);replace av:=ak (hi);(try clear hb hk hi))|((with_reducible refine gate_callee (f:=111) rfl ?_);refine gl (some 9) Tryz.func111 #[.pointer (some ⟨aJ,0,none⟩),.string aY] ?_;(with_reducible refine (spec_l03Bad.calls aJ aX bh bi aY bK bL bM w _ ?side1 ?side2 A4.out).mono ?_);(case side1=>exact q13_12);(case side2=>exact q13_9);rintro e w7 ⟨rfl,hi,hb,hk⟩;refine ⟨_,rfl,?_⟩;replace HB:=ak (hb);replace av:=ak (hi);(try clear hb hk hi)))
 go_ret
 exact ⟨ew,q13_9⟩
def spec_DrawListOfDecreasing.f (k:Nat) (l0:List Int):Option (ByteArray):=(spec_l03Spoil.f k l0).bind fun t499=>(some t499)
theorem spec_DrawListOfDecreasing.calls (k:Nat) (A0:Option Addr) (c0:Nat) (l0:List Int) (r:ByteArray) (w:World) (hr0:Kd.C (Kd.int .u8) w A0 l0.length l0) (hc0:l0.length≤c0) (h:spec_DrawListOfDecreasing.f k l0=some r) :
  Calls Tryz.prog 18 #[.slice A0 l0.length c0] w fun e w'=>e=.returned (.string r)∧Below w.heap.size w w':=by
 have HR0:=ak hr0;have HC0:=ak hc0;clear hr0 hc0;have HB:=ak (Below.refl w.heap.size w);have H:((spec_l03Spoil.f k l0).bind fun aZ=>(some aZ))=some r:=h;clear h;replace H:=bs H;obtain ⟨aZ,A2,H⟩:=H;(try dsimp only at H);obtain rfl:=Option.some.inj H
 go_enter Tryz.func18,Tryz.ntmps18
 go_wp2_with (first|((with_reducible refine gate_callee (f:=73) rfl ?_);refine gl (some 4) Tryz.func73 #[.slice A0 l0.length c0] ?_;(with_reducible refine (spec_l03Spoil.calls k _ _ l0 aZ _ (pc (HR0.out)) HC0.out A2.out).mono ?_);rintro e w3 ⟨rfl,hb⟩;refine ⟨_,rfl,?_⟩;replace HB:=hbs hb;(try clear hb)))
 go_ret
 exact ⟨ew,hq⟩
end Go.Proofs.YtlppkilencpmeaaGreat.QFnGrowth
