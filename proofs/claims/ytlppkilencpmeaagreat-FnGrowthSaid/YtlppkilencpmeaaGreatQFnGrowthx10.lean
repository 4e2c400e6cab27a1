/- Functions as Lean functions, with their contracts: written by a program of this claim over the translation; some contracts are proved by hand. -/
import Derived.Test.YtlppkilencpmeaaGreatQFnGrowthx0
namespace Go.Proofs.YtlppkilencpmeaaGreat.QFnGrowth
open Go.RowKit Go.Proofs.YtlppkilencpmeaaGreat.Gl Go.Proofs.YtlppkilencpmeaaGreat.Sz Go.Proofs.YtlppkilencpmeaaGreatW.PrintWords Go.Proofs.YtlppkilencpmeaaGreatW.PrintLast Go.Proofs.YtlppkilencpmeaaGreatW.PrintMore
attribute [local go_sem] max2_int min2_int max_two min_two max_three min_three max_four min_four   -- for this text's walks alone
set_option linter.unusedVariables false
set_option linter.unusedSimpArgs false
theorem q10_0 {P:Prop} (h:P:=by repeat (first|exact Drawn0.refl _|apply Drawn0.step)):P:=h
theorem q10_1 {P:Prop} (h:P:=by first|rfl|(simp;done)|(simp [*];done)):P:=h
theorem q10_2 {P:Prop} (h:P:=by first|(with_reducible assumption)|assumption):P:=h
theorem q10_3 {P:Prop} (h:P:=by first|exact Kd.R_nil _ _ _ _ _|exact Kd.N_nil _ _ _ _ _|exact Kd.V_nil _ _ _ _ _|exact Kd.Q_nil _ _ _ _ _|exact Kd.S_nil _ _ _ _ _):P:=h
set_option maxHeartbeats 8000000
set_option maxRecDepth 100000
mutual
def impl_endBinary.l0:Nat→ByteArray→Int→Option (ByteArray × Bool)
 | 0,_,_=>none
 | k+1,x0,x4=>if x4>0 then (if x0.toList=([]:List UInt8) then (impl_endBinary.j1 k x0 x4 true) else (if 0<(x0.size:Int) then (if (bt x0 0)=48 then (impl_endBinary.j1 k x0 x4 false) else (impl_endBinary.j1 k x0 x4 ((bt x0 0) != 49))) else (none))) else (some (x0,true))
def impl_endBinary.j1:Nat→ByteArray→Int→Bool→Option (ByteArray × Bool)
 | 0,_,_,_=>none
 | k+1,x0,x4,x9=>if x9=true then (some ((⟨#[]⟩:ByteArray),false)) else (if 0<(x0.size:Int) then (if (bt x0 0)=49 then (if 1≤(x0.size:Int) then (impl_endBinary.l0 k (x0.extract 1 x0.size) (wrap64 (x4+1))) else (none)) else (if 1≤(x0.size:Int) then (impl_endBinary.l0 k (x0.extract 1 x0.size) (wrap64 (x4 - 1))) else (none))) else (none))
end
def impl_endBinary.f (k:Nat) (a0:ByteArray):Option (ByteArray × Bool):=impl_endBinary.l0 k a0 1
theorem impl_endBinary.calls (k:Nat) (a0:ByteArray) (r1:ByteArray) (r2:Bool) (w:World) (h:impl_endBinary.f k a0=some (r1,r2)) :
  Calls Tryz.prog 109 #[.string a0] w fun e w'=>e=.returned (.tuple #[.string r1,.bool r2])∧Drawn0 w w':=by
 have H:(impl_endBinary.l0 k a0 1)=some (r1,r2):=h;clear h;have H':=ak H;clear H
 go_enter Tryz.func109,Tryz.ntmps109
 go_wp2
 go_loopg [0,4] k (fun kq v0 v4 w'=>∃ (aa:ByteArray) (ab:Int),v0=.string aa∧v4=.int .i64 ab∧Aside0 (impl_endBinary.l0 kq aa ab=some (r1,r2))∧Aside0 (kq≤k)∧Drawn0 w w')
 case atStart=>exact ⟨(a0),(1),q10_1,q10_1,H',⟨Nat.le_refl _⟩,q10_0⟩
 case round =>
  clear H'
  try clear c1
  obtain ⟨aa,ab,rfl,rfl,HA,HK1,⟨m1,rfl⟩⟩:=hrel
  cases gk with|zero=>exact absurd HA.out (by simp [impl_endBinary.l0])|succ k1=>?_
  have H:=HA.out;clear HA;simp only [impl_endBinary.l0] at H;obtain c2|c2:=nem (ab>0)
  ·rw [if_neg c2] at H;have aq:decide (0<ab)=false:=decide_eq_false c2;clear c2;simp only [Option.some.injEq,Prod.mk.injEq] at H;obtain ⟨rfl,rfl⟩:=H;go_wp2
   go_ret2
   exact ⟨q10_1,q10_0⟩
  rw [if_pos c2] at H;have aq:decide (0<ab)=true:=decide_eq_true c2;clear c2;have HC3:=ak H;clear H
  go_upto_region 4 with (fail)
  go_cut [9] (fun v9 wc=>∃ (kq:Nat) (ar:Bool),v9=.bool ar∧Aside0 (impl_endBinary.j1 kq aa ab ar=some (r1,r2))∧Aside0 (kq≤k1)∧Drawn0 w wc)
  case first =>
   have H:=HC3.out;clear HC3
   by_cases c4:aa.toList=([]:List UInt8)
   ·rw [if_pos c4] at H;have aj:(aa.toList == ([]:List UInt8))=true:=beq_iff_eq.mpr c4;have aC:(aa.toList != ([]:List UInt8))=false:=bne_eq_false_iff_eq.mpr c4;clear c4;(first|rw [aj]|(simp only [i64_w,i32_w];rw [aj])|skip);have H':=ak H;clear H;go_wp2
    go_meet
    case rel=>exact ⟨_,(true),q10_1,H',⟨by have:=HK1.out;first|omega|exact Nat.le_refl _⟩,q10_0⟩
   rw [if_neg c4] at H;have aj:(aa.toList == ([]:List UInt8))=false:=beq_eq_false_iff_ne.mpr c4;have aC:(aa.toList != ([]:List UInt8))=true:=bne_iff_ne.mpr c4;(first|rw [aj]|(simp only [i64_w,i32_w];rw [aj])|skip);replace H:=ifs H;obtain ⟨c5,H⟩:=H;have aN:=dt c5;have aO:decide (0<aa.size)=true:=decide_eq_true (by omega);clear c5
   by_cases c7:(bt aa 0)=48
   ·rw [if_pos c7] at H;have aP:((bt aa 0) == 48)=true:=beq_iff_eq.mpr c7;have aQ:((bt aa 0) != 48)=false:=bne_eq_false_iff_eq.mpr c7;clear c7;have H':=ak H;clear H;have p6:0≤(0:Int):=(by omega);have q6:0<aa.size:=(by have:(0:Int)<(aa.size:Int):=od q10_2;omega);have hx6:∀ h:0<aa.size,((aa[0]'h).toNat:Int)=bt aa 0:=bt_at aa 0;clear p6;have qi6:(0<(aa.size:Int))=True:=eq_true (od q10_2);replace q6:=eq_true q6;go_wp2
    go_meet
    case rel=>exact ⟨_,(false),q10_1,H',⟨by have:=HK1.out;first|omega|exact Nat.le_refl _⟩,q10_0⟩
   rw [if_neg c7] at H;have aP:((bt aa 0) == 48)=false:=beq_eq_false_iff_ne.mpr c7;have aQ:((bt aa 0) != 48)=true:=bne_iff_ne.mpr c7;have H':=ak H;clear H;have p6:0≤(0:Int):=(by omega);have q6:0<aa.size:=(by have:(0:Int)<(aa.size:Int):=od q10_2;omega);have hx6:∀ h:0<aa.size,((aa[0]'h).toNat:Int)=bt aa 0:=bt_at aa 0;clear p6;have qi6:(0<(aa.size:Int))=True:=eq_true (od q10_2);replace q6:=eq_true q6;have p8:0≤(0:Int):=(by omega);have q8:0<aa.size:=(by have:(0:Int)<(aa.size:Int):=od q10_2;omega);have hx8:∀ h:0<aa.size,((aa[0]'h).toNat:Int)=bt aa 0:=bt_at aa 0;clear p8;have qi8:(0<(aa.size:Int))=True:=eq_true (od q10_2);replace q8:=eq_true q8;go_wp2
   go_meet
   case rel=>exact ⟨_,((bt aa 0) != 49),q10_1,H',⟨by have:=HK1.out;first|omega|exact Nat.le_refl _⟩,q10_0⟩
  clear HC3;obtain ⟨kq,ar,rfl,HA,HJ2,⟨mc2,rfl⟩⟩:=hcut
  cases kq with|zero=>exact absurd HA.out (by simp [impl_endBinary.j1])|succ kj2=>?_
  have H:=HA.out;clear HA;simp only [impl_endBinary.j1] at H
  by_cases c9:ar=true
  ·subst c9;replace H:(some ((⟨#[]⟩:ByteArray),false))=some (r1,r2):=by rw [if_pos rfl] at H;exact H
   simp only [Option.some.injEq,Prod.mk.injEq] at H;obtain ⟨rfl,rfl⟩:=H;go_wp2
   go_ret2
   exact ⟨q10_1,q10_0⟩
  replace c9:=Bool.eq_false_iff.mpr c9;subst c9;have H1:(if 0<(aa.size:Int) then (if (bt aa 0)=49 then (if 1≤(aa.size:Int) then (impl_endBinary.l0 kj2 (aa.extract 1 aa.size) (wrap64 (ab+1))) else (none)) else (if 1≤(aa.size:Int) then (impl_endBinary.l0 kj2 (aa.extract 1 aa.size) (wrap64 (ab - 1))) else (none))) else (none))=some (r1,r2):=by rw [if_neg (show ¬ (false=true) by decide)] at H;exact H
  clear H;have H:=H1;clear H1;replace H:=ifs H;obtain ⟨c10,H⟩:=H;have a8:=dt c10;have a9:decide (0<aa.size)=true:=decide_eq_true (by omega);clear c10;obtain c12|c12:=nem ((bt aa 0)=49)
  ·rw [if_neg c12] at H;have aR:((bt aa 0) == 49)=false:=beq_eq_false_iff_ne.mpr c12;have aS:((bt aa 0) != 49)=true:=bne_iff_ne.mpr c12;replace H:=ifs H;obtain ⟨c14,H⟩:=H;have ba:=eq_true c14;have bd:decide (1≤(aa.size:Int))=true:=decide_eq_true c14;clear c14;have H':=ak H;clear H;have p11:0≤(0:Int):=(by omega);have q11:0<aa.size:=(by have:(0:Int)<(aa.size:Int):=od q10_2;omega);have aT:∀ h:0<aa.size,((aa[0]'h).toNat:Int)=bt aa 0:=bt_at aa 0;clear p11;have qi11:(0<(aa.size:Int))=True:=eq_true (od q10_2);replace q11:=eq_true q11;go_wp2
   go_roundg kj2
   case measure=>have:=HK1.out;have:=HJ2.out;omega
   case rel=>exact ⟨(aa.extract 1 aa.size),(wrap64 (ab - 1)),q10_1,q10_1,H',⟨by have:=HK1.out;have:=HJ2.out;omega⟩,q10_0⟩
  rw [if_pos c12] at H;have aR:((bt aa 0) == 49)=true:=beq_iff_eq.mpr c12;have aS:((bt aa 0) != 49)=false:=bne_eq_false_iff_eq.mpr c12;clear c12;replace H:=ifs H;obtain ⟨c13,H⟩:=H;have bf:=eq_true c13;have bg:decide (1≤(aa.size:Int))=true:=decide_eq_true c13;clear c13;have H':=ak H;clear H;have p11:0≤(0:Int):=(by omega);have q11:0<aa.size:=(by have:(0:Int)<(aa.size:Int):=od q10_2;omega);have aT:∀ h:0<aa.size,((aa[0]'h).toNat:Int)=bt aa 0:=bt_at aa 0;clear p11;have qi11:(0<(aa.size:Int))=True:=eq_true (od q10_2);replace q11:=eq_true q11;go_wp2
  go_roundg kj2
  case measure=>have:=HK1.out;have:=HJ2.out;omega
  case rel=>exact ⟨(aa.extract 1 aa.size),(wrap64 (ab+1)),q10_1,q10_1,H',⟨by have:=HK1.out;have:=HJ2.out;omega⟩,q10_0⟩
def impl_IsBinary.f (k:Nat) (a0:ByteArray):Option (Bool):=if (a0.size:Int)>47 then (some false) else ((impl_endBinary.f k a0).bind fun bt362=>(if bt362.2=true then (some (bt362.1.toList == ([]:List UInt8))) else (some false)))
theorem impl_IsBinary.calls (k:Nat) (a0:ByteArray) (r:Bool) (w:World) (h:impl_IsBinary.f k a0=some r) :
  Calls Tryz.prog 68 #[.string a0] w fun e w'=>e=.returned (.bool r)∧Drawn0 w w':=by
 have H:(if (a0.size:Int)>47 then (some false) else ((impl_endBinary.f k a0).bind fun aD=>(if aD.2=true then (some (aD.1.toList == ([]:List UInt8))) else (some false))))=some r:=h;clear h
 by_cases c2:(a0.size:Int)>47
 ·rw [if_pos c2] at H;have aq:decide (47<(a0.size:Int))=true:=decide_eq_true c2;have aE:decide (47<a0.size)=true:=decide_eq_true (by omega);clear c2;obtain rfl:=Option.some.inj H
  go_enter Tryz.func68,Tryz.ntmps68
  go_wp2
  go_ret
  exact ⟨q10_1,q10_0⟩
 rw [if_neg c2] at H;have aq:decide (47<(a0.size:Int))=false:=decide_eq_false c2;have aE:decide (47<a0.size)=false:=decide_eq_false (by omega);clear c2;replace H:=bs H;obtain ⟨⟨ax,aU⟩,A3,H⟩:=H;(try dsimp only at H)
 by_cases c4:aU=true
 ·subst c4;replace H:(some (ax.toList == ([]:List UInt8)))=some r:=by rw [if_pos rfl] at H;exact H
  obtain rfl:=Option.some.inj H
  go_enter Tryz.func68,Tryz.ntmps68
  go_wp2_with (first|((with_reducible refine gate_callee (f:=109) rfl ?_);refine gl (some 10) Tryz.func109 #[.string a0] ?_;(with_reducible refine (impl_endBinary.calls k a0 ax true _ A3.out).mono ?_);rintro e w' ⟨rfl,⟨nd,rfl⟩⟩;refine ⟨_,rfl,?_⟩))
  go_ret
  exact ⟨q10_1,q10_0⟩
 replace c4:=Bool.eq_false_iff.mpr c4;subst c4;have H1:(some false)=some r:=by rw [if_neg (show ¬ (false=true) by decide)] at H;exact H
 clear H;have H:=H1;clear H1;obtain rfl:=Option.some.inj H
 go_enter Tryz.func68,Tryz.ntmps68
 go_wp2_with (first|((with_reducible refine gate_callee (f:=109) rfl ?_);refine gl (some 10) Tryz.func109 #[.string a0] ?_;(with_reducible refine (impl_endBinary.calls k a0 ax false _ A3.out).mono ?_);rintro e w' ⟨rfl,⟨nd,rfl⟩⟩;refine ⟨_,rfl,?_⟩))
 go_ret
 exact ⟨q10_1,q10_0⟩
def impl_nodesOf.f (a0:ByteArray):Option (Int):=some (wrap64 ((a0.size:Int) / 2))
theorem impl_nodesOf.calls (a0:ByteArray) (r:Int) (w:World) (h:impl_nodesOf.f a0=some r) :
  Calls Tryz.prog 70 #[.string a0] w fun e w'=>e=.returned (.int .i64 r)∧Drawn0 w w':=by
 have H:(some (wrap64 ((a0.size:Int) / 2)))=some r:=h;clear h;obtain rfl:=Option.some.inj H
 go_enter Tryz.func70,Tryz.ntmps70
 go_wp2
 go_ret
 exact ⟨q10_1,q10_0⟩
def impl_sides.f (k:Nat) (a0:ByteArray):Option (ByteArray × ByteArray):=if 1≤(a0.size:Int) then ((impl_endBinary.f k (a0.extract 1 a0.size)).bind fun bt364=>(if 1≤(wrap64 ((a0.size:Int) - (bt364.1.size:Int))) then (if (wrap64 ((a0.size:Int) - (bt364.1.size:Int)))≤(a0.size:Int) then (some (a0.extract 1 ((wrap64 ((a0.size:Int) - (bt364.1.size:Int))):Int).toNat,bt364.1)) else (none)) else (none))) else (none)
theorem impl_sides.calls (k:Nat) (a0:ByteArray) (r1:ByteArray) (r2:ByteArray) (w:World) (h:impl_sides.f k a0=some (r1,r2)) :
  Calls Tryz.prog 72 #[.string a0] w fun e w'=>e=.returned (.tuple #[.string r1,.string r2])∧Drawn0 w w':=by
 have H:(if 1≤(a0.size:Int) then ((impl_endBinary.f k (a0.extract 1 a0.size)).bind fun au=>(if 1≤(wrap64 ((a0.size:Int) - (au.1.size:Int))) then (if (wrap64 ((a0.size:Int) - (au.1.size:Int)))≤(a0.size:Int) then (some (a0.extract 1 ((wrap64 ((a0.size:Int) - (au.1.size:Int))):Int).toNat,au.1)) else (none)) else (none))) else (none))=some (r1,r2):=h;clear h;replace H:=ifs H;obtain ⟨c2,H⟩:=H;have aq:=eq_true c2;have aE:decide (1≤(a0.size:Int))=true:=decide_eq_true c2;clear c2;replace H:=bs H;obtain ⟨⟨ay,aV⟩,A3,H⟩:=H;(try dsimp only at H);replace H:=ifs H;obtain ⟨c4,H⟩:=H;have aj:=eq_true c4;have aC:decide (1≤(wrap64 ((a0.size:Int) - (ay.size:Int))))=true:=decide_eq_true c4;clear c4;replace H:=ifs H;obtain ⟨c5,H⟩:=H;have aN:=eq_true c5;have aO:decide ((wrap64 ((a0.size:Int) - (ay.size:Int)))≤(a0.size:Int))=true:=decide_eq_true c5;clear c5;simp only [Option.some.injEq,Prod.mk.injEq] at H;obtain ⟨rfl,rfl⟩:=H
 go_enter Tryz.func72,Tryz.ntmps72
 go_wp2_with (first|((with_reducible refine gate_callee (f:=109) rfl ?_);refine gl (some 9) Tryz.func109 #[.string (a0.extract 1 a0.size)] ?_;(with_reducible refine (impl_endBinary.calls k (a0.extract 1 a0.size) ay aV _ A3.out).mono ?_);rintro e w' ⟨rfl,⟨nd,rfl⟩⟩;refine ⟨_,rfl,?_⟩))
 go_ret2
 exact ⟨q10_1,q10_0⟩
def slices_Grow.f (l0:List Int) (a1:Int):Option (List Int):=if l0=[]∧0≤a1∧a1≤100000000 then some [] else none
theorem slices_Grow.calls (A0:Option Addr) (c0:Nat) (l0:List Int) (a1:Int) (r:List Int) (w:World) (hr0:Kd.C (Kd.int .i64) w A0 l0.length l0) (hc0:l0.length≤c0) (h:slices_Grow.f l0 a1=some r) (hA:A0=none∧c0=0:=by exact ⟨rfl,rfl⟩) :
  Calls Tryz.prog 137 #[.slice A0 l0.length c0,.int .i64 a1] w fun e w'=>∃ v0_:Value,e=.returned (v0_)∧Kd.R (Kd.int .i64) 2 w' w.heap.size (fun _=>True) v0_ r∧Below w.heap.size w w':=by
 obtain ⟨rfl,rfl⟩:=hA
 unfold slices_Grow.f at h
 by_cases hc:l0=[]∧0≤a1∧a1≤100000000
 rotate_left
 ·rw [if_neg hc] at h;cases h
 rw [if_pos hc] at h;obtain rfl:=Option.some.inj h;obtain ⟨rfl,h0,h1⟩:=hc;clear h hr0 hc0;simp only [List.length_nil];have e0:wrap64 ((0:Int) - 0)=0:=by unfold wrap64;omega
 have e1:wrap64 a1=a1:=by unfold wrap64;omega
 have c1:decide (a1<0)=false:=decide_eq_false (by omega);have H0:=ak (show 0≤wrap64 a1 by rw [e1];exact h0);have H1:=ak (show wrap64 a1≤100000000 by rw [e1];exact h1)
 by_cases hz:a1>0
 ·have c2:decide (a1>0)=true:=decide_eq_true hz;have c3:(0<a1)=True:=eq_true hz;clear h0 h1 hz
  go_enter Tryz.func137,Tryz.ntmps137
  go_wp2_with ((with_reducible refine gate_builtin (b:=.append) (xs:=#[.tmp 20,.tmp 21]) rfl ?_);at_builtin;refine Kd.R_append_zeros (Kd.int .i64) (w0:=w) w.heap.size rfl (.tmp 20) (.tmp 21) 24 3 2 (.int .i64 0) 8 rfl Tryz.underlying24 Tryz.underlying3 info2 rfl dc (by omega) (.slice none 0 0) ([]:List Int) (0:Int) (wrap64 a1) (fun _=>True) rfl rfl rfl (fun _ _=>trivial) (Kd.R_nil _ _ _ _ _) H0.out (Below.refl _ _) (Nat.le_refl _) (by have h1_:=H1.out;have h0_:=H0.out;show (0+(wrap64 a1).toNat)*8≤140737488355328;omega) ?_;intro v1 w1 ho hb hg hat;obtain ⟨A1,c1_,e1_⟩:=Kd.R_slice ho;subst e1_;have HO:=ak ho;have HB:=ak hb;clear ho hb hg hat)
  go_ret
  exact ⟨_,rfl,by simpa using Kd.R_take (m:=0) HO.out (Nat.zero_le _),HB.out⟩
 have c2:decide (a1>0)=false:=decide_eq_false hz;have c3:(0<a1)=False:=eq_false hz;clear h0 h1 hz
 go_enter Tryz.func137,Tryz.ntmps137
 go_wp2
 go_ret
 exact ⟨_,rfl,Kd.R_nil _ _ _ _ _,Below.refl _ _⟩
def slices_Concat.f (l0:List (List Int)):Option (List Int):=if l0.length≤1000∧l0.flatten.length≤1000000 then some l0.flatten else none
theorem slices_Concat.row {w:World} {A:Option Addr} {n:Nat} {xs:List (List Int)} (h:Kd.C (Kd.slice 2 (Kd.int .i64)) w A n xs) (i:Nat) (h1:i<n):∃ ad A0 c0,A=some ad∧w.cell? (ad.add i)=some (.slice A0 (xs.getD i []).length c0)∧(xs.getD i []).length≤c0∧(Kd.int .i64).C w A0 (xs.getD i []).length (xs.getD i []):=by
 obtain ⟨ad,c,e,_,hK,hc0⟩:=Kd.C_get h ([]:List Int) (i:Int) (Int.natCast_nonneg _) (Int.ofNat_lt.2 h1)
 have hc:∀ j u,c[j]?=some u→w.cell? (ad.add ((i:Int).toNat*1+j))=some u:=hc0
 obtain ⟨A0,c0,rfl,l0,g0⟩:=hK
 exact ⟨ad,A0,c0,e,by have hq:=hc 0 _ rfl;rwa [Nat.mul_one,Nat.add_zero,Int.toNat_natCast] at hq,l0,g0⟩
theorem slices_Concat.take {l:List (List Int)} {i:Nat} (h:i<l.length):(l.take (i+1)).flatten=(l.take i).flatten++l.getD i []:=by
 rw [List.take_succ_eq_append_getElem h,List.flatten_append,List.getD_eq_getElem?_getD,List.getElem?_eq_getElem h];simp
theorem slices_Concat.len {l:List (List Int)} (i:Nat):(l.take i).flatten.length≤l.flatten.length:=by
 have e:l.flatten=(l.take i).flatten++(l.drop i).flatten:=by rw [← List.flatten_append,List.take_append_drop]
 rw [e,List.length_append];omega
theorem slices_Concat.calls (A0:Option Addr) (c0:Nat) (l0:List (List Int)) (r:List Int) (w:World) (hr0:Kd.C (Kd.slice 2 (Kd.int .i64)) w A0 l0.length l0) (hc0:l0.length≤c0) (h:slices_Concat.f l0=some r) :
  Calls Tryz.prog 110 #[.slice A0 l0.length c0] w fun e w'=>∃ v0_:Value,e=.returned (v0_)∧Kd.R (Kd.int .i64) 2 w' w.heap.size (fun _=>True) v0_ r∧Below w.heap.size w w':=by
 unfold slices_Concat.f at h
 by_cases hc:l0.length≤1000∧l0.flatten.length≤1000000
 rotate_left
 ·rw [if_neg hc] at h;cases h
 rw [if_pos hc] at h;obtain rfl:=Option.some.inj h;have HL:=ak hc;have HR0:=ak hr0;have HC0:=ak hc0;obtain ⟨T,hT⟩:∃ T,T=l0.flatten.length:=⟨_,rfl⟩;have HG:=ak (show slices_Grow.f [] (T:Int)=some [] from by unfold slices_Grow.f;rw [if_pos ⟨rfl,by omega,by omega⟩]);have HT:=ak hT;clear h hc hr0 hc0 hT
 go_enter Tryz.func110,Tryz.ntmps110
 go_wp2
 go_loop [3,11] (fun v3 v11=>∃ i a:Nat,v3=.int .i64 (a:Int)∧v11=.int .i64 (i:Int)∧Aside0 (i≤l0.length)∧Aside0 (a=(l0.take i).flatten.length)) (fun _ v11=>l0.length - (intOf v11).toNat)
 case atStart=>exact ⟨0,0,rfl,rfl,⟨Nat.zero_le _⟩,⟨rfl⟩⟩
 case round =>
  obtain ⟨i,a,rfl,rfl,hi,HA⟩:=hrel
  by_cases hlt:i<l0.length
  ·have hl:((i:Nat):Int)<((l0.length:Nat):Int):=Int.ofNat_lt.2 hlt;have hrow:=slices_Concat.row HR0.out i hlt;have h1_:=slices_Concat.len (l:=l0) (i+1);have htk:=slices_Concat.take hlt;obtain ⟨xs,hxs⟩:∃ xs,xs=l0.getD i []:=⟨_,rfl⟩;rw [← hxs] at htk hrow;rw [htk,List.length_append,← HA.out] at h1_;obtain ⟨ad,Ai,ci,rfl,hx,hci,hCi⟩:=hrow;obtain ⟨b,hb⟩:∃ b,b=xs.length:=⟨_,rfl⟩;rw [← hb] at h1_ hx;have h2_:=HL.out;have hw:wrap64 ((a:Int)+(b:Int))=((a+b:Nat):Int):=by unfold wrap64;omega
   have HW:=ak hw;have hw0:¬ ((a+b:Nat):Int)<0:=by omega
   have hw1:wrap64 ((i:Int)+1)=((i+1:Nat):Int):=by clear hw;unfold wrap64;omega
   have HW1:=ak hw1;have HN:=ak (show a+b=(l0.take (i+1)).flatten.length by rw [htk,List.length_append,← HA.out,← hb]);have HLT:=ak hlt;clear hb h1_ h2_ hCi hci htk hxs hw1;go_wp2
   go_round
   case rel=>exact ⟨i+1,a+b,by first|rfl|exact congrArg (Value.int .i64) HW.out,by first|rfl|(rw [HW1.out]),⟨HLT.out⟩,HN⟩
   case measure =>
    have h_:=HLT.out
    first|(rw [HW1.out];simp only [intOf,Int.toNat_natCast];exact Nat.sub_lt_sub_left h_ (Nat.lt_succ_self i))|(simp only [intOf,Int.toNat_natCast];exact Nat.sub_lt_sub_left h_ (Nat.lt_succ_self i))
  have hl:¬ ((i:Nat):Int)<((l0.length:Nat):Int):=fun h=>hlt (Int.ofNat_lt.1 h)
  have hil:=hi.out;have he:a=T:=by rw [HA.out,List.take_of_length_le (by omega)];exact HT.out.symm
  subst he;clear hil hlt
  go_wp2_with ((with_reducible refine gate_callee (f:=137) rfl ?_);refine goesL_ (some 24) rfl rfl Tryz.func137 kr rfl #[.slice none 0 0,.int .i64 (a:Int)] rfl (by (try simp only [List.map_toArray,List.map_cons,List.map_nil]);first|done|rfl) ?_;refine (slices_Grow.calls none 0 [] (a:Int) [] _ (Kd.C_nil _ _) (Nat.le_refl _) HG.out).mono ?_;rintro e w1 ⟨v24,rfl,ho,hb⟩;refine ⟨_,rfl,?_⟩;have HO:=ak ho;have HB:=ak hb;clear ho hb)
  go_loopw [6,27] (fun v6 v27 w'=>∃ (j:Nat) (s:List Int),v27=.int .i64 (j:Int)∧Aside0 (j≤l0.length)∧Aside0 (s=(l0.take j).flatten)∧Aside0 (Kd.R (Kd.int .i64) 2 w' w.heap.size (fun _=>True) v6 s)∧Aside0 (Below w.heap.size w w')) (fun _ v27 _=>l0.length - (intOf v27).toNat)
  case atStart=>exact ⟨0,[],rfl,⟨Nat.zero_le _⟩,⟨rfl⟩,HO,HB⟩
  case round =>
   obtain ⟨j,s,rfl,hj,HS,ho,hb⟩:=hrel
   by_cases hlt:j<l0.length
   rotate_left
   ·have hl:¬ ((j:Nat):Int)<((l0.length:Nat):Int):=fun h=>hlt (Int.ofNat_lt.1 h)
    have hjl:=hj.out;have hoo:=ho.out;rw [HS.out,List.take_of_length_le (by omega)] at hoo;have HO3:=ak hoo;clear hoo hjl hlt;go_wp2
    go_ret
    exact ⟨_,rfl,HO3.out,hb.out⟩
   have hl:((j:Nat):Int)<((l0.length:Nat):Int):=Int.ofNat_lt.2 hlt;have hrow:=slices_Concat.row (Kd.C_below HR0.out hb.out) j hlt;have h1_:=slices_Concat.len (l:=l0) (j+1);have htk:=slices_Concat.take hlt;obtain ⟨xs,hxs⟩:∃ xs,xs=l0.getD j []:=⟨_,rfl⟩;rw [← hxs] at htk hrow;rw [htk,List.length_append,← HS.out] at h1_;rw [← HS.out] at htk;obtain ⟨ad,Ai,ci,rfl,hx,hci,hCi⟩:=hrow;have h2_:=HL.out;have HLEN:=ak (show (s.length+xs.length)*8≤140737488355328 by omega);have HTK:=ak htk;have hw1:wrap64 ((j:Int)+1)=((j+1:Nat):Int):=by unfold wrap64;omega
   have HW1:=ak hw1;have HLT:=ak hlt;have HCI:=ak hCi;obtain ⟨A6,c6,e6⟩:=Kd.R_slice ho.out;subst e6;clear h1_ h2_ hCi hci htk hxs hw1
   go_wp2_with ((with_reducible refine gate_builtin (b:=.append) (xs:=#[.tmp 31,.tmp 32]) rfl ?_);at_builtin;refine Kd.R_append_rows (Kd.int .i64) (w0:=w) w.heap.size rfl (.tmp 31) (.tmp 32) 24 2 (.int .i64 0) 8 rfl Tryz.underlying24 info2 rfl dc (by omega) (.slice A6 s.length c6) s xs Ai xs.length ci (fun _=>True) (fun _=>False) rfl rfl ho.out HCI.out (fun _ _ h=>h) (fun _ h=>h.elim) (fun _ h=>trivial) hb.out hb.out.size HLEN.out ?_;intro v1 w2 ho2 hb2 hg2 _;have HO2:=ak ho2;have HB2:=ak hb2;clear ho2 hb2 hg2)
   go_roundw
   case rel=>exact ⟨j+1,s++xs,by first|rfl|(rw [HW1.out]),⟨HLT.out⟩,⟨HTK.out.symm⟩,HO2,HB2⟩
   case measure =>
    have h_:=HLT.out
    first|(rw [HW1.out];simp only [intOf,Int.toNat_natCast];exact Nat.sub_lt_sub_left h_ (Nat.lt_succ_self j))|(simp only [intOf,Int.toNat_natCast];exact Nat.sub_lt_sub_left h_ (Nat.lt_succ_self j))
def impl_inner.f:Nat→ByteArray→Int→Option (List Int)
 | 0,_,_=>none
 | k+1,a0,a1=>if a0.toList=([48]:List UInt8) then (some ([]:List Int)) else ((impl_sides.f k a0).bind fun bt366=>((impl_inner.f k bt366.1 (wrap64 (a1+1))).bind fun t368=>((impl_nodesOf.f bt366.1).bind fun t374=>((impl_inner.f k bt366.2 (wrap64 ((wrap64 (a1+1))+t374))).bind fun t375=>((slices_Concat.f ([t368,([a1]:List Int),t375]:List (List Int))).bind fun t381=>(some t381))))))
theorem impl_inner.calls (k:Nat):∀ (a0:ByteArray) (a1:Int) (r:List Int) (w:World) (h:impl_inner.f k a0 a1=some r),
  Calls Tryz.prog 69 #[.string a0,.int .i64 a1] w fun e w'=>∃ v0_:Value,e=.returned (v0_)∧Kd.R (Kd.int .i64) 2 w' w.heap.size (fun _=>True) v0_ r∧Below w.heap.size w w':=by
 induction k using Nat.strongRecOn with
 | _ k ih =>
 intro a0 a1 r w h
 cases k with
 | zero=>exact absurd h (by simp [impl_inner.f])
 | succ k =>
 simp only [impl_inner.f] at h;have HB:=ak (Below.refl w.heap.size w);have H:(if a0.toList=([48]:List UInt8) then (some ([]:List Int)) else ((impl_sides.f k a0).bind fun az=>((impl_inner.f k az.1 (wrap64 (a1+1))).bind fun af=>((impl_nodesOf.f az.1).bind fun ag=>((impl_inner.f k az.2 (wrap64 ((wrap64 (a1+1))+ag))).bind fun ac=>((slices_Concat.f ([af,([a1]:List Int),ac]:List (List Int))).bind fun ah=>(some ah)))))))=some r:=h;clear h
 by_cases c3:a0.toList=([48]:List UInt8)
 ·rw [if_pos c3] at H;have aW:(a0.toList == ([48]:List UInt8))=true:=beq_iff_eq.mpr c3;have aX:(a0.toList != ([48]:List UInt8))=false:=bne_eq_false_iff_eq.mpr c3;clear c3;obtain rfl:=Option.some.inj H
  go_enter Tryz.func69,Tryz.ntmps69
  go_wp2
  go_ret
  exact ⟨_,ew,q10_3,hq⟩
 rw [if_neg c3] at H;have aW:(a0.toList == ([48]:List UInt8))=false:=beq_eq_false_iff_ne.mpr c3;have aX:(a0.toList != ([48]:List UInt8))=true:=bne_iff_ne.mpr c3;replace H:=bs H;obtain ⟨⟨al,av⟩,A4,H⟩:=H;(try dsimp only at H);replace H:=bs H;obtain ⟨af,A5,H⟩:=H;(try dsimp only at H);obtain ⟨an,hY⟩:∃ y_:List Int,y_=([a1]:List Int):=⟨_,rfl⟩;replace H:((impl_nodesOf.f al).bind fun ag=>((impl_inner.f k av (wrap64 ((wrap64 (a1+1))+ag))).bind fun ac=>((slices_Concat.f ([af,an,ac]:List (List Int))).bind fun ah=>(some ah))))=some r:=hh;have aF:=ak hY;clear hY;replace H:=bs H;obtain ⟨ag,A6,H⟩:=H;(try dsimp only at H);replace H:=bs H;obtain ⟨ac,A7,H⟩:=H;(try dsimp only at H);obtain ⟨aA,hY⟩:∃ y_:List (List Int),y_=([af,an,ac]:List (List Int)):=⟨_,rfl⟩;replace H:((slices_Concat.f aA).bind fun ah=>(some ah))=some r:=hh;have aG:=ak hY;clear hY;replace H:=bs H;obtain ⟨ah,A8,H⟩:=H;(try dsimp only at H);obtain rfl:=Option.some.inj H
 go_enter Tryz.func69,Tryz.ntmps69
 go_wp2_with (first|((with_reducible refine gate_callee (f:=72) rfl ?_);refine gl (some 11) Tryz.func72 #[.string a0] ?_;(with_reducible refine (impl_sides.calls k a0 al av _ A4.out).mono ?_);rintro e w' ⟨rfl,⟨nd,rfl⟩⟩;refine ⟨_,rfl,?_⟩)|((with_reducible refine gate_callee (f:=69) rfl ?_);refine gl (some 17) Tryz.func69 #[.string al,.int .i64 (wrap64 (a1+1))] ?_;(with_reducible refine (ih k (by omega) al (wrap64 (a1+1)) af _ A5.out).mono ?_);rintro e w9 ⟨bh,rfl,ho0,hb⟩;refine ⟨_,rfl,?_⟩;have ae:=lw ho0;replace HB:=hbs hb;(try clear hb ho0))|((with_reducible refine gate_dst (N:=19) rfl ?_);refine Kd.R_lit (Kd.int .i64) _ 2 ?hg (N:=19) ?hd (xs:=([a1]:List Int)) (inner:=[.int .i64 a1]) (ok:=fun _=>True) (okp:=fun _=>True) ?hr ?hp (fun _ hk=>hk) trivial (Below.refl _ _) (Nat.le_refl _) (by simp) ?_;(case hd=>rfl);(case hg=>rfl);(case hr=>exact gs);(case hp=>exact (Reps.one (show Kd.M (Kd.int .i64) _ _ _ a1 [.int .i64 a1] from rfl) (Reps.none _ _)));intro bi w10 ho11 hb hg_ hnew_;clear hg_ hnew_;(first|rw [← aF.out] at ho11|(simp only [Int.reduceToNat] at ho11;rw [← aF.out] at ho11));have ai:=lw (nw ho11 ae);replace ae:=rn ae ho11 hb;replace HB:=hbs hb;clear hb ho11)|((with_reducible refine gate_callee (f:=70) rfl ?_);refine gl (some 24) Tryz.func70 #[.string al] ?_;(with_reducible refine (impl_nodesOf.calls al ag _ A6.out).mono ?_);rintro e w' ⟨rfl,⟨nd,rfl⟩⟩;refine ⟨_,rfl,?_⟩)|((with_reducible refine gate_callee (f:=69) rfl ?_);refine gl (some 26) Tryz.func69 #[.string av,.int .i64 (wrap64 ((wrap64 (a1+1))+ag))] ?_;(with_reducible refine (ih k (by omega) av (wrap64 ((wrap64 (a1+1))+ag)) ac _ A7.out).mono ?_);rintro e w12 ⟨bj,rfl,ho0,hb⟩;refine ⟨_,rfl,?_⟩;have aw:=lw (nw (nw ho0 ae) ai);replace ae:=rn ae ho0 hb;replace ai:=rn ai ho0 hb;replace HB:=hbs hb;(try clear hb);(try clear hb2);(try clear hk);(try clear hi);(try clear ho0);obtain ⟨aH,aI,aY⟩:=Kd.R_slice ae.out;subst aY;obtain ⟨aJ,aK,aZ⟩:=Kd.R_slice ai.out;subst aZ;obtain ⟨aL,aM,a2⟩:=Kd.R_slice aw.out;subst a2)|((with_reducible refine gate_dst (N:=27) rfl ?_);refine Kd.N_lit (Kd.slice 2 (Kd.int .i64)) _ 24 ?hg (N':=27) ?hd (xs:=([af,an,ac]:List (List Int))) (inner:=[.slice aH af.length aI,.slice aJ an.length aK,.slice aL ac.length aM]) (ok:=(fun _=>True)) (okp:=(fun _=>True)) ?hr ?hp (fun _ hk=>hk) ((show ∀ k_,w12.heap.size≤k_→(fun _=>True) k_ from fun k_ hk=>trivial) _ (Nat.le_refl _)) (Below.refl _ _) (Nat.le_refl _) (by simp) ?_;(case hd=>rfl);(case hg=>rfl);(case hr=>exact gs);(case hp=>exact (Reps.one (show Kd.FK (Kd.slice 2 (Kd.int .i64)) _ _ af [.slice aH af.length aI] from (Kd.FK_slice_mk (Kd.R_reads' (Kd.R_mono (ok':=(fun _=>True)) (ae.out) (fun k_ hk=>trivial))).2.1 (Kd.R_F (Kd.R_mono (ok':=(fun _=>True)) (ae.out) (fun k_ hk=>trivial))))) (Reps.one (show Kd.FK (Kd.slice 2 (Kd.int .i64)) _ _ an [.slice aJ an.length aK] from (Kd.FK_slice_mk (Kd.R_reads' (Kd.R_mono (ok':=(fun _=>True)) (ai.out) (fun k_ hk=>trivial))).2.1 (Kd.R_F (Kd.R_mono (ok':=(fun _=>True)) (ai.out) (fun k_ hk=>trivial))))) (Reps.one (show Kd.FK (Kd.slice 2 (Kd.int .i64)) _ _ ac [.slice aL ac.length aM] from (Kd.FK_slice_mk (Kd.R_reads' (Kd.R_mono (ok':=(fun _=>True)) (aw.out) (fun k_ hk=>trivial))).2.1 (Kd.R_F (Kd.R_mono (ok':=(fun _=>True)) (aw.out) (fun k_ hk=>trivial))))) (Reps.none _ _)))));intro bk w16 ho17 hb hg_ hnew_;clear hg_ hnew_;(first|rw [← aG.out] at ho17|(simp only [Int.reduceToNat] at ho17;rw [← aG.out] at ho17));have ao:=ak (Kd.N_lower ho17 (below_size hq));replace HB:=hbs hb;clear ae ai aw;clear hb ho17;obtain ⟨a3,a4,a5⟩:=Kd.N_slice ao.out;subst a5)|((with_reducible refine gate_callee (f:=110) rfl ?_);refine gl (some 28) Tryz.func110 #[.slice a3 aA.length a4] ?_;(with_reducible refine (slices_Concat.calls _ _ aA ah _ (pc ((Kd.N_reads' ao.out).2.2)) (Kd.N_reads' ao.out).2.1 A8.out).mono ?_);rintro e w19 ⟨bl,rfl,ho0,hb⟩;refine ⟨_,rfl,?_⟩;replace ao:=ak (Kd.N_elder' (by (with_reducible repeat (first|apply Kd.N_alloc|apply Kd.N_drewN|apply Kd.N_drew));exact ao.out) (Kd.R_base ho0) hb);have a6:=lw ho0;replace HB:=hbs hb;(try clear hb ho0)))
 go_ret
 exact ⟨_,ew,pe a6.out,hq⟩
def impl_InnerOrder.f (k:Nat) (a0:ByteArray):Option (List Int × Int):=(impl_IsBinary.f k a0).bind fun t384=>(if t384=true then ((impl_inner.f k a0 0).bind fun t385=>(some (t385,0))) else (some (([]:List Int),1)))
theorem impl_InnerOrder.calls (k:Nat) (a0:ByteArray) (r1:List Int) (r2:Int) (w:World) (h:impl_InnerOrder.f k a0=some (r1,r2)) :
  Calls Tryz.prog 16 #[.string a0] w fun e w'=>∃ v0_:Value,e=.returned (.tuple #[v0_,.int .i64 r2])∧Kd.R (Kd.int .i64) 2 w' w.heap.size (fun _=>True) v0_ r1∧Below w.heap.size w w':=by
 have HB:=ak (Below.refl w.heap.size w);have H:((impl_IsBinary.f k a0).bind fun aB=>(if aB=true then ((impl_inner.f k a0 0).bind fun ap=>(some (ap,0))) else (some (([]:List Int),1))))=some (r1,r2):=h;clear h;replace H:=bs H;obtain ⟨aB,A2,H⟩:=H;(try dsimp only at H);obtain c3|c3:=nem (aB=true)
 ·replace c3:=Bool.eq_false_iff.mpr c3;subst c3;have H1:(some (([]:List Int),1))=some (r1,r2):=by rw [if_neg (show ¬ (false=true) by decide)] at H;exact H
  clear H;have H:=H1;clear H1;simp only [Option.some.injEq,Prod.mk.injEq] at H;obtain ⟨rfl,rfl⟩:=H
  go_enter Tryz.func16,Tryz.ntmps16
  go_wp2_with (first|((with_reducible refine gate_callee (f:=68) rfl ?_);refine gl (some 5) Tryz.func68 #[.string a0] ?_;(with_reducible refine (impl_IsBinary.calls k a0 false _ A2.out).mono ?_);rintro e w' ⟨rfl,⟨nd,rfl⟩⟩;refine ⟨_,rfl,?_⟩))
  go_ret2
  exact ⟨_,ew,q10_3,hq⟩
 subst c3;replace H:((impl_inner.f k a0 0).bind fun ap=>(some (ap,0)))=some (r1,r2):=by rw [if_pos rfl] at H;exact H
 replace H:=bs H;obtain ⟨ap,A4,H⟩:=H;(try dsimp only at H);simp only [Option.some.injEq,Prod.mk.injEq] at H;obtain ⟨rfl,rfl⟩:=H
 go_enter Tryz.func16,Tryz.ntmps16
 go_wp2_with (first|((with_reducible refine gate_callee (f:=68) rfl ?_);refine gl (some 5) Tryz.func68 #[.string a0] ?_;(with_reducible refine (impl_IsBinary.calls k a0 true _ A2.out).mono ?_);rintro e w' ⟨rfl,⟨nd,rfl⟩⟩;refine ⟨_,rfl,?_⟩)|((with_reducible refine gate_callee (f:=69) rfl ?_);refine gl (some 8) Tryz.func69 #[.string a0,.int .i64 0] ?_;(with_reducible refine (impl_inner.calls k a0 0 ap _ A4.out).mono ?_);rintro e w5 ⟨bm,rfl,ho0,hb⟩;refine ⟨_,rfl,?_⟩;have a7:=lw ho0;replace HB:=hbs hb;(try clear hb ho0)))
 go_ret2
 exact ⟨_,ew,pe a7.out,hq⟩
end Go.Proofs.YtlppkilencpmeaaGreat.QFnGrowth
