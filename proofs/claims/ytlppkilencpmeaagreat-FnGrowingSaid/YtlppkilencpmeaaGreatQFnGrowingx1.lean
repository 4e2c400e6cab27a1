/- Functions as Lean functions, with their contracts: written by a program of this claim over the translation; some contracts are proved by hand. -/
import Derived.Test.YtlppkilencpmeaaGreatQFnGrowingx0
namespace Go.Proofs.YtlppkilencpmeaaGreat.QFnGrowing
open Go.RowKit Go.Proofs.YtlppkilencpmeaaGreat.Gl Go.Proofs.YtlppkilencpmeaaGreat.Sz Go.Proofs.YtlppkilencpmeaaGreatW.PrintWords Go.Proofs.YtlppkilencpmeaaGreatW.PrintLast Go.Proofs.YtlppkilencpmeaaGreatW.PrintMore
attribute [local go_sem] max2_int min2_int max_two min_two max_three min_three max_four min_four   -- for this text's walks alone
set_option linter.unusedVariables false
set_option linter.unusedSimpArgs false
theorem q1_0 {P:Prop} (h:P:=by first|(with_reducible assumption)|assumption):P:=h
theorem q1_1 {P:Prop} (h:P:=by first|rfl|(simp;done)|(simp [*];done)):P:=h
theorem q1_2 {P:Prop} (h:P:=by repeat (first|exact Drawn0.refl _|apply Drawn0.step)):P:=h
set_option maxHeartbeats 8000000
set_option maxRecDepth 100000
def laws_big.f (l0:List Int):Option (Bool):=some (decide ((l0.length:Int)>4096))
theorem laws_big.calls (A0:Option Addr) (c0:Nat) (l0:List Int) (r:Bool) (w:World) (hr0:Kd.C (Kd.int .u8) w A0 l0.length l0) (hc0:l0.length≤c0) (h:laws_big.f l0=some r) :
  Calls Tryz.prog 5 #[.slice A0 l0.length c0] w fun e w'=>e=.returned (.bool r)∧Drawn0 w w':=by
 have HR0:=ak hr0;have HC0:=ak hc0;clear hr0 hc0;have H:(some (decide ((l0.length:Int)>4096)))=some r:=h;clear h;obtain rfl:=Option.some.inj H
 go_enter Tryz.func5,Tryz.ntmps5
 go_wp2
 go_ret
 exact ⟨q1_1,q1_2⟩
def laws_likeInts.l0:Nat→List Int→List Int→Int→Option (Bool)
 | 0,_,_,_=>none
 | k+1,x0,x1,x5=>if x5<(x0.length:Int) then (if 0≤x5 then (if x5<(x1.length:Int) then (if (rd x0 x5)=(rd x1 x5) then (laws_likeInts.l0 k x0 x1 (wrap64 (x5+1))) else (some false)) else (none)) else (none)) else (some true)
def laws_likeInts.f (k:Nat) (l0:List Int) (l1:List Int):Option (Bool):=if (l0.length:Int)=(l1.length:Int) then (laws_likeInts.l0 k l0 l1 0) else (some false)
theorem laws_likeInts.calls (k:Nat) (A0:Option Addr) (c0:Nat) (l0:List Int) (A1:Option Addr) (c1:Nat) (l1:List Int) (r:Bool) (w:World) (hr0:Kd.C (Kd.int .i64) w A0 l0.length l0) (hc0:l0.length≤c0) (hr1:Kd.C (Kd.int .i64) w A1 l1.length l1) (hc1:l1.length≤c1) (h:laws_likeInts.f k l0 l1=some r) :
  Calls Tryz.prog 10 #[.slice A0 l0.length c0,.slice A1 l1.length c1] w fun e w'=>e=.returned (.bool r)∧Drawn0 w w':=by
 have HR0:=ak hr0;have HC0:=ak hc0;clear hr0 hc0;have HR1:=ak hr1;have HC1:=ak hc1;clear hr1 hc1;have H:(if (l0.length:Int)=(l1.length:Int) then (laws_likeInts.l0 k l0 l1 0) else (some false))=some r:=h;clear h;obtain c3|c3:=nem ((l0.length:Int)=(l1.length:Int))
 ·rw [if_neg c3] at H;have an:((l0.length:Int) == (l1.length:Int))=false:=beq_eq_false_iff_ne.mpr c3;have aF:((l0.length:Int) != (l1.length:Int))=true:=bne_iff_ne.mpr c3;have bj:(l0.length == l1.length)=false:=by first|simpa using c3|(simp at c3 ⊢;omega)
  obtain rfl:=Option.some.inj H
  go_enter Tryz.func10,Tryz.ntmps10
  go_wp2
  repeat (go_quiet (fail);try go_wp2)
  go_ret
  exact ⟨q1_1,q1_2⟩
 rw [if_pos c3] at H;have an:((l0.length:Int) == (l1.length:Int))=true:=beq_iff_eq.mpr c3;have aF:((l0.length:Int) != (l1.length:Int))=false:=bne_eq_false_iff_eq.mpr c3;have bj:(l0.length == l1.length)=true:=by first|simpa using c3|(simp at c3 ⊢;omega)
 clear c3;have H':=ak H;clear H
 go_enter Tryz.func10,Tryz.ntmps10
 go_wp2
 repeat (go_quiet (fail);try go_wp2)
 go_loopg [5] k (fun kq v5 w'=>∃ (ab:Int),v5=.int .i64 ab∧Aside0 (laws_likeInts.l0 kq l0 l1 ab=some r)∧Aside0 (kq≤k)∧Drawn0 w w')
 case atStart=>exact ⟨(0),q1_1,H',⟨Nat.le_refl _⟩,q1_2⟩
 case round =>
  clear H';obtain ⟨ab,rfl,HA,HK1,⟨m1,rfl⟩⟩:=hrel
  cases gk with|zero=>exact absurd HA.out (by simp [laws_likeInts.l0])|succ k1=>?_
  have H:=HA.out;clear HA;simp only [laws_likeInts.l0] at H;obtain c4|c4:=nem (ab<(l0.length:Int))
  ·rw [if_neg c4] at H;have bk:=df c4;clear c4;obtain rfl:=Option.some.inj H;go_wp2
   repeat (go_quiet (fail);try go_wp2)
   go_ret
   exact ⟨q1_1,q1_2⟩
  rw [if_pos c4] at H;have bk:=dt c4;clear c4;replace H:=ifs H;obtain ⟨c5,H⟩:=H;have a3:=dt c5;clear c5;replace H:=ifs H;obtain ⟨c6,H⟩:=H;have aJ:=dt c6;clear c6;obtain c7|c7:=nem ((rd l0 ab)=(rd l1 ab))
  ·rw [if_neg c7] at H;have aC:((rd l0 ab) == (rd l1 ab))=false:=beq_eq_false_iff_ne.mpr c7;have aK:((rd l0 ab) != (rd l1 ab))=true:=bne_iff_ne.mpr c7;obtain rfl:=Option.some.inj H;have ao:0≤(ab:Int):=od q1_0;have ap:ab<(l0.length:Int):=od q1_0;obtain ⟨bl,aL,bm⟩:=Kd.at_int HR0.out ab ao ap;cases aL;replace ao:=eq_true ao;replace ap:=eq_true ap;have aq:0≤(ab:Int):=od q1_0;have ar:ab<(l1.length:Int):=od q1_0;obtain ⟨bo,aM,bp⟩:=Kd.at_int HR1.out ab aq ar;cases aM;replace aq:=eq_true aq;replace ar:=eq_true ar;go_wp2
   repeat (go_quiet (fail);try go_wp2)
   go_ret
   exact ⟨q1_1,q1_2⟩
  rw [if_pos c7] at H;have aC:((rd l0 ab) == (rd l1 ab))=true:=beq_iff_eq.mpr c7;have aK:((rd l0 ab) != (rd l1 ab))=false:=bne_eq_false_iff_eq.mpr c7;clear c7;have H':=ak H;clear H;have ao:0≤(ab:Int):=od q1_0;have ap:ab<(l0.length:Int):=od q1_0;obtain ⟨bl,aL,bm⟩:=Kd.at_int HR0.out ab ao ap;cases aL;replace ao:=eq_true ao;replace ap:=eq_true ap;have aq:0≤(ab:Int):=od q1_0;have ar:ab<(l1.length:Int):=od q1_0;obtain ⟨bo,aM,bp⟩:=Kd.at_int HR1.out ab aq ar;cases aM;replace aq:=eq_true aq;replace ar:=eq_true ar;go_wp2
  repeat (go_quiet (fail);try go_wp2)
  go_roundg k1
  case measure=>have:=HK1.out;omega
  case rel=>exact ⟨(wrap64 (ab+1)),q1_1,H',⟨by have:=HK1.out;omega⟩,q1_2⟩
def slices_Clone.f (l0:List Int):Option (List Int):=if l0.length≤100000000 then some l0 else none
theorem slices_Clone.calls (A0:Option Addr) (c0:Nat) (l0:List Int) (r:List Int) (w:World) (hr0:Kd.C (Kd.int .i64) w A0 l0.length l0) (hc0:l0.length≤c0) (h:slices_Clone.f l0=some r) :
  Calls Tryz.prog 63 #[.slice A0 l0.length c0] w fun e w'=>∃ v0_:Value,e=.returned (v0_)∧Kd.R (Kd.int .i64) 2 w' w.heap.size (fun _=>True) v0_ r∧Below w.heap.size w w':=by
 unfold slices_Clone.f at h
 by_cases hc:l0.length≤100000000
 rotate_left
 ·rw [if_neg hc] at h;cases h
 rw [if_pos hc] at h;obtain rfl:=Option.some.inj h;have HR0:=ak hr0;have HC0:=ak hc0;have HL:=ak hc;clear hr0 hc0 h hc
 cases A0 with
 | none =>
  have hl:l0=[]:=by
   match l0,HR0.out with
   | [],_=>rfl
   | x :: r,hr=>obtain ⟨ad,e,_⟩:=hr.2.2 (by simp);cases e
  subst hl;have hn:=fun w=>run_eql_nil (P:=Tryz.prog) w 24 2 none 0 c0 Tryz.underlying24
  go_enter Tryz.func63,Tryz.ntmps63
  go_wp2
  go_ret
  exact ⟨_,rfl,Kd.R_nil _ _ _ _ _,Below.refl _ _⟩
 | some ad =>
  have hn:=fun w=>run_eql_nil (P:=Tryz.prog) w 24 2 (some ad) l0.length c0 Tryz.underlying24
  go_enter Tryz.func63,Tryz.ntmps63
  go_wp2_with (first|((with_reducible refine gate_dst (N:=5) rfl ?_);refine Kd.R_lit (Kd.int .i64) _ 2 ?hg (N:=5) ?hd (xs:=([]:List Int)) (inner:=[]) (ok:=fun _=>True) (okp:=fun _=>True) ?hr ?hp (fun _ hk=>hk) trivial (Below.refl _ _) (Nat.le_refl _) (by simp) ?_;(case hd=>rfl);(case hg=>rfl);(case hr=>exact gs);(case hp=>exact (Reps.none _ _));intro bq w3 ho4 hb hg_ hnew_;clear hg_ hnew_;have HO:=ak ho4;have HB:=ak hb;clear ho4 hb)|((with_reducible refine gate_builtin (b:=.append) (xs:=#[.tmp 5,.tmp 6]) rfl ?_);at_builtin;refine Kd.R_append_rows (Kd.int .i64) (w0:=w) w.heap.size rfl (.tmp 5) (.tmp 6) 24 2 (.int .i64 0) 8 rfl Tryz.underlying24 info2 rfl dc (by omega) bq [] l0 _ _ _ (fun _=>True) (fun _=>False) rfl rfl HO.out (Kd.C_below HR0.out HB.out) (fun _ _ h=>h) (fun _ h=>h.elim) (fun _ _=>trivial) HB.out HB.out.size (by have:=HL.out;simp;omega) ?_;intro bL w5 ho hb hg hat;have HO2:=ak ho;have HB2:=ak hb;clear ho hb hg hat))
  go_ret
  exact ⟨_,rfl,HO2.out,HB2.out⟩
def slices_Sort.f (l0:List Int):Option (List Int):=if l0.length≤100000000 then some (l0.mergeSort fun x y=>decide (x≤y)) else none
theorem slices_Sort.calls (P0_:Nat→Prop) (u9000_:Value) (l0:List Int) (r:List Int) (w0 w:World) (hB:Below w0.heap.size w0 w) (ho0:Kd.R (Kd.int .i64) 2 w w0.heap.size P0_ u9000_ l0) (h:slices_Sort.f l0=some r) :
  Calls Tryz.prog 64 #[u9000_] w fun e w'=>e=.returned (.tuple #[])∧Kd.R (Kd.int .i64) 2 w' w0.heap.size (fun k_=>(P0_ k_∨w.heap.size≤k_)) u9000_ r∧Below w0.heap.size w0 w'∧Kept w w' (fun k_=>P0_ k_):=by
 unfold slices_Sort.f at h
 by_cases hc:l0.length≤100000000
 rotate_left
 ·rw [if_neg hc] at h;cases h
 rw [if_pos hc] at h;obtain rfl:=Option.some.inj h;have ho:=Kd.own_of_R ho0;obtain ⟨_,h2⟩:=ho
 rcases h2 with ⟨rfl,h2⟩|⟨g,cap,cur,rfl,hb,hg,hm2,hcap,hs,ht⟩
 ·obtain rfl:l0=[]:=List.eq_nil_of_length_eq_zero h2
  refine (Go.Proofs.AnyM.slices_Sort_int_none Go.Proofs.Tryz.lSort none 0 w).mono ?_
  rintro e w' ⟨he,hw⟩
  subst hw
  exact ⟨he,by simpa using Kd.R_mono ho0 (fun k hk=>.inl hk),hB,Kept.refl _ _⟩
 ·have hp:P0_ g:=ho0.1 g (by simp [Value.ownBlock]);have hg':w.heap[g]?=some (.cells cur.toList.toArray 2 (0,0)):=by simpa using hg
  have ht':cur.toList.take l0.length=encs EI l0:=by simpa using ht
  have hglt:g<w.heap.size:=by
   rcases Nat.lt_or_ge g w.heap.size with h|h
   ·exact h
   ·rw [Array.getElem?_eq_none h] at hg;cases hg
  refine (Go.Proofs.AnyM.slices_Sort_int Go.Proofs.Tryz.lSort g 0 cap l0 w (holds_of_block hg' ht') hglt (by omega)).mono ?_
  rintro e w' ⟨he,n,os,hw⟩
  subst hw;obtain ⟨q1,q2,q3⟩:=sorted_world (P0:=P0_) (cap:=cap) (L:=cur.toList) (l:=l0) (s:=l0.mergeSort fun x y=>decide (x≤y)) (by simp) hb hp hg' (by simpa using hs) hm2 hcap hB n os
  exact ⟨he,q1,q2,q3⟩
mutual
def impl_isTree.j0:Nat→List Int→Bool→Option (Bool)
 | 0,_,_=>none
 | k+1,x0,x13=>if x13=true then (some false) else (impl_isTree.l0 k 1 x0 (x0.length:Int) 0)
def impl_isTree.l0:Nat→Int→List Int→Int→Int→Option (Bool)
 | 0,_,_,_,_=>none
 | k+1,x3,x14,x15,x16=>if x16<x15 then (if 0≤x16 then (if x16<(x14.length:Int) then (if x3=0 then (some false) else (if (rd x14 x16)<0 then (some false) else (if (rd x14 x16)≥24 then (some false) else (impl_isTree.l0 k (wrap64 (x3+(wrap64 ((rd x14 x16) - 1)))) x14 x15 (wrap64 (x16+1)))))) else (none)) else (none)) else (some (x3 == 0))
end
def impl_isTree.f (k:Nat) (l0:List Int):Option (Bool):=if (l0.length:Int)<1 then (impl_isTree.j0 k l0 true) else (impl_isTree.j0 k l0 (decide ((l0.length:Int)>24)))
theorem impl_isTree.calls (k:Nat) (A0:Option Addr) (c0:Nat) (l0:List Int) (r:Bool) (w:World) (hr0:Kd.C (Kd.int .i64) w A0 l0.length l0) (hc0:l0.length≤c0) (h:impl_isTree.f k l0=some r) :
  Calls Tryz.prog 121 #[.slice A0 l0.length c0] w fun e w'=>e=.returned (.bool r)∧Drawn0 w w':=by
 have HR0:=ak hr0;have HC0:=ak hc0;clear hr0 hc0;have H:(if (l0.length:Int)<1 then (impl_isTree.j0 k l0 true) else (impl_isTree.j0 k l0 (decide ((l0.length:Int)>24))))=some r:=h;clear h;have HC2:=ak H;clear H
 go_enter Tryz.func121,Tryz.ntmps121
 go_upto_region 1 with (fail)
 go_cut [13] (fun v13 wc=>∃ (kq:Nat) (aG:Bool),v13=.bool aG∧Aside0 (impl_isTree.j0 kq l0 aG=some r)∧Aside0 (kq≤k)∧Drawn0 w wc)
 case first =>
  have H:=HC2.out;clear HC2
  by_cases c3:(l0.length:Int)<1
  ·rw [if_pos c3] at H;have an:=dt c3;have aF:decide (l0.length<1)=true:=decide_eq_true (by omega);clear c3;(first|rw [an]|(simp only [i64_w,i32_w];rw [an])|skip);have H':=ak H;clear H;go_wp2
   go_meet
   case rel=>exact ⟨_,(true),q1_1,H',⟨by first|omega|exact Nat.le_refl _⟩,q1_2⟩
  rw [if_neg c3] at H;have an:=df c3;have aF:decide (l0.length<1)=false:=decide_eq_false (by omega);clear c3;(first|rw [an]|(simp only [i64_w,i32_w];rw [an])|skip);have H':=ak H;clear H;go_wp2
  go_meet
  case rel=>exact ⟨_,(decide ((l0.length:Int)>24)),q1_1,H',⟨by first|omega|exact Nat.le_refl _⟩,q1_2⟩
 clear HC2;obtain ⟨kq,aG,rfl,HA,HJ1,⟨mc1,rfl⟩⟩:=hcut
 cases kq with|zero=>exact absurd HA.out (by simp [impl_isTree.j0])|succ kj1=>?_
 have H:=HA.out;clear HA;simp only [impl_isTree.j0] at H
 by_cases c4:aG=true
 ·subst c4;replace H:(some false)=some r:=by rw [if_pos rfl] at H;exact H
  obtain rfl:=Option.some.inj H;go_wp2
  go_ret
  exact ⟨q1_1,q1_2⟩
 replace c4:=Bool.eq_false_iff.mpr c4;subst c4;have H1:(impl_isTree.l0 kj1 1 l0 (l0.length:Int) 0)=some r:=by rw [if_neg (show ¬ (false=true) by decide)] at H;exact H
 clear H;have H:=H1;clear H1;have H':=ak H;clear H;go_wp2
 go_loopg [3,16] kj1 (fun kq v3 v16 w'=>∃ (au:Int) (ae:Int),v3=.int .i64 au∧v16=.int .i64 ae∧Aside0 (impl_isTree.l0 kq au l0 (l0.length:Int) ae=some r)∧Aside0 (kq≤kj1)∧Drawn0 w w')
 case atStart=>exact ⟨(1),(0),q1_1,q1_1,H',⟨Nat.le_refl _⟩,q1_2⟩
 case round =>
  clear H';obtain ⟨au,ae,rfl,rfl,HA,HK2,⟨m2,rfl⟩⟩:=hrel
  cases gk with|zero=>exact absurd HA.out (by simp [impl_isTree.l0])|succ k2=>?_
  have H:=HA.out;clear HA;simp only [impl_isTree.l0] at H;obtain c5|c5:=nem (ae<(l0.length:Int))
  ·rw [if_neg c5] at H;have a3:=df c5;clear c5;obtain rfl:=Option.some.inj H;go_wp2
   go_ret
   exact ⟨q1_1,q1_2⟩
  rw [if_pos c5] at H;have a3:=dt c5;clear c5;replace H:=ifs H;obtain ⟨c6,H⟩:=H;have aJ:=dt c6;clear c6;replace H:=ifs H;obtain ⟨c7,H⟩:=H;have aC:=dt c7;clear c7
  by_cases c8:au=0
  ·rw [if_pos c8] at H;have a4:=be c8;have br:=bn c8;clear c8;obtain rfl:=Option.some.inj H;have ah:0≤(ae:Int):=od q1_0;have ai:ae<(l0.length:Int):=od q1_0;obtain ⟨aN,av,aO⟩:=Kd.at_int HR0.out ae ah ai;cases av;replace ah:=eq_true ah;replace ai:=eq_true ai;go_wp2
   go_ret
   exact ⟨q1_1,q1_2⟩
  rw [if_neg c8] at H;have a4:(au == 0)=false:=beq_eq_false_iff_ne.mpr c8;have br:(au != 0)=true:=bne_iff_ne.mpr c8
  by_cases c9:(rd l0 ae)<0
  ·rw [if_pos c9] at H;have a5:=dt c9;clear c9;obtain rfl:=Option.some.inj H;have ah:0≤(ae:Int):=od q1_0;have ai:ae<(l0.length:Int):=od q1_0;obtain ⟨aN,av,aO⟩:=Kd.at_int HR0.out ae ah ai;cases av;replace ah:=eq_true ah;replace ai:=eq_true ai;go_wp2
   go_ret
   exact ⟨q1_1,q1_2⟩
  rw [if_neg c9] at H;have a5:=df c9;clear c9
  by_cases c10:(rd l0 ae)≥24
  ·rw [if_pos c10] at H;have a6:decide (24≤(rd l0 ae))=true:=decide_eq_true c10;clear c10;obtain rfl:=Option.some.inj H;have ah:0≤(ae:Int):=od q1_0;have ai:ae<(l0.length:Int):=od q1_0;obtain ⟨aN,av,aO⟩:=Kd.at_int HR0.out ae ah ai;cases av;replace ah:=eq_true ah;replace ai:=eq_true ai;go_wp2
   go_ret
   exact ⟨q1_1,q1_2⟩
  rw [if_neg c10] at H;have a6:decide (24≤(rd l0 ae))=false:=decide_eq_false c10;clear c10;have H':=ak H;clear H;have ah:0≤(ae:Int):=od q1_0;have ai:ae<(l0.length:Int):=od q1_0;obtain ⟨aN,av,aO⟩:=Kd.at_int HR0.out ae ah ai;cases av;replace ah:=eq_true ah;replace ai:=eq_true ai;go_wp2
  go_roundg k2
  case measure=>have:=HJ1.out;have:=HK2.out;omega
  case rel=>exact ⟨(wrap64 (au+(wrap64 ((rd l0 ae) - 1)))),(wrap64 (ae+1)),q1_1,q1_1,H',⟨by have:=HJ1.out;have:=HK2.out;omega⟩,q1_2⟩
def impl_IsTree.f (k:Nat) (l0_0:List Int):Option (Bool):=(impl_isTree.f k l0_0).bind fun t105=>(some t105)
theorem impl_IsTree.calls (k:Nat) (A0_0:Option Addr) (c0_0:Nat) (l0_0:List Int) (r:Bool) (w:World) (hr0_0:Kd.C (Kd.int .i64) w A0_0 l0_0.length l0_0) (hc0_0:l0_0.length≤c0_0) (h:impl_IsTree.f k l0_0=some r) :
  Calls Tryz.prog 92 #[.agg #[.slice A0_0 l0_0.length c0_0]] w fun e w'=>e=.returned (.bool r)∧Below w.heap.size w w':=by
 have hu27:=Tryz.underlying27;have aD:=ak hr0_0;have aE:=ak hc0_0;clear hr0_0 hc0_0;have HB:=ak (Below.refl w.heap.size w);have H:((impl_isTree.f k l0_0).bind fun aP=>(some aP))=some r:=h;clear h;replace H:=bs H;obtain ⟨aP,A2,H⟩:=H;(try dsimp only at H);obtain rfl:=Option.some.inj H
 go_enter Tryz.func92,Tryz.ntmps92
 go_wp2_with (first|((with_reducible refine gate_dst (N:=1) rfl ?_);refine bev (N:=1) (cs:=#[.slice A0_0 l0_0.length c0_0]) (t:=27) ?_;intro bM hg w3 hbox hb;have a7:=ak (hbox);have bN:=gbe hg;have bO:=gbe hg;replace HB:=hbs hb;clear hb hbox hg;have bP:=bc a7.out;have bQ:=blk_frozen a7.out 0)|((with_reducible refine gate_callee (f:=121) rfl ?_);refine gl (some 5) Tryz.func121 #[.slice A0_0 l0_0.length c0_0] ?_;(with_reducible refine (impl_isTree.calls k _ _ l0_0 aP _ (pc (Kd.C_below aD.out HB.out)) aE.out A2.out).mono ?_);rintro e w' ⟨rfl,⟨nd,rfl⟩⟩;refine ⟨_,rfl,?_⟩))
 go_ret
 exact ⟨ew,hq⟩
def impl_orderCode.l0:Nat→List Int→Int→Int→Option (Int)
 | 0,_,_,_=>none
 | k+1,x21,x22,x23=>if x23<x22 then (if 0≤x23 then (if x23<(x21.length:Int) then (if (rd x21 x23)=x23 then (impl_orderCode.l0 k x21 x22 (wrap64 (x23+1))) else (some 2)) else (none)) else (none)) else (some 0)
def impl_orderCode.f (k:Nat) (l0_0:List Int) (l1:List Int):Option (Int):=(impl_IsTree.f k l0_0).bind fun t107=>(if t107=true then ((slices_Clone.f l1).bind fun t108=>((slices_Sort.f t108).bind fun t111=>(if (l1.length:Int)=(l0_0.length:Int) then (impl_orderCode.l0 k t111 (t108.length:Int) 0) else (some 2)))) else (some 1))
theorem impl_orderCode.calls (k:Nat) (A0_0:Option Addr) (c0_0:Nat) (l0_0:List Int) (A1:Option Addr) (c1:Nat) (l1:List Int) (r:Int) (w:World) (hr0_0:Kd.C (Kd.int .i64) w A0_0 l0_0.length l0_0) (hc0_0:l0_0.length≤c0_0) (hr1:Kd.C (Kd.int .i64) w A1 l1.length l1) (hc1:l1.length≤c1) (h:impl_orderCode.f k l0_0 l1=some r) :
  Calls Tryz.prog 55 #[.agg #[.slice A0_0 l0_0.length c0_0],.slice A1 l1.length c1] w fun e w'=>e=.returned (.int .i64 r)∧Below w.heap.size w w':=by
 have hu27:=Tryz.underlying27;have aD:=ak hr0_0;have aE:=ak hc0_0;clear hr0_0 hc0_0;have HR1:=ak hr1;have HC1:=ak hc1;clear hr1 hc1;have HB:=ak (Below.refl w.heap.size w);have H:((impl_IsTree.f k l0_0).bind fun aQ=>(if aQ=true then ((slices_Clone.f l1).bind fun al=>((slices_Sort.f al).bind fun ac=>(if (l1.length:Int)=(l0_0.length:Int) then (impl_orderCode.l0 k ac (al.length:Int) 0) else (some 2)))) else (some 1)))=some r:=h;clear h;replace H:=bs H;obtain ⟨aQ,A3,H⟩:=H;(try dsimp only at H);obtain c4|c4:=nem (aQ=true)
 ·replace c4:=Bool.eq_false_iff.mpr c4;subst c4;have H1:(some 1)=some r:=by rw [if_neg (show ¬ (false=true) by decide)] at H;exact H
  clear H;have H:=H1;clear H1;obtain rfl:=Option.some.inj H
  go_enter Tryz.func55,Tryz.ntmps55
  go_wp2_with (first|((with_reducible refine gate_dst (N:=2) rfl ?_);refine bev (N:=2) (cs:=#[.slice A0_0 l0_0.length c0_0]) (t:=27) ?_;intro aR hg w26 hbox hb;have aa:=ak (hbox);have a8:=gbe hg;have a9:=gbe hg;replace HB:=hbs hb;clear hb hbox hg;have bR:=bc aa.out;have bS:=blk_frozen aa.out 0)|((with_reducible refine gate_callee (f:=92) rfl ?_);refine gl (some 9) Tryz.func92 #[.agg #[.slice A0_0 l0_0.length c0_0]] ?_;(with_reducible refine (impl_IsTree.calls k _ _ l0_0 false _ (pc (Kd.C_below aD.out HB.out)) aE.out A3.out).mono ?_);rintro e w28 ⟨rfl,hb⟩;refine ⟨_,rfl,?_⟩;replace aa:=bb aa hb;replace HB:=hbs hb;(try clear hb)))
  go_ret
  exact ⟨ew,hq⟩
 subst c4;replace H:((slices_Clone.f l1).bind fun al=>((slices_Sort.f al).bind fun ac=>(if (l1.length:Int)=(l0_0.length:Int) then (impl_orderCode.l0 k ac (al.length:Int) 0) else (some 2))))=some r:=by rw [if_pos rfl] at H;exact H
 replace H:=bs H;obtain ⟨al,A5,H⟩:=H;(try dsimp only at H);replace H:=Option.bind_eq_some_iff.mp H;obtain ⟨ac,A60,H⟩:=H;replace H:(if (l1.length:Int)=(l0_0.length:Int) then (impl_orderCode.l0 k ac (al.length:Int) 0) else (some 2))=some r:=H
 have hln_:al.length=ac.length:=by
  unfold slices_Sort.f at A60
  split at A60
  ·rw [← Option.some.inj A60];exact (List.length_mergeSort _).symm
  ·cases A60
 rw [hln_] at H;have A6:=ak A60;clear A60;obtain c7|c7:=nem ((l1.length:Int)=(l0_0.length:Int))
 ·rw [if_neg c7] at H;have aC:((l1.length:Int) == (l0_0.length:Int))=false:=beq_eq_false_iff_ne.mpr c7;have aK:((l1.length:Int) != (l0_0.length:Int))=true:=bne_iff_ne.mpr c7;have bu:(l1.length == l0_0.length)=false:=by first|simpa using c7|(simp at c7 ⊢;omega)
  obtain rfl:=Option.some.inj H
  go_enter Tryz.func55,Tryz.ntmps55
  go_wp2_with (first|((with_reducible refine gate_dst (N:=2) rfl ?_);refine bev (N:=2) (cs:=#[.slice A0_0 l0_0.length c0_0]) (t:=27) ?_;intro aR hg w19 hbox hb;have aa:=ak (hbox);have a8:=gbe hg;have a9:=gbe hg;replace HB:=hbs hb;clear hb hbox hg;have bT:=bc aa.out;have bU:=blk_frozen aa.out 0)|((with_reducible refine gate_callee (f:=92) rfl ?_);refine gl (some 9) Tryz.func92 #[.agg #[.slice A0_0 l0_0.length c0_0]] ?_;(with_reducible refine (impl_IsTree.calls k _ _ l0_0 true _ (pc (Kd.C_below aD.out HB.out)) aE.out A3.out).mono ?_);rintro e w21 ⟨rfl,hb⟩;refine ⟨_,rfl,?_⟩;replace aa:=bb aa hb;replace HB:=hbs hb;(try clear hb))|((with_reducible refine gate_callee (f:=63) rfl ?_);refine gl (some 12) Tryz.func63 #[.slice A1 l1.length c1] ?_;(with_reducible refine (slices_Clone.calls _ _ l1 al _ (pc (Kd.C_below HR1.out HB.out)) HC1.out A5.out).mono ?_);rintro e w22 ⟨bv,rfl,ho0,hb⟩;refine ⟨_,rfl,?_⟩;have aj:=lw ho0;replace aa:=bb aa hb;replace HB:=hbs hb;(try clear hb);(try clear hb2);(try clear hk);(try clear hi);(try clear ho0);obtain ⟨aS,aT,bw⟩:=Kd.R_slice aj.out;subst bw;(try rw [hln_]);(try rw [hln_] at aj))|((with_reducible refine gate_callee (f:=64) rfl ?_);refine gl (some 14) Tryz.func64 #[.slice aS ac.length aT] ?_;(with_reducible refine (slices_Sort.calls (fun k_=>some k_=(.slice aS ac.length aT:Value).ownBlock) (.slice aS ac.length aT) al ac w _ ?side1 ?side2 A6.out).mono ?_);(case side1=>exact hq);(case side2=>exact Kd.R_tight rfl aj.out);rintro e w24 ⟨rfl,hy0,hb,hkp⟩;refine ⟨_,rfl,?_⟩;replace aa:=ak (blk_kept (pb aa.out) hkp (fun hs_=>(fun e_=>(Kd.R_ne aj.out aa.out dc) e_) hs_));replace aj:=ak (Kd.R_reok rfl hy0 (fun k_ e_=>aj.out.1 k_ e_));replace HB:=ak (hb);(try clear hb);(try clear hkp);(try clear hy0);have bV:=bc aa.out;have bW:=blk_frozen aa.out 0))
  go_ret
  exact ⟨ew,hq⟩
 rw [if_pos c7] at H;have aC:((l1.length:Int) == (l0_0.length:Int))=true:=beq_iff_eq.mpr c7;have aK:((l1.length:Int) != (l0_0.length:Int))=false:=bne_eq_false_iff_eq.mpr c7;have bu:(l1.length == l0_0.length)=true:=by first|simpa using c7|(simp at c7 ⊢;omega)
 clear c7;have H':=ak H;clear H
 go_enter Tryz.func55,Tryz.ntmps55
 go_wp2_with (first|((with_reducible refine gate_dst (N:=2) rfl ?_);refine bev (N:=2) (cs:=#[.slice A0_0 l0_0.length c0_0]) (t:=27) ?_;intro aR hg w8 hbox hb;have aa:=ak (hbox);have a8:=gbe hg;have a9:=gbe hg;replace HB:=hbs hb;clear hb hbox hg;have bX:=bc aa.out;have bY:=blk_frozen aa.out 0)|((with_reducible refine gate_callee (f:=92) rfl ?_);refine gl (some 9) Tryz.func92 #[.agg #[.slice A0_0 l0_0.length c0_0]] ?_;(with_reducible refine (impl_IsTree.calls k _ _ l0_0 true _ (pc (Kd.C_below aD.out HB.out)) aE.out A3.out).mono ?_);rintro e w10 ⟨rfl,hb⟩;refine ⟨_,rfl,?_⟩;replace aa:=bb aa hb;replace HB:=hbs hb;(try clear hb))|((with_reducible refine gate_callee (f:=63) rfl ?_);refine gl (some 12) Tryz.func63 #[.slice A1 l1.length c1] ?_;(with_reducible refine (slices_Clone.calls _ _ l1 al _ (pc (Kd.C_below HR1.out HB.out)) HC1.out A5.out).mono ?_);rintro e w11 ⟨bv,rfl,ho0,hb⟩;refine ⟨_,rfl,?_⟩;have aj:=lw ho0;replace aa:=bb aa hb;replace HB:=hbs hb;(try clear hb);(try clear hb2);(try clear hk);(try clear hi);(try clear ho0);obtain ⟨aH,aI,bx⟩:=Kd.R_slice aj.out;subst bx;(try rw [hln_]);(try rw [hln_] at aj))|((with_reducible refine gate_callee (f:=64) rfl ?_);refine gl (some 14) Tryz.func64 #[.slice aH ac.length aI] ?_;(with_reducible refine (slices_Sort.calls (fun k_=>some k_=(.slice aH ac.length aI:Value).ownBlock) (.slice aH ac.length aI) al ac w _ ?side1 ?side2 A6.out).mono ?_);(case side1=>exact hq);(case side2=>exact Kd.R_tight rfl aj.out);rintro e w13 ⟨rfl,hy0,hb,hkp⟩;refine ⟨_,rfl,?_⟩;replace aa:=ak (blk_kept (pb aa.out) hkp (fun hs_=>(fun e_=>(Kd.R_ne aj.out aa.out dc) e_) hs_));replace aj:=ak (Kd.R_reok rfl hy0 (fun k_ e_=>aj.out.1 k_ e_));replace HB:=ak (hb);(try clear hb);(try clear hkp);(try clear hy0);have bZ:=bc aa.out;have b0:=blk_frozen aa.out 0))
 go_loopg [23] k (fun kq v23 w'=>∃ (af:Int),v23=.int .i64 af∧Aside0 (impl_orderCode.l0 kq ac (ac.length:Int) af=some r)∧Aside0 (kq≤k)∧Aside0 (Kd.R (Kd.int .i64) 2 w' w.heap.size (fun _=>True) (.slice aH ac.length aI) ac)∧Aside0 (w'.heap[aR]?=some (.cells #[(.slice A0_0 l0_0.length c0_0)] 27 (0,0)))∧Aside0 (Below w.heap.size w w'))
 case atStart=>exact ⟨(0),q1_1,H',⟨Nat.le_refl _⟩,⟨pe aj.out⟩,⟨pb aa.out⟩,⟨hq⟩⟩
 case round =>
  clear H';obtain ⟨af,rfl,HA,HK1,aw,aa,HB⟩:=hrel;have az:=(Kd.R_reads' aw.out).1;rw [az] at aw;(try simp only [az]);(try simp only [az] at aa)
  cases gk with|zero=>exact absurd HA.out (by simp [impl_orderCode.l0])|succ k1=>?_
  have H:=HA.out;clear HA;simp only [impl_orderCode.l0] at H;obtain c15|c15:=nem (af<(ac.length:Int))
  ·rw [if_neg c15] at H;have bz:=df c15;clear c15;obtain rfl:=Option.some.inj H;go_wp2
   go_ret
   exact ⟨ew,hq⟩
  rw [if_pos c15] at H;have bz:=dt c15;clear c15;replace H:=ifs H;obtain ⟨c16,H⟩:=H;have b1:=dt c16;clear c16;replace H:=ifs H;obtain ⟨c17,H⟩:=H;have b2:=dt c17;clear c17;obtain c18|c18:=nem ((rd ac af)=af)
  ·rw [if_neg c18] at H;have bA:((rd ac af) == af)=false:=beq_eq_false_iff_ne.mpr c18;have bB:((rd ac af) != af)=true:=bne_iff_ne.mpr c18;obtain rfl:=Option.some.inj H;have ax:0≤(af:Int):=od q1_0;have ay:af<(ac.length:Int):=od q1_0;(try (obtain ⟨Aop_,cop_,eop_⟩:=Kd.R_slice aw.out;subst eop_));obtain ⟨bC,aU,bD⟩:=Kd.at_int (Kd.R_reads' aw.out).2.2 af ax ay;cases aU;replace ax:=eq_true ax;replace ay:=eq_true ay;go_wp2
   go_ret
   exact ⟨ew,hq⟩
  rw [if_pos c18] at H;have bA:((rd ac af) == af)=true:=beq_iff_eq.mpr c18;have bB:((rd ac af) != af)=false:=bne_eq_false_iff_eq.mpr c18;clear c18;have H':=ak H;clear H;have ax:0≤(af:Int):=od q1_0;have ay:af<(ac.length:Int):=od q1_0;(try (obtain ⟨Aop_,cop_,eop_⟩:=Kd.R_slice aw.out;subst eop_));obtain ⟨bC,aU,bD⟩:=Kd.at_int (Kd.R_reads' aw.out).2.2 af ax ay;cases aU;replace ax:=eq_true ax;replace ay:=eq_true ay;go_wp2;(try simp only [← az])
  go_roundg k1
  case measure=>have:=HK1.out;omega
  case rel=>exact ⟨(wrap64 (af+1)),q1_1,H',⟨by have:=HK1.out;omega⟩,⟨by (try simp only [az]);exact pe aw.out⟩,⟨by (try simp only [az]);exact pb aa.out⟩,⟨hq⟩⟩
def impl_labelsOf.l0:Nat→List Int→List Int→Int→Int→Option (List Int)
 | 0,_,_,_,_=>none
 | k+1,x3,x9,x10,x11=>if x11<x10 then (if 0≤x11 then (if x11<(x9.length:Int) then (if 0≤(rd x9 x11) then (if (rd x9 x11)<(x3.length:Int) then (impl_labelsOf.l0 k (x3.set ((rd x9 x11):Int).toNat x11) x9 x10 (wrap64 (x11+1))) else (none)) else (none)) else (none)) else (none)) else (some x3)
def impl_labelsOf.f (k:Nat) (l0:List Int):Option (List Int):=if 0≤(l0.length:Int) then (if ((l0.length:Int):Int).toNat≤35184372088832 then (impl_labelsOf.l0 k (List.replicate ((l0.length:Int):Int).toNat 0) l0 (l0.length:Int) 0) else (none)) else (none)
theorem impl_labelsOf.calls (k:Nat) (A0:Option Addr) (c0:Nat) (l0:List Int) (r:List Int) (w:World) (hr0:Kd.C (Kd.int .i64) w A0 l0.length l0) (hc0:l0.length≤c0) (h:impl_labelsOf.f k l0=some r) :
  Calls Tryz.prog 58 #[.slice A0 l0.length c0] w fun e w'=>∃ v0_:Value,e=.returned (v0_)∧Kd.R (Kd.int .i64) 2 w' w.heap.size (fun _=>True) v0_ r∧Below w.heap.size w w':=by
 have HR0:=ak hr0;have HC0:=ak hc0;clear hr0 hc0;have HB:=ak (Below.refl w.heap.size w);have H:(if 0≤(l0.length:Int) then (if ((l0.length:Int):Int).toNat≤35184372088832 then (impl_labelsOf.l0 k (List.replicate ((l0.length:Int):Int).toNat 0) l0 (l0.length:Int) 0) else (none)) else (none))=some r:=h;clear h;replace H:=ifs H;obtain ⟨c2,H⟩:=H;have b3:=eq_true c2;have b4:decide (0≤(l0.length:Int))=true:=decide_eq_true c2;clear c2;replace H:=ifs H;obtain ⟨c3,H⟩:=H;have an:=eq_true c3;have aF:decide (((l0.length:Int):Int).toNat≤35184372088832)=true:=decide_eq_true c3;clear c3;obtain ⟨ba,hY⟩:∃ y_:List Int,y_=(List.replicate ((l0.length:Int):Int).toNat 0):=⟨_,rfl⟩;replace H:(impl_labelsOf.l0 k ba l0 (l0.length:Int) 0)=some r:=hh;have bd:=ak hY;clear hY;have H':=ak H;clear H
 go_enter Tryz.func58,Tryz.ntmps58
 go_wp2_with (first|((with_reducible refine gate_dst (N:=8) rfl ?_);refine Kd.R_make (Kd.int .i64) _ 2 rfl (N:=8) rfl 24 _ _ rfl (l0.length:Int) rfl rfl Tryz.underlying24 (.int .i64 0) 8 info2 rfl dc (by omega) 0 (ok:=fun _=>True) (okp:=fun _=>True) rfl (fun _ hk=>hk) trivial (od q1_0) (Nat.le_trans (Nat.mul_le_mul_right _ (od q1_0:(l0.length:Int).toNat≤35184372088832)) (by omega)) (Below.refl _ _) (Nat.le_refl _) ?_;intro bE w4 ho5 hb hg_ hnew_;clear hg_ hnew_;(first|rw [← bd.out] at ho5|(simp only [Int.reduceToNat] at ho5;rw [← bd.out] at ho5));have bF:=lw ho5;replace HB:=hbs hb;clear hb ho5))
 go_loopg [11] k (fun kq v11 w'=>∃ (aA:List Int) (ag:Int),v11=.int .i64 ag∧Aside0 (impl_labelsOf.l0 kq aA l0 (l0.length:Int) ag=some r)∧Aside0 (kq≤k)∧Aside0 (Kd.R (Kd.int .i64) 2 w' w.heap.size (fun _=>True) bE aA)∧Aside0 (Below w.heap.size w w'))
 case atStart=>exact ⟨(ba),(0),q1_1,H',⟨Nat.le_refl _⟩,⟨pe bF.out⟩,⟨hq⟩⟩
 case round =>
  clear H';obtain ⟨aA,ag,rfl,HA,HK1,aB,HB⟩:=hrel
  cases gk with|zero=>exact absurd HA.out (by simp [impl_labelsOf.l0])|succ k1=>?_
  have H:=HA.out;clear HA;simp only [impl_labelsOf.l0] at H;obtain c6|c6:=nem (ag<(l0.length:Int))
  ·rw [if_neg c6] at H;have aJ:=df c6;clear c6;obtain rfl:=Option.some.inj H;go_wp2
   go_ret
   exact ⟨_,ew,pe aB.out,hq⟩
  rw [if_pos c6] at H;have aJ:=dt c6;clear c6;replace H:=ifs H;obtain ⟨c7,H⟩:=H;have aC:=dt c7;clear c7;replace H:=ifs H;obtain ⟨c8,H⟩:=H;have a4:=dt c8;clear c8;replace H:=ifs H;obtain ⟨c9,H⟩:=H;have a5:=dt c9;clear c9;replace H:=ifs H;obtain ⟨c10,H⟩:=H;have a6:=dt c10;clear c10;obtain ⟨aV,hY⟩:∃ y_:List Int,y_=(aA.set ((rd l0 ag):Int).toNat ag):=⟨_,rfl⟩;replace H:(impl_labelsOf.l0 k1 aV l0 (l0.length:Int) (wrap64 (ag+1)))=some r:=hh;have bG:=ak hY;clear hY;have H':=ak H;clear H;have aW:0≤(ag:Int):=od q1_0;have aX:ag<(l0.length:Int):=od q1_0;obtain ⟨b5,bH,aY⟩:=Kd.at_int HR0.out ag aW aX;cases bH;replace aY:=(HB.out.cell (World.block_lt_of_cell? w _ aY)).trans aY;replace aW:=eq_true aW;replace aX:=eq_true aX;have p11:0≤((rd l0 ag):Int):=od q1_0;have q11:((rd l0 ag):Int)<((aA.length:Int):Int):=od q1_0;obtain ⟨aZ,bI,bf,bg,gl11,cl11,bh⟩:=Kd.R_form aB.out (by omega);(first|cases bf|(injection bf with ea_ en_ ec_;(first|subst ea_|(injection ea_ with ea_;subst ea_));subst ec_;clear en_));have GB11:=ak bg;have b6:=ak bh;clear bg gl11 bh;obtain ⟨b7,b8⟩:=Kd.R_celln 0 aB.out ((rd l0 ag):Int) p11 q11;replace p11:=eq_true p11;replace q11:=eq_true q11;have a2:=Kd.R_putg aB.out ((rd l0 ag):Int) ag
  go_wp2_with (first|((with_reducible refine gate_store (t:=2) (p:=19) rfl ?_);refine store_event (t:=2) (p:=19) (v:=?vo_w13) (w1:=(wr.setCell ⟨aZ,((rd l0 ag):Int).toNat,none⟩ (.int .i64 ag))) ?hg ?ho ?hn ?hr ?_;(case ho=>rfl);(case hg=>rfl);(case hn=>rfl);(case hr=>exact gs);intro w13 hw;have hg:wr.grownBy w13 (some aZ):=(by rw [hw];exact a2.2);have hp_:Kd.R (Kd.int .i64) 2 w13 w.heap.size (fun _=>True) (.slice (some ⟨aZ,0,none⟩) aA.length bI) aV:=(by rw [hw,bG.out];exact a2.1);clear a2;replace aB:=ak (hp_);replace HB:=ak (by rw [hw];exact below_set (HB.out) GB11.out:Below w.heap.size w w13);clear hg hw hp_))
  go_roundg k1
  case measure=>have:=HK1.out;omega
  case rel=>exact ⟨(aV),(wrap64 (ag+1)),q1_1,H',⟨by have:=HK1.out;omega⟩,⟨pe aB.out⟩,⟨hq⟩⟩
def bits_Mul64.f (a0:Int) (a1:Int):Option (Int × Int):=some (IntKind.u64.wrap ((IntKind.u64.wrap ((IntKind.u64.wrap ((a0 / 4294967296)*(a1 / 4294967296)))+((IntKind.u64.wrap ((IntKind.u64.wrap ((a0 / 4294967296)*(Go.bits .and .u64 a1 4294967295)))+((IntKind.u64.wrap ((Go.bits .and .u64 a0 4294967295)*(Go.bits .and .u64 a1 4294967295))) / 4294967296))) / 4294967296)))+((IntKind.u64.wrap ((Go.bits .and .u64 (IntKind.u64.wrap ((IntKind.u64.wrap ((a0 / 4294967296)*(Go.bits .and .u64 a1 4294967295)))+((IntKind.u64.wrap ((Go.bits .and .u64 a0 4294967295)*(Go.bits .and .u64 a1 4294967295))) / 4294967296))) 4294967295)+(IntKind.u64.wrap ((Go.bits .and .u64 a0 4294967295)*(a1 / 4294967296))))) / 4294967296)),IntKind.u64.wrap (a0*a1))
theorem bits_Mul64.calls (a0:Int) (a1:Int) (r1:Int) (r2:Int) (w:World) (h:bits_Mul64.f a0 a1=some (r1,r2)) :
  Calls Tryz.prog 144 #[.int .u64 a0,.int .u64 a1] w fun e w'=>e=.returned (.tuple #[.int .u64 r1,.int .u64 r2])∧Drawn0 w w':=by
 have H:(some (IntKind.u64.wrap ((IntKind.u64.wrap ((IntKind.u64.wrap ((a0 / 4294967296)*(a1 / 4294967296)))+((IntKind.u64.wrap ((IntKind.u64.wrap ((a0 / 4294967296)*(Go.bits .and .u64 a1 4294967295)))+((IntKind.u64.wrap ((Go.bits .and .u64 a0 4294967295)*(Go.bits .and .u64 a1 4294967295))) / 4294967296))) / 4294967296)))+((IntKind.u64.wrap ((Go.bits .and .u64 (IntKind.u64.wrap ((IntKind.u64.wrap ((a0 / 4294967296)*(Go.bits .and .u64 a1 4294967295)))+((IntKind.u64.wrap ((Go.bits .and .u64 a0 4294967295)*(Go.bits .and .u64 a1 4294967295))) / 4294967296))) 4294967295)+(IntKind.u64.wrap ((Go.bits .and .u64 a0 4294967295)*(a1 / 4294967296))))) / 4294967296)),IntKind.u64.wrap (a0*a1)))=some (r1,r2):=h;clear h;simp only [Option.some.injEq,Prod.mk.injEq] at H;obtain ⟨rfl,rfl⟩:=H
 go_enter Tryz.func144,Tryz.ntmps144
 go_wp2
 go_ret2
 exact ⟨q1_1,q1_2⟩
def bits_Mul.f (a0:Int) (a1:Int):Option (Int × Int):=(bits_Mul64.f a0 a1).bind fun bt118=>(some (bt118.1,bt118.2))
theorem bits_Mul.calls (a0:Int) (a1:Int) (r1:Int) (r2:Int) (w:World) (h:bits_Mul.f a0 a1=some (r1,r2)) :
  Calls Tryz.prog 124 #[.int .u64 a0,.int .u64 a1] w fun e w'=>e=.returned (.tuple #[.int .u64 r1,.int .u64 r2])∧Drawn0 w w':=by
 have H:((bits_Mul64.f a0 a1).bind fun bi=>(some (bi.1,bi.2)))=some (r1,r2):=h;clear h;replace H:=bs H;obtain ⟨⟨bJ,bK⟩,A3,H⟩:=H;(try dsimp only at H);simp only [Option.some.injEq,Prod.mk.injEq] at H;obtain ⟨rfl,rfl⟩:=H
 go_enter Tryz.func124,Tryz.ntmps124
 go_wp2_with (first|((with_reducible refine gate_callee (f:=144) rfl ?_);refine gl (some 25) Tryz.func144 #[.int .u64 a0,.int .u64 a1] ?_;(with_reducible refine (bits_Mul64.calls a0 a1 bJ bK _ A3.out).mono ?_);rintro e w' ⟨rfl,⟨nd,rfl⟩⟩;refine ⟨_,rfl,?_⟩))
 go_ret2
 exact ⟨q1_1,q1_2⟩
end Go.Proofs.YtlppkilencpmeaaGreat.QFnGrowing
