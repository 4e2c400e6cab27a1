/- Functions as Lean functions, with their contracts: written by a program of this claim over the translation; some contracts are proved by hand. -/
import Derived.Test.YtlppkilencpmeaaGreatQFnGrowingx0
import Derived.Test.YtlppkilencpmeaaGreatQFnGrowingx1
namespace Go.Proofs.YtlppkilencpmeaaGreat.QFnGrowing
open Go.RowKit Go.Proofs.YtlppkilencpmeaaGreat.Gl Go.Proofs.YtlppkilencpmeaaGreat.Sz Go.Proofs.YtlppkilencpmeaaGreatW.PrintWords Go.Proofs.YtlppkilencpmeaaGreatW.PrintLast Go.Proofs.YtlppkilencpmeaaGreatW.PrintMore
attribute [local go_sem] max2_int min2_int max_two min_two max_three min_three max_four min_four   -- for this text's walks alone
set_option linter.unusedVariables false
set_option linter.unusedSimpArgs false
theorem q2_0 {P:Prop} (h:P:=by first|(with_reducible assumption)|assumption):P:=h
theorem q2_1 {P:Prop} (h:P:=by first|rfl|(simp;done)|(simp [*];done)):P:=h
set_option maxHeartbeats 8000000
set_option maxRecDepth 100000
def slices_Repeat.f (l0:List Int) (a1:Int):Option (List Int):=if l0.length=1∧1≤a1∧a1≤24 then some (List.replicate a1.toNat (rd l0 0)) else none
theorem bits_Mul.one:∀ a:Fin 25,bits_Mul.f 1 ((a.val:Nat):Int)=some (0,((a.val:Nat):Int)):=by decide +kernel
theorem slices_Repeat.calls (A0:Option Addr) (c0:Nat) (l0:List Int) (a1:Int) (r:List Int) (w:World) (hr0:Kd.C (Kd.int .i64) w A0 l0.length l0) (hc0:l0.length≤c0) (h:slices_Repeat.f l0 a1=some r) :
  Calls Tryz.prog 102 #[.slice A0 l0.length c0,.int .i64 a1] w fun e w'=>∃ v0_:Value,e=.returned (v0_)∧Kd.R (Kd.int .i64) 2 w' w.heap.size (fun _=>True) v0_ r∧Below w.heap.size w w':=by
 unfold slices_Repeat.f at h
 by_cases hc:l0.length=1∧1≤a1∧a1≤24
 rotate_left
 ·rw [if_neg hc] at h;cases h
 rw [if_pos hc] at h;obtain ⟨h1,h2,h3⟩:=hc
 obtain ⟨x,rfl⟩:∃ x,l0=[x]:=by
  match l0,h1 with
  | [x],_=>exact ⟨x,rfl⟩
 obtain ⟨m,rfl⟩:∃ m:Nat,a1=(m:Int):=⟨a1.toNat,by omega⟩;have hmul:=bits_Mul.one ⟨m,by omega⟩;simp only at hmul;have HMUL:=ak hmul;have HR0:=ak hr0;have HC0:=ak hc0;obtain rfl:=Option.some.inj h;clear hr0 hc0 hmul h;simp only [List.length_cons,List.length_nil] at h1 ⊢;clear h1
 go_enter Tryz.func102,Tryz.ntmps102
 go_wp2_with (first|(go_at_call 124;refine (bits_Mul.calls _ _ _ _ _ HMUL.out).mono ?_;rintro e w1 ⟨rfl,hd⟩;have HB:=ak hd.below;clear hd)|((with_reducible refine gate_dst (N:=30) rfl ?_);refine Kd.R_make (Kd.int .i64) _ 2 rfl (N:=30) rfl 24 _ _ rfl (m:Int) rfl rfl Tryz.underlying24 (.int .i64 0) 8 info2 rfl dc (by omega) 0 (ok:=fun _=>True) (okp:=fun _=>True) rfl (fun _ hk=>hk) trivial (by omega) (by omega) (Below.refl _ _) (Nat.le_refl _) ?_;intro bX w4 ho5 hb hg_ hnew_;clear hg_ hnew_;have HO:=ak (Kd.R_lower ho5 HB.out.size);have n1_:=ak (below_step HB.out hb);clear HB;have HB:=n1_;clear n1_;clear hb ho5)|((with_reducible refine gate_dst (N:=33) rfl ?_);refine Kd.R_copy (d:=(0:Int)) _ rfl (.tmp 31) (.tmp 32) 24 24 2 rfl Tryz.underlying24 kr _ _ _ _ _ _ (fun _=>True) rfl rfl HO.out (Kd.C_below HR0.out HB.out) HB.out HB.out.size ?_;intro w5 ho2 hb2 hg2;have n1_:=ak hb2;have n2_:=ak ho2;clear HB HO hb2 ho2 hg2;have HB:=n1_;have HO:=n2_;clear n1_ n2_))
 obtain ⟨g,cap,L0,rfl,hbg,hg0,hL0,hmc,hcap,ht0⟩:=block_of_R HO.out (m:=m) (by simp;omega) (by omega);have h1m:min 1 m=1:=by omega
 have ht1:L0.take m=encs EI (repd x 1 m):=by
  rw [ht0,List.length_replicate,Int.toNat_natCast,h1m];unfold repd;simp
 have HG0:=ak hg0;have HT0:=ak ht1;have HL0:=ak hL0;clear HO hg0 ht0 ht1 hL0;rw [h1m];have e1:((1:Nat):Int)=1:=rfl;rw [e1];clear h1m e1
 go_loopw [8] (fun v8 w'=>∃ (n:Nat) (L:List Value),v8=.int .i64 (n:Int)∧Aside0 (1≤n∧n≤m)∧Aside0 (w'.heap[g]?=some (.cells L.toArray 2 (0,0)))∧Aside0 (L.length=cap)∧Aside0 (L.take m=encs EI (repd x n m))∧Aside0 (Below w.heap.size w w')) (fun v8 _=>m - (intOf v8).toNat)
 case atStart=>exact ⟨1,L0,rfl,⟨by omega⟩,HG0,HL0,HT0,HB⟩
 case round =>
  obtain ⟨n,L,rfl,HN,HG,HL,HT,HB⟩:=hrel;have hn:=HN.out
  by_cases hlt:n<m
  rotate_left
  ·go_wp2
   refine bodyPost_ret (v:=.slice (some ⟨g,0,none⟩) m cap) (by simp [results,Tryz.results102,go_sem]) rfl ⟨_,rfl,?_,HB.out⟩
   have e:n=m:=by omega
   subst e
   refine R_of_block hbg HG.out HL.out hmc hcap (by simp) ?_
   rw [HT.out];unfold repd;simp [rd]
  go_wp2
  have hle:min n (m - n)≤m - n:=Nat.min_le_right _ _;obtain ⟨q,hq⟩:∃ q,q=min n (m - n):=⟨_,rfl⟩;have HQ:=ak hq;obtain ⟨cs,hcs⟩:∃ cs,cs=encs EI (List.replicate q x):=⟨_,rfl⟩;have hcl:cs.length=q:=by rw [hcs];simp [encs]
  have C1:=ak (show cs.length=Nat.min n (m - n) from hcl.trans hq);have C2:=ak (show 0<cs.length→some (⟨g,n,none⟩:Addr)=some ⟨g,n,none⟩∧∃ ad,some (⟨g,0,none⟩:Addr)=some ad∧∀ j v,cs[j]?=some v→wr.drew.cell? (ad.add j)=some v from fun _=>⟨rfl,_,rfl,fun j v hv=>copy_src HG.out HT.out hn.2 hcs hq hv⟩);have C3:=ak (show n+cs.length≤L.length by rw [hcl,HL.out];omega);have C4:=ak (show ∀ v∈cs,v.oneCell'=true by rw [hcs];intro v hv;simp only [encs,List.mem_map] at hv;obtain ⟨a,_,rfl⟩:=hv;rfl);have HCS:=ak hcs;have HCL:=ak hcl;clear hq hcs hcl hle;have hnc:n≤cap:=by omega
  have bY:¬ cap=n:=by omega
  go_region_law (rw [if_pos (by rfl)];refine op_copy_splice (.tmp 41) (.tmp 44) 24 24 rfl 2 Tryz.underlying24 kr (some ⟨g,n,none⟩) (some ⟨g,0,none⟩) (m - n) (cap - n) n cap (by go_simp) (by go_simp) g n L 2 HG.out cs C1.out C2.out C3.out C4.out w.heap.size w (below_drew HB.out) hbg ?_;intro w6 hg6 hb6)
  have hg6':=ak hg6.out;have hb6':=ak hb6;clear hg6 hb6;have hq1:1≤q∧n+q≤m:=by rw [HQ.out];omega
  go_simp
  rw [HCL.out,Go.IntWalk.i64_in _ (by omega)]
  go_roundw
  case measure=>simp [intOf];omega
  case rel =>
   (repeat apply Exists.intro)
   refine ⟨⟨n+q,splice L n cs,?_,⟨by omega⟩,hg6',⟨(length_splice L n cs C3.out).trans HL.out⟩,⟨by rw [HCS.out,HQ.out];exact take_splice hn.2 (by rw [HL.out];exact hmc) HT.out⟩,hb6'⟩,rfl⟩
   go_num
def impl_endOf.l0:Nat→List Int→Int→Int→Option (Int)
 | 0,_,_,_=>none
 | k+1,x0,x1,x5=>if x5>0 then (if 0≤x1 then (if x1<(x0.length:Int) then (impl_endOf.l0 k x0 (wrap64 (x1+1)) (wrap64 (x5+(wrap64 ((rd x0 x1) - 1))))) else (none)) else (none)) else (some x1)
def impl_endOf.f (k:Nat) (l0:List Int) (a1:Int):Option (Int):=impl_endOf.l0 k l0 a1 1
theorem impl_endOf.calls (k:Nat) (A0:Option Addr) (c0:Nat) (l0:List Int) (a1:Int) (r:Int) (w:World) (hr0:Kd.C (Kd.int .i64) w A0 l0.length l0) (hc0:l0.length≤c0) (h:impl_endOf.f k l0 a1=some r) :
  Calls Tryz.prog 117 #[.slice A0 l0.length c0,.int .i64 a1] w fun e w'=>e=.returned (.int .i64 r)∧Drawn0 w w':=by
 have HR0:=ak hr0;have HC0:=ak hc0;clear hr0 hc0;have H:(impl_endOf.l0 k l0 a1 1)=some r:=h;clear h;have H':=ak H;clear H
 go_enter Tryz.func117,Tryz.ntmps117
 go_wp2
 go_loopg [1,5] k (fun kq v1 v5 w'=>∃ (ap:Int) (ah:Int),v1=.int .i64 ap∧v5=.int .i64 ah∧Aside0 (impl_endOf.l0 kq l0 ap ah=some r)∧Aside0 (kq≤k)∧Drawn0 w w')
 case atStart=>exact ⟨(a1),(1),q2_1,q2_1,H',⟨Nat.le_refl _⟩,by repeat (first|exact Drawn0.refl _|apply Drawn0.step)⟩
 case round =>
  clear H';obtain ⟨ap,ah,rfl,rfl,HA,HK1,⟨m1,rfl⟩⟩:=hrel
  cases gk with|zero=>exact absurd HA.out (by simp [impl_endOf.l0])|succ k1=>?_
  have H:=HA.out;clear HA;simp only [impl_endOf.l0] at H;obtain c3|c3:=nem (ah>0)
  ·rw [if_neg c3] at H;have bh:decide (0<ah)=false:=decide_eq_false c3;clear c3;obtain rfl:=Option.some.inj H;go_wp2
   go_ret
   exact ⟨q2_1,by repeat (first|exact Drawn0.refl _|apply Drawn0.step)⟩
  rw [if_pos c3] at H;have bh:decide (0<ah)=true:=decide_eq_true c3;clear c3;replace H:=ifs H;obtain ⟨c4,H⟩:=H;have aQ:=dt c4;clear c4;replace H:=ifs H;obtain ⟨c5,H⟩:=H;have bZ:=dt c5;clear c5;have H':=ak H;clear H;have aR:0≤(ap:Int):=od q2_0;have aT:ap<(l0.length:Int):=od q2_0;obtain ⟨b0,bx,b1⟩:=Kd.at_int HR0.out ap aR aT;cases bx;replace aR:=eq_true aR;replace aT:=eq_true aT;go_wp2
  go_roundg k1
  case measure=>have:=HK1.out;omega
  case rel=>exact ⟨(wrap64 (ap+1)),(wrap64 (ah+(wrap64 ((rd l0 ap) - 1)))),q2_1,q2_1,H',⟨by have:=HK1.out;omega⟩,by repeat (first|exact Drawn0.refl _|apply Drawn0.step)⟩
def impl_kidsOf.l0:Nat→List Int→List Int→Int→Int→Int→Option (List Int)
 | 0,_,_,_,_,_=>none
 | k+1,x0,x5,x6,x13,x14=>if x14<x13 then (if x5.length<17592186044416 then ((impl_endOf.f k x0 x6).bind fun t128=>(impl_kidsOf.l0 k x0 (x5++[x6]) t128 x13 (wrap64 (x14+1)))) else (none)) else (some x5)
def impl_kidsOf.f (k:Nat) (l0:List Int) (a1:Int):Option (List Int):=if 0≤a1 then (if a1<(l0.length:Int) then (impl_kidsOf.l0 k l0 ([]:List Int) (wrap64 (a1+1)) (rd l0 a1) 0) else (none)) else (none)
theorem impl_kidsOf.calls (k:Nat) (A0:Option Addr) (c0:Nat) (l0:List Int) (a1:Int) (r:List Int) (w:World) (hr0:Kd.C (Kd.int .i64) w A0 l0.length l0) (hc0:l0.length≤c0) (h:impl_kidsOf.f k l0 a1=some r) :
  Calls Tryz.prog 103 #[.slice A0 l0.length c0,.int .i64 a1] w fun e w'=>∃ v0_:Value,e=.returned (v0_)∧Kd.R (Kd.int .i64) 2 w' w.heap.size (fun _=>True) v0_ r∧Below w.heap.size w w':=by
 have HR0:=ak hr0;have HC0:=ak hc0;clear hr0 hc0;have HB:=ak (Below.refl w.heap.size w);have H:(if 0≤a1 then (if a1<(l0.length:Int) then (impl_kidsOf.l0 k l0 ([]:List Int) (wrap64 (a1+1)) (rd l0 a1) 0) else (none)) else (none))=some r:=h;clear h;obtain ⟨bi,hY⟩:∃ y_:List Int,y_=([]:List Int):=⟨_,rfl⟩;replace H:(if 0≤a1 then (if a1<(l0.length:Int) then (impl_kidsOf.l0 k l0 bi (wrap64 (a1+1)) (rd l0 a1) 0) else (none)) else (none))=some r:=hh;have bj:=ak hY;clear hY;replace H:=ifs H;obtain ⟨c3,H⟩:=H;have bh:=dt c3;clear c3;replace H:=ifs H;obtain ⟨c4,H⟩:=H;have aQ:=dt c4;clear c4;have H':=ak H;clear H
 go_enter Tryz.func103,Tryz.ntmps103
 go_wp2_with (first|((with_reducible refine gate_dst (N:=7) rfl ?_);refine Kd.R_lit (Kd.int .i64) _ 2 ?hg (N:=7) ?hd (xs:=([]:List Int)) (inner:=[]) (ok:=fun _=>True) (okp:=fun _=>True) ?hr ?hp (fun _ hk=>hk) trivial (Below.refl _ _) (Nat.le_refl _) (by simp) ?_;(case hd=>rfl);(case hg=>rfl);(case hr=>exact gs);(case hp=>exact (Reps.none _ _));intro b2 w5 ho6 hb hg_ hnew_;clear hg_ hnew_;(first|rw [← bj.out] at ho6|(simp only [Int.reduceToNat] at ho6;rw [← bj.out] at ho6));have bz:=lw ho6;replace HB:=hbs hb;clear hb ho6;have aU:0≤(a1:Int):=od q2_0;have aV:a1<(l0.length:Int):=od q2_0;obtain ⟨bA,bB,aW⟩:=Kd.at_int HR0.out a1 aU aV;cases bB;replace aW:=(HB.out.cell (World.block_lt_of_cell? w _ aW)).trans aW;replace aU:=eq_true aU;replace aV:=eq_true aV))
 go_loopg [5,6,14] k (fun kq v5 v6 v14 w'=>∃ (ah:List Int) (an:Int) (aA:Int),v6=.int .i64 an∧v14=.int .i64 aA∧Aside0 (impl_kidsOf.l0 kq l0 ah an (rd l0 a1) aA=some r)∧Aside0 (kq≤k)∧Aside0 (Kd.R (Kd.int .i64) 2 w' w.heap.size (fun _=>True) v5 ah)∧Aside0 (Below w.heap.size w w'))
 case atStart=>exact ⟨(bi),(wrap64 (a1+1)),(0),q2_1,q2_1,H',⟨Nat.le_refl _⟩,⟨pe bz.out⟩,⟨hq⟩⟩
 case round =>
  clear H';obtain ⟨ah,an,aA,rfl,rfl,HA,HK1,ac,HB⟩:=hrel
  cases gk with|zero=>exact absurd HA.out (by simp [impl_kidsOf.l0])|succ k1=>?_
  have H:=HA.out;clear HA;simp only [impl_kidsOf.l0] at H;obtain c7|c7:=nem (aA<(rd l0 a1))
  ·rw [if_neg c7] at H;have aE:=df c7;clear c7;obtain rfl:=Option.some.inj H;go_wp2
   go_ret
   exact ⟨_,ew,pe ac.out,hq⟩
  rw [if_pos c7] at H;have aE:=dt c7;clear c7;replace H:=ifs H;obtain ⟨c8,H⟩:=H;have bC:=ak c8;clear c8;obtain ⟨bk,hY⟩:∃ y_:List Int,y_=(ah++[an]):=⟨_,rfl⟩;replace H:((impl_endOf.f k1 l0 an).bind fun aI=>(impl_kidsOf.l0 k1 l0 bk aI (rd l0 a1) (wrap64 (aA+1))))=some r:=hh;have bD:=ak hY;clear hY;replace H:=bs H;obtain ⟨aI,A9,H⟩:=H;(try dsimp only at H);have H':=ak H;clear H
  go_wp2_with (first|((with_reducible refine gate_builtin (b:=.append) (xs:=#[.tmp 16,.tmp 18]) rfl ?_);at_builtin;refine Kd.R_append (Kd.int .i64) (w0:=w) w.heap.size rfl (.tmp 16) (.tmp 18) 24 2 (.int .i64 0) 8 rfl Tryz.underlying24 info2 rfl dc (by omega) u5 ah an [.int .i64 an] (fun _=>True) (fun _=>False) rfl rfl ?aP (fun _ hk=>hk.elim) ?aF ?aO ?aB ?aS ?aL ?_;(case aP=>exact rfl);(case aB=>exact hq);(case aF=>exact (fun _ _=>trivial));(case aO=>exact (pe ac.out));(case aS=>exact (below_size hq));(case aL=>have:=bC.out;omega);intro b3 w10 ho hb hg hat;rw [← bD.out] at ho;replace HB:=ak (hb);have bE:=ak (ho);clear ac;clear ho hb hg hat)|((with_reducible refine gate_callee (f:=117) rfl ?_);refine gl (some 22) Tryz.func117 #[.slice (some bA) l0.length c0,.int .i64 an] ?_;(with_reducible refine (impl_endOf.calls k1 _ _ l0 an aI _ (pc (Kd.C_below HR0.out HB.out)) HC0.out A9.out).mono ?_);rintro e w' ⟨rfl,⟨nd,rfl⟩⟩;refine ⟨_,rfl,?_⟩))
  go_roundg k1
  case measure=>have:=HK1.out;omega
  case rel=>exact ⟨(bk),(aI),(wrap64 (aA+1)),q2_1,q2_1,H',⟨by have:=HK1.out;omega⟩,⟨pe bE.out⟩,⟨hq⟩⟩
mutual
def impl_parentsOf.l0:Nat→List Int→List Int→Int→Int→Option (List Int)
 | 0,_,_,_,_=>none
 | k+1,x0,x3,x12,x13=>if x13<x12 then ((impl_kidsOf.f k x0 x13).bind fun t135=>(impl_parentsOf.l1 k x0 x3 x13 x12 x13 t135 (t135.length:Int) 0)) else (some x3)
def impl_parentsOf.l1:Nat→List Int→List Int→Int→Int→Int→List Int→Int→Int→Option (List Int)
 | 0,_,_,_,_,_,_,_,_=>none
 | k+1,x0,x3,x4,x12,x13,x18,x19,x20=>if x20<x19 then (if 0≤x20 then (if x20<(x18.length:Int) then (if 0≤(rd x18 x20) then (if (rd x18 x20)<(x3.length:Int) then (impl_parentsOf.l1 k x0 (x3.set ((rd x18 x20):Int).toNat x4) x4 x12 x13 x18 x19 (wrap64 (x20+1))) else (none)) else (none)) else (none)) else (none)) else (impl_parentsOf.l0 k x0 x3 x12 (wrap64 (x13+1)))
end
def impl_parentsOf.f (k:Nat) (l0:List Int):Option (List Int):=(slices_Repeat.f ([(-1)]:List Int) (l0.length:Int)).bind fun t132=>(impl_parentsOf.l0 k l0 t132 (l0.length:Int) 0)
theorem impl_parentsOf.calls (k:Nat) (A0:Option Addr) (c0:Nat) (l0:List Int) (r:List Int) (w:World) (hr0:Kd.C (Kd.int .i64) w A0 l0.length l0) (hc0:l0.length≤c0) (h:impl_parentsOf.f k l0=some r) :
  Calls Tryz.prog 59 #[.slice A0 l0.length c0] w fun e w'=>∃ v0_:Value,e=.returned (v0_)∧Kd.R (Kd.int .i64) 2 w' w.heap.size (fun _=>True) v0_ r∧Below w.heap.size w w':=by
 have HR0:=ak hr0;have HC0:=ak hc0;clear hr0 hc0;have HB:=ak (Below.refl w.heap.size w);have H:((slices_Repeat.f ([(-1)]:List Int) (l0.length:Int)).bind fun aC=>(impl_parentsOf.l0 k l0 aC (l0.length:Int) 0))=some r:=h;clear h;obtain ⟨aX,hY⟩:∃ y_:List Int,y_=([(-1)]:List Int):=⟨_,rfl⟩;replace H:((slices_Repeat.f aX (l0.length:Int)).bind fun aC=>(impl_parentsOf.l0 k l0 aC (l0.length:Int) 0))=some r:=hh;have bl:=ak hY;clear hY;replace H:=bs H;obtain ⟨aC,A2,H⟩:=H;(try dsimp only at H);have H':=ak H;clear H
 go_enter Tryz.func59,Tryz.ntmps59
 go_wp2_with (first|((with_reducible refine gate_dst (N:=7) rfl ?_);refine Kd.R_lit (Kd.int .i64) _ 2 ?hg (N:=7) ?hd (xs:=([(-1)]:List Int)) (inner:=[.int .i64 (-1)]) (ok:=fun _=>True) (okp:=fun _=>True) ?hr ?hp (fun _ hk=>hk) trivial (Below.refl _ _) (Nat.le_refl _) (by simp) ?_;(case hd=>rfl);(case hg=>rfl);(case hr=>exact gs);(case hp=>exact (Reps.one (show Kd.M (Kd.int .i64) _ _ _ (-1) [.int .i64 (-1)] from rfl) (Reps.none _ _)));intro b4 w3 ho4 hb hg_ hnew_;clear hg_ hnew_;(first|rw [← bl.out] at ho4|(simp only [Int.reduceToNat] at ho4;rw [← bl.out] at ho4));have aD:=lw ho4;replace HB:=hbs hb;clear hb ho4;obtain ⟨Ao5,co5,eo5⟩:=Kd.R_slice aD.out;subst eo5)|((with_reducible refine gate_callee (f:=102) rfl ?_);refine gl (some 10) Tryz.func102 #[.slice Ao5 aX.length co5,.int .i64 (l0.length:Int)] ?_;(with_reducible refine (slices_Repeat.calls _ _ aX (l0.length:Int) aC _ (pc ((Kd.R_reads' aD.out).2.2)) (Kd.R_reads' aD.out).2.1 A2.out).mono ?_);rintro e w6 ⟨aY,rfl,ho0,hb⟩;refine ⟨_,rfl,?_⟩;have bF:=lw (nw ho0 aD);replace aD:=rn aD ho0 hb;replace HB:=hbs hb;(try clear hb ho0)))
 go_loopg [13] k (fun kq v13 w'=>∃ (aJ:List Int) (af:Int),v13=.int .i64 af∧Aside0 (impl_parentsOf.l0 kq l0 aJ (l0.length:Int) af=some r)∧Aside0 (kq≤k)∧Aside0 (Kd.R (Kd.int .i64) 2 w' w.heap.size (fun _=>True) aY aJ)∧Aside0 (Below w.heap.size w w'))
 case atStart=>exact ⟨(aC),(0),q2_1,H',⟨Nat.le_refl _⟩,⟨pe (Kd.R_mono bF.out (fun _ hk=>trivial))⟩,⟨hq⟩⟩
 case round =>
  clear H';obtain ⟨aJ,af,rfl,HA,HK1,aj,HB⟩:=hrel
  cases gk with|zero=>exact absurd HA.out (by simp [impl_parentsOf.l0])|succ k1=>?_
  have H:=HA.out;clear HA;simp only [impl_parentsOf.l0] at H;obtain c7|c7:=nem (af<(l0.length:Int))
  ·rw [if_neg c7] at H;have aE:=df c7;clear c7;obtain rfl:=Option.some.inj H;go_wp2
   go_ret
   exact ⟨_,ew,pe aj.out,hq⟩
  rw [if_pos c7] at H;have aE:=dt c7;clear c7;replace H:=bs H;obtain ⟨ab,A8,H⟩:=H;(try dsimp only at H);have H':=ak H;clear H
  go_wp2_with (first|((with_reducible refine gate_callee (f:=103) rfl ?_);refine gl (some 18) Tryz.func103 #[.slice A0 l0.length c0,.int .i64 af] ?_;(with_reducible refine (impl_kidsOf.calls k1 _ _ l0 af ab _ (pc (Kd.C_below HR0.out HB.out)) HC0.out A8.out).mono ?_);rintro e w9 ⟨b5,rfl,ho0,hb⟩;refine ⟨_,rfl,?_⟩;have bm:=lw (nw ho0 aj);replace aj:=rn aj ho0 hb;replace HB:=hbs hb;(try clear hb);(try clear hb2);(try clear hk);(try clear hi);(try clear ho0);obtain ⟨bo,aZ,bG⟩:=Kd.R_slice bm.out;subst bG))
  go_loopg [20] k1 (fun kq v20 w'=>∃ (ao:List Int) (ae:Int),v20=.int .i64 ae∧Aside0 (impl_parentsOf.l1 kq l0 ao af (l0.length:Int) af ab (ab.length:Int) ae=some r)∧Aside0 (kq≤k1)∧Aside0 (Kd.R (Kd.int .i64) 2 w' w.heap.size (fun k_=>some k_≠((.slice bo ab.length aZ):Value).ownBlock) aY ao)∧Aside0 (Kd.R (Kd.int .i64) 2 w' w.heap.size (fun k_=>some k_≠(aY:Value).ownBlock) (.slice bo ab.length aZ) ab)∧Aside0 (Below w.heap.size w w'))
  case atStart=>exact ⟨(aJ),(0),q2_1,H',⟨Nat.le_refl _⟩,⟨pe (Kd.R_mono aj.out (fun _ hk=>hk.2))⟩,⟨pe (Kd.R_mono bm.out (fun _ hk=>hk.2))⟩,⟨hq⟩⟩
  case round =>
   clear H';obtain ⟨ao,ae,rfl,HA,HK2,aj,aG,HB⟩:=hrel
   cases gk with|zero=>exact absurd HA.out (by simp [impl_parentsOf.l1])|succ k2=>?_
   have H:=HA.out;clear HA;simp only [impl_parentsOf.l1] at H;obtain c11|c11:=nem (ae<(ab.length:Int))
   ·rw [if_neg c11] at H;have bp:=df c11;clear c11;have H':=ak H;clear H;go_wp2
    go_roundg k2
    case measure=>have:=HK1.out;have:=HK2.out;omega
    case rel=>exact ⟨(ao),(wrap64 (af+1)),q2_1,H',⟨by have:=HK1.out;have:=HK2.out;omega⟩,⟨pe (Kd.R_mono aj.out (fun _ hk=>trivial))⟩,⟨hq⟩⟩
   rw [if_pos c11] at H;have bp:=dt c11;clear c11;replace H:=ifs H;obtain ⟨c12,H⟩:=H;have bH:=dt c12;clear c12;replace H:=ifs H;obtain ⟨c13,H⟩:=H;have bq:=dt c13;clear c13;replace H:=ifs H;obtain ⟨c14,H⟩:=H;have b6:=dt c14;clear c14;replace H:=ifs H;obtain ⟨c15,H⟩:=H;have b7:=dt c15;clear c15;obtain ⟨a2,hY⟩:∃ y_:List Int,y_=(ao.set ((rd ab ae):Int).toNat af):=⟨_,rfl⟩;replace H:(impl_parentsOf.l1 k2 l0 a2 af (l0.length:Int) af ab (ab.length:Int) (wrap64 (ae+1)))=some r:=hh;have bI:=ak hY;clear hY;have H':=ak H;clear H;have a3:0≤(ae:Int):=od q2_0;have a4:ae<(ab.length:Int):=od q2_0;(try (obtain ⟨Aop_,cop_,eop_⟩:=Kd.R_slice aG.out;subst eop_));obtain ⟨bJ,bK,b8⟩:=Kd.at_int (Kd.R_reads' aG.out).2.2 ae a3 a4;cases bK;replace a3:=eq_true a3;replace a4:=eq_true a4;have p16:0≤((rd ab ae):Int):=od q2_0;have q16:((rd ab ae):Int)<((ao.length:Int):Int):=od q2_0;obtain ⟨aH,aK,aM,br,gl16,cl16,bu⟩:=Kd.R_form aj.out (by omega);(first|cases aM|(injection aM with ea_ en_ ec_;(first|subst ea_|(injection ea_ with ea_;subst ea_));subst ec_;clear en_));have GB16:=ak br;have b9:=ak bu;clear br gl16 bu;obtain ⟨ca,cb⟩:=Kd.R_celln 0 aj.out ((rd ab ae):Int) p16 q16;replace p16:=eq_true p16;replace q16:=eq_true q16;have a5:=Kd.R_putg aj.out ((rd ab ae):Int) af
   go_wp2_with (first|((with_reducible refine gate_store (t:=2) (p:=27) rfl ?_);refine store_event (t:=2) (p:=27) (v:=?vo_w18) (w1:=(wr.setCell ⟨aH,((rd ab ae):Int).toNat,none⟩ (.int .i64 af))) ?hg ?ho ?hn ?hr ?_;(case ho=>rfl);(case hg=>rfl);(case hn=>rfl);(case hr=>exact gs);intro w18 hw;have hg:wr.grownBy w18 (some aH):=(by rw [hw];exact a5.2);have hp_:Kd.R (Kd.int .i64) 2 w18 w.heap.size (fun k_=>some k_≠(.slice (some bJ) ab.length aZ:Value).ownBlock) (.slice (some ⟨aH,0,none⟩) ao.length aK) a2:=(by rw [hw,bI.out];exact a5.1);clear a5;replace aj:=ak (hp_);replace aG:=ak (Kd.R_after (v:=(.slice (some ⟨aH,0,none⟩) ao.length aK)) (v1:=(.slice (some ⟨aH,0,none⟩) ao.length aK)) (ok:=(fun _=>True)) (pe (Kd.R_mono aG.out (fun _ hk=>⟨trivial,hk⟩))) hg (.inl rfl));replace HB:=ak (by rw [hw];exact below_set (HB.out) GB16.out:Below w.heap.size w w18);clear hg hw hp_))
   go_roundg k2
   case measure=>have:=HK1.out;have:=HK2.out;omega
   case rel=>exact ⟨(a2),(wrap64 (ae+1)),q2_1,H',⟨by have:=HK1.out;have:=HK2.out;omega⟩,⟨pe aj.out⟩,⟨pe (Kd.R_mono aG.out (fun _ hk=>hk.2))⟩,⟨hq⟩⟩
def impl_isGrowing.l0:Nat→List Int→List Int→List Int→Int→Option (Bool)
 | 0,_,_,_,_=>none
 | k+1,x0,x5,x6,x7=>if x7<(x0.length:Int) then (if 0≤x7 then (if x7<(x5.length:Int) then (if x7<(x6.length:Int) then (if 0≤(rd x6 x7) then (if (rd x6 x7)<(x5.length:Int) then (if (rd x5 x7)<(rd x5 (rd x6 x7)) then (some false) else (impl_isGrowing.l0 k x0 x5 x6 (wrap64 (x7+1)))) else (none)) else (none)) else (none)) else (none)) else (none)) else (some true)
def impl_isGrowing.f (k:Nat) (l0:List Int) (l1:List Int):Option (Bool):=(impl_labelsOf.f k l1).bind fun t140=>((impl_parentsOf.f k l0).bind fun t143=>(impl_isGrowing.l0 k l0 t140 t143 1))
theorem impl_isGrowing.calls (k:Nat) (A0:Option Addr) (c0:Nat) (l0:List Int) (A1:Option Addr) (c1:Nat) (l1:List Int) (r:Bool) (w:World) (hr0:Kd.C (Kd.int .i64) w A0 l0.length l0) (hc0:l0.length≤c0) (hr1:Kd.C (Kd.int .i64) w A1 l1.length l1) (hc1:l1.length≤c1) (h:impl_isGrowing.f k l0 l1=some r) :
  Calls Tryz.prog 56 #[.slice A0 l0.length c0,.slice A1 l1.length c1] w fun e w'=>e=.returned (.bool r)∧Below w.heap.size w w':=by
 have HR0:=ak hr0;have HC0:=ak hc0;clear hr0 hc0;have HR1:=ak hr1;have HC1:=ak hc1;clear hr1 hc1;have HB:=ak (Below.refl w.heap.size w);have H:((impl_labelsOf.f k l1).bind fun al=>((impl_parentsOf.f k l0).bind fun ag=>(impl_isGrowing.l0 k l0 al ag 1)))=some r:=h;clear h;replace H:=bs H;obtain ⟨al,A3,H⟩:=H;(try dsimp only at H);replace H:=bs H;obtain ⟨ag,A4,H⟩:=H;(try dsimp only at H);have H':=ak H;clear H
 go_enter Tryz.func56,Tryz.ntmps56
 iterate 4 ((try go_wp2_with (first|(go_at_call 58;(with_reducible refine (impl_labelsOf.calls k _ _ l1 al _ (pc (HR1.out)) HC1.out A3.out).mono ?_);rintro e w5 ⟨bv,rfl,ho0,hb⟩;have aN:=lw ho0;replace HB:=hbs hb;(try clear hb ho0))|(go_at_call 59;(with_reducible refine (impl_parentsOf.calls k _ _ l0 ag _ (pc (Kd.C_below HR0.out HB.out)) HC0.out A4.out).mono ?_);rintro e w6 ⟨bw,rfl,ho0,hb⟩;have bL:=lw (nw ho0 aN);replace aN:=rn aN ho0 hb;replace HB:=hbs hb;(try clear hb ho0))));(try go_quiet (fail)))
 go_loopg [7] k (fun kq v7 w'=>∃ (aa:Int),v7=.int .i64 aa∧Aside0 (impl_isGrowing.l0 kq l0 al ag aa=some r)∧Aside0 (kq≤k)∧Aside0 (Kd.R (Kd.int .i64) 2 w' w.heap.size (fun k_=>some k_≠(bw:Value).ownBlock) bv al)∧Aside0 (Kd.R (Kd.int .i64) 2 w' w.heap.size (fun k_=>some k_≠(bv:Value).ownBlock) bw ag)∧Aside0 (Below w.heap.size w w'))
 case atStart=>exact ⟨(1),q2_1,H',⟨Nat.le_refl _⟩,⟨pe (Kd.R_mono aN.out (fun _ hk=>hk.2))⟩,⟨pe (Kd.R_mono bL.out (fun _ hk=>hk.2))⟩,⟨hq⟩⟩
 case round =>
  clear H';obtain ⟨aa,rfl,HA,HK1,ac,ar,HB⟩:=hrel
  cases gk with|zero=>exact absurd HA.out (by simp [impl_isGrowing.l0])|succ k1=>?_
  have H:=HA.out;clear HA;simp only [impl_isGrowing.l0] at H;obtain c7|c7:=nem (aa<(l0.length:Int))
  ·rw [if_neg c7] at H;have aE:=df c7;clear c7;obtain rfl:=Option.some.inj H;go_wp2
   repeat (go_quiet (fail);try go_wp2)
   go_ret
   exact ⟨ew,hq⟩
  rw [if_pos c7] at H;have aE:=dt c7;clear c7;replace H:=ifs H;obtain ⟨c8,H⟩:=H;have cc:=dt c8;clear c8;replace H:=ifs H;obtain ⟨c9,H⟩:=H;have cd:=dt c9;clear c9;replace H:=ifs H;obtain ⟨c10,H⟩:=H;have ce:=dt c10;clear c10;replace H:=ifs H;obtain ⟨c11,H⟩:=H;have bp:=dt c11;clear c11;replace H:=ifs H;obtain ⟨c12,H⟩:=H;have bH:=dt c12;clear c12
  by_cases c13:(rd al aa)<(rd al (rd ag aa))
  ·rw [if_pos c13] at H;have bq:=dt c13;clear c13;obtain rfl:=Option.some.inj H;obtain ⟨cf,cg,bM⟩:=Kd.R_slice ac.out;subst bM;have au:0≤(aa:Int):=od q2_0;have av:aa<(al.length:Int):=od q2_0;(try (obtain ⟨Aop_,cop_,eop_⟩:=Kd.R_slice ac.out;subst eop_));obtain ⟨a6,a7,bN⟩:=Kd.at_int (Kd.R_reads' ac.out).2.2 aa au av;cases a7;replace au:=eq_true au;replace av:=eq_true av;obtain ⟨ch,ci,bO⟩:=Kd.R_slice ar.out;subst bO;have aw:0≤(aa:Int):=od q2_0;have ax:aa<(ag.length:Int):=od q2_0;(try (obtain ⟨Aop_,cop_,eop_⟩:=Kd.R_slice ar.out;subst eop_));obtain ⟨bP,a8,bQ⟩:=Kd.at_int (Kd.R_reads' ar.out).2.2 aa aw ax;cases a8;replace aw:=eq_true aw;replace ax:=eq_true ax;have ay:0≤((rd ag aa):Int):=od q2_0;have az:(rd ag aa)<(al.length:Int):=od q2_0;(try (obtain ⟨Aop_,cop_,eop_⟩:=Kd.R_slice ac.out;subst eop_));obtain ⟨a9,ba,bR⟩:=Kd.at_int (Kd.R_reads' ac.out).2.2 (rd ag aa) ay az;obtain rfl:a6=a9:=(by injection ba);replace ay:=eq_true ay;replace az:=eq_true az;go_wp2
   repeat (go_quiet (fail);try go_wp2)
   go_ret
   exact ⟨ew,hq⟩
  rw [if_neg c13] at H;have bq:=df c13;clear c13;have H':=ak H;clear H;obtain ⟨cj,aK,aM⟩:=Kd.R_slice ac.out;subst aM;have au:0≤(aa:Int):=od q2_0;have av:aa<(al.length:Int):=od q2_0;(try (obtain ⟨Aop_,cop_,eop_⟩:=Kd.R_slice ac.out;subst eop_));obtain ⟨a6,a7,bN⟩:=Kd.at_int (Kd.R_reads' ac.out).2.2 aa au av;cases a7;replace au:=eq_true au;replace av:=eq_true av;obtain ⟨ck,cl,bS⟩:=Kd.R_slice ar.out;subst bS;have aw:0≤(aa:Int):=od q2_0;have ax:aa<(ag.length:Int):=od q2_0;(try (obtain ⟨Aop_,cop_,eop_⟩:=Kd.R_slice ar.out;subst eop_));obtain ⟨bP,a8,bQ⟩:=Kd.at_int (Kd.R_reads' ar.out).2.2 aa aw ax;cases a8;replace aw:=eq_true aw;replace ax:=eq_true ax;have ay:0≤((rd ag aa):Int):=od q2_0;have az:(rd ag aa)<(al.length:Int):=od q2_0;(try (obtain ⟨Aop_,cop_,eop_⟩:=Kd.R_slice ac.out;subst eop_));obtain ⟨a9,ba,bR⟩:=Kd.at_int (Kd.R_reads' ac.out).2.2 (rd ag aa) ay az;obtain rfl:a6=a9:=(by injection ba);replace ay:=eq_true ay;replace az:=eq_true az;go_wp2
  repeat (go_quiet (fail);try go_wp2)
  go_roundg k1
  case measure=>have:=HK1.out;omega
  case rel=>exact ⟨(wrap64 (aa+1)),q2_1,H',⟨by have:=HK1.out;omega⟩,⟨pe ac.out⟩,⟨pe ar.out⟩,⟨hq⟩⟩
def impl_IsGrowing.f (k:Nat) (l0_0:List Int) (l1:List Int):Option (Bool × Int):=(impl_orderCode.f k l0_0 l1).bind fun t150=>(if t150=0 then ((impl_isGrowing.f k l0_0 l1).bind fun t151=>(some (t151,0))) else (some (false,t150)))
theorem impl_IsGrowing.calls (k:Nat) (A0_0:Option Addr) (c0_0:Nat) (l0_0:List Int) (A1:Option Addr) (c1:Nat) (l1:List Int) (r1:Bool) (r2:Int) (w:World) (hr0_0:Kd.C (Kd.int .i64) w A0_0 l0_0.length l0_0) (hc0_0:l0_0.length≤c0_0) (hr1:Kd.C (Kd.int .i64) w A1 l1.length l1) (hc1:l1.length≤c1) (h:impl_IsGrowing.f k l0_0 l1=some (r1,r2)) :
  Calls Tryz.prog 11 #[.agg #[.slice A0_0 l0_0.length c0_0],.slice A1 l1.length c1] w fun e w'=>e=.returned (.tuple #[.bool r1,.int .i64 r2])∧Below w.heap.size w w':=by
 have hu27:=Tryz.underlying27;have bd:=ak hr0_0;have bf:=ak hc0_0;clear hr0_0 hc0_0;have HR1:=ak hr1;have HC1:=ak hc1;clear hr1 hc1;have HB:=ak (Below.refl w.heap.size w);have H:((impl_orderCode.f k l0_0 l1).bind fun aq=>(if aq=0 then ((impl_isGrowing.f k l0_0 l1).bind fun bg=>(some (bg,0))) else (some (false,aq))))=some (r1,r2):=h;clear h;replace H:=bs H;obtain ⟨aq,A3,H⟩:=H;(try dsimp only at H);obtain c4|c4:=nem (aq=0)
 ·rw [if_neg c4] at H;have aQ:(aq == 0)=false:=beq_eq_false_iff_ne.mpr c4;have bT:(aq != 0)=true:=bne_iff_ne.mpr c4;simp only [Option.some.injEq,Prod.mk.injEq] at H;obtain ⟨rfl,rfl⟩:=H
  go_enter Tryz.func11,Tryz.ntmps11
  go_wp2_with (first|((with_reducible refine gate_dst (N:=2) rfl ?_);refine bev (N:=2) (cs:=#[.slice A0_0 l0_0.length c0_0]) (t:=27) ?_;intro bU hg w11 hbox hb;have ai:=ak (hbox);have bV:=gbe hg;have bW:=gbe hg;replace HB:=hbs hb;clear hb hbox hg;have cm:=bc ai.out;have cn:=blk_frozen ai.out 0)|((with_reducible refine gate_callee (f:=55) rfl ?_);refine gl (some 9) Tryz.func55 #[.agg #[.slice A0_0 l0_0.length c0_0],.slice A1 l1.length c1] ?_;(with_reducible refine (impl_orderCode.calls k _ _ l0_0 _ _ l1 aq _ (pc (Kd.C_below bd.out HB.out)) bf.out (pc (Kd.C_below HR1.out HB.out)) HC1.out A3.out).mono ?_);rintro e w13 ⟨rfl,hb⟩;refine ⟨_,rfl,?_⟩;replace ai:=bb ai hb;replace HB:=hbs hb;(try clear hb)))
  go_ret2
  exact ⟨ew,hq⟩
 rw [if_pos c4] at H;have aQ:=be c4;have bT:=bn c4;clear c4;replace H:=bs H;obtain ⟨bg,A5,H⟩:=H;(try dsimp only at H);simp only [Option.some.injEq,Prod.mk.injEq] at H;obtain ⟨rfl,rfl⟩:=H
 go_enter Tryz.func11,Tryz.ntmps11
 go_wp2_with (first|((with_reducible refine gate_dst (N:=2) rfl ?_);refine bev (N:=2) (cs:=#[.slice A0_0 l0_0.length c0_0]) (t:=27) ?_;intro bU hg w6 hbox hb;have ai:=ak (hbox);have bV:=gbe hg;have bW:=gbe hg;replace HB:=hbs hb;clear hb hbox hg;have co:=bc ai.out;have cp:=blk_frozen ai.out 0)|((with_reducible refine gate_callee (f:=55) rfl ?_);refine gl (some 9) Tryz.func55 #[.agg #[.slice A0_0 l0_0.length c0_0],.slice A1 l1.length c1] ?_;(with_reducible refine (impl_orderCode.calls k _ _ l0_0 _ _ l1 aq _ (pc (Kd.C_below bd.out HB.out)) bf.out (pc (Kd.C_below HR1.out HB.out)) HC1.out A3.out).mono ?_);rintro e w8 ⟨rfl,hb⟩;refine ⟨_,rfl,?_⟩;replace ai:=bb ai hb;replace HB:=hbs hb;(try clear hb);(try clear hb2);(try clear hk);(try clear hi);have cq:=bc ai.out;have cr:=blk_frozen ai.out 0)|((with_reducible refine gate_callee (f:=56) rfl ?_);refine gl (some 16) Tryz.func56 #[.slice A0_0 l0_0.length c0_0,.slice A1 l1.length c1] ?_;(with_reducible refine (impl_isGrowing.calls k _ _ l0_0 _ _ l1 bg _ (pc (Kd.C_below bd.out HB.out)) bf.out (pc (Kd.C_below HR1.out HB.out)) HC1.out A5.out).mono ?_);rintro e w10 ⟨rfl,hb⟩;refine ⟨_,rfl,?_⟩;replace ai:=bb ai hb;replace HB:=hbs hb;(try clear hb)))
 go_ret2
 exact ⟨ew,hq⟩
end Go.Proofs.YtlppkilencpmeaaGreat.QFnGrowing
