/- Functions as Lean functions, with their contracts: written by a program of this claim over the translation; some contracts are proved by hand. -/
import Derived.Test.YtimfbpmaepmdoaaQFnDrawingsx0
import Derived.Test.YtimfbpmaepmdoaaQFnDrawingsx1
import Derived.Test.YtimfbpmaepmdoaaQFnDrawingsx2
import Derived.Test.YtimfbpmaepmdoaaQFnDrawingsx6
import Derived.Test.YtimfbpmaepmdoaaQFnDrawingsx8
namespace Go.Proofs.Ytimfbpmaepmdoaa.QFnDrawings
open Go.RowKit Go.Proofs.Ytimfbpmaepmdoaa.Gl Go.Proofs.Ytimfbpmaepmdoaa.Sz Go.Proofs.YtimfbpmaepmdoaaW.PrintWords Go.Proofs.YtimfbpmaepmdoaaW.PrintLast Go.Proofs.YtimfbpmaepmdoaaW.PrintMore
attribute [local go_sem] max2_int min2_int max_two min_two max_three min_three max_four min_four   -- for this text's walks alone
set_option linter.unusedVariables false
set_option linter.unusedSimpArgs false
theorem q15_0 {P:Prop} (h:P:=by first|(with_reducible assumption)|assumption):P:=h
theorem q15_1 {P:Prop} (h:P:=by repeat (first|exact (by repeat (first|(with_reducible exact av.out)|(with_reducible refine Kd.C_alloc ?_ _)|(with_reducible refine Kd.C_drewN ?_ _)|(with_reducible refine Kd.C_drew ?_)|exact av.out))|(with_reducible refine Kd.C_alloc ?_ _)|(with_reducible refine Kd.C_drewN ?_ _)|(with_reducible refine Kd.C_drew ?_))):P:=h
theorem q15_2 {P:Prop} (h:P:=by first|rfl|(simp;done)|(simp [*];done)):P:=h
theorem q15_3 {P:Prop} (h:P:=by repeat (first|exact Drawn0.refl _|apply Drawn0.step)):P:=h
theorem q15_4 {P:Prop} (h:P:=by first|exact Kd.R_nil _ _ _ _ _|exact Kd.N_nil _ _ _ _ _|exact Kd.V_nil _ _ _ _ _|exact Kd.Q_nil _ _ _ _ _|exact Kd.S_nil _ _ _ _ _):P:=h
set_option maxHeartbeats 8000000
set_option maxRecDepth 100000
def slices_Index_int64_int64.l0:Nat→List Int→Int→Int→Int→Option (Int)
 | 0,_,_,_,_=>none
 | k+1,x0,x1,x7,x8=>if x8<x7 then (if 0≤x8 then (if x8<(x0.length:Int) then (if x1=(rd x0 x8) then (some x8) else (slices_Index_int64_int64.l0 k x0 x1 x7 (wrap64 (x8+1)))) else (none)) else (none)) else (some (-1))
def slices_Index_int64_int64.f (k:Nat) (l0:List Int) (a1:Int):Option (Int):=slices_Index_int64_int64.l0 k l0 a1 (l0.length:Int) 0
theorem slices_Index_int64_int64.calls (k:Nat) (A0:Option Addr) (c0:Nat) (l0:List Int) (a1:Int) (r:Int) (w:World) (hr0:Kd.C (Kd.int .i64) w A0 l0.length l0) (hc0:l0.length≤c0) (h:slices_Index_int64_int64.f k l0 a1=some r) :
  Calls Try.prog 42 #[.slice A0 l0.length c0,.int .i64 a1] w fun e w'=>e=.returned (.int .i64 r)∧Drawn0 w w':=by
 have HR0:=ak hr0;have HC0:=ak hc0;clear hr0 hc0;have H:(slices_Index_int64_int64.l0 k l0 a1 (l0.length:Int) 0)=some r:=h;clear h;have H':=ak H;clear H
 go_enter Try.func42,Try.ntmps42
 go_wp2
 go_loopg [8] k (fun kq v8 w'=>∃ (ap:Int),v8=.int .i64 ap∧Aside0 (slices_Index_int64_int64.l0 kq l0 a1 (l0.length:Int) ap=some r)∧Aside0 (kq≤k)∧Drawn0 w w')
 case atStart=>exact ⟨(0),q15_2,H',⟨Nat.le_refl _⟩,q15_3⟩
 case round =>
  clear H'
  try clear p2
  obtain ⟨ap,rfl,HA,HK1,⟨m1,rfl⟩⟩:=hrel
  cases gk with|zero=>exact absurd HA.out (by simp [slices_Index_int64_int64.l0])|succ k1=>?_
  have H:=HA.out;clear HA;simp only [slices_Index_int64_int64.l0] at H;obtain c3|c3:=nem (ap<(l0.length:Int))
  ·rw [if_neg c3] at H;have a5:=df c3;clear c3;obtain rfl:=Option.some.inj H;go_wp2
   go_ret
   exact ⟨q15_2,q15_3⟩
  rw [if_pos c3] at H;have a5:=dt c3;clear c3;replace H:=ifs H;obtain ⟨c4,H⟩:=H;have bK:=dt c4;clear c4;replace H:=ifs H;obtain ⟨c5,H⟩:=H;have bp:=dt c5;clear c5
  by_cases c6:a1=(rd l0 ap)
  ·rw [if_pos c6] at H;have bL:=be c6;have bM:=bn c6;clear c6;obtain rfl:=Option.some.inj H;have aw:0≤(ap:Int):=od q15_0;have ax:ap<(l0.length:Int):=od q15_0;obtain ⟨bN,a6,bO⟩:=Kd.at_int HR0.out ap aw ax;cases a6;replace aw:=eq_true aw;replace ax:=eq_true ax;go_wp2
   go_ret
   exact ⟨q15_2,q15_3⟩
  rw [if_neg c6] at H;have bL:(a1 == (rd l0 ap))=false:=beq_eq_false_iff_ne.mpr c6;have bM:(a1 != (rd l0 ap))=true:=bne_iff_ne.mpr c6;have H':=ak H;clear H;have aw:0≤(ap:Int):=od q15_0;have ax:ap<(l0.length:Int):=od q15_0;obtain ⟨bN,a6,bO⟩:=Kd.at_int HR0.out ap aw ax;cases a6;replace aw:=eq_true aw;replace ax:=eq_true ax;go_wp2
  go_roundg k1
  case measure=>have:=HK1.out;omega
  case rel=>exact ⟨(wrap64 (ap+1)),q15_2,H',⟨by have:=HK1.out;omega⟩,q15_3⟩
def impl_BesideOf.l0:Nat→List Int→List Int→Int→Int→Option (List Int × Int)
 | 0,_,_,_,_=>none
 | k+1,x4,x5,x17,x18=>if x18<x17 then (if 0≤(wrap64 (x18+1)) then (if (wrap64 (x18+1))≤(x4.length:Int) then (if 0≤x18 then (if x18<(x4.length:Int) then ((slices_Index_int64_int64.f k (x4.drop ((wrap64 (x18+1)):Int).toNat) (rd x4 x18)).bind fun t607=>(if t607≥0 then (if x5.length<17592186044416 then (impl_BesideOf.l0 k x4 (x5++[wrap64 (t607+(wrap64 (x18+1)))]) x17 (wrap64 (x18+1))) else (none)) else (if x5.length<17592186044416 then (impl_BesideOf.l0 k x4 (x5++[t607]) x17 (wrap64 (x18+1))) else (none)))) else (none)) else (none)) else (none)) else (none)) else (some (x5,0))
def impl_BesideOf.f (k:Nat) (l0_0:List Int):Option (List Int × Int):=(impl_IsTree.f k l0_0).bind fun t595=>(if t595=true then ((impl_depthsOf.f k l0_0).bind fun t596=>(impl_BesideOf.l0 k t596 ([]:List Int) (l0_0.length:Int) 0)) else (some (([]:List Int),1)))
theorem impl_BesideOf.calls (k:Nat) (A0_0:Option Addr) (c0_0:Nat) (l0_0:List Int) (r1:List Int) (r2:Int) (w:World) (hr0_0:Kd.C (Kd.int .i64) w A0_0 l0_0.length l0_0) (hc0_0:l0_0.length≤c0_0) (h:impl_BesideOf.f k l0_0=some (r1,r2)) :
  Calls Try.prog 19 #[.agg #[.slice A0_0 l0_0.length c0_0]] w fun e w'=>∃ v0_:Value,e=.returned (.tuple #[v0_,.int .i64 r2])∧Kd.R (Kd.int .i64) 2 w' w.heap.size (fun _=>True) v0_ r1∧Below w.heap.size w w':=by
 have hu28:=Try.underlying28;have ar:=ak hr0_0;have au:=ak hc0_0;clear hr0_0 hc0_0;have HB:=ak (Below.refl w.heap.size w);have H:((impl_IsTree.f k l0_0).bind fun a7=>(if a7=true then ((impl_depthsOf.f k l0_0).bind fun ab=>(impl_BesideOf.l0 k ab ([]:List Int) (l0_0.length:Int) 0)) else (some (([]:List Int),1))))=some (r1,r2):=h;clear h;replace H:=bs H;obtain ⟨a7,A2,H⟩:=H;(try dsimp only at H);obtain c3|c3:=nem (a7=true)
 ·replace c3:=Bool.eq_false_iff.mpr c3;subst c3;have H1:(some (([]:List Int),1))=some (r1,r2):=by rw [if_neg (show ¬ (false=true) by decide)] at H;exact H
  clear H;have H:=H1;clear H1;simp only [Option.some.injEq,Prod.mk.injEq] at H;obtain ⟨rfl,rfl⟩:=H
  go_enter Try.func19,Try.ntmps19
  iterate 4 ((try go_wp2_with (first|((with_reducible refine gate_dst (N:=1) rfl ?_);refine bev (N:=1) (cs:=#[.slice A0_0 l0_0.length c0_0]) (t:=28) ?_;intro aV hg w29 hbox hb;have af:=ak (hbox);have bP:=gbe hg;have bQ:=gbe hg;replace HB:=hbs hb;clear hb hbox hg;have cz:=bc af.out;have cA:=blk_frozen af.out 0)|(go_at_call 29;(with_reducible refine (impl_IsTree.calls k _ _ l0_0 false _ (pc (Kd.C_below ar.out HB.out)) au.out A2.out).mono ?_);rintro e w31 ⟨rfl,hb⟩;replace af:=bb af hb;replace HB:=hbs hb;(try clear hb))));(try go_quiet (fail)))
  go_ret2
  exact ⟨_,ew,q15_4,hq⟩
 subst c3;replace H:((impl_depthsOf.f k l0_0).bind fun ab=>(impl_BesideOf.l0 k ab ([]:List Int) (l0_0.length:Int) 0))=some (r1,r2):=by rw [if_pos rfl] at H;exact H
 replace H:=bs H;obtain ⟨ab,A4,H⟩:=H;(try dsimp only at H);obtain ⟨bq,hY⟩:∃ y_:List Int,y_=([]:List Int):=⟨_,rfl⟩;replace H:(impl_BesideOf.l0 k ab bq (l0_0.length:Int) 0)=some (r1,r2):=hh;have br:=ak hY;clear hY;have H':=ak H;clear H
 go_enter Try.func19,Try.ntmps19
 iterate 4 ((try go_wp2_with (first|((with_reducible refine gate_dst (N:=1) rfl ?_);refine bev (N:=1) (cs:=#[.slice A0_0 l0_0.length c0_0]) (t:=28) ?_;intro aV hg w5 hbox hb;have af:=ak (hbox);have bP:=gbe hg;have bQ:=gbe hg;replace HB:=hbs hb;clear hb hbox hg;have bu:=bc af.out;have bv:=blk_frozen af.out 0)|(go_at_call 29;(with_reducible refine (impl_IsTree.calls k _ _ l0_0 true _ (pc (Kd.C_below ar.out HB.out)) au.out A2.out).mono ?_);rintro e w7 ⟨rfl,hb⟩;replace af:=bb af hb;replace HB:=hbs hb;(try clear hb);(try clear hb2);(try clear hk);(try clear hi);have bw:=bc af.out;have bx:=blk_frozen af.out 0)|(go_at_call 31;(with_reducible refine (impl_depthsOf.calls k _ _ l0_0 ab _ (pc (Kd.C_below ar.out HB.out)) au.out A4.out).mono ?_);rintro e w9 ⟨bz,rfl,ho0,hb⟩;have aW:=lw ho0;replace af:=bb af hb;replace HB:=hbs hb;(try clear hb ho0))|((with_reducible refine gate_dst (N:=14) rfl ?_);refine Kd.R_lit (Kd.int .i64) _ 2 ?hg (N:=14) ?hd (xs:=([]:List Int)) (inner:=[]) (ok:=fun _=>True) (okp:=fun _=>True) ?hr ?hp (fun _ hk=>hk) trivial (Below.refl _ _) (Nat.le_refl _) (by simp) ?_;(case hd=>rfl);(case hg=>rfl);(case hr=>exact gs);(case hp=>exact (Reps.none _ _));intro cB w10 ho11 hb hg_ hnew_;clear hg_ hnew_;(first|rw [← br.out] at ho11|(simp only [Int.reduceToNat] at ho11;rw [← br.out] at ho11));have bR:=lw (nw ho11 aW);replace aW:=rn aW ho11 hb;replace af:=bb af hb;replace HB:=hbs hb;clear hb ho11;have cC:=bc af.out;have cD:=blk_frozen af.out 0)));(try go_quiet (fail)))
 go_loopg [5,18] k (fun kq v5 v18 w'=>∃ (ac:List Int) (aj:Int),v18=.int .i64 aj∧Aside0 (impl_BesideOf.l0 kq ab ac (l0_0.length:Int) aj=some (r1,r2))∧Aside0 (kq≤k)∧Aside0 (Kd.R (Kd.int .i64) 2 w' w.heap.size (fun k_=>some k_≠(v5:Value).ownBlock) bz ab)∧Aside0 (Kd.R (Kd.int .i64) 2 w' w.heap.size (fun k_=>some k_≠(bz:Value).ownBlock) v5 ac)∧Aside0 (w'.heap[aV]?=some (.cells #[(.slice A0_0 l0_0.length c0_0)] 28 (0,0)))∧Aside0 (Below w.heap.size w w'))
 case atStart=>exact ⟨(bq),(0),q15_2,H',⟨Nat.le_refl _⟩,⟨pe (Kd.R_mono aW.out (fun _ hk=>hk.2))⟩,⟨pe (Kd.R_mono bR.out (fun _ hk=>hk.2))⟩,⟨pb af.out⟩,⟨hq⟩⟩
 case round =>
  clear H';obtain ⟨ac,aj,rfl,HA,HK1,aa,ao,af,HB⟩:=hrel
  cases gk with|zero=>exact absurd HA.out (by simp [impl_BesideOf.l0])|succ k1=>?_
  have H:=HA.out;clear HA;simp only [impl_BesideOf.l0] at H;obtain c13|c13:=nem (aj<(l0_0.length:Int))
  ·rw [if_neg c13] at H;have bS:=df c13;clear c13;simp only [Option.some.injEq,Prod.mk.injEq] at H;obtain ⟨rfl,rfl⟩:=H;go_wp2
   repeat (go_quiet (fail);try go_wp2)
   go_ret2
   exact ⟨_,ew,pe (Kd.R_mono ao.out (fun _ hk=>trivial)),hq⟩
  rw [if_pos c13] at H;have bS:=dt c13;clear c13;obtain ⟨ad,aN⟩:∃ j_:Int,(wrap64 (aj+1))=j_:=⟨_,rfl⟩;(first|rw [aN] at H|simp only [aN] at H);have hji14w:(IntKind.i64.wrap (aj+1))=ad:=(i64_w _).trans aN;replace H:=ifs H;obtain ⟨c15,H⟩:=H;have bT:=eq_true c15;have cE:decide (0≤(ad))=true:=decide_eq_true c15;clear c15;replace H:=ifs H;obtain ⟨c16,H⟩:=H;have bU:=eq_true c16;have cF:decide ((ad)≤(ab.length:Int))=true:=decide_eq_true c16;clear c16;obtain ⟨al,hY⟩:∃ y_:List Int,y_=(ab.drop ((ad):Int).toNat):=⟨_,rfl⟩;replace H:(if 0≤aj then (if aj<(ab.length:Int) then ((slices_Index_int64_int64.f k1 al (rd ab aj)).bind fun an=>(if an≥0 then (if ac.length<17592186044416 then (impl_BesideOf.l0 k1 ab (ac++[wrap64 (an+(ad))]) (l0_0.length:Int) ad) else (none)) else (if ac.length<17592186044416 then (impl_BesideOf.l0 k1 ab (ac++[an]) (l0_0.length:Int) ad) else (none)))) else (none)) else (none))=some (r1,r2):=hh;have aM:=ak hY;clear hY;replace H:=ifs H;obtain ⟨c17,H⟩:=H;have bV:=dt c17;clear c17;replace H:=ifs H;obtain ⟨c18,H⟩:=H;have bW:=dt c18;clear c18;replace H:=bs H;obtain ⟨an,A19,H⟩:=H;(try dsimp only at H)
  by_cases c20:an≥0
  ·rw [if_pos c20] at H;have bX:decide (0≤an)=true:=decide_eq_true c20;clear c20;replace H:=ifs H;obtain ⟨c21,H⟩:=H;have bY:=ak c21;clear c21;obtain ⟨bA,hY⟩:∃ y_:List Int,y_=(ac++[wrap64 (an+(ad))]):=⟨_,rfl⟩;replace H:(impl_BesideOf.l0 k1 ab bA (l0_0.length:Int) ad)=some (r1,r2):=hh;have bZ:=ak hY;clear hY;have H':=ak H;clear H;obtain ⟨aX,ay,b0⟩:=Kd.R_slice aa.out;subst b0;have q22:((ad):Int)≤((ab.length:Int):Int):=od q15_0;obtain ⟨i022,bB,_,hsz22,_⟩:=info_parts info2;have hroom22:ab.length≤ay:=(Kd.R_reads' aa.out).2.1;have bC:Kd.C (Kd.int .i64) _ aX ab.length ab:=(Kd.R_reads' aa.out).2.2;have b1:(0:Int)≤((ad):Int):=od q15_0;have hcut22:=cut_from (P:=Try.prog) 22 2 .i64 Try.underlying22 bB 1 hsz22 aX ab.length ay (ad) b1 q22;have aQ:=Kd.C_drop (m:=((ad):Int).toNat) (c:=ay) bC (by omega) hroom22;obtain ⟨A22,hA22⟩:∃ A1,A1=(if ay=((ad):Int).toNat then aX else (aX:Option Addr).map (·.add (((ad):Int).toNat*1))):=⟨_,rfl⟩;obtain ⟨c22,a8⟩:∃ c1,c1=ay - ((ad):Int).toNat:=⟨_,rfl⟩;have aY:al.length=ab.length - ((ad):Int).toNat:=(by rw [aM.out,List.length_drop] <;> omega);rw [show (ab).drop ((ad):Int).toNat=al from aM.out.symm] at aQ;replace aQ:Kd.C (Kd.int .i64) _ A22 al.length al:=(by rw [hA22];exact aQ);rw [← aY,← hA22,← a8] at hcut22;have av:=ak aQ;have aR:=ak (show al.length≤c22 from by rw [aY,a8];exact Nat.sub_le_sub_right hroom22 _);clear aQ bC hroom22 bB hsz22 a8;have cG:=ak aY;have b2:=ak hA22;clear aY hA22;have b3:=ak (show ((ad):Int).toNat≤ab.length from by omega);replace q22:=eq_true q22;have az:0≤(aj:Int):=od q15_0;have aA:aj<(ab.length:Int):=od q15_0;(try (obtain ⟨Aop_,cop_,eop_⟩:=Kd.R_slice aa.out;subst eop_));obtain ⟨a9,ba,b4⟩:=Kd.at_int (Kd.R_reads' aa.out).2.2 aj az aA;cases ba;replace az:=eq_true az;replace aA:=eq_true aA
   iterate 4 ((try go_wp2_with (first|(go_at_call 42;(with_reducible refine (slices_Index_int64_int64.calls k1 _ _ al (rd ab aj) an _ ?side1 aR.out A19.out).mono ?_);(case side1=>exact q15_1);rintro e w' ⟨rfl,⟨nd,rfl⟩⟩;(try exact dn))|((with_reducible refine gate_builtin (b:=.append) (xs:=#[.tmp 36,.tmp 38]) rfl ?_);at_builtin;refine Kd.R_append (Kd.int .i64) (w0:=w) w.heap.size rfl (.tmp 36) (.tmp 38) 22 2 (.int .i64 0) 8 rfl Try.underlying22 info2 rfl dc (by omega) u5 ac (wrap64 (an+(ad))) [.int .i64 (wrap64 (an+(ad)))] (fun k_=>some k_≠(.slice (some a9) ab.length ay:Value).ownBlock) (fun _=>False) rfl rfl ?aP (fun _ hk=>hk.elim) ?aF ?aO ?aB ?aS ?aL ?_;(case aP=>exact rfl);(case aB=>exact hq);(case aF=>exact (fun k_ hk=>Kd.fresh' (Kd.R_lt (pe aa.out)) k_ hk));(case aO=>exact (pe ao.out));(case aS=>exact (below_size hq));(case aL=>have:=bY.out;omega);intro cH w24 ho hb hg hat;rw [← bZ.out] at ho;replace af:=ak (blk_grown (g:=aV) (o:=.cells #[.slice A0_0 l0_0.length c0_0] 28 (0,0)) (pb af.out) hg (Kd.R_ne ao.out af.out dc));replace HB:=ak (hb);replace av:=ak (show Kd.C (Kd.int .i64) w24 A22 al.length al from by rw [aM.out,b2.out];exact Kd.C_drop (m:=((ad):Int).toNat) (c:=ay) ((Kd.R_reads' (Kd.R_after (ok:=(fun _=>True)) (pe (Kd.R_mono aa.out (fun _ hk=>⟨trivial,hk⟩))) hg hat)).2.2) b3.out ((Kd.R_reads' (Kd.R_after (ok:=(fun _=>True)) (pe (Kd.R_mono aa.out (fun _ hk=>⟨trivial,hk⟩))) hg hat)).2.1));replace aa:=ak (Kd.R_after (ok:=(fun _=>True)) (pe (Kd.R_mono aa.out (fun _ hk=>⟨trivial,hk⟩))) hg hat);have b5:=ak (ho);clear ao;clear ho hb hg hat)));(try go_quiet (first|(go_at_call 42;(with_reducible refine (slices_Index_int64_int64.calls k1 _ _ al (rd ab aj) an _ ?side1 aR.out A19.out).mono ?_);(case side1=>exact q15_1);rintro e w' ⟨rfl,⟨nd,rfl⟩⟩;(try exact dn)))))
   go_roundg k1
   case measure=>have:=HK1.out;omega
   case rel=>exact ⟨(bA),(ad),(by first|rfl|(simp;done)|(simp only [← aN] <;> (first|rfl|simp))|(simp [*];done)),H',⟨by have:=HK1.out;omega⟩,⟨pe (Kd.R_mono aa.out (fun _ hk=>hk.2))⟩,⟨pe b5.out⟩,⟨pb af.out⟩,⟨hq⟩⟩
  rw [if_neg c20] at H;have bX:decide (0≤an)=false:=decide_eq_false c20;clear c20;replace H:=ifs H;obtain ⟨c25,H⟩:=H;have b6:=ak c25;clear c25;obtain ⟨bD,hY⟩:∃ y_:List Int,y_=(ac++[an]):=⟨_,rfl⟩;replace H:(impl_BesideOf.l0 k1 ab bD (l0_0.length:Int) ad)=some (r1,r2):=hh;have b7:=ak hY;clear hY;have H':=ak H;clear H;obtain ⟨aZ,aC,b8⟩:=Kd.R_slice aa.out;subst b8;have q26:((ad):Int)≤((ab.length:Int):Int):=od q15_0;obtain ⟨i026,bE,_,hsz26,_⟩:=info_parts info2;have hroom26:ab.length≤aC:=(Kd.R_reads' aa.out).2.1;have bF:Kd.C (Kd.int .i64) _ aZ ab.length ab:=(Kd.R_reads' aa.out).2.2;have b9:(0:Int)≤((ad):Int):=od q15_0;have hcut26:=cut_from (P:=Try.prog) 22 2 .i64 Try.underlying22 bE 1 hsz26 aZ ab.length aC (ad) b9 q26;have aT:=Kd.C_drop (m:=((ad):Int).toNat) (c:=aC) bF (by omega) hroom26;obtain ⟨A26,hA26⟩:∃ A1,A1=(if aC=((ad):Int).toNat then aZ else (aZ:Option Addr).map (·.add (((ad):Int).toNat*1))):=⟨_,rfl⟩;obtain ⟨c26,bd⟩:∃ c1,c1=aC - ((ad):Int).toNat:=⟨_,rfl⟩;have a2:al.length=ab.length - ((ad):Int).toNat:=(by rw [aM.out,List.length_drop] <;> omega);rw [show (ab).drop ((ad):Int).toNat=al from aM.out.symm] at aT;replace aT:Kd.C (Kd.int .i64) _ A26 al.length al:=(by rw [hA26];exact aT);rw [← a2,← hA26,← bd] at hcut26;have av:=ak aT;have aR:=ak (show al.length≤c26 from by rw [a2,bd];exact Nat.sub_le_sub_right hroom26 _);clear aT bF hroom26 bE hsz26 bd;have cI:=ak a2;have ca:=ak hA26;clear a2 hA26;have cb:=ak (show ((ad):Int).toNat≤ab.length from by omega);replace q26:=eq_true q26;have az:0≤(aj:Int):=od q15_0;have aA:aj<(ab.length:Int):=od q15_0;(try (obtain ⟨Aop_,cop_,eop_⟩:=Kd.R_slice aa.out;subst eop_));obtain ⟨a9,ba,b4⟩:=Kd.at_int (Kd.R_reads' aa.out).2.2 aj az aA;cases ba;replace az:=eq_true az;replace aA:=eq_true aA
  iterate 4 ((try go_wp2_with (first|(go_at_call 42;(with_reducible refine (slices_Index_int64_int64.calls k1 _ _ al (rd ab aj) an _ ?side1 aR.out A19.out).mono ?_);(case side1=>exact q15_1);rintro e w' ⟨rfl,⟨nd,rfl⟩⟩;(try exact dn))|((with_reducible refine gate_builtin (b:=.append) (xs:=#[.tmp 36,.tmp 38]) rfl ?_);at_builtin;refine Kd.R_append (Kd.int .i64) (w0:=w) w.heap.size rfl (.tmp 36) (.tmp 38) 22 2 (.int .i64 0) 8 rfl Try.underlying22 info2 rfl dc (by omega) u5 ac an [.int .i64 an] (fun k_=>some k_≠(.slice (some a9) ab.length aC:Value).ownBlock) (fun _=>False) rfl rfl ?aP (fun _ hk=>hk.elim) ?aF ?aO ?aB ?aS ?aL ?_;(case aP=>exact rfl);(case aB=>exact hq);(case aF=>exact (fun k_ hk=>Kd.fresh' (Kd.R_lt (pe aa.out)) k_ hk));(case aO=>exact (pe ao.out));(case aS=>exact (below_size hq));(case aL=>have:=b6.out;omega);intro cJ w28 ho hb hg hat;rw [← b7.out] at ho;replace af:=ak (blk_grown (g:=aV) (o:=.cells #[.slice A0_0 l0_0.length c0_0] 28 (0,0)) (pb af.out) hg (Kd.R_ne ao.out af.out dc));replace HB:=ak (hb);replace av:=ak (show Kd.C (Kd.int .i64) w28 A26 al.length al from by rw [aM.out,ca.out];exact Kd.C_drop (m:=((ad):Int).toNat) (c:=aC) ((Kd.R_reads' (Kd.R_after (ok:=(fun _=>True)) (pe (Kd.R_mono aa.out (fun _ hk=>⟨trivial,hk⟩))) hg hat)).2.2) cb.out ((Kd.R_reads' (Kd.R_after (ok:=(fun _=>True)) (pe (Kd.R_mono aa.out (fun _ hk=>⟨trivial,hk⟩))) hg hat)).2.1));replace aa:=ak (Kd.R_after (ok:=(fun _=>True)) (pe (Kd.R_mono aa.out (fun _ hk=>⟨trivial,hk⟩))) hg hat);have cc:=ak (ho);clear ao;clear ho hb hg hat)));(try go_quiet (first|(go_at_call 42;(with_reducible refine (slices_Index_int64_int64.calls k1 _ _ al (rd ab aj) an _ ?side1 aR.out A19.out).mono ?_);(case side1=>exact q15_1);rintro e w' ⟨rfl,⟨nd,rfl⟩⟩;(try exact dn)))))
  go_roundg k1
  case measure=>have:=HK1.out;omega
  case rel=>exact ⟨(bD),(ad),(by first|rfl|(simp;done)|(simp only [← aN] <;> (first|rfl|simp))|(simp [*];done)),H',⟨by have:=HK1.out;omega⟩,⟨pe (Kd.R_mono aa.out (fun _ hk=>hk.2))⟩,⟨pe cc.out⟩,⟨pb af.out⟩,⟨hq⟩⟩
mutual
def spec_BesideOf.l0:Nat→List Int→List Int→Int→Option (List Int × Int)
 | 0,_,_,_=>none
 | k+1,x4,x5,x6=>if x6<(x4.length:Int) then (spec_BesideOf.l1 k x4 x5 x6 (-1) (wrap64 ((x4.length:Int) - 1))) else (some (x5,0))
def spec_BesideOf.l1:Nat→List Int→List Int→Int→Int→Int→Option (List Int × Int)
 | 0,_,_,_,_,_=>none
 | k+1,x4,x5,x6,x7,x8=>if x8>x6 then (if 0≤x8 then (if x8<(x4.length:Int) then (if 0≤x6 then (if x6<(x4.length:Int) then (if (rd x4 x8)=(rd x4 x6) then (spec_BesideOf.l1 k x4 x5 x6 x8 (wrap64 (x8 - 1))) else (spec_BesideOf.l1 k x4 x5 x6 x7 (wrap64 (x8 - 1)))) else (none)) else (none)) else (none)) else (none)) else (if x5.length<17592186044416 then (spec_BesideOf.l0 k x4 (x5++[x7]) (wrap64 (x6+1))) else (none))
end
def spec_BesideOf.f (k:Nat) (l0_0:List Int):Option (List Int × Int):=(spec_l01Is.f k l0_0).bind fun t615=>(if t615=true then ((spec_l01Depths.f k l0_0).bind fun t616=>(spec_BesideOf.l0 k t616 ([]:List Int) 0)) else (some (([]:List Int),1)))
theorem spec_BesideOf.calls (k:Nat) (A0_0:Option Addr) (c0_0:Nat) (l0_0:List Int) (r1:List Int) (r2:Int) (w:World) (hr0_0:Kd.C (Kd.int .i64) w A0_0 l0_0.length l0_0) (hc0_0:l0_0.length≤c0_0) (h:spec_BesideOf.f k l0_0=some (r1,r2)) :
  Calls Try.prog 20 #[.agg #[.slice A0_0 l0_0.length c0_0]] w fun e w'=>∃ v0_:Value,e=.returned (.tuple #[v0_,.int .i64 r2])∧Kd.R (Kd.int .i64) 2 w' w.heap.size (fun _=>True) v0_ r1∧Below w.heap.size w w':=by
 have hu28:=Try.underlying28;have ar:=ak hr0_0;have au:=ak hc0_0;clear hr0_0 hc0_0;have HB:=ak (Below.refl w.heap.size w);have H:((spec_l01Is.f k l0_0).bind fun bf=>(if bf=true then ((spec_l01Depths.f k l0_0).bind fun ae=>(spec_BesideOf.l0 k ae ([]:List Int) 0)) else (some (([]:List Int),1))))=some (r1,r2):=h;clear h;replace H:=bs H;obtain ⟨bf,A2,H⟩:=H;(try dsimp only at H);obtain c3|c3:=nem (bf=true)
 ·replace c3:=Bool.eq_false_iff.mpr c3;subst c3;have H1:(some (([]:List Int),1))=some (r1,r2):=by rw [if_neg (show ¬ (false=true) by decide)] at H;exact H
  clear H;have H:=H1;clear H1;simp only [Option.some.injEq,Prod.mk.injEq] at H;obtain ⟨rfl,rfl⟩:=H
  go_enter Try.func20,Try.ntmps20
  iterate 4 ((try go_wp2_with (first|((with_reducible refine gate_dst (N:=1) rfl ?_);refine bev (N:=1) (cs:=#[.slice A0_0 l0_0.length c0_0]) (t:=28) ?_;intro a3 hg w23 hbox hb;have ag:=ak (hbox);have cd:=gbe hg;have ce:=gbe hg;replace HB:=hbs hb;clear hb hbox hg;have cK:=bc ag.out;have cL:=blk_frozen ag.out 0)|(go_at_call 24;(with_reducible refine (spec_l01Is.calls k _ _ l0_0 false _ (pc (Kd.C_below ar.out HB.out)) au.out A2.out).mono ?_);rintro e w25 ⟨rfl,hb⟩;replace ag:=bb ag hb;replace HB:=hbs hb;(try clear hb))));(try go_quiet (fail)))
  go_ret2
  exact ⟨_,ew,q15_4,hq⟩
 subst c3;replace H:((spec_l01Depths.f k l0_0).bind fun ae=>(spec_BesideOf.l0 k ae ([]:List Int) 0))=some (r1,r2):=by rw [if_pos rfl] at H;exact H
 replace H:=bs H;obtain ⟨ae,A4,H⟩:=H;(try dsimp only at H);obtain ⟨bG,hY⟩:∃ y_:List Int,y_=([]:List Int):=⟨_,rfl⟩;replace H:(spec_BesideOf.l0 k ae bG 0)=some (r1,r2):=hh;have bH:=ak hY;clear hY;have H':=ak H;clear H
 go_enter Try.func20,Try.ntmps20
 iterate 4 ((try go_wp2_with (first|((with_reducible refine gate_dst (N:=1) rfl ?_);refine bev (N:=1) (cs:=#[.slice A0_0 l0_0.length c0_0]) (t:=28) ?_;intro a3 hg w5 hbox hb;have ag:=ak (hbox);have cd:=gbe hg;have ce:=gbe hg;replace HB:=hbs hb;clear hb hbox hg;have bu:=bc ag.out;have bv:=blk_frozen ag.out 0)|(go_at_call 24;(with_reducible refine (spec_l01Is.calls k _ _ l0_0 true _ (pc (Kd.C_below ar.out HB.out)) au.out A2.out).mono ?_);rintro e w7 ⟨rfl,hb⟩;replace ag:=bb ag hb;replace HB:=hbs hb;(try clear hb);(try clear hb2);(try clear hk);(try clear hi);have bw:=bc ag.out;have bx:=blk_frozen ag.out 0)|(go_at_call 26;(with_reducible refine (spec_l01Depths.calls k _ _ l0_0 ae _ (pc (Kd.C_below ar.out HB.out)) au.out A4.out).mono ?_);rintro e w9 ⟨bI,rfl,ho0,hb⟩;have a4:=lw ho0;replace ag:=bb ag hb;replace HB:=hbs hb;(try clear hb ho0))|((with_reducible refine gate_dst (N:=14) rfl ?_);refine Kd.R_lit (Kd.int .i64) _ 2 ?hg (N:=14) ?hd (xs:=([]:List Int)) (inner:=[]) (ok:=fun _=>True) (okp:=fun _=>True) ?hr ?hp (fun _ hk=>hk) trivial (Below.refl _ _) (Nat.le_refl _) (by simp) ?_;(case hd=>rfl);(case hg=>rfl);(case hr=>exact gs);(case hp=>exact (Reps.none _ _));intro cM w10 ho11 hb hg_ hnew_;clear hg_ hnew_;(first|rw [← bH.out] at ho11|(simp only [Int.reduceToNat] at ho11;rw [← bH.out] at ho11));have cf:=lw (nw ho11 a4);replace a4:=rn a4 ho11 hb;replace ag:=bb ag hb;replace HB:=hbs hb;clear hb ho11)));(try go_quiet (fail)))
 go_loopg [5,6] k (fun kq v5 v6 w'=>∃ (ac:List Int) (ah:Int),v6=.int .i64 ah∧Aside0 (spec_BesideOf.l0 kq ae ac ah=some (r1,r2))∧Aside0 (kq≤k)∧Aside0 (Kd.R (Kd.int .i64) 2 w' w.heap.size (fun k_=>some k_≠(v5:Value).ownBlock) bI ae)∧Aside0 (Kd.R (Kd.int .i64) 2 w' w.heap.size (fun k_=>some k_≠(bI:Value).ownBlock) v5 ac)∧Aside0 (w'.heap[a3]?=some (.cells #[(.slice A0_0 l0_0.length c0_0)] 28 (0,0)))∧Aside0 (Below w.heap.size w w'))
 case atStart=>exact ⟨(bG),(0),q15_2,H',⟨Nat.le_refl _⟩,⟨pe (Kd.R_mono a4.out (fun _ hk=>hk.2))⟩,⟨pe (Kd.R_mono cf.out (fun _ hk=>hk.2))⟩,⟨pb ag.out⟩,⟨hq⟩⟩
 case round =>
  clear H';obtain ⟨ac,ah,rfl,HA,HK1,aa,ao,ag,HB⟩:=hrel
  cases gk with|zero=>exact absurd HA.out (by simp [spec_BesideOf.l0])|succ k1=>?_
  have H:=HA.out;clear HA;simp only [spec_BesideOf.l0] at H;obtain c12|c12:=nem (ah<(ae.length:Int))
  ·rw [if_neg c12] at H;have cg:=df c12;clear c12;simp only [Option.some.injEq,Prod.mk.injEq] at H;obtain ⟨rfl,rfl⟩:=H;obtain ⟨cN,cO,ch⟩:=Kd.R_slice aa.out;subst ch;go_wp2
   repeat (go_quiet (fail);try go_wp2)
   go_ret2
   exact ⟨_,ew,pe (Kd.R_mono ao.out (fun _ hk=>trivial)),hq⟩
  rw [if_pos c12] at H;have cg:=dt c12;clear c12;have H':=ak H;clear H;obtain ⟨bg,bh,ci⟩:=Kd.R_slice aa.out;subst ci;go_wp2
  repeat (go_quiet (fail);try go_wp2)
  go_loopg [7,8] k1 (fun kq v7 v8 w'=>∃ (aD:Int) (ai:Int),v7=.int .i64 aD∧v8=.int .i64 ai∧Aside0 (spec_BesideOf.l1 kq ae ac ah aD ai=some (r1,r2))∧Aside0 (kq≤k1)∧Aside0 (Kd.R (Kd.int .i64) 2 w' w.heap.size (fun k_=>some k_≠(u5:Value).ownBlock) (.slice bg ae.length bh) ae)∧Aside0 (Kd.R (Kd.int .i64) 2 w' w.heap.size (fun k_=>some k_≠((.slice bg ae.length bh):Value).ownBlock) u5 ac)∧Aside0 (w'.heap[a3]?=some (.cells #[(.slice A0_0 l0_0.length c0_0)] 28 (0,0)))∧Aside0 (Below w.heap.size w w'))
  case atStart=>exact ⟨(-1),(wrap64 ((ae.length:Int) - 1)),q15_2,q15_2,H',⟨Nat.le_refl _⟩,⟨pe aa.out⟩,⟨pe ao.out⟩,⟨pb ag.out⟩,⟨hq⟩⟩
  case round =>
   clear H';obtain ⟨aD,ai,rfl,rfl,HA,HK2,aa,ao,ag,HB⟩:=hrel
   cases gk with|zero=>exact absurd HA.out (by simp [spec_BesideOf.l1])|succ k2=>?_
   have H:=HA.out;clear HA;simp only [spec_BesideOf.l1] at H;obtain c14|c14:=nem (ai>ah)
   ·rw [if_neg c14] at H;have cj:decide (ah<ai)=false:=decide_eq_false c14;clear c14;replace H:=ifs H;obtain ⟨c20,H⟩:=H;have ck:=ak c20;clear c20;obtain ⟨bJ,hY⟩:∃ y_:List Int,y_=(ac++[aD]):=⟨_,rfl⟩;replace H:(spec_BesideOf.l0 k2 ae bJ (wrap64 (ah+1)))=some (r1,r2):=hh;have cl:=ak hY;clear hY;have H':=ak H;clear H
    iterate 4 ((try go_wp2_with (first|((with_reducible refine gate_builtin (b:=.append) (xs:=#[.tmp 39,.tmp 41]) rfl ?_);at_builtin;refine Kd.R_append (Kd.int .i64) (w0:=w) w.heap.size rfl (.tmp 39) (.tmp 41) 22 2 (.int .i64 0) 8 rfl Try.underlying22 info2 rfl dc (by omega) u5 ac aD [.int .i64 aD] (fun k_=>some k_≠(.slice bg ae.length bh:Value).ownBlock) (fun _=>False) rfl rfl ?aP (fun _ hk=>hk.elim) ?aF ?aO ?aB ?aS ?aL ?_;(case aP=>exact rfl);(case aB=>exact hq);(case aF=>exact (fun k_ hk=>Kd.fresh' (Kd.R_lt (pe aa.out)) k_ hk));(case aO=>exact (pe ao.out));(case aS=>exact (below_size hq));(case aL=>have:=ck.out;omega);intro cP w21 ho hb hg hat;rw [← cl.out] at ho;replace aa:=ak (Kd.R_after (ok:=(fun _=>True)) (pe (Kd.R_mono aa.out (fun _ hk=>⟨trivial,hk⟩))) hg hat);replace ag:=ak (blk_grown (g:=a3) (o:=.cells #[.slice A0_0 l0_0.length c0_0] 28 (0,0)) (pb ag.out) hg (Kd.R_ne ao.out ag.out dc));replace HB:=ak (hb);have cm:=ak (ho);clear ao;clear ho hb hg hat)));(try go_quiet (fail)))
    go_roundg k2
    case measure=>have:=HK1.out;have:=HK2.out;omega
    case rel=>exact ⟨(bJ),(wrap64 (ah+1)),q15_2,H',⟨by have:=HK1.out;have:=HK2.out;omega⟩,⟨pe (Kd.R_mono aa.out (fun _ hk=>hk.2))⟩,⟨pe cm.out⟩,⟨pb ag.out⟩,⟨hq⟩⟩
   rw [if_pos c14] at H;have cj:decide (ah<ai)=true:=decide_eq_true c14;clear c14;replace H:=ifs H;obtain ⟨c15,H⟩:=H;have bT:=dt c15;clear c15;replace H:=ifs H;obtain ⟨c16,H⟩:=H;have bU:=dt c16;clear c16;replace H:=ifs H;obtain ⟨c17,H⟩:=H;have bV:=dt c17;clear c17;replace H:=ifs H;obtain ⟨c18,H⟩:=H;have bW:=dt c18;clear c18;obtain c19|c19:=nem ((rd ae ai)=(rd ae ah))
   ·rw [if_neg c19] at H;have cn:((rd ae ai) == (rd ae ah))=false:=beq_eq_false_iff_ne.mpr c19;have co:((rd ae ai) != (rd ae ah))=true:=bne_iff_ne.mpr c19;have H':=ak H;clear H;have aE:0≤(ai:Int):=od q15_0;have aG:ai<(ae.length:Int):=od q15_0;(try (obtain ⟨Aop_,cop_,eop_⟩:=Kd.R_slice aa.out;subst eop_));obtain ⟨bi,bj,cp⟩:=Kd.at_int (Kd.R_reads' aa.out).2.2 ai aE aG;cases bj;replace aE:=eq_true aE;replace aG:=eq_true aG;have aH:0≤(ah:Int):=od q15_0;have aI:ah<(ae.length:Int):=od q15_0;(try (obtain ⟨Aop_,cop_,eop_⟩:=Kd.R_slice aa.out;subst eop_));obtain ⟨bk,bl,cq⟩:=Kd.at_int (Kd.R_reads' aa.out).2.2 ah aH aI;obtain rfl:bi=bk:=(by injection bl);replace aH:=eq_true aH;replace aI:=eq_true aI;go_wp2
    repeat (go_quiet (fail);try go_wp2)
    go_roundg k2
    case measure=>have:=HK1.out;have:=HK2.out;omega
    case rel=>exact ⟨(aD),(wrap64 (ai - 1)),q15_2,q15_2,H',⟨by have:=HK1.out;have:=HK2.out;omega⟩,⟨pe aa.out⟩,⟨pe ao.out⟩,⟨pb ag.out⟩,⟨hq⟩⟩
   rw [if_pos c19] at H;have cn:((rd ae ai) == (rd ae ah))=true:=beq_iff_eq.mpr c19;have co:((rd ae ai) != (rd ae ah))=false:=bne_eq_false_iff_eq.mpr c19;clear c19;have H':=ak H;clear H;have aE:0≤(ai:Int):=od q15_0;have aG:ai<(ae.length:Int):=od q15_0;(try (obtain ⟨Aop_,cop_,eop_⟩:=Kd.R_slice aa.out;subst eop_));obtain ⟨bi,bj,cp⟩:=Kd.at_int (Kd.R_reads' aa.out).2.2 ai aE aG;cases bj;replace aE:=eq_true aE;replace aG:=eq_true aG;have aH:0≤(ah:Int):=od q15_0;have aI:ah<(ae.length:Int):=od q15_0;(try (obtain ⟨Aop_,cop_,eop_⟩:=Kd.R_slice aa.out;subst eop_));obtain ⟨bk,bl,cq⟩:=Kd.at_int (Kd.R_reads' aa.out).2.2 ah aH aI;obtain rfl:bi=bk:=(by injection bl);replace aH:=eq_true aH;replace aI:=eq_true aI;go_wp2
   repeat (go_quiet (fail);try go_wp2)
   go_roundg k2
   case measure=>have:=HK1.out;have:=HK2.out;omega
   case rel=>exact ⟨(ai),(wrap64 (ai - 1)),q15_2,q15_2,H',⟨by have:=HK1.out;have:=HK2.out;omega⟩,⟨pe aa.out⟩,⟨pe ao.out⟩,⟨pb ag.out⟩,⟨hq⟩⟩
def impl_DepthsOf.f (k:Nat) (l0_0:List Int):Option (List Int × Int):=(impl_IsTree.f k l0_0).bind fun t628=>(if t628=true then ((impl_depthsOf.f k l0_0).bind fun t629=>(some (t629,0))) else (some (([]:List Int),1)))
theorem impl_DepthsOf.calls (k:Nat) (A0_0:Option Addr) (c0_0:Nat) (l0_0:List Int) (r1:List Int) (r2:Int) (w:World) (hr0_0:Kd.C (Kd.int .i64) w A0_0 l0_0.length l0_0) (hc0_0:l0_0.length≤c0_0) (h:impl_DepthsOf.f k l0_0=some (r1,r2)) :
  Calls Try.prog 21 #[.agg #[.slice A0_0 l0_0.length c0_0]] w fun e w'=>∃ v0_:Value,e=.returned (.tuple #[v0_,.int .i64 r2])∧Kd.R (Kd.int .i64) 2 w' w.heap.size (fun _=>True) v0_ r1∧Below w.heap.size w w':=by
 have hu28:=Try.underlying28;have ar:=ak hr0_0;have au:=ak hc0_0;clear hr0_0 hc0_0;have HB:=ak (Below.refl w.heap.size w);have H:((impl_IsTree.f k l0_0).bind fun bm=>(if bm=true then ((impl_depthsOf.f k l0_0).bind fun aU=>(some (aU,0))) else (some (([]:List Int),1))))=some (r1,r2):=h;clear h;replace H:=bs H;obtain ⟨bm,A2,H⟩:=H;(try dsimp only at H);obtain c3|c3:=nem (bm=true)
 ·replace c3:=Bool.eq_false_iff.mpr c3;subst c3;have H1:(some (([]:List Int),1))=some (r1,r2):=by rw [if_neg (show ¬ (false=true) by decide)] at H;exact H
  clear H;have H:=H1;clear H1;simp only [Option.some.injEq,Prod.mk.injEq] at H;obtain ⟨rfl,rfl⟩:=H
  go_enter Try.func21,Try.ntmps21
  go_wp2_with (first|((with_reducible refine gate_dst (N:=1) rfl ?_);refine bev (N:=1) (cs:=#[.slice A0_0 l0_0.length c0_0]) (t:=28) ?_;intro cr hg w10 hbox hb;have aq:=ak (hbox);have ct:=gbe hg;have cu:=gbe hg;replace HB:=hbs hb;clear hb hbox hg;have cQ:=bc aq.out;have cR:=blk_frozen aq.out 0)|((with_reducible refine gate_callee (f:=29) rfl ?_);refine gl (some 5) Try.func29 #[.agg #[.slice A0_0 l0_0.length c0_0]] ?_;(with_reducible refine (impl_IsTree.calls k _ _ l0_0 false _ (pc (Kd.C_below ar.out HB.out)) au.out A2.out).mono ?_);rintro e w12 ⟨rfl,hb⟩;refine ⟨_,rfl,?_⟩;replace aq:=bb aq hb;replace HB:=hbs hb;(try clear hb)))
  go_ret2
  exact ⟨_,ew,q15_4,hq⟩
 subst c3;replace H:((impl_depthsOf.f k l0_0).bind fun aU=>(some (aU,0)))=some (r1,r2):=by rw [if_pos rfl] at H;exact H
 replace H:=bs H;obtain ⟨aU,A4,H⟩:=H;(try dsimp only at H);simp only [Option.some.injEq,Prod.mk.injEq] at H;obtain ⟨rfl,rfl⟩:=H
 go_enter Try.func21,Try.ntmps21
 go_wp2_with (first|((with_reducible refine gate_dst (N:=1) rfl ?_);refine bev (N:=1) (cs:=#[.slice A0_0 l0_0.length c0_0]) (t:=28) ?_;intro cr hg w5 hbox hb;have aq:=ak (hbox);have ct:=gbe hg;have cu:=gbe hg;replace HB:=hbs hb;clear hb hbox hg;have bu:=bc aq.out;have bv:=blk_frozen aq.out 0)|((with_reducible refine gate_callee (f:=29) rfl ?_);refine gl (some 5) Try.func29 #[.agg #[.slice A0_0 l0_0.length c0_0]] ?_;(with_reducible refine (impl_IsTree.calls k _ _ l0_0 true _ (pc (Kd.C_below ar.out HB.out)) au.out A2.out).mono ?_);rintro e w7 ⟨rfl,hb⟩;refine ⟨_,rfl,?_⟩;replace aq:=bb aq hb;replace HB:=hbs hb;(try clear hb);(try clear hb2);(try clear hk);(try clear hi);have bw:=bc aq.out;have bx:=blk_frozen aq.out 0)|((with_reducible refine gate_callee (f:=31) rfl ?_);refine gl (some 9) Try.func31 #[.slice A0_0 l0_0.length c0_0] ?_;(with_reducible refine (impl_depthsOf.calls k _ _ l0_0 aU _ (pc (Kd.C_below ar.out HB.out)) au.out A4.out).mono ?_);rintro e w9 ⟨cS,rfl,ho0,hb⟩;refine ⟨_,rfl,?_⟩;have cv:=lw ho0;replace aq:=bb aq hb;replace HB:=hbs hb;(try clear hb ho0)))
 go_ret2
 exact ⟨_,ew,pe cv.out,hq⟩
def laws_hasInt.l0:Nat→List Int→Int→Int→Option (Bool)
 | 0,_,_,_=>none
 | k+1,x0,x1,x5=>if x5<(x0.length:Int) then (if 0≤x5 then (if (rd x0 x5)=x1 then (some true) else (laws_hasInt.l0 k x0 x1 (wrap64 (x5+1)))) else (none)) else (some false)
def laws_hasInt.f (k:Nat) (l0:List Int) (a1:Int):Option (Bool):=laws_hasInt.l0 k l0 a1 0
theorem laws_hasInt.calls (k:Nat) (A0:Option Addr) (c0:Nat) (l0:List Int) (a1:Int) (r:Bool) (w:World) (hr0:Kd.C (Kd.int .i64) w A0 l0.length l0) (hc0:l0.length≤c0) (h:laws_hasInt.f k l0 a1=some r) :
  Calls Try.prog 22 #[.slice A0 l0.length c0,.int .i64 a1] w fun e w'=>e=.returned (.bool r)∧Drawn0 w w':=by
 have HR0:=ak hr0;have HC0:=ak hc0;clear hr0 hc0;have H:(laws_hasInt.l0 k l0 a1 0)=some r:=h;clear h;have H':=ak H;clear H
 go_enter Try.func22,Try.ntmps22
 go_wp2
 go_loopg [5] k (fun kq v5 w'=>∃ (ac:Int),v5=.int .i64 ac∧Aside0 (laws_hasInt.l0 kq l0 a1 ac=some r)∧Aside0 (kq≤k)∧Drawn0 w w')
 case atStart=>exact ⟨(0),q15_2,H',⟨Nat.le_refl _⟩,q15_3⟩
 case round =>
  clear H';obtain ⟨ac,rfl,HA,HK1,⟨m1,rfl⟩⟩:=hrel
  cases gk with|zero=>exact absurd HA.out (by simp [laws_hasInt.l0])|succ k1=>?_
  have H:=HA.out;clear HA;simp only [laws_hasInt.l0] at H;obtain c3|c3:=nem (ac<(l0.length:Int))
  ·rw [if_neg c3] at H;have a5:=df c3;clear c3;obtain rfl:=Option.some.inj H;go_wp2
   go_ret
   exact ⟨q15_2,q15_3⟩
  rw [if_pos c3] at H;have a5:=dt c3;clear c3;replace H:=ifs H;obtain ⟨c4,H⟩:=H;have bK:=dt c4;clear c4
  by_cases c5:(rd l0 ac)=a1
  ·rw [if_pos c5] at H;have bp:((rd l0 ac) == a1)=true:=beq_iff_eq.mpr c5;have cw:((rd l0 ac) != a1)=false:=bne_eq_false_iff_eq.mpr c5;clear c5;obtain rfl:=Option.some.inj H;have aJ:0≤(ac:Int):=od q15_0;have aK:ac<(l0.length:Int):=od q15_0;obtain ⟨cx,bo,cy⟩:=Kd.at_int HR0.out ac aJ aK;cases bo;replace aJ:=eq_true aJ;replace aK:=eq_true aK;go_wp2
   go_ret
   exact ⟨q15_2,q15_3⟩
  rw [if_neg c5] at H;have bp:((rd l0 ac) == a1)=false:=beq_eq_false_iff_ne.mpr c5;have cw:((rd l0 ac) != a1)=true:=bne_iff_ne.mpr c5;have H':=ak H;clear H;have aJ:0≤(ac:Int):=od q15_0;have aK:ac<(l0.length:Int):=od q15_0;obtain ⟨cx,bo,cy⟩:=Kd.at_int HR0.out ac aJ aK;cases bo;replace aJ:=eq_true aJ;replace aK:=eq_true aK;go_wp2
  go_roundg k1
  case measure=>have:=HK1.out;omega
  case rel=>exact ⟨(wrap64 (ac+1)),q15_2,H',⟨by have:=HK1.out;omega⟩,q15_3⟩
end Go.Proofs.Ytimfbpmaepmdoaa.QFnDrawings
