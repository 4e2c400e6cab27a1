/- Functions as Lean functions, with their contracts: written by a program of this claim over the translation; some contracts are proved by hand. -/
import Derived.Test.YtimfbpmaepmdoaaQFnDrawingsx0
import Derived.Test.YtimfbpmaepmdoaaQFnDrawingsx5
import Derived.Test.YtimfbpmaepmdoaaQFnDrawingsx9
import Derived.Test.YtimfbpmaepmdoaaQFnDrawingsx12
import Derived.Test.YtimfbpmaepmdoaaQFnDrawingsx13
import Derived.Test.YtimfbpmaepmdoaaQFnDrawingsx14
import Derived.Test.YtimfbpmaepmdoaaQFnDrawingsx15
namespace Go.Proofs.Ytimfbpmaepmdoaa.QFnDrawings
open Go.RowKit Go.Proofs.Ytimfbpmaepmdoaa.Gl Go.Proofs.Ytimfbpmaepmdoaa.Sz Go.Proofs.YtimfbpmaepmdoaaW.PrintWords Go.Proofs.YtimfbpmaepmdoaaW.PrintLast Go.Proofs.YtimfbpmaepmdoaaW.PrintMore
attribute [local go_sem] max2_int min2_int max_two min_two max_three min_three max_four min_four   -- for this text's walks alone
set_option linter.unusedVariables false
set_option linter.unusedSimpArgs false
theorem q16_0 {P:Prop} (h:P:=by first|(with_reducible assumption)|assumption):P:=h
theorem q16_1 {P:Prop} (h:P:=by first|rfl|(simp;done)|(simp [*];done)):P:=h
theorem q16_2 {P:Prop} (h:P:=by (with_reducible repeat (first|refine blk_drewN ?_ _|refine blk_drew ?_|refine blk_alloc ?_ _));refine blk_put (cs:=#[.slice none 0 0]) ?_ 0 _ rfl;exact pb aa.out):P:=h
theorem q16_3 {P:Prop} (h:P:=by have:=HJ6.out;have:=aC.out;have:=aD.out;have:=aH.out;have:=aJ.out;have:=aK.out;have:=HK7.out;first|omega|exact Nat.le_refl _):P:=h
theorem q16_4 {P:Prop} (h:P:=by have:=HJ6.out;have:=aC.out;have:=aD.out;have:=aH.out;have:=aJ.out;have:=aK.out;have:=HK7.out;have:=HK8.out;omega):P:=h
set_option maxHeartbeats 8000000
set_option maxRecDepth 100000
mutual
def laws_FnDrawings.j0:Nat→List Int→Int→Bool→List Int→Option (Bool)
 | 0,_,_,_,_=>none
 | k+1,x4,x5,x53,x638000=>if x53=true then (none) else ((impl_EvenColumns.f k x638000).bind fun bt647=>((spec_EvenColumns.f k x638000).bind fun bt651=>(if bt647.2=bt651.2 then ((laws_likeInts.f k bt647.1 bt651.1).bind fun t655=>(laws_FnDrawings.j1 k x4 x5 bt647.1 bt647.2 (!t655) x638000)) else (none))))
def laws_FnDrawings.j1:Nat→List Int→Int→List Int→Int→Bool→List Int→Option (Bool)
 | 0,_,_,_,_,_,_=>none
 | k+1,x4,x5,x8,x9,x72,x638000=>if x72=true then (none) else ((impl_TidyWidth.f k x638000).bind fun bt656=>((spec_TidyWidth.f k x638000).bind fun bt658=>(if bt656.2=bt658.2 then (laws_FnDrawings.j2 k x4 x5 x8 x9 bt656.1 bt656.2 (bt656.1 != bt658.1) x638000) else (none))))
def laws_FnDrawings.j2:Nat→List Int→Int→List Int→Int→Int→Int→Bool→List Int→Option (Bool)
 | 0,_,_,_,_,_,_,_,_=>none
 | k+1,x4,x5,x8,x9,x12,x13,x90,x638000=>if x90=true then (none) else ((impl_PictureOf.f k x638000).bind fun bt660=>((spec_PictureOf.f k x638000).bind fun bt662=>(if bt660.2=bt662.2 then (laws_FnDrawings.j3 k x4 x5 x8 x9 x12 x13 bt660.1 bt660.2 (bt660.1.toList != bt662.1.toList) x638000) else (none))))
def laws_FnDrawings.j3:Nat→List Int→Int→List Int→Int→Int→Int→ByteArray→Int→Bool→List Int→Option (Bool)
 | 0,_,_,_,_,_,_,_,_,_,_=>none
 | k+1,x4,x5,x8,x9,x12,x13,x16,x17,x108,x638000=>if x108=true then (none) else ((impl_BesideOf.f k x638000).bind fun bt664=>((spec_BesideOf.f k x638000).bind fun bt668=>(if bt664.2=bt668.2 then ((laws_likeInts.f k bt664.1 bt668.1).bind fun t672=>(laws_FnDrawings.j4 k x4 x5 x8 x9 x12 x13 x16 x17 bt664.1 bt664.2 (!t672) x638000)) else (none))))
def laws_FnDrawings.j4:Nat→List Int→Int→List Int→Int→Int→Int→ByteArray→Int→List Int→Int→Bool→List Int→Option (Bool)
 | 0,_,_,_,_,_,_,_,_,_,_,_,_=>none
 | k+1,x4,x5,x8,x9,x12,x13,x16,x17,x20,x21,x127,x638000=>if x127=true then (none) else (if x5=0 then ((impl_DepthsOf.f k x638000).bind fun bt673=>(if bt673.2=0 then (if x9=0 then (if x13=0 then (if x17=0 then (laws_FnDrawings.j5 k x4 x8 x12 x16 x20 bt673.1 (x21 != 0)) else (none)) else (none)) else (none)) else (none))) else (if (x4.length:Int)=0 then (if x9=x5 then (if x13=x5 then (if x17=x5 then (some (x21 == x5)) else (none)) else (none)) else (none)) else (none)))
def laws_FnDrawings.j5:Nat→List Int→List Int→Int→ByteArray→List Int→List Int→Bool→Option (Bool)
 | 0,_,_,_,_,_,_,_=>none
 | k+1,x4,x8,x12,x16,x20,x24,x175=>if x175=true then (none) else (laws_FnDrawings.l0 k x4 x8 x12 x16 x20 x24 0 0)
def laws_FnDrawings.l0:Nat→List Int→List Int→Int→ByteArray→List Int→List Int→Int→Int→Option (Bool)
 | 0,_,_,_,_,_,_,_,_=>none
 | k+1,x4,x8,x12,x16,x20,x24,x26,x27=>if x27<(x4.length:Int) then (if 0≤x27 then (if x27<(x20.length:Int) then (if (rd x20 x27)≥0 then (if 0≤(rd x20 x27) then (if (rd x20 x27)<(x24.length:Int) then (if x27<(x24.length:Int) then (if (rd x24 (rd x20 x27))=(rd x24 x27) then (if (rd x20 x27)<(x4.length:Int) then (if (rd x4 (rd x20 x27))<(wrap64 ((rd x4 x27)+2)) then (none) else (if (rd x20 x27)<(x8.length:Int) then (if x27<(x8.length:Int) then (laws_FnDrawings.j7 k x4 x8 x12 x16 x20 x24 (mx x26 (rd x4 x27)) x27 (decide ((rd x8 (rd x20 x27))<(wrap64 ((rd x8 x27)+2))))) else (none)) else (none))) else (none)) else (none)) else (none)) else (none)) else (none)) else (laws_FnDrawings.j7 k x4 x8 x12 x16 x20 x24 (mx x26 (rd x4 x27)) x27 false)) else (none)) else (none)) else (laws_FnDrawings.l1 k x4 x12 x16 x26 0 0)
def laws_FnDrawings.j7:Nat→List Int→List Int→Int→ByteArray→List Int→List Int→Int→Int→Bool→Option (Bool)
 | 0,_,_,_,_,_,_,_,_,_=>none
 | k+1,x4,x8,x12,x16,x20,x24,x26,x27,x228=>if x228=true then (none) else (laws_FnDrawings.l0 k x4 x8 x12 x16 x20 x24 x26 (wrap64 (x27+1)))
def laws_FnDrawings.l1:Nat→List Int→Int→ByteArray→Int→Int→Int→Option (Bool)
 | 0,_,_,_,_,_,_=>none
 | k+1,x4,x12,x16,x26,x29,x30=>if x30<(x16.size:Int) then (if 0≤x30 then (if (bt x16 x30)=111 then (laws_FnDrawings.l1 k x4 x12 x16 x26 (wrap64 (x29+1)) (wrap64 (x30+1))) else (laws_FnDrawings.l1 k x4 x12 x16 x26 x29 (wrap64 (x30+1)))) else (none)) else ((laws_hasInt.f k x4 0).bind fun t685=>(if t685=true then (if x26=x12 then (some (x29 == (x4.length:Int))) else (none)) else (none)))
end
def laws_FnDrawings.f (k:Nat) (l0:List Int):Option (Bool):=(laws_big.f l0).bind fun t633=>(if t633=true then (some true) else ((spec_DrawTidyColumns.f k l0).bind fun t634=>((impl_TidyColumns.f k t634).bind fun bt638=>((spec_TidyColumns.f k t634).bind fun bt642=>(if bt638.2=bt642.2 then ((laws_likeInts.f k bt638.1 bt642.1).bind fun t646=>(laws_FnDrawings.j0 k bt638.1 bt638.2 (!t646) t634)) else (none))))))
theorem laws_FnDrawings.calls (k:Nat) (A0:Option Addr) (c0:Nat) (l0:List Int) (r:Bool) (w:World) (hr0:Kd.C (Kd.int .u8) w A0 l0.length l0) (hc0:l0.length≤c0) (h:laws_FnDrawings.f k l0=some r) :
  Calls Try.prog 4 #[.slice A0 l0.length c0] w fun e w'=>e=.returned (.bool r)∧Below w.heap.size w w':=by
 have hu28:=Try.underlying28;have HR0:=ak hr0;have HC0:=ak hc0;clear hr0 hc0;have HB:=ak (Below.refl w.heap.size w);have H:((laws_big.f l0).bind fun a9=>(if a9=true then (some true) else ((spec_DrawTidyColumns.f k l0).bind fun ac=>((impl_TidyColumns.f k ac).bind fun aI=>((spec_TidyColumns.f k ac).bind fun aT=>(if aI.2=aT.2 then ((laws_likeInts.f k aI.1 aT.1).bind fun aL=>(laws_FnDrawings.j0 k aI.1 aI.2 (!aL) ac)) else (none)))))))=some r:=h;clear h;replace H:=bs H;obtain ⟨a9,A2,H⟩:=H;(try dsimp only at H)
 by_cases c3:a9=true
 ·subst c3;replace H:(some true)=some r:=by rw [if_pos rfl] at H;exact H
  obtain rfl:=Option.some.inj H
  go_enter Try.func4,Try.ntmps4
  as_aux_lemma =>
  iterate 4 ((try go_wp2_with (first|(go_at_call 10;(with_reducible refine (laws_big.calls _ _ l0 true _ (pc (HR0.out)) HC0.out A2.out).mono ?_);rintro e w' ⟨rfl,⟨nd,rfl⟩⟩;(try exact dn))));(try go_quiet (first|(go_at_call 10;(with_reducible refine (laws_big.calls _ _ l0 true _ (pc (HR0.out)) HC0.out A2.out).mono ?_);rintro e w' ⟨rfl,⟨nd,rfl⟩⟩;(try exact dn)))))
  go_ret
  exact ⟨ew,hq⟩
 replace c3:=Bool.eq_false_iff.mpr c3;subst c3;have H1:((spec_DrawTidyColumns.f k l0).bind fun ac=>((impl_TidyColumns.f k ac).bind fun aI=>((spec_TidyColumns.f k ac).bind fun aT=>(if aI.2=aT.2 then ((laws_likeInts.f k aI.1 aT.1).bind fun aL=>(laws_FnDrawings.j0 k aI.1 aI.2 (!aL) ac)) else (none)))))=some r:=by rw [if_neg (show ¬ (false=true) by decide)] at H;exact H
 clear H;have H:=H1;clear H1;replace H:=bs H;obtain ⟨ac,A4,H⟩:=H;(try dsimp only at H);replace H:=bs H;obtain ⟨⟨ai,aF⟩,A5,H⟩:=H;(try dsimp only at H);replace H:=bs H;obtain ⟨⟨a3,bW⟩,A6,H⟩:=H;(try dsimp only at H);have HC7:=ak H;clear H
 go_enter Try.func4,Try.ntmps4
 as_aux_lemma =>
 go_upto_region 6 with (first|(go_at_call 10;(with_reducible refine (laws_big.calls _ _ l0 false _ (pc (HR0.out)) HC0.out A2.out).mono ?_);rintro e w' ⟨rfl,⟨nd,rfl⟩⟩;(try exact dn))|(go_at_call 11;(with_reducible refine (spec_DrawTidyColumns.calls k _ _ l0 ac _ (pc (HR0.out)) HC0.out A4.out).mono ?_);rintro e w8 ⟨ce,rfl,ho0,hb⟩;have an:=lw ho0;replace HB:=hbs hb;(try clear hb ho0))|((with_reducible refine gate_dst (N:=3) rfl ?_);(try (refine gate_guard (by rfl) ?_;dsimp only));refine bev (N:=3) (cs:=#[.slice none 0 0]) (t:=28) ?_;intro aB hg w9 hbox hb;replace an:=rb an hb;have aa:=ak (hbox);have cf:=gbe hg;have cg:=gbe hg;replace HB:=hbs hb;clear hb hbox hg;obtain ⟨ag,af,ba⟩:=Kd.R_slice an.out;subst ba;have ch:=bc aa.out;have ci:=blk_frozen aa.out 0)|(go_at_call 12;(with_reducible refine (impl_TidyColumns.calls k _ _ ac ai aF _ ?side1 (Kd.R_reads' an.out).2.1 A5.out).mono ?_);(case side1=>refine (Kd.R_reads' (e:=2) (base:=w.heap.size) (ok:=fun k_=>True) (n:=ac.length) (c:=af) ?_).2.2;exact (pe (rf an aa (.slice ag ac.length af))));rintro e w12 ⟨ao,rfl,ho0,hb⟩;have ay:=lw (Kd.R_new' ho0 (Kd.R_lt (pe (rf an aa (.slice ag ac.length af)))));replace an:=ak (Kd.R_elder' (pe (rf an aa (.slice ag ac.length af))) (Kd.R_base ho0) hb);replace aa:=ak (blk_below (g:=aB) (o:=.cells #[.slice ag ac.length af] 28 (0,0)) q16_2 hb);replace HB:=hbs hb;(try clear hb);(try clear hb2);(try clear hk);(try clear hi);(try clear ho0);have cj:=bc aa.out;have ck:=blk_frozen aa.out 0)|(go_at_call 13;(with_reducible refine (spec_TidyColumns.calls k _ _ ac a3 bW _ (pc ((Kd.R_reads' an.out).2.2)) (Kd.R_reads' an.out).2.1 A6.out).mono ?_);rintro e w14 ⟨cl,rfl,ho0,hb⟩;have aP:=lw (nw (nw ho0 an) ay);replace an:=rn an ho0 hb;replace ay:=rn ay ho0 hb;replace aa:=bb aa hb;replace HB:=hbs hb;(try clear hb ho0)))
 repeat (go_quiet (first|(go_at_call 10;(with_reducible refine (laws_big.calls _ _ l0 false _ (pc (HR0.out)) HC0.out A2.out).mono ?_);rintro e w' ⟨rfl,⟨nd,rfl⟩⟩;(try exact dn)));go_upto_region 6 with (first|(go_at_call 10;(with_reducible refine (laws_big.calls _ _ l0 false _ (pc (HR0.out)) HC0.out A2.out).mono ?_);rintro e w' ⟨rfl,⟨nd,rfl⟩⟩;(try exact dn))|(go_at_call 11;(with_reducible refine (spec_DrawTidyColumns.calls k _ _ l0 ac _ (pc (HR0.out)) HC0.out A4.out).mono ?_);rintro e w8 ⟨ce,rfl,ho0,hb⟩;have an:=lw ho0;replace HB:=hbs hb;(try clear hb ho0))|((with_reducible refine gate_dst (N:=3) rfl ?_);(try (refine gate_guard (by rfl) ?_;dsimp only));refine bev (N:=3) (cs:=#[.slice none 0 0]) (t:=28) ?_;intro aB hg w9 hbox hb;replace an:=rb an hb;have aa:=ak (hbox);have cf:=gbe hg;have cg:=gbe hg;replace HB:=hbs hb;clear hb hbox hg;obtain ⟨ag,af,ba⟩:=Kd.R_slice an.out;subst ba;have ch:=bc aa.out;have ci:=blk_frozen aa.out 0)|(go_at_call 12;(with_reducible refine (impl_TidyColumns.calls k _ _ ac ai aF _ ?side1 (Kd.R_reads' an.out).2.1 A5.out).mono ?_);(case side1=>refine (Kd.R_reads' (e:=2) (base:=w.heap.size) (ok:=fun k_=>True) (n:=ac.length) (c:=af) ?_).2.2;exact (pe (rf an aa (.slice ag ac.length af))));rintro e w12 ⟨ao,rfl,ho0,hb⟩;have ay:=lw (Kd.R_new' ho0 (Kd.R_lt (pe (rf an aa (.slice ag ac.length af)))));replace an:=ak (Kd.R_elder' (pe (rf an aa (.slice ag ac.length af))) (Kd.R_base ho0) hb);replace aa:=ak (blk_below (g:=aB) (o:=.cells #[.slice ag ac.length af] 28 (0,0)) q16_2 hb);replace HB:=hbs hb;(try clear hb);(try clear hb2);(try clear hk);(try clear hi);(try clear ho0);have cj:=bc aa.out;have ck:=blk_frozen aa.out 0)|(go_at_call 13;(with_reducible refine (spec_TidyColumns.calls k _ _ ac a3 bW _ (pc ((Kd.R_reads' an.out).2.2)) (Kd.R_reads' an.out).2.1 A6.out).mono ?_);rintro e w14 ⟨cl,rfl,ho0,hb⟩;have aP:=lw (nw (nw ho0 an) ay);replace an:=rn an ho0 hb;replace ay:=rn ay ho0 hb;replace aa:=bb aa hb;replace HB:=hbs hb;(try clear hb ho0))))
 (try simp only [Act.put,List.setIfInBounds_toArray,List.set_cons_zero,List.set_cons_succ])
 as_aux_lemma =>
 go_cut [53] (fun v53 wc=>∃ (kq:Nat) (bd:Bool),v53=.bool bd∧Aside0 (laws_FnDrawings.j0 kq ai aF bd ac=some r)∧Aside0 (kq≤k)∧Aside0 (Kd.R (Kd.int .i64) 2 wc w.heap.size (fun k_=>some k_≠((.slice ag ac.length af):Value).ownBlock) ao ai)∧Aside0 (Kd.R (Kd.int .i64) 2 wc w.heap.size (fun k_=>some k_≠(ao:Value).ownBlock) (.slice ag ac.length af) ac)∧Aside0 (wc.heap[aB]?=some (.cells #[(.slice ag ac.length af)] 28 (0,0)))∧Aside0 (Below w.heap.size w wc))
 case first =>
  as_aux_lemma =>
  have H:=HC7.out;clear HC7;replace H:=ifs H;obtain ⟨c15,H⟩:=H;have bX:=be c15;have dj:=bn c15;clear c15;(first|rw [bX]|(simp only [i64_w,i32_w];rw [bX])|skip);replace H:=bs H;obtain ⟨aL,A16,H⟩:=H;(try dsimp only at H);have H':=ak H;clear H;obtain ⟨dk,dl,cm⟩:=Kd.R_slice ay.out;subst cm;obtain ⟨dm,dp,cn⟩:=Kd.R_slice aP.out;subst cn
  as_aux_lemma =>
  iterate 4 ((try go_wp2_with (first|(go_at_call 14;(with_reducible refine (laws_likeInts.calls k _ _ ai _ _ a3 aL _ (pc ((Kd.R_reads' ay.out).2.2)) (Kd.R_reads' ay.out).2.1 (pc ((Kd.R_reads' aP.out).2.2)) (Kd.R_reads' aP.out).2.1 A16.out).mono ?_);rintro e w' ⟨rfl,⟨nd,rfl⟩⟩;(try exact dn))));(try go_quiet (first|(go_at_call 14;(with_reducible refine (laws_likeInts.calls k _ _ ai _ _ a3 aL _ (pc ((Kd.R_reads' ay.out).2.2)) (Kd.R_reads' ay.out).2.1 (pc ((Kd.R_reads' aP.out).2.2)) (Kd.R_reads' aP.out).2.1 A16.out).mono ?_);rintro e w' ⟨rfl,⟨nd,rfl⟩⟩;(try exact dn)))))
  go_meet
  case rel=>exact ⟨_,(!aL),q16_1,H',⟨by first|omega|exact Nat.le_refl _⟩,⟨pe (Kd.R_mono ay.out (fun _ hk=>hk.1.2))⟩,⟨pe (Kd.R_mono an.out (fun _ hk=>hk.1.2))⟩,⟨pb aa.out⟩,⟨hq⟩⟩
 as_aux_lemma =>
 clear HC7;obtain ⟨kq,bd,rfl,HA,HJ6,ad,ab,aa,HB⟩:=hcut
 cases kq with|zero=>exact absurd HA.out (by simp [laws_FnDrawings.j0])|succ kj6=>?_
 have H:=HA.out;clear HA;simp only [laws_FnDrawings.j0] at H;replace H:=ifn H;obtain ⟨c19,H⟩:=H;subst c19;replace H:=bs H;obtain ⟨⟨ap,aQ⟩,A20,H⟩:=H;(try dsimp only at H);replace H:=bs H;obtain ⟨⟨a4,bY⟩,A21,H⟩:=H;(try dsimp only at H);have bf:=ak H;clear H;have dq:=bc aa.out;have dr:=blk_frozen aa.out 0
 as_aux_lemma =>
 go_upto_region 10 with (first|(go_at_call 15;(with_reducible refine (impl_EvenColumns.calls kj6 _ _ ac ap aQ _ (pc ((Kd.R_reads' ab.out).2.2)) (Kd.R_reads' ab.out).2.1 A20.out).mono ?_);rintro e w24 ⟨al,rfl,ho0,hb⟩;have az:=lw (nw (nw ho0 ad) ab);replace ad:=rn ad ho0 hb;replace ab:=rn ab ho0 hb;replace aa:=bb aa hb;replace HB:=hbs hb;(try clear hb);(try clear hb2);(try clear hk);(try clear hi);(try clear ho0);have co:=bc aa.out;have cp:=blk_frozen aa.out 0)|(go_at_call 16;(with_reducible refine (spec_EvenColumns.calls kj6 _ _ ac a4 bY _ (pc ((Kd.R_reads' ab.out).2.2)) (Kd.R_reads' ab.out).2.1 A21.out).mono ?_);rintro e w26 ⟨cq,rfl,ho0,hb⟩;have aR:=lw (nw (nw (nw ho0 ad) ab) az);replace ad:=rn ad ho0 hb;replace ab:=rn ab ho0 hb;replace az:=rn az ho0 hb;replace aa:=bb aa hb;replace HB:=hbs hb;(try clear hb ho0)))
 repeat (go_quiet (fail);go_upto_region 10 with (first|(go_at_call 15;(with_reducible refine (impl_EvenColumns.calls kj6 _ _ ac ap aQ _ (pc ((Kd.R_reads' ab.out).2.2)) (Kd.R_reads' ab.out).2.1 A20.out).mono ?_);rintro e w24 ⟨al,rfl,ho0,hb⟩;have az:=lw (nw (nw ho0 ad) ab);replace ad:=rn ad ho0 hb;replace ab:=rn ab ho0 hb;replace aa:=bb aa hb;replace HB:=hbs hb;(try clear hb);(try clear hb2);(try clear hk);(try clear hi);(try clear ho0);have co:=bc aa.out;have cp:=blk_frozen aa.out 0)|(go_at_call 16;(with_reducible refine (spec_EvenColumns.calls kj6 _ _ ac a4 bY _ (pc ((Kd.R_reads' ab.out).2.2)) (Kd.R_reads' ab.out).2.1 A21.out).mono ?_);rintro e w26 ⟨cq,rfl,ho0,hb⟩;have aR:=lw (nw (nw (nw ho0 ad) ab) az);replace ad:=rn ad ho0 hb;replace ab:=rn ab ho0 hb;replace az:=rn az ho0 hb;replace aa:=bb aa hb;replace HB:=hbs hb;(try clear hb ho0))))
 (try simp only [Act.put,List.setIfInBounds_toArray,List.set_cons_zero,List.set_cons_succ])
 as_aux_lemma =>
 go_cut [72] (fun v72 wc=>∃ (kq:Nat) (bg:Bool),v72=.bool bg∧Aside0 (laws_FnDrawings.j1 kq ai aF ap aQ bg ac=some r)∧Aside0 (kq≤kj6)∧Aside0 (Kd.R (Kd.int .i64) 2 wc w.heap.size (fun k_=>some k_≠(al:Value).ownBlock∧some k_≠((.slice ag ac.length af):Value).ownBlock) ao ai)∧Aside0 (Kd.R (Kd.int .i64) 2 wc w.heap.size (fun k_=>some k_≠(ao:Value).ownBlock∧some k_≠((.slice ag ac.length af):Value).ownBlock) al ap)∧Aside0 (Kd.R (Kd.int .i64) 2 wc w.heap.size (fun k_=>some k_≠(ao:Value).ownBlock∧some k_≠(al:Value).ownBlock) (.slice ag ac.length af) ac)∧Aside0 (wc.heap[aB]?=some (.cells #[(.slice ag ac.length af)] 28 (0,0)))∧Aside0 (Below w.heap.size w wc))
 case first =>
  as_aux_lemma =>
  have H:=bf.out;clear bf;replace H:=ifs H;obtain ⟨c27,H⟩:=H;have bZ:=be c27;have ds:=bn c27;clear c27;(first|rw [bZ]|(simp only [i64_w,i32_w];rw [bZ])|skip);replace H:=bs H;obtain ⟨bh,A28,H⟩:=H;(try dsimp only at H);have H':=ak H;clear H;obtain ⟨du,dv,cr⟩:=Kd.R_slice az.out;subst cr;obtain ⟨dw,dx,ct⟩:=Kd.R_slice aR.out;subst ct
  as_aux_lemma =>
  iterate 4 ((try go_wp2_with (first|(go_at_call 14;(with_reducible refine (laws_likeInts.calls kj6 _ _ ap _ _ a4 bh _ (pc ((Kd.R_reads' az.out).2.2)) (Kd.R_reads' az.out).2.1 (pc ((Kd.R_reads' aR.out).2.2)) (Kd.R_reads' aR.out).2.1 A28.out).mono ?_);rintro e w' ⟨rfl,⟨nd,rfl⟩⟩;(try exact dn))));(try go_quiet (first|(go_at_call 14;(with_reducible refine (laws_likeInts.calls kj6 _ _ ap _ _ a4 bh _ (pc ((Kd.R_reads' az.out).2.2)) (Kd.R_reads' az.out).2.1 (pc ((Kd.R_reads' aR.out).2.2)) (Kd.R_reads' aR.out).2.1 A28.out).mono ?_);rintro e w' ⟨rfl,⟨nd,rfl⟩⟩;(try exact dn)))))
  go_meet
  case rel=>exact ⟨_,(!bh),q16_1,H',⟨by have:=HJ6.out;first|omega|exact Nat.le_refl _⟩,⟨pe (Kd.R_mono ad.out (fun _ hk=>⟨hk.1.2,hk.1.1⟩))⟩,⟨pe (Kd.R_mono az.out (fun _ hk=>⟨hk.1.1.2,hk.1.2⟩))⟩,⟨pe (Kd.R_mono ab.out (fun _ hk=>⟨hk.1.1,hk.1.2⟩))⟩,⟨pb aa.out⟩,⟨hq⟩⟩
 as_aux_lemma =>
 clear bf;obtain ⟨kq,bg,rfl,HA,aC,ad,ae,ab,aa,HB⟩:=hcut
 cases kq with|zero=>exact absurd HA.out (by simp [laws_FnDrawings.j1])|succ aU=>?_
 have H:=HA.out;clear HA;simp only [laws_FnDrawings.j1] at H;replace H:=ifn H;obtain ⟨c31,H⟩:=H;subst c31;replace H:=bs H;obtain ⟨⟨aG,aV⟩,A32,H⟩:=H;(try dsimp only at H);replace H:=bs H;obtain ⟨⟨bi,b0⟩,A33,H⟩:=H;(try dsimp only at H);have bj:=ak H;clear H;have dy:=bc aa.out;have dz:=blk_frozen aa.out 0
 as_aux_lemma =>
 go_upto_region 14 with (first|(go_at_call 17;(with_reducible refine (impl_TidyWidth.calls aU _ _ ac aG aV _ (pc ((Kd.R_reads' ab.out).2.2)) (Kd.R_reads' ab.out).2.1 A32.out).mono ?_);rintro e w36 ⟨rfl,hb⟩;replace ad:=rb ad hb;replace ae:=rb ae hb;replace ab:=rb ab hb;replace aa:=bb aa hb;replace HB:=hbs hb;(try clear hb);(try clear hb2);(try clear hk);(try clear hi);have cu:=bc aa.out;have cv:=blk_frozen aa.out 0)|(go_at_call 18;(with_reducible refine (spec_TidyWidth.calls aU _ _ ac bi b0 _ (pc ((Kd.R_reads' ab.out).2.2)) (Kd.R_reads' ab.out).2.1 A33.out).mono ?_);rintro e w38 ⟨rfl,hb⟩;replace ad:=rb ad hb;replace ae:=rb ae hb;replace ab:=rb ab hb;replace aa:=bb aa hb;replace HB:=hbs hb;(try clear hb)))
 repeat (go_quiet (fail);go_upto_region 14 with (first|(go_at_call 17;(with_reducible refine (impl_TidyWidth.calls aU _ _ ac aG aV _ (pc ((Kd.R_reads' ab.out).2.2)) (Kd.R_reads' ab.out).2.1 A32.out).mono ?_);rintro e w36 ⟨rfl,hb⟩;replace ad:=rb ad hb;replace ae:=rb ae hb;replace ab:=rb ab hb;replace aa:=bb aa hb;replace HB:=hbs hb;(try clear hb);(try clear hb2);(try clear hk);(try clear hi);have cu:=bc aa.out;have cv:=blk_frozen aa.out 0)|(go_at_call 18;(with_reducible refine (spec_TidyWidth.calls aU _ _ ac bi b0 _ (pc ((Kd.R_reads' ab.out).2.2)) (Kd.R_reads' ab.out).2.1 A33.out).mono ?_);rintro e w38 ⟨rfl,hb⟩;replace ad:=rb ad hb;replace ae:=rb ae hb;replace ab:=rb ab hb;replace aa:=bb aa hb;replace HB:=hbs hb;(try clear hb))))
 (try simp only [Act.put,List.setIfInBounds_toArray,List.set_cons_zero,List.set_cons_succ])
 as_aux_lemma =>
 go_cut [90] (fun v90 wc=>∃ (kq:Nat) (bk:Bool),v90=.bool bk∧Aside0 (laws_FnDrawings.j2 kq ai aF ap aQ aG aV bk ac=some r)∧Aside0 (kq≤aU)∧Aside0 (Kd.R (Kd.int .i64) 2 wc w.heap.size (fun k_=>some k_≠(al:Value).ownBlock∧some k_≠((.slice ag ac.length af):Value).ownBlock) ao ai)∧Aside0 (Kd.R (Kd.int .i64) 2 wc w.heap.size (fun k_=>some k_≠(ao:Value).ownBlock∧some k_≠((.slice ag ac.length af):Value).ownBlock) al ap)∧Aside0 (Kd.R (Kd.int .i64) 2 wc w.heap.size (fun k_=>some k_≠(ao:Value).ownBlock∧some k_≠(al:Value).ownBlock) (.slice ag ac.length af) ac)∧Aside0 (wc.heap[aB]?=some (.cells #[(.slice ag ac.length af)] 28 (0,0)))∧Aside0 (Below w.heap.size w wc))
 case first =>
  as_aux_lemma =>
  have H:=bj.out;clear bj;replace H:=ifs H;obtain ⟨c39,H⟩:=H;have b1:=be c39;have dA:=bn c39;clear c39;(first|rw [b1]|(simp only [i64_w,i32_w];rw [b1])|skip);have H':=ak H;clear H
  as_aux_lemma =>
  go_wp2
  repeat (go_quiet (fail);try go_wp2)
  go_meet
  case rel=>exact ⟨_,(aG != bi),q16_1,H',⟨by have:=HJ6.out;have:=aC.out;first|omega|exact Nat.le_refl _⟩,⟨pe ad.out⟩,⟨pe ae.out⟩,⟨pe ab.out⟩,⟨pb aa.out⟩,⟨hq⟩⟩
 as_aux_lemma =>
 clear bj;obtain ⟨kq,bk,rfl,HA,aD,ad,ae,ab,aa,HB⟩:=hcut
 cases kq with|zero=>exact absurd HA.out (by simp [laws_FnDrawings.j2])|succ aW=>?_
 have H:=HA.out;clear HA;simp only [laws_FnDrawings.j2] at H;replace H:=ifn H;obtain ⟨c40,H⟩:=H;subst c40;replace H:=bs H;obtain ⟨⟨aq,a5⟩,A41,H⟩:=H;(try dsimp only at H);replace H:=bs H;obtain ⟨⟨bl,b2⟩,A42,H⟩:=H;(try dsimp only at H);have bm:=ak H;clear H;have dB:=bc aa.out;have dC:=blk_frozen aa.out 0
 as_aux_lemma =>
 go_upto_region 18 with (first|(go_at_call 8;(with_reducible refine (impl_PictureOf.calls aW _ _ ac aq a5 _ (pc ((Kd.R_reads' ab.out).2.2)) (Kd.R_reads' ab.out).2.1 A41.out).mono ?_);rintro e w45 ⟨rfl,hb⟩;replace ad:=rb ad hb;replace ae:=rb ae hb;replace ab:=rb ab hb;replace aa:=bb aa hb;replace HB:=hbs hb;(try clear hb);(try clear hb2);(try clear hk);(try clear hi);have cw:=bc aa.out;have cx:=blk_frozen aa.out 0)|(go_at_call 6;(with_reducible refine (spec_PictureOf.calls aW _ _ ac bl b2 _ (pc ((Kd.R_reads' ab.out).2.2)) (Kd.R_reads' ab.out).2.1 A42.out).mono ?_);rintro e w47 ⟨rfl,hb⟩;replace ad:=rb ad hb;replace ae:=rb ae hb;replace ab:=rb ab hb;replace aa:=bb aa hb;replace HB:=hbs hb;(try clear hb)))
 repeat (go_quiet (fail);go_upto_region 18 with (first|(go_at_call 8;(with_reducible refine (impl_PictureOf.calls aW _ _ ac aq a5 _ (pc ((Kd.R_reads' ab.out).2.2)) (Kd.R_reads' ab.out).2.1 A41.out).mono ?_);rintro e w45 ⟨rfl,hb⟩;replace ad:=rb ad hb;replace ae:=rb ae hb;replace ab:=rb ab hb;replace aa:=bb aa hb;replace HB:=hbs hb;(try clear hb);(try clear hb2);(try clear hk);(try clear hi);have cw:=bc aa.out;have cx:=blk_frozen aa.out 0)|(go_at_call 6;(with_reducible refine (spec_PictureOf.calls aW _ _ ac bl b2 _ (pc ((Kd.R_reads' ab.out).2.2)) (Kd.R_reads' ab.out).2.1 A42.out).mono ?_);rintro e w47 ⟨rfl,hb⟩;replace ad:=rb ad hb;replace ae:=rb ae hb;replace ab:=rb ab hb;replace aa:=bb aa hb;replace HB:=hbs hb;(try clear hb))))
 (try simp only [Act.put,List.setIfInBounds_toArray,List.set_cons_zero,List.set_cons_succ])
 as_aux_lemma =>
 go_cut [108] (fun cy wc=>∃ (kq:Nat) (bo:Bool),cy=.bool bo∧Aside0 (laws_FnDrawings.j3 kq ai aF ap aQ aG aV aq a5 bo ac=some r)∧Aside0 (kq≤aW)∧Aside0 (Kd.R (Kd.int .i64) 2 wc w.heap.size (fun k_=>some k_≠(al:Value).ownBlock∧some k_≠((.slice ag ac.length af):Value).ownBlock) ao ai)∧Aside0 (Kd.R (Kd.int .i64) 2 wc w.heap.size (fun k_=>some k_≠(ao:Value).ownBlock∧some k_≠((.slice ag ac.length af):Value).ownBlock) al ap)∧Aside0 (Kd.R (Kd.int .i64) 2 wc w.heap.size (fun k_=>some k_≠(ao:Value).ownBlock∧some k_≠(al:Value).ownBlock) (.slice ag ac.length af) ac)∧Aside0 (wc.heap[aB]?=some (.cells #[(.slice ag ac.length af)] 28 (0,0)))∧Aside0 (Below w.heap.size w wc))
 case first =>
  as_aux_lemma =>
  have H:=bm.out;clear bm;replace H:=ifs H;obtain ⟨c48,H⟩:=H;have b3:=be c48;have dD:=bn c48;clear c48;(first|rw [b3]|(simp only [i64_w,i32_w];rw [b3])|skip);have H':=ak H;clear H
  as_aux_lemma =>
  go_wp2
  repeat (go_quiet (fail);try go_wp2)
  go_meet
  case rel=>exact ⟨_,(aq.toList != bl.toList),q16_1,H',⟨by have:=HJ6.out;have:=aC.out;have:=aD.out;first|omega|exact Nat.le_refl _⟩,⟨pe ad.out⟩,⟨pe ae.out⟩,⟨pe ab.out⟩,⟨pb aa.out⟩,⟨hq⟩⟩
 as_aux_lemma =>
 clear bm;obtain ⟨kq,bo,rfl,HA,aH,ad,ae,ab,aa,HB⟩:=hcut
 cases kq with|zero=>exact absurd HA.out (by simp [laws_FnDrawings.j3])|succ aM=>?_
 have H:=HA.out;clear HA;simp only [laws_FnDrawings.j3] at H;replace H:=ifn H;obtain ⟨c49,H⟩:=H;subst c49;replace H:=bs H;obtain ⟨⟨aj,a6⟩,A50,H⟩:=H;(try dsimp only at H);replace H:=bs H;obtain ⟨⟨a7,b4⟩,A51,H⟩:=H;(try dsimp only at H);have bp:=ak H;clear H;have dE:=bc aa.out;have dF:=blk_frozen aa.out 0
 as_aux_lemma =>
 go_upto_region 22 with (first|(go_at_call 19;(with_reducible refine (impl_BesideOf.calls aM _ _ ac aj a6 _ (pc ((Kd.R_reads' ab.out).2.2)) (Kd.R_reads' ab.out).2.1 A50.out).mono ?_);rintro e w54 ⟨aw,rfl,ho0,hb⟩;have aA:=lw (nw (nw (nw ho0 ad) ae) ab);replace ad:=rn ad ho0 hb;replace ae:=rn ae ho0 hb;replace ab:=rn ab ho0 hb;replace aa:=bb aa hb;replace HB:=hbs hb;(try clear hb);(try clear hb2);(try clear hk);(try clear hi);(try clear ho0);have cz:=bc aa.out;have cA:=blk_frozen aa.out 0)|(go_at_call 20;(with_reducible refine (spec_BesideOf.calls aM _ _ ac a7 b4 _ (pc ((Kd.R_reads' ab.out).2.2)) (Kd.R_reads' ab.out).2.1 A51.out).mono ?_);rintro e w56 ⟨cB,rfl,ho0,hb⟩;have aS:=lw (nw (nw (nw (nw ho0 ad) ae) ab) aA);replace ad:=rn ad ho0 hb;replace ae:=rn ae ho0 hb;replace ab:=rn ab ho0 hb;replace aA:=rn aA ho0 hb;replace aa:=bb aa hb;replace HB:=hbs hb;(try clear hb ho0)))
 repeat (go_quiet (fail);go_upto_region 22 with (first|(go_at_call 19;(with_reducible refine (impl_BesideOf.calls aM _ _ ac aj a6 _ (pc ((Kd.R_reads' ab.out).2.2)) (Kd.R_reads' ab.out).2.1 A50.out).mono ?_);rintro e w54 ⟨aw,rfl,ho0,hb⟩;have aA:=lw (nw (nw (nw ho0 ad) ae) ab);replace ad:=rn ad ho0 hb;replace ae:=rn ae ho0 hb;replace ab:=rn ab ho0 hb;replace aa:=bb aa hb;replace HB:=hbs hb;(try clear hb);(try clear hb2);(try clear hk);(try clear hi);(try clear ho0);have cz:=bc aa.out;have cA:=blk_frozen aa.out 0)|(go_at_call 20;(with_reducible refine (spec_BesideOf.calls aM _ _ ac a7 b4 _ (pc ((Kd.R_reads' ab.out).2.2)) (Kd.R_reads' ab.out).2.1 A51.out).mono ?_);rintro e w56 ⟨cB,rfl,ho0,hb⟩;have aS:=lw (nw (nw (nw (nw ho0 ad) ae) ab) aA);replace ad:=rn ad ho0 hb;replace ae:=rn ae ho0 hb;replace ab:=rn ab ho0 hb;replace aA:=rn aA ho0 hb;replace aa:=bb aa hb;replace HB:=hbs hb;(try clear hb ho0))))
 (try simp only [Act.put,List.setIfInBounds_toArray,List.set_cons_zero,List.set_cons_succ])
 as_aux_lemma =>
 go_cut [127] (fun cC wc=>∃ (kq:Nat) (bq:Bool),cC=.bool bq∧Aside0 (laws_FnDrawings.j4 kq ai aF ap aQ aG aV aq a5 aj a6 bq ac=some r)∧Aside0 (kq≤aM)∧Aside0 (Kd.R (Kd.int .i64) 2 wc w.heap.size (fun k_=>some k_≠(al:Value).ownBlock∧some k_≠(aw:Value).ownBlock∧some k_≠((.slice ag ac.length af):Value).ownBlock) ao ai)∧Aside0 (Kd.R (Kd.int .i64) 2 wc w.heap.size (fun k_=>some k_≠(ao:Value).ownBlock∧some k_≠(aw:Value).ownBlock∧some k_≠((.slice ag ac.length af):Value).ownBlock) al ap)∧Aside0 (Kd.R (Kd.int .i64) 2 wc w.heap.size (fun k_=>some k_≠(ao:Value).ownBlock∧some k_≠(al:Value).ownBlock∧some k_≠((.slice ag ac.length af):Value).ownBlock) aw aj)∧Aside0 (Kd.R (Kd.int .i64) 2 wc w.heap.size (fun k_=>some k_≠(ao:Value).ownBlock∧some k_≠(al:Value).ownBlock∧some k_≠(aw:Value).ownBlock) (.slice ag ac.length af) ac)∧Aside0 (wc.heap[aB]?=some (.cells #[(.slice ag ac.length af)] 28 (0,0)))∧Aside0 (Below w.heap.size w wc))
 case first =>
  as_aux_lemma =>
  have H:=bp.out;clear bp;replace H:=ifs H;obtain ⟨c57,H⟩:=H;have b5:=be c57;have dG:=bn c57;clear c57;(first|rw [b5]|(simp only [i64_w,i32_w];rw [b5])|skip);replace H:=bs H;obtain ⟨br,A58,H⟩:=H;(try dsimp only at H);have H':=ak H;clear H;obtain ⟨dH,dI,cD⟩:=Kd.R_slice aA.out;subst cD;obtain ⟨dJ,dK,cE⟩:=Kd.R_slice aS.out;subst cE
  as_aux_lemma =>
  iterate 4 ((try go_wp2_with (first|(go_at_call 14;(with_reducible refine (laws_likeInts.calls aM _ _ aj _ _ a7 br _ (pc ((Kd.R_reads' aA.out).2.2)) (Kd.R_reads' aA.out).2.1 (pc ((Kd.R_reads' aS.out).2.2)) (Kd.R_reads' aS.out).2.1 A58.out).mono ?_);rintro e w' ⟨rfl,⟨nd,rfl⟩⟩;(try exact dn))));(try go_quiet (first|(go_at_call 14;(with_reducible refine (laws_likeInts.calls aM _ _ aj _ _ a7 br _ (pc ((Kd.R_reads' aA.out).2.2)) (Kd.R_reads' aA.out).2.1 (pc ((Kd.R_reads' aS.out).2.2)) (Kd.R_reads' aS.out).2.1 A58.out).mono ?_);rintro e w' ⟨rfl,⟨nd,rfl⟩⟩;(try exact dn)))))
  go_meet
  case rel=>exact ⟨_,(!br),q16_1,H',⟨by have:=HJ6.out;have:=aC.out;have:=aD.out;have:=aH.out;first|omega|exact Nat.le_refl _⟩,⟨pe (Kd.R_mono ad.out (fun _ hk=>⟨hk.1.1.1,⟨hk.1.2,hk.1.1.2⟩⟩))⟩,⟨pe (Kd.R_mono ae.out (fun _ hk=>⟨hk.1.1.1,⟨hk.1.2,hk.1.1.2⟩⟩))⟩,⟨pe (Kd.R_mono aA.out (fun _ hk=>⟨hk.1.1.1.2,⟨hk.1.1.2,hk.1.2⟩⟩))⟩,⟨pe (Kd.R_mono ab.out (fun _ hk=>⟨hk.1.1.1,⟨hk.1.1.2,hk.1.2⟩⟩))⟩,⟨pb aa.out⟩,⟨hq⟩⟩
 as_aux_lemma =>
 clear bp;obtain ⟨kq,bq,rfl,HA,aJ,ad,ae,ar,ab,aa,HB⟩:=hcut
 cases kq with|zero=>exact absurd HA.out (by simp [laws_FnDrawings.j4])|succ bu=>?_
 have H:=HA.out;clear HA;simp only [laws_FnDrawings.j4] at H;replace H:=ifn H;obtain ⟨c61,H⟩:=H;subst c61;obtain c62|c62:=nem (aF=0)
 ·rw [if_neg c62] at H;have cF:(aF == 0)=false:=beq_eq_false_iff_ne.mpr c62;have cG:(aF != 0)=true:=bne_iff_ne.mpr c62;replace H:=ifs H;obtain ⟨bv,H⟩:=H;have dL:((ai.length:Int) == 0)=true:=beq_iff_eq.mpr bv;have dM:((ai.length:Int) != 0)=false:=bne_eq_false_iff_eq.mpr bv;clear bv;replace H:=ifs H;obtain ⟨bw,H⟩:=H;have dN:=be bw;have dO:=bn bw;clear bw;replace H:=ifs H;obtain ⟨bx,H⟩:=H;have dP:=be bx;have dQ:=bn bx;clear bx;replace H:=ifs H;obtain ⟨bz,H⟩:=H;have dR:=be bz;have dS:=bn bz;clear bz;obtain rfl:=Option.some.inj H;obtain ⟨dT,dU,cH⟩:=Kd.R_slice ad.out;subst cH
  as_aux_lemma =>
  go_wp2
  repeat (go_quiet (fail);try go_wp2)
  go_ret
  exact ⟨ew,hq⟩
 rw [if_pos c62] at H;have cF:=be c62;have cG:=bn c62;clear c62;replace H:=bs H;obtain ⟨⟨ax,b6⟩,A63,H⟩:=H;(try dsimp only at H);have bA:=ak H;clear H;have dV:=bc aa.out;have dW:=blk_frozen aa.out 0
 as_aux_lemma =>
 go_upto_region 27 with (first|(go_at_call 21;(with_reducible refine (impl_DepthsOf.calls bu _ _ ac ax b6 _ (pc ((Kd.R_reads' ab.out).2.2)) (Kd.R_reads' ab.out).2.1 A63.out).mono ?_);rintro e w66 ⟨av,rfl,ho0,hb⟩;have b7:=lw (nw (nw (nw (nw ho0 ad) ae) ar) ab);replace ad:=rn ad ho0 hb;replace ae:=rn ae ho0 hb;replace ar:=rn ar ho0 hb;replace ab:=rn ab ho0 hb;replace aa:=bb aa hb;replace HB:=hbs hb;(try clear hb ho0)))
 repeat (go_quiet (fail);go_upto_region 27 with (first|(go_at_call 21;(with_reducible refine (impl_DepthsOf.calls bu _ _ ac ax b6 _ (pc ((Kd.R_reads' ab.out).2.2)) (Kd.R_reads' ab.out).2.1 A63.out).mono ?_);rintro e w66 ⟨av,rfl,ho0,hb⟩;have b7:=lw (nw (nw (nw (nw ho0 ad) ae) ar) ab);replace ad:=rn ad ho0 hb;replace ae:=rn ae ho0 hb;replace ar:=rn ar ho0 hb;replace ab:=rn ab ho0 hb;replace aa:=bb aa hb;replace HB:=hbs hb;(try clear hb ho0))))
 (try simp only [Act.put,List.setIfInBounds_toArray,List.set_cons_zero,List.set_cons_succ])
 as_aux_lemma =>
 go_cut [175] (fun cI wc=>∃ (kq:Nat) (bB:Bool),cI=.bool bB∧Aside0 (laws_FnDrawings.j5 kq ai ap aG aq aj ax bB=some r)∧Aside0 (kq≤bu)∧Aside0 (Kd.R (Kd.int .i64) 2 wc w.heap.size (fun k_=>some k_≠(al:Value).ownBlock∧some k_≠(aw:Value).ownBlock∧some k_≠(av:Value).ownBlock∧some k_≠((.slice ag ac.length af):Value).ownBlock) ao ai)∧Aside0 (Kd.R (Kd.int .i64) 2 wc w.heap.size (fun k_=>some k_≠(ao:Value).ownBlock∧some k_≠(aw:Value).ownBlock∧some k_≠(av:Value).ownBlock∧some k_≠((.slice ag ac.length af):Value).ownBlock) al ap)∧Aside0 (Kd.R (Kd.int .i64) 2 wc w.heap.size (fun k_=>some k_≠(ao:Value).ownBlock∧some k_≠(al:Value).ownBlock∧some k_≠(av:Value).ownBlock∧some k_≠((.slice ag ac.length af):Value).ownBlock) aw aj)∧Aside0 (Kd.R (Kd.int .i64) 2 wc w.heap.size (fun k_=>some k_≠(ao:Value).ownBlock∧some k_≠(al:Value).ownBlock∧some k_≠(aw:Value).ownBlock∧some k_≠((.slice ag ac.length af):Value).ownBlock) av ax)∧Aside0 (Kd.R (Kd.int .i64) 2 wc w.heap.size (fun k_=>some k_≠(ao:Value).ownBlock∧some k_≠(al:Value).ownBlock∧some k_≠(aw:Value).ownBlock∧some k_≠(av:Value).ownBlock) (.slice ag ac.length af) ac)∧Aside0 (wc.heap[aB]?=some (.cells #[(.slice ag ac.length af)] 28 (0,0)))∧Aside0 (Below w.heap.size w wc))
 case first =>
  as_aux_lemma =>
  have H:=bA.out;clear bA;replace H:=ifs H;obtain ⟨c67,H⟩:=H;have b8:=be c67;have dX:=bn c67;clear c67;(first|rw [b8]|(simp only [i64_w,i32_w];rw [b8])|skip);replace H:=ifs H;obtain ⟨c68,H⟩:=H;have dY:=be c68;have dZ:=bn c68;clear c68;replace H:=ifs H;obtain ⟨c69,H⟩:=H;have d0:=be c69;have d1:=bn c69;clear c69;replace H:=ifs H;obtain ⟨c70,H⟩:=H;have d2:=be c70;have d3:=bn c70;clear c70;have H':=ak H;clear H
  as_aux_lemma =>
  go_wp2
  repeat (go_quiet (fail);try go_wp2)
  go_meet
  case rel=>exact ⟨_,(a6 != 0),q16_1,H',⟨by have:=HJ6.out;have:=aC.out;have:=aD.out;have:=aH.out;have:=aJ.out;first|omega|exact Nat.le_refl _⟩,⟨pe (Kd.R_mono ad.out (fun _ hk=>⟨hk.1.1,⟨hk.1.2.1,⟨hk.2,hk.1.2.2⟩⟩⟩))⟩,⟨pe (Kd.R_mono ae.out (fun _ hk=>⟨hk.1.1,⟨hk.1.2.1,⟨hk.2,hk.1.2.2⟩⟩⟩))⟩,⟨pe (Kd.R_mono ar.out (fun _ hk=>⟨hk.1.1,⟨hk.1.2.1,⟨hk.2,hk.1.2.2⟩⟩⟩))⟩,⟨pe (Kd.R_mono b7.out (fun _ hk=>⟨hk.1.1.1.2,⟨hk.1.1.2,⟨hk.1.2,hk.2⟩⟩⟩))⟩,⟨pe (Kd.R_mono ab.out (fun _ hk=>⟨hk.1.1,⟨hk.1.2.1,⟨hk.1.2.2,hk.2⟩⟩⟩))⟩,⟨pb aa.out⟩,⟨hq⟩⟩
 as_aux_lemma =>
 clear bA;obtain ⟨kq,bB,rfl,HA,aK,ad,ae,ar,aE,ab,aa,HB⟩:=hcut
 cases kq with|zero=>exact absurd HA.out (by simp [laws_FnDrawings.j5])|succ b9=>?_
 have H:=HA.out;clear HA;simp only [laws_FnDrawings.j5] at H;replace H:=ifn H;obtain ⟨c71,H⟩:=H;subst c71;have H':=ak H;clear H
 as_aux_lemma =>
 go_wp2
 repeat (go_quiet (fail);try go_wp2)
 as_aux_lemma =>
 go_loopg [26,27] b9 (fun kq v26 v27 w'=>∃ (aN:Int) (ah:Int),v26=.int .i64 aN∧v27=.int .i64 ah∧Aside0 (laws_FnDrawings.l0 kq ai ap aG aq aj ax aN ah=some r)∧Aside0 (kq≤b9)∧Aside0 (Kd.R (Kd.int .i64) 2 w' w.heap.size (fun k_=>some k_≠(al:Value).ownBlock∧some k_≠(aw:Value).ownBlock∧some k_≠(av:Value).ownBlock∧some k_≠((.slice ag ac.length af):Value).ownBlock) ao ai)∧Aside0 (Kd.R (Kd.int .i64) 2 w' w.heap.size (fun k_=>some k_≠(ao:Value).ownBlock∧some k_≠(aw:Value).ownBlock∧some k_≠(av:Value).ownBlock∧some k_≠((.slice ag ac.length af):Value).ownBlock) al ap)∧Aside0 (Kd.R (Kd.int .i64) 2 w' w.heap.size (fun k_=>some k_≠(ao:Value).ownBlock∧some k_≠(al:Value).ownBlock∧some k_≠(av:Value).ownBlock∧some k_≠((.slice ag ac.length af):Value).ownBlock) aw aj)∧Aside0 (Kd.R (Kd.int .i64) 2 w' w.heap.size (fun k_=>some k_≠(ao:Value).ownBlock∧some k_≠(al:Value).ownBlock∧some k_≠(aw:Value).ownBlock∧some k_≠((.slice ag ac.length af):Value).ownBlock) av ax)∧Aside0 (Kd.R (Kd.int .i64) 2 w' w.heap.size (fun k_=>some k_≠(ao:Value).ownBlock∧some k_≠(al:Value).ownBlock∧some k_≠(aw:Value).ownBlock∧some k_≠(av:Value).ownBlock) (.slice ag ac.length af) ac)∧Aside0 (w'.heap[aB]?=some (.cells #[(.slice ag ac.length af)] 28 (0,0)))∧Aside0 (Below w.heap.size w w'))
 case atStart=>exact ⟨(0),(0),q16_1,q16_1,H',⟨Nat.le_refl _⟩,⟨pe ad.out⟩,⟨pe ae.out⟩,⟨pe ar.out⟩,⟨pe aE.out⟩,⟨pe ab.out⟩,⟨pb aa.out⟩,⟨hq⟩⟩
 case round =>
  clear H';obtain ⟨aN,ah,rfl,rfl,HA,HK7,ad,ae,ar,aE,ab,aa,HB⟩:=hrel
  cases gk with|zero=>exact absurd HA.out (by simp [laws_FnDrawings.l0])|succ k7=>?_
  have H:=HA.out;clear HA;simp only [laws_FnDrawings.l0] at H;obtain c72|c72:=nem (ah<(ai.length:Int))
  ·rw [if_neg c72] at H;have cJ:=df c72;clear c72;have H':=ak H;clear H;obtain ⟨ca,cb,cK⟩:=Kd.R_slice ad.out;subst cK
   as_aux_lemma =>
   go_wp2
   repeat (go_quiet (fail);try go_wp2)
   as_aux_lemma =>
   go_loopg [29,30] k7 (fun kq v29 v30 w'=>∃ (aX:Int) (au:Int),v29=.int .i64 aX∧v30=.int .i64 au∧Aside0 (laws_FnDrawings.l1 kq ai aG aq aN aX au=some r)∧Aside0 (kq≤k7)∧Aside0 (Kd.R (Kd.int .i64) 2 w' w.heap.size (fun k_=>some k_≠((.slice ag ac.length af):Value).ownBlock) (.slice ca ai.length cb) ai)∧Aside0 (Kd.R (Kd.int .i64) 2 w' w.heap.size (fun k_=>some k_≠((.slice ca ai.length cb):Value).ownBlock) (.slice ag ac.length af) ac)∧Aside0 (w'.heap[aB]?=some (.cells #[(.slice ag ac.length af)] 28 (0,0)))∧Aside0 (Below w.heap.size w w'))
   case atStart=>exact ⟨(0),(0),q16_1,q16_1,H',⟨Nat.le_refl _⟩,⟨pe (Kd.R_mono ad.out (fun _ hk=>hk.2.2.2))⟩,⟨pe (Kd.R_mono ab.out (fun _ hk=>hk.1))⟩,⟨pb aa.out⟩,⟨hq⟩⟩
   case round =>
    clear H';obtain ⟨aX,au,rfl,rfl,HA,HK8,ad,ab,aa,HB⟩:=hrel
    cases gk with|zero=>exact absurd HA.out (by simp [laws_FnDrawings.l1])|succ k8=>?_
    have H:=HA.out;clear HA;simp only [laws_FnDrawings.l1] at H;obtain c94|c94:=nem (au<(aq.size:Int))
    ·rw [if_neg c94] at H;have cL:=df c94;clear c94;replace H:=bs H;obtain ⟨d4,A98,H⟩:=H;(try dsimp only at H);replace H:=ifs H;obtain ⟨c99,H⟩:=H;subst c99;replace H:=ifs H;obtain ⟨bC,H⟩:=H;have d5:=be bC;have d6:=bn bC;clear bC;obtain rfl:=Option.some.inj H
     as_aux_lemma =>
     iterate 4 ((try go_wp2_with (first|(go_at_call 22;(with_reducible refine (laws_hasInt.calls k8 _ _ ai 0 true _ (pc ((Kd.R_reads' ad.out).2.2)) (Kd.R_reads' ad.out).2.1 A98.out).mono ?_);rintro e w' ⟨rfl,⟨nd,rfl⟩⟩;(try exact dn))));(try go_quiet (first|(go_at_call 22;(with_reducible refine (laws_hasInt.calls k8 _ _ ai 0 true _ (pc ((Kd.R_reads' ad.out).2.2)) (Kd.R_reads' ad.out).2.1 A98.out).mono ?_);rintro e w' ⟨rfl,⟨nd,rfl⟩⟩;(try exact dn)))))
     go_ret
     exact ⟨ew,hq⟩
    rw [if_pos c94] at H;have cL:=dt c94;clear c94;replace H:=ifs H;obtain ⟨c95,H⟩:=H;have d7:=dt c95;clear c95;obtain c97|c97:=nem ((bt aq au)=111)
    ·rw [if_neg c97] at H;have cM:((bt aq au) == 111)=false:=beq_eq_false_iff_ne.mpr c97;have cN:((bt aq au) != 111)=true:=bne_iff_ne.mpr c97;have H':=ak H;clear H;have p96:0≤(au:Int):=od q16_0;have q96:au<(aq.size:Int):=od q16_0;have cO:=bt_at aq au;replace p96:=eq_true p96;replace q96:=eq_true q96
     as_aux_lemma =>
     go_wp2
     repeat (go_quiet (fail);try go_wp2)
     go_roundg k8
     case measure=>have:=HJ6.out;have:=aC.out;have:=aD.out;have:=aH.out;have:=aJ.out;have:=aK.out;have:=HK7.out;have:=HK8.out;omega
     case rel=>exact ⟨(aX),(wrap64 (au+1)),q16_1,q16_1,H',⟨q16_4⟩,⟨pe ad.out⟩,⟨pe ab.out⟩,⟨pb aa.out⟩,⟨hq⟩⟩
    rw [if_pos c97] at H;have cM:((bt aq au) == 111)=true:=beq_iff_eq.mpr c97;have cN:((bt aq au) != 111)=false:=bne_eq_false_iff_eq.mpr c97;clear c97;have H':=ak H;clear H;have p96:0≤(au:Int):=od q16_0;have q96:au<(aq.size:Int):=od q16_0;have cO:=bt_at aq au;replace p96:=eq_true p96;replace q96:=eq_true q96
    as_aux_lemma =>
    go_wp2
    repeat (go_quiet (fail);try go_wp2)
    go_roundg k8
    case measure=>have:=HJ6.out;have:=aC.out;have:=aD.out;have:=aH.out;have:=aJ.out;have:=aK.out;have:=HK7.out;have:=HK8.out;omega
    case rel=>exact ⟨(wrap64 (aX+1)),(wrap64 (au+1)),q16_1,q16_1,H',⟨q16_4⟩,⟨pe ad.out⟩,⟨pe ab.out⟩,⟨pb aa.out⟩,⟨hq⟩⟩
  rw [if_pos c72] at H;have cJ:=dt c72;clear c72;replace H:=ifs H;obtain ⟨c73,H⟩:=H;have d8:=dt c73;clear c73;obtain ⟨bD,a8⟩:∃ j_:Int,(mx aN (rd ai ah))=j_:=⟨_,rfl⟩;(first|rw [a8] at H|simp only [a8] at H);have hji74_:(if aN<(rd ai ah) then (rd ai ah) else aN)=bD:=a8;replace H:=ifs H;obtain ⟨c75,H⟩:=H;have d9:=dt c75;clear c75;have bE:=ak H;clear H;obtain ⟨ea,aY,cP⟩:=Kd.R_slice ad.out;subst cP;have bF:0≤(ah:Int):=od q16_0;have bG:ah<(ai.length:Int):=od q16_0;(try (obtain ⟨Aop_,cop_,eop_⟩:=Kd.R_slice ad.out;subst eop_));obtain ⟨aO,cQ,cc⟩:=Kd.at_int (Kd.R_reads' ad.out).2.2 ah bF bG;cases cQ;replace bF:=eq_true bF;replace bG:=eq_true bG;obtain ⟨eb,aZ,cR⟩:=Kd.R_slice ar.out;subst cR;have bH:0≤(ah:Int):=od q16_0;have bI:ah<(aj.length:Int):=od q16_0;(try (obtain ⟨Aop_,cop_,eop_⟩:=Kd.R_slice ar.out;subst eop_));obtain ⟨a1,cS,ec⟩:=Kd.at_int (Kd.R_reads' ar.out).2.2 ah bH bI;cases cS;replace bH:=eq_true bH;replace bI:=eq_true bI
  as_aux_lemma =>
  go_upto_region 35 with (fail)
  repeat (go_quiet (fail);go_upto_region 35 with (fail))
  as_aux_lemma =>
  go_cut [228] (fun cT wc=>∃ (kq:Nat) (bJ:Bool),cT=.bool bJ∧Aside0 (laws_FnDrawings.j7 kq ai ap aG aq aj ax bD ah bJ=some r)∧Aside0 (kq≤k7)∧Aside0 (Kd.R (Kd.int .i64) 2 wc w.heap.size (fun k_=>some k_≠(al:Value).ownBlock∧some k_≠((.slice (some a1) aj.length aZ):Value).ownBlock∧some k_≠(av:Value).ownBlock∧some k_≠((.slice ag ac.length af):Value).ownBlock) (.slice (some aO) ai.length aY) ai)∧Aside0 (Kd.R (Kd.int .i64) 2 wc w.heap.size (fun k_=>some k_≠((.slice (some aO) ai.length aY):Value).ownBlock∧some k_≠((.slice (some a1) aj.length aZ):Value).ownBlock∧some k_≠(av:Value).ownBlock∧some k_≠((.slice ag ac.length af):Value).ownBlock) al ap)∧Aside0 (Kd.R (Kd.int .i64) 2 wc w.heap.size (fun k_=>some k_≠((.slice (some aO) ai.length aY):Value).ownBlock∧some k_≠(al:Value).ownBlock∧some k_≠(av:Value).ownBlock∧some k_≠((.slice ag ac.length af):Value).ownBlock) (.slice (some a1) aj.length aZ) aj)∧Aside0 (Kd.R (Kd.int .i64) 2 wc w.heap.size (fun k_=>some k_≠((.slice (some aO) ai.length aY):Value).ownBlock∧some k_≠(al:Value).ownBlock∧some k_≠((.slice (some a1) aj.length aZ):Value).ownBlock∧some k_≠((.slice ag ac.length af):Value).ownBlock) av ax)∧Aside0 (Kd.R (Kd.int .i64) 2 wc w.heap.size (fun k_=>some k_≠((.slice (some aO) ai.length aY):Value).ownBlock∧some k_≠(al:Value).ownBlock∧some k_≠((.slice (some a1) aj.length aZ):Value).ownBlock∧some k_≠(av:Value).ownBlock) (.slice ag ac.length af) ac)∧Aside0 (wc.heap[aB]?=some (.cells #[(.slice ag ac.length af)] 28 (0,0)))∧Aside0 (Below w.heap.size w wc))
  case first =>
   as_aux_lemma =>
   have H:=bE.out;clear bE;obtain c79|c79:=nem ((rd aj ah)≥0)
   ·rw [if_neg c79] at H;have a2:decide (0≤(rd aj ah))=false:=decide_eq_false c79;clear c79;(first|rw [a2]|(simp only [i64_w,i32_w];rw [a2])|skip);have H':=ak H;clear H
    as_aux_lemma =>
    go_wp2
    repeat (go_quiet (fail);try go_wp2)
    go_meet
    case rel=>exact ⟨_,(false),q16_1,H',⟨q16_3⟩,⟨pe ad.out⟩,⟨pe ae.out⟩,⟨pe ar.out⟩,⟨pe aE.out⟩,⟨pe ab.out⟩,⟨pb aa.out⟩,⟨hq⟩⟩
   rw [if_pos c79] at H;have a2:decide (0≤(rd aj ah))=true:=decide_eq_true c79;clear c79;(first|rw [a2]|(simp only [i64_w,i32_w];rw [a2])|skip);replace H:=ifs H;obtain ⟨c80,H⟩:=H;have ed:=dt c80;clear c80;replace H:=ifs H;obtain ⟨c81,H⟩:=H;have ee:=dt c81;clear c81;replace H:=ifs H;obtain ⟨c82,H⟩:=H;have ef:=dt c82;clear c82;replace H:=ifs H;obtain ⟨c83,H⟩:=H;have eg:((rd ax (rd aj ah)) == (rd ax ah))=true:=beq_iff_eq.mpr c83;have eh:((rd ax (rd aj ah)) != (rd ax ah))=false:=bne_eq_false_iff_eq.mpr c83;clear c83;replace H:=ifs H;obtain ⟨c84,H⟩:=H;have ei:=dt c84;clear c84
   by_cases c85:(rd ai (rd aj ah))<(wrap64 ((rd ai ah)+2))
   ·rw [if_pos c85] at H
    exact absurd H (by simp)
   rw [if_neg c85] at H;have ej:=df c85;clear c85;replace H:=ifs H;obtain ⟨c87,H⟩:=H;have ek:=dt c87;clear c87;replace H:=ifs H;obtain ⟨c88,H⟩:=H;have el:=dt c88;clear c88;have H':=ak H;clear H;obtain ⟨em,en,cU⟩:=Kd.R_slice aE.out;subst cU;have bK:0≤((rd aj ah):Int):=od q16_0;have bL:(rd aj ah)<(ax.length:Int):=od q16_0;(try (obtain ⟨Aop_,cop_,eop_⟩:=Kd.R_slice aE.out;subst eop_));obtain ⟨cV,cW,cX⟩:=Kd.at_int (Kd.R_reads' aE.out).2.2 (rd aj ah) bK bL;cases cW;replace bK:=eq_true bK;replace bL:=eq_true bL;have bM:0≤(ah:Int):=od q16_0;have bN:ah<(ax.length:Int):=od q16_0;(try (obtain ⟨Aop_,cop_,eop_⟩:=Kd.R_slice aE.out;subst eop_));obtain ⟨cY,cZ,c1⟩:=Kd.at_int (Kd.R_reads' aE.out).2.2 ah bM bN;obtain rfl:cV=cY:=(by injection cZ);replace bM:=eq_true bM;replace bN:=eq_true bN;(try (have ea_:=Option.some.inj (cX.symm.trans c1);injection ea_ with ea_ en_ ec_;subst ea_;subst ec_;clear en_));have bO:0≤((rd aj ah):Int):=od q16_0;have bP:(rd aj ah)<(ai.length:Int):=od q16_0;(try (obtain ⟨Aop_,cop_,eop_⟩:=Kd.R_slice ad.out;subst eop_));obtain ⟨c2,c4,c5⟩:=Kd.at_int (Kd.R_reads' ad.out).2.2 (rd aj ah) bO bP;obtain rfl:aO=c2:=(by injection c4);replace bO:=eq_true bO;replace bP:=eq_true bP;(try (have ea_:=Option.some.inj (cc.symm.trans c5);injection ea_ with ea_ en_ ec_;subst ea_;subst ec_;clear en_));have bQ:0≤(ah:Int):=od q16_0;have bR:ah<(ai.length:Int):=od q16_0;(try (obtain ⟨Aop_,cop_,eop_⟩:=Kd.R_slice ad.out;subst eop_));obtain ⟨c6,c7,c8⟩:=Kd.at_int (Kd.R_reads' ad.out).2.2 ah bQ bR;obtain rfl:aO=c6:=(by injection c7);replace bQ:=eq_true bQ;replace bR:=eq_true bR;(try (have ea_:=Option.some.inj (cc.symm.trans c8);injection ea_ with ea_ en_ ec_;subst ea_;subst ec_;clear en_));obtain ⟨eo,ep,c9⟩:=Kd.R_slice ae.out;subst c9;have bS:0≤((rd aj ah):Int):=od q16_0;have bT:(rd aj ah)<(ap.length:Int):=od q16_0;(try (obtain ⟨Aop_,cop_,eop_⟩:=Kd.R_slice ae.out;subst eop_));obtain ⟨da,db,dd⟩:=Kd.at_int (Kd.R_reads' ae.out).2.2 (rd aj ah) bS bT;cases db;replace bS:=eq_true bS;replace bT:=eq_true bT;have bU:0≤(ah:Int):=od q16_0;have bV:ah<(ap.length:Int):=od q16_0;(try (obtain ⟨Aop_,cop_,eop_⟩:=Kd.R_slice ae.out;subst eop_));obtain ⟨de,dg,dh⟩:=Kd.at_int (Kd.R_reads' ae.out).2.2 ah bU bV;obtain rfl:da=de:=(by injection dg);replace bU:=eq_true bU;replace bV:=eq_true bV;(try (have ea_:=Option.some.inj (dd.symm.trans dh);injection ea_ with ea_ en_ ec_;subst ea_;subst ec_;clear en_))
   as_aux_lemma =>
   go_wp2
   repeat (go_quiet (fail);try go_wp2)
   go_meet
   case rel=>exact ⟨_,(decide ((rd ap (rd aj ah))<(wrap64 ((rd ap ah)+2)))),q16_1,H',⟨q16_3⟩,⟨pe ad.out⟩,⟨pe ae.out⟩,⟨pe ar.out⟩,⟨pe aE.out⟩,⟨pe ab.out⟩,⟨pb aa.out⟩,⟨hq⟩⟩
  as_aux_lemma =>
  clear bE;obtain ⟨kq,bJ,rfl,HA,cd,ad,ae,ar,aE,ab,aa,HB⟩:=hcut
  cases kq with|zero=>exact absurd HA.out (by simp [laws_FnDrawings.j7])|succ di=>?_
  have H:=HA.out;clear HA;simp only [laws_FnDrawings.j7] at H;replace H:=ifn H;obtain ⟨c92,H⟩:=H;subst c92;have H':=ak H;clear H
  as_aux_lemma =>
  go_wp2
  repeat (go_quiet (fail);try go_wp2)
  go_roundg di
  case measure=>have:=HJ6.out;have:=aC.out;have:=aD.out;have:=aH.out;have:=aJ.out;have:=aK.out;have:=HK7.out;have:=cd.out;omega
  case rel=>exact ⟨(bD),(wrap64 (ah+1)),(by first|rfl|(simp;done)|(simp only [← a8] <;> (first|rfl|simp))|(simp [*];done)),q16_1,H',⟨by have:=HJ6.out;have:=aC.out;have:=aD.out;have:=aH.out;have:=aJ.out;have:=aK.out;have:=HK7.out;have:=cd.out;omega⟩,⟨pe ad.out⟩,⟨pe ae.out⟩,⟨pe ar.out⟩,⟨pe aE.out⟩,⟨pe ab.out⟩,⟨pb aa.out⟩,⟨hq⟩⟩
end Go.Proofs.Ytimfbpmaepmdoaa.QFnDrawings
