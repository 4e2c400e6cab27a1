/- Functions as Lean functions, with their contracts: written by a program of this claim over the translation; some contracts are proved by hand. -/
import Derived.Test.YtlppkilencpmeaaGreatQFnGrowthx0
namespace Go.Proofs.YtlppkilencpmeaaGreat.QFnGrowth
open Go.RowKit Go.Proofs.YtlppkilencpmeaaGreat.Gl Go.Proofs.YtlppkilencpmeaaGreat.Sz Go.Proofs.YtlppkilencpmeaaGreatW.PrintWords Go.Proofs.YtlppkilencpmeaaGreatW.PrintLast Go.Proofs.YtlppkilencpmeaaGreatW.PrintMore
attribute [local go_sem] max2_int min2_int max_two min_two max_three min_three max_four min_four   -- for this text's walks alone
set_option linter.unusedVariables false
set_option linter.unusedSimpArgs false
theorem q3_0 {P:Prop} (h:P:=by first|(with_reducible assumption)|assumption):P:=h
theorem q3_1 {P:Prop} (h:P:=by first|rfl|(simp;done)|(simp [*];done)):P:=h
theorem q3_2 {P:Prop} (h:P:=by first|exact Kd.R_nil _ _ _ _ _|exact Kd.N_nil _ _ _ _ _|exact Kd.V_nil _ _ _ _ _|exact Kd.Q_nil _ _ _ _ _|exact Kd.S_nil _ _ _ _ _):P:=h
theorem q3_3 {P:Prop} (h:P:=by (with_reducible repeat (first|refine blk_drewN ?_ _|refine blk_drew ?_|refine blk_alloc ?_ _));refine blk_put (cs:=#[.slice none 0 0]) ?_ 0 _ rfl;exact pb ab.out):P:=h
theorem q3_4 {P:Prop} (h:P:=by repeat (first|exact Drawn0.refl _|apply Drawn0.step)):P:=h
set_option maxHeartbeats 8000000
set_option maxRecDepth 100000
def spec_l01In.f (a0:Int) (a1:Int) (a2:Int):Option (Bool):=if a0≥a1 then (some (decide (a0≤a2))) else (some false)
theorem spec_l01In.calls (a0:Int) (a1:Int) (a2:Int) (r:Bool) (w:World) (h:spec_l01In.f a0 a1 a2=some r) :
  Calls Tryz.prog 53 #[.int .i64 a0,.int .i64 a1,.int .i64 a2] w fun e w'=>e=.returned (.bool r)∧Drawn0 w w':=by
 have H:(if a0≥a1 then (some (decide (a0≤a2))) else (some false))=some r:=h;clear h
 by_cases c4:a0≥a1
 ·rw [if_pos c4] at H;have a5:decide (a1≤a0)=true:=decide_eq_true c4;clear c4;obtain rfl:=Option.some.inj H
  go_enter Tryz.func53,Tryz.ntmps53
  go_wp2
  go_ret
  exact ⟨q3_1,q3_4⟩
 rw [if_neg c4] at H;have a5:decide (a1≤a0)=false:=decide_eq_false c4;clear c4;obtain rfl:=Option.some.inj H
 go_enter Tryz.func53,Tryz.ntmps53
 go_wp2
 go_ret
 exact ⟨q3_1,q3_4⟩
mutual
def spec_l09Walk.l0:Nat→List Int→Int→List Int→List Int→Int→Option (List Int × List Int)
 | 0,_,_,_,_,_=>none
 | k+1,x0,x1,x6,x7,x8=>if x8≤(x0.length:Int) then (if 0≤(wrap64 (x8 - 1)) then (if (wrap64 (x8 - 1))<(x0.length:Int) then (if (rd x0 (wrap64 (x8 - 1)))=x1 then (if 0<(x6.length:Int) then ((some (x6.set (0:Int).toNat (wrap64 ((rd x6 0)+1)):List Int)).bind fun y151=>((spec_l09Walk.f k x0 x8).bind fun bt152=>(if y151.length+bt152.1.length<17592186044416 then (if x7.length+bt152.2.length<17592186044416 then (spec_l09Walk.l0 k x0 x1 (y151++bt152.1) (x7++bt152.2) (wrap64 (x8+1))) else (none)) else (none)))) else (none)) else (spec_l09Walk.l0 k x0 x1 x6 x7 (wrap64 (x8+1)))) else (none)) else (none)) else (some (x6,x7))
def spec_l09Walk.f:Nat→List Int→Int→Option (List Int × List Int)
 | 0,_,_=>none
 | k+1,l0,a1=>spec_l09Walk.l0 k l0 a1 ([0]:List Int) ([a1]:List Int) 1
end
theorem spec_l09Walk.calls (k:Nat):∀ (A0:Option Addr) (c0:Nat) (l0:List Int) (a1:Int) (r1:List Int) (r2:List Int) (w:World) (hr0:Kd.C (Kd.int .i64) w A0 l0.length l0) (hc0:l0.length≤c0) (h:spec_l09Walk.f k l0 a1=some (r1,r2)),
  Calls Tryz.prog 54 #[.slice A0 l0.length c0,.int .i64 a1] w fun e w'=>∃ v0_ v1_:Value,e=.returned (.tuple #[v0_,v1_])∧Kd.R (Kd.int .i64) 2 w' w.heap.size (fun k_=>some k_≠(v1_:Value).ownBlock) v0_ r1∧Kd.R (Kd.int .i64) 2 w' w.heap.size (fun k_=>some k_≠(v0_:Value).ownBlock) v1_ r2∧Below w.heap.size w w':=by
 induction k using Nat.strongRecOn with
 | _ k ih =>
 intro A0 c0 l0 a1 r1 r2 w hr0 hc0 h
 cases k with
 | zero=>exact absurd h (by simp [spec_l09Walk.f])
 | succ k =>
 simp only [spec_l09Walk.f] at h;have HR0:=ak hr0;have HC0:=ak hc0;clear hr0 hc0;have HB:=ak (Below.refl w.heap.size w);have H:(spec_l09Walk.l0 k l0 a1 ([0]:List Int) ([a1]:List Int) 1)=some (r1,r2):=h;clear h;obtain ⟨a6,hY⟩:∃ y_:List Int,y_=([0]:List Int):=⟨_,rfl⟩;replace H:(spec_l09Walk.l0 k l0 a1 a6 ([a1]:List Int) 1)=some (r1,r2):=hh;have bA:=ak hY;clear hY;obtain ⟨bB,hY⟩:∃ y_:List Int,y_=([a1]:List Int):=⟨_,rfl⟩;replace H:(spec_l09Walk.l0 k l0 a1 a6 bB 1)=some (r1,r2):=hh;have bC:=ak hY;clear hY;have H':=ak H;clear H
 go_enter Tryz.func54,Tryz.ntmps54
 go_wp2_with (first|((with_reducible refine gate_dst (N:=11) rfl ?_);refine Kd.R_lit (Kd.int .i64) _ 2 ?hg (N:=11) ?hd (xs:=([0]:List Int)) (inner:=[.int .i64 0]) (ok:=fun _=>True) (okp:=fun _=>True) ?hr ?hp (fun _ hk=>hk) trivial (Below.refl _ _) (Nat.le_refl _) (by simp) ?_;(case hd=>rfl);(case hg=>rfl);(case hr=>exact gs);(case hp=>exact (Reps.one (show Kd.M (Kd.int .i64) _ _ _ 0 [.int .i64 0] from rfl) (Reps.none _ _)));intro cx w3 ho4 hb hg_ hnew_;clear hg_ hnew_;(first|rw [← bA.out] at ho4|(simp only [Int.reduceToNat] at ho4;rw [← bA.out] at ho4));have aV:=lw ho4;replace HB:=hbs hb;clear hb ho4)|((with_reducible refine gate_dst (N:=13) rfl ?_);refine Kd.R_lit (Kd.int .i64) _ 2 ?hg (N:=13) ?hd (xs:=([a1]:List Int)) (inner:=[.int .i64 a1]) (ok:=fun _=>True) (okp:=fun _=>True) ?hr ?hp (fun _ hk=>hk) trivial (Below.refl _ _) (Nat.le_refl _) (by simp) ?_;(case hd=>rfl);(case hg=>rfl);(case hr=>exact gs);(case hp=>exact (Reps.one (show Kd.M (Kd.int .i64) _ _ _ a1 [.int .i64 a1] from rfl) (Reps.none _ _)));intro cy w5 ho6 hb hg_ hnew_;clear hg_ hnew_;(first|rw [← bC.out] at ho6|(simp only [Int.reduceToNat] at ho6;rw [← bC.out] at ho6));have bR:=lw (nw ho6 aV);replace aV:=rn aV ho6 hb;replace HB:=hbs hb;clear hb ho6))
 go_loopg [6,7,8] k (fun kq v6 v7 v8 w'=>∃ (ah:List Int) (al:List Int) (ai:Int),v8=.int .i64 ai∧Aside0 (spec_l09Walk.l0 kq l0 a1 ah al ai=some (r1,r2))∧Aside0 (kq≤k)∧Aside0 (Kd.R (Kd.int .i64) 2 w' w.heap.size (fun k_=>some k_≠(v7:Value).ownBlock) v6 ah)∧Aside0 (Kd.R (Kd.int .i64) 2 w' w.heap.size (fun k_=>some k_≠(v6:Value).ownBlock) v7 al)∧Aside0 (Below w.heap.size w w'))
 case atStart=>exact ⟨(a6),(bB),(1),q3_1,H',⟨Nat.le_refl _⟩,⟨pe (Kd.R_mono aV.out (fun _ hk=>hk.2))⟩,⟨pe (Kd.R_mono bR.out (fun _ hk=>hk.2))⟩,⟨hq⟩⟩
 case round =>
  clear H';obtain ⟨ah,al,ai,rfl,HA,HK1,ae,af,HB⟩:=hrel
  cases gk with|zero=>exact absurd HA.out (by simp [spec_l09Walk.l0])|succ k1=>?_
  have H:=HA.out;clear HA;simp only [spec_l09Walk.l0] at H;obtain c7|c7:=nem (ai≤(l0.length:Int))
  ·rw [if_neg c7] at H;have aW:=df c7;clear c7;simp only [Option.some.injEq,Prod.mk.injEq] at H;obtain ⟨rfl,rfl⟩:=H;go_wp2
   go_ret2
   exact ⟨_,_,ew,pe ae.out,pe af.out,hq⟩
  rw [if_pos c7] at H;have aW:=dt c7;clear c7;obtain ⟨ji8,hji8⟩:∃ j_:Int,(wrap64 (ai - 1))=j_:=⟨_,rfl⟩;(first|rw [hji8] at H|simp only [hji8] at H);have hji8w:(IntKind.i64.wrap (ai - 1))=ji8:=(i64_w _).trans hji8;replace H:=ifs H;obtain ⟨c9,H⟩:=H;have cz:=dt c9;clear c9;replace H:=ifs H;obtain ⟨c10,H⟩:=H;have cA:=dt c10;clear c10;obtain c11|c11:=nem ((rd l0 (ji8))=a1)
  ·rw [if_neg c11] at H;have bS:((rd l0 (ji8)) == a1)=false:=beq_eq_false_iff_ne.mpr c11;have bT:((rd l0 (ji8)) != a1)=true:=bne_iff_ne.mpr c11;have H':=ak H;clear H;have aw:0≤((ji8):Int):=od q3_0;have ax:(ji8)<(l0.length:Int):=od q3_0;obtain ⟨bD,a7,ay⟩:=Kd.at_int HR0.out (ji8) aw ax;cases a7;replace ay:=(HB.out.cell (World.block_lt_of_cell? w _ ay)).trans ay;replace aw:=eq_true aw;replace ax:=eq_true ax;go_wp2
   go_roundg k1
   case measure=>have:=HK1.out;omega
   case rel=>exact ⟨(ah),(al),(wrap64 (ai+1)),q3_1,H',⟨by have:=HK1.out;omega⟩,⟨pe ae.out⟩,⟨pe af.out⟩,⟨hq⟩⟩
  rw [if_pos c11] at H;have bS:((rd l0 (ji8)) == a1)=true:=beq_iff_eq.mpr c11;have bT:((rd l0 (ji8)) != a1)=false:=bne_eq_false_iff_eq.mpr c11;clear c11;replace H:=ifs H;obtain ⟨c12,H⟩:=H;have bU:=dt c12;have bV:decide (0<ah.length)=true:=decide_eq_true (by omega);clear c12;obtain ⟨aP,hY⟩:∃ y_:List Int,y_=(ah.set (0:Int).toNat (wrap64 ((rd ah 0)+1))):=⟨_,rfl⟩;replace H:((spec_l09Walk.f k1 l0 ai).bind fun aX=>(if aP.length+aX.1.length<17592186044416 then (if al.length+aX.2.length<17592186044416 then (spec_l09Walk.l0 k1 l0 a1 (aP++aX.1) (al++aX.2) (wrap64 (ai+1))) else (none)) else (none)))=some (r1,r2):=hh;have bW:=ak hY;clear hY;replace H:=bs H;obtain ⟨⟨ap,aq⟩,A14,H⟩:=H;(try dsimp only at H);replace H:=ifs H;obtain ⟨c15,H⟩:=H;have bX:=ak c15;clear c15;obtain ⟨a8,hY⟩:∃ y_:List Int,y_=(aP++ap):=⟨_,rfl⟩;replace H:(if al.length+aq.length<17592186044416 then (spec_l09Walk.l0 k1 l0 a1 a8 (al++aq) (wrap64 (ai+1))) else (none))=some (r1,r2):=hh;have bY:=ak hY;clear hY;replace H:=ifs H;obtain ⟨c16,H⟩:=H;have bZ:=ak c16;clear c16;obtain ⟨bE,hY⟩:∃ y_:List Int,y_=(al++aq):=⟨_,rfl⟩;replace H:(spec_l09Walk.l0 k1 l0 a1 a8 bE (wrap64 (ai+1)))=some (r1,r2):=hh;have b0:=ak hY;clear hY;have H':=ak H;clear H;have aw:0≤((ji8):Int):=od q3_0;have ax:(ji8)<(l0.length:Int):=od q3_0;obtain ⟨bD,a7,ay⟩:=Kd.at_int HR0.out (ji8) aw ax;cases a7;replace ay:=(HB.out.cell (World.block_lt_of_cell? w _ ay)).trans ay;replace aw:=eq_true aw;replace ax:=eq_true ax;obtain ⟨cB,aY,b1⟩:=Kd.R_slice ae.out;subst b1;have a9:0≤(0:Int):=(by omega);have ba:0<(ah.length:Int):=od q3_0;(try (obtain ⟨Aop_,cop_,eop_⟩:=Kd.R_slice ae.out;subst eop_));obtain ⟨cC,b2,bd⟩:=Kd.at_int (Kd.R_reads' ae.out).2.2 0 a9 ba;cases b2;have qi150:(0<ah.length)=True:=eq_true (by omega);(try rw [show (0:Int).toNat=0 from rfl] at bd);(try rw [Addr.add_zero'] at bd);replace a9:=eq_true a9;replace ba:=eq_true ba;have p13:0≤(0:Int):=(by omega);have q13:(0:Int)<((ah.length:Int):Int):=od q3_0;have qi13:(0<ah.length)=True:=eq_true (by omega);obtain ⟨aK,cD,bF,bG,gl13,cl13,bH⟩:=Kd.R_form ae.out (by omega);(first|cases bF|(injection bF with ea_ en_ ec_;(first|subst ea_|(injection ea_ with ea_;subst ea_));subst ec_;clear en_));have GB13:=ak bG;have cE:=ak bH;clear bG gl13 bH;(first|simp only [add_plain] at bd|skip);obtain ⟨bI,bJ⟩:=Kd.R_celln 0 ae.out (0:Int) p13 q13;(try rw [show (0:Int).toNat=0 from rfl] at bI);(try simp only [Nat.reduceMul,Nat.zero_mul,Nat.zero_add,Nat.reduceAdd] at bI);(try rw [show (0:Int).toNat=0 from rfl] at bJ);(try simp only [Nat.reduceMul,Nat.zero_mul,Nat.zero_add,Nat.reduceAdd] at bJ);replace p13:=eq_true p13;replace q13:=eq_true q13;have bf:=Kd.R_putg ae.out (0:Int) (wrap64 ((rd ah 0)+1))
  go_wp2_with (first|((with_reducible refine gate_store (t:=2) (p:=31) rfl ?_);refine store_event (t:=2) (p:=31) (v:=?vo_w19) (w1:=(wr.setCell ⟨aK,(0:Int).toNat,none⟩ (.int .i64 (wrap64 ((rd ah 0)+1))))) ?hg ?ho ?hn ?hr ?_;(case ho=>rfl);(case hg=>rfl);(case hn=>rfl);(case hr=>exact gs);intro w19 hw;have hg:wr.grownBy w19 (some aK):=(by rw [hw];exact bf.2);have hp_:Kd.R (Kd.int .i64) 2 w19 w.heap.size (fun k_=>some k_≠(u7:Value).ownBlock) (.slice (some ⟨aK,0,none⟩) ah.length aY) aP:=(by rw [hw,bW.out];exact bf.1);clear bf;replace ae:=ak (hp_);replace af:=ak (Kd.R_after (v:=(.slice (some ⟨aK,0,none⟩) ah.length aY)) (v1:=(.slice (some ⟨aK,0,none⟩) ah.length aY)) (ok:=(fun _=>True)) (pe (Kd.R_mono af.out (fun _ hk=>⟨trivial,hk⟩))) hg (.inl rfl));replace HB:=ak (by rw [hw];exact below_set (HB.out) GB13.out:Below w.heap.size w w19);clear hg hw hp_)|((with_reducible refine gate_callee (f:=54) rfl ?_);refine gl (some 35) Tryz.func54 #[.slice (some bD) l0.length c0,.int .i64 ai] ?_;(with_reducible refine (ih k1 (by have:=HK1.out;omega) _ _ l0 ai ap aq _ ?side1 ?side2 A14.out).mono ?_);(case side1=>exact pc (Kd.C_below HR0.out HB.out));(case side2=>exact HC0.out);rintro e w20 ⟨cF,bg,rfl,ho0,ho1,hb⟩;refine ⟨_,rfl,?_⟩;have ar:=lw (nw (nw ho0 ae) af);have au:=lw (nw (nw ho1 ae) af);replace ae:=rn2 ae ho0 ho1 hb;replace af:=rn2 af ho0 ho1 hb;replace HB:=hbs hb;(try clear hb);(try clear hb2);(try clear hk);(try clear hi);(try clear ho0);(try clear ho1);obtain ⟨aM,aj,aZ⟩:=Kd.R_slice ar.out;subst aZ)|((with_reducible refine gate_builtin (b:=.append) (xs:=#[.tmp 38,.tmp 39]) rfl ?_);at_builtin;refine Kd.R_append_rows (Kd.int .i64) (w0:=w) w.heap.size rfl (.tmp 38) (.tmp 39) 24 2 (.int .i64 0) 8 rfl Tryz.underlying24 info2 rfl dc (by omega) (.slice (some ⟨aK,0,none⟩) ah.length aY) aP ap _ _ _ (fun k_=>some k_≠(u7:Value).ownBlock∧some k_≠(.slice aM ap.length aj:Value).ownBlock∧some k_≠(bg:Value).ownBlock) (fun _=>False) rfl rfl ?aO ?aR (fun _ _ h=>h) (fun _ h=>h.elim) ?aF ?aB ?aS ?aL ?_;(case aR=>exact pc ((Kd.R_reads' ar.out).2.2));(case aB=>exact hq);(case aF=>exact (fun k_ hk=>⟨Kd.fresh' (Kd.R_lt (pe af.out)) k_ hk,Kd.fresh' (Kd.R_lt (pe ar.out)) k_ hk,Kd.fresh' (Kd.R_lt (pe au.out)) k_ hk⟩));(case aO=>exact (pe (Kd.R_mono ae.out (fun _ hk=>⟨hk.1.1,⟨hk.1.2,hk.2⟩⟩))));(case aS=>exact (below_size hq));(case aL=>have:=bX.out;omega);intro bh w21 ho hb hg hat;rw [← bY.out] at ho;replace af:=ak (Kd.R_after (ok:=(fun k_=>some k_≠(.slice aM ap.length aj:Value).ownBlock∧some k_≠(bg:Value).ownBlock)) (pe (Kd.R_mono af.out (fun _ hk=>⟨⟨hk.1.2,hk.2⟩,hk.1.1.2⟩))) hg hat);replace ar:=ak (Kd.R_after (ok:=(fun k_=>some k_≠(u7:Value).ownBlock∧some k_≠(bg:Value).ownBlock)) (pe (Kd.R_mono ar.out (fun _ hk=>⟨⟨hk.2,hk.1.1⟩,hk.1.2⟩))) hg hat);replace au:=ak (Kd.R_after (ok:=(fun k_=>some k_≠(u7:Value).ownBlock∧some k_≠(.slice aM ap.length aj:Value).ownBlock)) (pe (Kd.R_mono au.out (fun _ hk=>⟨⟨hk.2,hk.1.1⟩,hk.1.2⟩))) hg hat);replace HB:=ak (hb);have a3:=ak (ho);clear ae;clear ho hb hg hat;obtain ⟨bi,bj,b3⟩:=Kd.R_slice au.out;subst b3)|((with_reducible refine gate_builtin (b:=.append) (xs:=#[.tmp 41,.tmp 42]) rfl ?_);at_builtin;refine Kd.R_append_rows (Kd.int .i64) (w0:=w) w.heap.size rfl (.tmp 41) (.tmp 42) 24 2 (.int .i64 0) 8 rfl Tryz.underlying24 info2 rfl dc (by omega) u7 al aq _ _ _ (fun k_=>some k_≠(.slice aM ap.length aj:Value).ownBlock∧some k_≠(.slice bi aq.length bj:Value).ownBlock∧some k_≠(bh:Value).ownBlock) (fun _=>False) rfl rfl ?aO ?aR (fun _ _ h=>h) (fun _ h=>h.elim) ?aF ?aB ?aS ?aL ?_;(case aR=>exact pc ((Kd.R_reads' au.out).2.2));(case aB=>exact hq);(case aF=>exact (fun k_ hk=>⟨Kd.fresh' (Kd.R_lt (pe ar.out)) k_ hk,Kd.fresh' (Kd.R_lt (pe au.out)) k_ hk,Kd.fresh' (Kd.R_lt (pe a3.out)) k_ hk⟩));(case aO=>exact (pe (Kd.R_mono af.out (fun _ hk=>⟨hk.1.1,⟨hk.1.2,hk.2⟩⟩))));(case aS=>exact (below_size hq));(case aL=>have:=bZ.out;omega);intro cG w23 ho hb hg hat;rw [← b0.out] at ho;replace ar:=ak (Kd.R_after (ok:=(fun k_=>some k_≠(.slice bi aq.length bj:Value).ownBlock∧some k_≠(bh:Value).ownBlock)) (pe (Kd.R_mono ar.out (fun _ hk=>⟨⟨hk.1.2,hk.2⟩,hk.1.1⟩))) hg hat);replace au:=ak (Kd.R_after (ok:=(fun k_=>some k_≠(.slice aM ap.length aj:Value).ownBlock∧some k_≠(bh:Value).ownBlock)) (pe (Kd.R_mono au.out (fun _ hk=>⟨⟨hk.1.2,hk.2⟩,hk.1.1⟩))) hg hat);replace a3:=ak (Kd.R_after (ok:=(fun k_=>some k_≠(.slice aM ap.length aj:Value).ownBlock∧some k_≠(.slice bi aq.length bj:Value).ownBlock)) (pe (Kd.R_mono a3.out (fun _ hk=>⟨⟨hk.2.1,hk.2.2⟩,hk.1⟩))) hg hat);replace HB:=ak (hb);have b4:=ak (ho);clear af;clear ho hb hg hat))
  go_roundg k1
  case measure=>have:=HK1.out;omega
  case rel=>exact ⟨(a8),(bE),(wrap64 (ai+1)),q3_1,H',⟨by have:=HK1.out;omega⟩,⟨pe (Kd.R_mono a3.out (fun _ hk=>hk.2))⟩,⟨pe (Kd.R_mono b4.out (fun _ hk=>hk.2.2))⟩,⟨hq⟩⟩
mutual
def spec_GrownTree.l0:Nat→List Int→Int→Option (List Int × List Int × Int)
 | 0,_,_=>none
 | k+1,x0,x5=>if x5<(x0.length:Int) then (if 0≤x5 then ((spec_l01In.f (rd x0 x5) 0 x5).bind fun t166=>(if t166=true then (spec_GrownTree.l0 k x0 (wrap64 (x5+1))) else (some (([]:List Int),([]:List Int),2)))) else (none)) else ((spec_l09Walk.f k x0 0).bind fun bt167=>(if 0≤(bt167.2.length:Int) then (if ((bt167.2.length:Int):Int).toNat≤35184372088832 then (spec_GrownTree.l1 k bt167.1 bt167.2 (List.replicate ((bt167.2.length:Int):Int).toNat 0) 0) else (none)) else (none)))
def spec_GrownTree.l1:Nat→List Int→List Int→List Int→Int→Option (List Int × List Int × Int)
 | 0,_,_,_,_=>none
 | k+1,x6,x7,x8,x9=>if x9<(x7.length:Int) then (if 0≤x9 then (if 0≤(rd x7 x9) then (if (rd x7 x9)<(x8.length:Int) then (spec_GrownTree.l1 k x6 x7 (x8.set ((rd x7 x9):Int).toNat x9) (wrap64 (x9+1))) else (none)) else (none)) else (none)) else (some (x6,x8,0))
end
def spec_GrownTree.f (k:Nat) (l0:List Int):Option (List Int × List Int × Int):=if (l0.length:Int)>23 then (some (([]:List Int),([]:List Int),2)) else (spec_GrownTree.l0 k l0 0)
theorem spec_GrownTree.calls (k:Nat) (A0:Option Addr) (c0:Nat) (l0:List Int) (r1:List Int) (r2:List Int) (r3:Int) (w:World) (hr0:Kd.C (Kd.int .i64) w A0 l0.length l0) (hc0:l0.length≤c0) (h:spec_GrownTree.f k l0=some (r1,r2,r3)) :
  Calls Tryz.prog 8 #[.slice A0 l0.length c0] w fun e w'=>∃ v0_ v1_:Value,e=.returned (.tuple #[.agg #[v0_],v1_,.int .i64 r3])∧Kd.R (Kd.int .i64) 2 w' w.heap.size (fun k_=>some k_≠(v1_:Value).ownBlock) v0_ r1∧Kd.R (Kd.int .i64) 2 w' w.heap.size (fun k_=>some k_≠(v0_:Value).ownBlock) v1_ r2∧Below w.heap.size w w':=by
 have hu27:=Tryz.underlying27;have HR0:=ak hr0;have HC0:=ak hc0;clear hr0 hc0;have HB:=ak (Below.refl w.heap.size w);have H:(if (l0.length:Int)>23 then (some (([]:List Int),([]:List Int),2)) else (spec_GrownTree.l0 k l0 0))=some (r1,r2,r3):=h;clear h
 by_cases c2:(l0.length:Int)>23
 ·rw [if_pos c2] at H;have b5:decide (23<(l0.length:Int))=true:=decide_eq_true c2;have b6:decide (23<l0.length)=true:=decide_eq_true (by omega);clear c2;simp only [Option.some.injEq,Prod.mk.injEq] at H;obtain ⟨rfl,rfl,rfl⟩:=H
  go_enter Tryz.func8,Tryz.ntmps8
  go_wp2_with (first|((with_reducible refine gate_dst (N:=2) rfl ?_);refine bev (N:=2) (cs:=#[.slice none 0 0]) (t:=27) ?_;intro an hg w3 hbox hb;have ab:=ak (hbox);have b7:=gbe hg;have b8:=gbe hg;replace HB:=hbs hb;clear hb hbox hg;have cH:=bc ab.out;have cI:=blk_frozen ab.out 0))
  refine bodyPost_ret (results_ctt rfl _ _ an 27 #[.slice none 0 0] (0,0) _ rfl q3_3 Tryz.underlying27 rfl kr) rfl ?_
  exact ⟨_,_,ew,q3_2,q3_2,hq⟩
 rw [if_neg c2] at H;have b5:decide (23<(l0.length:Int))=false:=decide_eq_false c2;have b6:decide (23<l0.length)=false:=decide_eq_false (by omega);clear c2;have H':=ak H;clear H
 go_enter Tryz.func8,Tryz.ntmps8
 go_wp2_with (first|((with_reducible refine gate_dst (N:=2) rfl ?_);refine bev (N:=2) (cs:=#[.slice none 0 0]) (t:=27) ?_;intro an hg w5 hbox hb;have ab:=ak (hbox);have b7:=gbe hg;have b8:=gbe hg;replace HB:=hbs hb;clear hb hbox hg))
 go_loopg [5] k (fun kq v5 w'=>∃ (aa:Int),v5=.int .i64 aa∧Aside0 (spec_GrownTree.l0 kq l0 aa=some (r1,r2,r3))∧Aside0 (kq≤k)∧Aside0 (w'.heap[an]?=some (.cells #[(.slice none 0 0)] 27 (0,0)))∧Aside0 (Below w.heap.size w w'))
 case atStart=>exact ⟨(0),q3_1,H',⟨Nat.le_refl _⟩,⟨pb ab.out⟩,⟨hq⟩⟩
 case round =>
  clear H';obtain ⟨aa,rfl,HA,HK1,ab,HB⟩:=hrel
  cases gk with|zero=>exact absurd HA.out (by simp [spec_GrownTree.l0])|succ k1=>?_
  have H:=HA.out;clear HA;simp only [spec_GrownTree.l0] at H
  by_cases c6:aa<(l0.length:Int)
  ·rw [if_pos c6] at H;have bK:=dt c6;clear c6;replace H:=ifs H;obtain ⟨c7,H⟩:=H;have aW:=dt c7;clear c7;replace H:=bs H;obtain ⟨b9,A8,H⟩:=H;(try dsimp only at H)
   by_cases c9:b9=true
   ·subst c9;replace H:(spec_GrownTree.l0 k1 l0 (wrap64 (aa+1)))=some (r1,r2,r3):=by rw [if_pos rfl] at H;exact H
    have H':=ak H;clear H;have az:0≤(aa:Int):=od q3_0;have aA:aa<(l0.length:Int):=od q3_0;obtain ⟨ca,bk,aC⟩:=Kd.at_int HR0.out aa az aA;cases bk;replace aC:=(HB.out.cell (World.block_lt_of_cell? w _ aC)).trans aC;replace az:=eq_true az;replace aA:=eq_true aA
    go_wp2_with (first|((with_reducible refine gate_callee (f:=53) rfl ?_);refine gl (some 25) Tryz.func53 #[.int .i64 (rd l0 aa),.int .i64 0,.int .i64 aa] ?_;(with_reducible refine (spec_l01In.calls (rd l0 aa) 0 aa true _ A8.out).mono ?_);rintro e w' ⟨rfl,⟨nd,rfl⟩⟩;refine ⟨_,rfl,?_⟩))
    go_roundg k1
    case measure=>have:=HK1.out;omega
    case rel=>exact ⟨(wrap64 (aa+1)),q3_1,H',⟨by have:=HK1.out;omega⟩,⟨pb ab.out⟩,⟨hq⟩⟩
   replace c9:=Bool.eq_false_iff.mpr c9;subst c9;have H1:(some (([]:List Int),([]:List Int),2))=some (r1,r2,r3):=by rw [if_neg (show ¬ (false=true) by decide)] at H;exact H
   clear H;have H:=H1;clear H1;simp only [Option.some.injEq,Prod.mk.injEq] at H;obtain ⟨rfl,rfl,rfl⟩:=H;have az:0≤(aa:Int):=od q3_0;have aA:aa<(l0.length:Int):=od q3_0;obtain ⟨ca,bk,aC⟩:=Kd.at_int HR0.out aa az aA;cases bk;replace aC:=(HB.out.cell (World.block_lt_of_cell? w _ aC)).trans aC;replace az:=eq_true az;replace aA:=eq_true aA
   go_wp2_with (first|((with_reducible refine gate_callee (f:=53) rfl ?_);refine gl (some 25) Tryz.func53 #[.int .i64 (rd l0 aa),.int .i64 0,.int .i64 aa] ?_;(with_reducible refine (spec_l01In.calls (rd l0 aa) 0 aa false _ A8.out).mono ?_);rintro e w' ⟨rfl,⟨nd,rfl⟩⟩;refine ⟨_,rfl,?_⟩;(try (rw [drewN_self wr];generalize hq_:World.drewN wr _=wr;have n0_:Aside0 (wr.heap[an]?=some (.cells #[.slice none 0 0] 27 (0,0))):=⟨by rw [← hq_];exact (pb ab.out)⟩;have n1_:Aside0 (Below w.heap.size w wr):=⟨by rw [← hq_];exact hq⟩;clear ab HB hq_;have ab:=n0_;have HB:=n1_;clear n0_ n1_));have cJ:=bc ab.out;have cK:=blk_frozen ab.out 0))
   refine bodyPost_ret (results_ctt rfl _ _ an 27 #[.slice none 0 0] (0,0) _ rfl q3_3 Tryz.underlying27 rfl kr) rfl ?_
   exact ⟨_,_,ew,q3_2,q3_2,hq⟩
  rw [if_neg c6] at H;have bK:=df c6;clear c6;replace H:=bs H;obtain ⟨⟨av,ac⟩,A11,H⟩:=H;(try dsimp only at H);replace H:=ifs H;obtain ⟨c12,H⟩:=H;have bU:=eq_true c12;have bV:decide (0≤(ac.length:Int))=true:=decide_eq_true c12;clear c12;replace H:=ifs H;obtain ⟨c13,H⟩:=H;have cL:=eq_true c13;have cM:decide (((ac.length:Int):Int).toNat≤35184372088832)=true:=decide_eq_true c13;clear c13;obtain ⟨bL,hY⟩:∃ y_:List Int,y_=(List.replicate ((ac.length:Int):Int).toNat 0):=⟨_,rfl⟩;replace H:(spec_GrownTree.l1 k1 av ac bL 0)=some (r1,r2,r3):=hh;have bM:=ak hY;clear hY;have H':=ak H;clear H
  go_wp2_with (first|((with_reducible refine gate_callee (f:=54) rfl ?_);refine gl (some 30) Tryz.func54 #[.slice A0 l0.length c0,.int .i64 0] ?_;(with_reducible refine (spec_l09Walk.calls k1 _ _ l0 0 av ac _ (pc (Kd.C_below HR0.out HB.out)) HC0.out A11.out).mono ?_);rintro e w14 ⟨aQ,cN,rfl,ho0,ho1,hb⟩;refine ⟨_,rfl,?_⟩;have a4:=lw ho0;have aT:=lw ho1;replace ab:=bb ab hb;replace HB:=hbs hb;(try clear hb);(try clear hb2);(try clear hk);(try clear hi);(try clear ho0);(try clear ho1);obtain ⟨bl,aU,cb⟩:=Kd.R_slice aT.out;subst cb)|((with_reducible refine gate_dst (N:=35) rfl ?_);refine Kd.R_make (Kd.int .i64) _ 2 rfl (N:=35) rfl 24 _ _ rfl (ac.length:Int) rfl rfl Tryz.underlying24 (.int .i64 0) 8 info2 rfl dc (by omega) 0 (ok:=fun _=>True) (okp:=fun _=>True) rfl (fun _ hk=>hk) trivial (od q3_0) (Nat.le_trans (Nat.mul_le_mul_right _ (od q3_0:(ac.length:Int).toNat≤35184372088832)) (by omega)) (Below.refl _ _) (Nat.le_refl _) ?_;intro bm w16 ho17 hb hg_ hnew_;clear hg_ hnew_;(first|rw [← bM.out] at ho17|(simp only [Int.reduceToNat] at ho17;rw [← bM.out] at ho17));have cc:=lw (nw (nw ho17 a4) aT);replace a4:=rn a4 ho17 hb;replace aT:=rn aT ho17 hb;replace ab:=bb ab hb;replace HB:=hbs hb;clear hb ho17))
  go_loopg [9] k1 (fun kq v9 w'=>∃ (ao:List Int) (ag:Int),v9=.int .i64 ag∧Aside0 (spec_GrownTree.l1 kq av ac ao ag=some (r1,r2,r3))∧Aside0 (kq≤k1)∧Aside0 (Kd.R (Kd.int .i64) 2 w' w.heap.size (fun k_=>some k_≠((.slice bl ac.length aU):Value).ownBlock∧some k_≠(bm:Value).ownBlock) aQ av)∧Aside0 (Kd.R (Kd.int .i64) 2 w' w.heap.size (fun k_=>some k_≠(aQ:Value).ownBlock∧some k_≠(bm:Value).ownBlock) (.slice bl ac.length aU) ac)∧Aside0 (Kd.R (Kd.int .i64) 2 w' w.heap.size (fun k_=>some k_≠(aQ:Value).ownBlock∧some k_≠((.slice bl ac.length aU):Value).ownBlock) bm ao)∧Aside0 (w'.heap[an]?=some (.cells #[(.slice none 0 0)] 27 (0,0)))∧Aside0 (Below w.heap.size w w'))
  case atStart=>exact ⟨(bL),(0),q3_1,H',⟨Nat.le_refl _⟩,⟨pe a4.out⟩,⟨pe aT.out⟩,⟨pe (Kd.R_mono cc.out (fun _ hk=>⟨hk.1.2,hk.2⟩))⟩,⟨pb ab.out⟩,⟨hq⟩⟩
  case round =>
   clear H';obtain ⟨ao,ag,rfl,HA,HK2,ae,af,aD,ab,HB⟩:=hrel
   cases gk with|zero=>exact absurd HA.out (by simp [spec_GrownTree.l1])|succ k2=>?_
   have H:=HA.out;clear HA;simp only [spec_GrownTree.l1] at H;obtain c18|c18:=nem (ag<(ac.length:Int))
   ·rw [if_neg c18] at H;have cd:=df c18;clear c18;simp only [Option.some.injEq,Prod.mk.injEq] at H;obtain ⟨rfl,rfl,rfl⟩:=H;obtain ⟨bo,bp,ce⟩:=Kd.R_slice ae.out;subst ce;have cO:=bc ab.out;have cP:=blk_frozen ab.out 0;go_wp2
    refine bodyPost_ret (results_ctt rfl _ _ an 27 #[.slice bo av.length bp] (0,0) _ rfl q3_3 Tryz.underlying27 rfl kr) rfl ?_
    exact ⟨_,_,ew,pe (Kd.R_mono (Kd.R_far (p:=⟨an,0,none⟩) (Kd.R_types ae.out ab.out dc) (fun _ hk=>hk.2) (.slice bo av.length bp)) (fun _ hk=>hk.1.2)),pe (Kd.R_mono (Kd.R_far (p:=⟨an,0,none⟩) (Kd.R_types aD.out ab.out dc) (fun _ hk=>hk.2) (.slice bo av.length bp)) (fun _ hk=>hk.1.1)),hq⟩
   rw [if_pos c18] at H;have cd:=dt c18;clear c18;replace H:=ifs H;obtain ⟨c19,H⟩:=H;have cQ:=dt c19;clear c19;replace H:=ifs H;obtain ⟨c20,H⟩:=H;have cR:=dt c20;clear c20;replace H:=ifs H;obtain ⟨c21,H⟩:=H;have cS:=dt c21;clear c21;obtain ⟨bq,hY⟩:∃ y_:List Int,y_=(ao.set ((rd ac ag):Int).toNat ag):=⟨_,rfl⟩;replace H:(spec_GrownTree.l1 k2 av ac bq (wrap64 (ag+1)))=some (r1,r2,r3):=hh;have cf:=ak hY;clear hY;have H':=ak H;clear H;have br:0≤(ag:Int):=od q3_0;have bu:ag<(ac.length:Int):=od q3_0;(try (obtain ⟨Aop_,cop_,eop_⟩:=Kd.R_slice af.out;subst eop_));obtain ⟨bN,cg,cT⟩:=Kd.at_int (Kd.R_reads' af.out).2.2 ag br bu;cases cg;replace br:=eq_true br;replace bu:=eq_true bu;have p22:0≤((rd ac ag):Int):=od q3_0;have q22:((rd ac ag):Int)<((ao.length:Int):Int):=od q3_0;obtain ⟨aE,aj,aZ,bO,gl22,cl22,bP⟩:=Kd.R_form aD.out (by omega);(first|cases aZ|(injection aZ with ea_ en_ ec_;(first|subst ea_|(injection ea_ with ea_;subst ea_));subst ec_;clear en_));have GB22:=ak bO;have cU:=ak bP;clear bO gl22 bP;obtain ⟨cV,cW⟩:=Kd.R_celln 0 aD.out ((rd ac ag):Int) p22 q22;replace p22:=eq_true p22;replace q22:=eq_true q22;have bv:=Kd.R_putg aD.out ((rd ac ag):Int) ag
   go_wp2_with (first|((with_reducible refine gate_store (t:=2) (p:=48) rfl ?_);refine store_event (t:=2) (p:=48) (v:=?vo_w24) (w1:=(wr.setCell ⟨aE,((rd ac ag):Int).toNat,none⟩ (.int .i64 ag))) ?hg ?ho ?hn ?hr ?_;(case ho=>rfl);(case hg=>rfl);(case hn=>rfl);(case hr=>exact gs);intro w24 hw;have hg:wr.grownBy w24 (some aE):=(by rw [hw];exact bv.2);have hp_:Kd.R (Kd.int .i64) 2 w24 w.heap.size (fun k_=>some k_≠(aQ:Value).ownBlock∧some k_≠(.slice (some bN) ac.length aU:Value).ownBlock) (.slice (some ⟨aE,0,none⟩) ao.length aj) bq:=(by rw [hw,cf.out];exact bv.1);clear bv;replace ae:=ak (Kd.R_after (v:=(.slice (some ⟨aE,0,none⟩) ao.length aj)) (v1:=(.slice (some ⟨aE,0,none⟩) ao.length aj)) (ok:=(fun k_=>some k_≠(.slice (some bN) ac.length aU:Value).ownBlock)) (pe ae.out) hg (.inl rfl));replace af:=ak (Kd.R_after (v:=(.slice (some ⟨aE,0,none⟩) ao.length aj)) (v1:=(.slice (some ⟨aE,0,none⟩) ao.length aj)) (ok:=(fun k_=>some k_≠(aQ:Value).ownBlock)) (pe af.out) hg (.inl rfl));replace ab:=ak (blk_grown (g:=an) (o:=.cells #[.slice none 0 0] 27 (0,0)) (pb ab.out) hg (Kd.R_ne aD.out ab.out dc));replace aD:=ak (hp_);replace HB:=ak (by rw [hw];exact below_set (HB.out) GB22.out:Below w.heap.size w w24);clear hg hw hp_))
   go_roundg k2
   case measure=>have:=HK1.out;have:=HK2.out;omega
   case rel=>exact ⟨(bq),(wrap64 (ag+1)),q3_1,H',⟨by have:=HK1.out;have:=HK2.out;omega⟩,⟨pe ae.out⟩,⟨pe af.out⟩,⟨pe aD.out⟩,⟨pb ab.out⟩,⟨hq⟩⟩
def laws_likeInts.l0:Nat→List Int→List Int→Int→Option (Bool)
 | 0,_,_,_=>none
 | k+1,x0,x1,x5=>if x5<(x0.length:Int) then (if 0≤x5 then (if x5<(x1.length:Int) then (if (rd x0 x5)=(rd x1 x5) then (laws_likeInts.l0 k x0 x1 (wrap64 (x5+1))) else (some false)) else (none)) else (none)) else (some true)
def laws_likeInts.f (k:Nat) (l0:List Int) (l1:List Int):Option (Bool):=if (l0.length:Int)=(l1.length:Int) then (laws_likeInts.l0 k l0 l1 0) else (some false)
theorem laws_likeInts.calls (k:Nat) (A0:Option Addr) (c0:Nat) (l0:List Int) (A1:Option Addr) (c1:Nat) (l1:List Int) (r:Bool) (w:World) (hr0:Kd.C (Kd.int .i64) w A0 l0.length l0) (hc0:l0.length≤c0) (hr1:Kd.C (Kd.int .i64) w A1 l1.length l1) (hc1:l1.length≤c1) (h:laws_likeInts.f k l0 l1=some r) :
  Calls Tryz.prog 10 #[.slice A0 l0.length c0,.slice A1 l1.length c1] w fun e w'=>e=.returned (.bool r)∧Drawn0 w w':=by
 have HR0:=ak hr0;have HC0:=ak hc0;clear hr0 hc0;have HR1:=ak hr1;have HC1:=ak hc1;clear hr1 hc1;have H:(if (l0.length:Int)=(l1.length:Int) then (laws_likeInts.l0 k l0 l1 0) else (some false))=some r:=h;clear h;obtain c3|c3:=nem ((l0.length:Int)=(l1.length:Int))
 ·rw [if_neg c3] at H;have ch:((l0.length:Int) == (l1.length:Int))=false:=beq_eq_false_iff_ne.mpr c3;have ci:((l0.length:Int) != (l1.length:Int))=true:=bne_iff_ne.mpr c3;have cj:(l0.length == l1.length)=false:=by first|simpa using c3|(simp at c3 ⊢;omega)
  obtain rfl:=Option.some.inj H
  go_enter Tryz.func10,Tryz.ntmps10
  go_wp2
  repeat (go_quiet (fail);try go_wp2)
  go_ret
  exact ⟨q3_1,q3_4⟩
 rw [if_pos c3] at H;have ch:((l0.length:Int) == (l1.length:Int))=true:=beq_iff_eq.mpr c3;have ci:((l0.length:Int) != (l1.length:Int))=false:=bne_eq_false_iff_eq.mpr c3;have cj:(l0.length == l1.length)=true:=by first|simpa using c3|(simp at c3 ⊢;omega)
 clear c3;have H':=ak H;clear H
 go_enter Tryz.func10,Tryz.ntmps10
 go_wp2
 repeat (go_quiet (fail);try go_wp2)
 go_loopg [5] k (fun kq v5 w'=>∃ (aa:Int),v5=.int .i64 aa∧Aside0 (laws_likeInts.l0 kq l0 l1 aa=some r)∧Aside0 (kq≤k)∧Drawn0 w w')
 case atStart=>exact ⟨(0),q3_1,H',⟨Nat.le_refl _⟩,q3_4⟩
 case round =>
  clear H';obtain ⟨aa,rfl,HA,HK1,⟨m1,rfl⟩⟩:=hrel
  cases gk with|zero=>exact absurd HA.out (by simp [laws_likeInts.l0])|succ k1=>?_
  have H:=HA.out;clear HA;simp only [laws_likeInts.l0] at H;obtain c4|c4:=nem (aa<(l0.length:Int))
  ·rw [if_neg c4] at H;have a5:=df c4;clear c4;obtain rfl:=Option.some.inj H;go_wp2
   repeat (go_quiet (fail);try go_wp2)
   go_ret
   exact ⟨q3_1,q3_4⟩
  rw [if_pos c4] at H;have a5:=dt c4;clear c4;replace H:=ifs H;obtain ⟨c5,H⟩:=H;have cX:=dt c5;clear c5;replace H:=ifs H;obtain ⟨c6,H⟩:=H;have bK:=dt c6;clear c6;obtain c7|c7:=nem ((rd l0 aa)=(rd l1 aa))
  ·rw [if_neg c7] at H;have aW:((rd l0 aa) == (rd l1 aa))=false:=beq_eq_false_iff_ne.mpr c7;have ck:((rd l0 aa) != (rd l1 aa))=true:=bne_iff_ne.mpr c7;obtain rfl:=Option.some.inj H;have aG:0≤(aa:Int):=od q3_0;have aH:aa<(l0.length:Int):=od q3_0;obtain ⟨cl,bw,cm⟩:=Kd.at_int HR0.out aa aG aH;cases bw;replace aG:=eq_true aG;replace aH:=eq_true aH;have aI:0≤(aa:Int):=od q3_0;have aJ:aa<(l1.length:Int):=od q3_0;obtain ⟨cn,bx,co⟩:=Kd.at_int HR1.out aa aI aJ;cases bx;replace aI:=eq_true aI;replace aJ:=eq_true aJ;go_wp2
   repeat (go_quiet (fail);try go_wp2)
   go_ret
   exact ⟨q3_1,q3_4⟩
  rw [if_pos c7] at H;have aW:((rd l0 aa) == (rd l1 aa))=true:=beq_iff_eq.mpr c7;have ck:((rd l0 aa) != (rd l1 aa))=false:=bne_eq_false_iff_eq.mpr c7;clear c7;have H':=ak H;clear H;have aG:0≤(aa:Int):=od q3_0;have aH:aa<(l0.length:Int):=od q3_0;obtain ⟨cl,bw,cm⟩:=Kd.at_int HR0.out aa aG aH;cases bw;replace aG:=eq_true aG;replace aH:=eq_true aH;have aI:0≤(aa:Int):=od q3_0;have aJ:aa<(l1.length:Int):=od q3_0;obtain ⟨cn,bx,co⟩:=Kd.at_int HR1.out aa aI aJ;cases bx;replace aI:=eq_true aI;replace aJ:=eq_true aJ;go_wp2
  repeat (go_quiet (fail);try go_wp2)
  go_roundg k1
  case measure=>have:=HK1.out;omega
  case rel=>exact ⟨(wrap64 (aa+1)),q3_1,H',⟨by have:=HK1.out;omega⟩,q3_4⟩
def laws_trees5.f (k:Nat) (l0_0:List Int) (l1_0:List Int):Option (Bool):=(laws_likeInts.f k l0_0 l1_0).bind fun t182=>(some t182)
theorem laws_trees5.calls (k:Nat) (A0_0:Option Addr) (c0_0:Nat) (l0_0:List Int) (A1_0:Option Addr) (c1_0:Nat) (l1_0:List Int) (r:Bool) (w:World) (hr0_0:Kd.C (Kd.int .i64) w A0_0 l0_0.length l0_0) (hc0_0:l0_0.length≤c0_0) (hr1_0:Kd.C (Kd.int .i64) w A1_0 l1_0.length l1_0) (hc1_0:l1_0.length≤c1_0) (h:laws_trees5.f k l0_0 l1_0=some r) :
  Calls Tryz.prog 9 #[.agg #[.slice A0_0 l0_0.length c0_0],.agg #[.slice A1_0 l1_0.length c1_0]] w fun e w'=>e=.returned (.bool r)∧Below w.heap.size w w':=by
 have hu27:=Tryz.underlying27;have cp:=ak hr0_0;have cq:=ak hc0_0;clear hr0_0 hc0_0;have cr:=ak hr1_0;have ct:=ak hc1_0;clear hr1_0 hc1_0;have HB:=ak (Below.refl w.heap.size w);have H:((laws_likeInts.f k l0_0 l1_0).bind fun bz=>(some bz))=some r:=h;clear h;replace H:=bs H;obtain ⟨bz,A3,H⟩:=H;(try dsimp only at H);obtain rfl:=Option.some.inj H
 go_enter Tryz.func9,Tryz.ntmps9
 go_wp2_with (first|((with_reducible refine gate_dst (N:=2) rfl ?_);refine bev (N:=2) (cs:=#[.slice A0_0 l0_0.length c0_0]) (t:=27) ?_;intro cY hg w4 hbox hb;have aN:=ak (hbox);have cZ:=gbe hg;have c8:=gbe hg;replace HB:=hbs hb;clear hb hbox hg)|((with_reducible refine gate_dst (N:=3) rfl ?_);refine bev (N:=3) (cs:=#[.slice A1_0 l1_0.length c1_0]) (t:=27) ?_;intro da hg w5 hbox hb;have bQ:=ak (hbox);have db:=gbe hg;have dd:=gbe hg;replace HB:=hbs hb;have cu:=nlb hg aN;have cv:=ngb hg aN;replace aN:=bb aN hb;clear hb hbox hg;have de:=cu.out;have dg:=cv.out;have dh:=bc aN.out;have di:=blk_frozen aN.out 0;have dj:=bc bQ.out;have dk:=blk_frozen bQ.out 0)|((with_reducible refine gate_callee (f:=10) rfl ?_);refine gl (some 9) Tryz.func10 #[.slice A0_0 l0_0.length c0_0,.slice A1_0 l1_0.length c1_0] ?_;(with_reducible refine (laws_likeInts.calls k _ _ l0_0 _ _ l1_0 bz _ (pc (Kd.C_below cp.out HB.out)) cq.out (pc (Kd.C_below cr.out HB.out)) ct.out A3.out).mono ?_);rintro e w' ⟨rfl,⟨nd,rfl⟩⟩;refine ⟨_,rfl,?_⟩))
 go_ret
 exact ⟨ew,hq⟩
def slices_Clone.f (l0:List Int):Option (List Int):=if l0.length≤100000000 then some l0 else none
theorem slices_Clone.calls (A0:Option Addr) (c0:Nat) (l0:List Int) (r:List Int) (w:World) (hr0:Kd.C (Kd.int .i64) w A0 l0.length l0) (hc0:l0.length≤c0) (h:slices_Clone.f l0=some r) :
  Calls Tryz.prog 63 #[.slice A0 l0.length c0] w fun e w'=>∃ v0_:Value,e=.returned (v0_)∧Kd.R (Kd.int .i64) 2 w' w.heap.size (fun _=>True) v0_ r∧Below w.heap.size w w':=by
 unfold slices_Clone.f at h
 by_cases hc:l0.length≤100000000
 rotate_left
 ·rw [if_neg hc] at h;cases h
 rw [if_pos hc] at h;obtain rfl:=Option.some.inj h;have HR0:=ak hr0;have HC0:=ak hc0;have HL:=ak hc;clear hr0 hc0 h hc
 cases A0 with
 | none =>
  have hl:l0=[]:=by
   match l0,HR0.out with
   | [],_=>rfl
   | x :: r,hr=>obtain ⟨ad,e,_⟩:=hr.2.2 (by simp);cases e
  subst hl;have hn:=fun w=>run_eql_nil (P:=Tryz.prog) w 24 2 none 0 c0 Tryz.underlying24
  go_enter Tryz.func63,Tryz.ntmps63
  go_wp2
  go_ret
  exact ⟨_,rfl,Kd.R_nil _ _ _ _ _,Below.refl _ _⟩
 | some ad =>
  have hn:=fun w=>run_eql_nil (P:=Tryz.prog) w 24 2 (some ad) l0.length c0 Tryz.underlying24
  go_enter Tryz.func63,Tryz.ntmps63
  go_wp2_with (first|((with_reducible refine gate_dst (N:=5) rfl ?_);refine Kd.R_lit (Kd.int .i64) _ 2 ?hg (N:=5) ?hd (xs:=([]:List Int)) (inner:=[]) (ok:=fun _=>True) (okp:=fun _=>True) ?hr ?hp (fun _ hk=>hk) trivial (Below.refl _ _) (Nat.le_refl _) (by simp) ?_;(case hd=>rfl);(case hg=>rfl);(case hr=>exact gs);(case hp=>exact (Reps.none _ _));intro cw w3 ho4 hb hg_ hnew_;clear hg_ hnew_;have HO:=ak ho4;have HB:=ak hb;clear ho4 hb)|((with_reducible refine gate_builtin (b:=.append) (xs:=#[.tmp 5,.tmp 6]) rfl ?_);at_builtin;refine Kd.R_append_rows (Kd.int .i64) (w0:=w) w.heap.size rfl (.tmp 5) (.tmp 6) 24 2 (.int .i64 0) 8 rfl Tryz.underlying24 info2 rfl dc (by omega) cw [] l0 _ _ _ (fun _=>True) (fun _=>False) rfl rfl HO.out (Kd.C_below HR0.out HB.out) (fun _ _ h=>h) (fun _ h=>h.elim) (fun _ _=>trivial) HB.out HB.out.size (by have:=HL.out;simp;omega) ?_;intro dl w5 ho hb hg hat;have HO2:=ak ho;have HB2:=ak hb;clear ho hb hg hat))
  go_ret
  exact ⟨_,rfl,HO2.out,HB2.out⟩
def slices_Sort.f (l0:List Int):Option (List Int):=if l0.length≤100000000 then some (l0.mergeSort fun x y=>decide (x≤y)) else none
theorem slices_Sort.calls (P0_:Nat→Prop) (u9000_:Value) (l0:List Int) (r:List Int) (w0 w:World) (hB:Below w0.heap.size w0 w) (ho0:Kd.R (Kd.int .i64) 2 w w0.heap.size P0_ u9000_ l0) (h:slices_Sort.f l0=some r) :
  Calls Tryz.prog 64 #[u9000_] w fun e w'=>e=.returned (.tuple #[])∧Kd.R (Kd.int .i64) 2 w' w0.heap.size (fun k_=>(P0_ k_∨w.heap.size≤k_)) u9000_ r∧Below w0.heap.size w0 w'∧Kept w w' (fun k_=>P0_ k_):=by
 unfold slices_Sort.f at h
 by_cases hc:l0.length≤100000000
 rotate_left
 ·rw [if_neg hc] at h;cases h
 rw [if_pos hc] at h;obtain rfl:=Option.some.inj h;have ho:=Kd.own_of_R ho0;obtain ⟨_,h2⟩:=ho
 rcases h2 with ⟨rfl,h2⟩|⟨g,cap,cur,rfl,hb,hg,hm2,hcap,hs,ht⟩
 ·obtain rfl:l0=[]:=List.eq_nil_of_length_eq_zero h2
  refine (Go.Proofs.AnyM.slices_Sort_int_none Go.Proofs.Tryz.lSort none 0 w).mono ?_
  rintro e w' ⟨he,hw⟩
  subst hw
  exact ⟨he,by simpa using Kd.R_mono ho0 (fun k hk=>.inl hk),hB,Kept.refl _ _⟩
 ·have hp:P0_ g:=ho0.1 g (by simp [Value.ownBlock]);have hg':w.heap[g]?=some (.cells cur.toList.toArray 2 (0,0)):=by simpa using hg
  have ht':cur.toList.take l0.length=encs EI l0:=by simpa using ht
  have hglt:g<w.heap.size:=by
   rcases Nat.lt_or_ge g w.heap.size with h|h
   ·exact h
   ·rw [Array.getElem?_eq_none h] at hg;cases hg
  refine (Go.Proofs.AnyM.slices_Sort_int Go.Proofs.Tryz.lSort g 0 cap l0 w (holds_of_block hg' ht') hglt (by omega)).mono ?_
  rintro e w' ⟨he,n,os,hw⟩
  subst hw;obtain ⟨q1,q2,q3⟩:=sorted_world (P0:=P0_) (cap:=cap) (L:=cur.toList) (l:=l0) (s:=l0.mergeSort fun x y=>decide (x≤y)) (by simp) hb hp hg' (by simpa using hs) hm2 hcap hB n os
  exact ⟨he,q1,q2,q3⟩
end Go.Proofs.YtlppkilencpmeaaGreat.QFnGrowth
