/- Functions as Lean functions, with their contracts: written by a program of this claim over the translation; some contracts are proved by hand. -/
import Derived.Test.YtimfbpmaepmdoaaQFnDrawingsx0
import Derived.Test.YtimfbpmaepmdoaaQFnDrawingsx1
namespace Go.Proofs.Ytimfbpmaepmdoaa.QFnDrawings
open Go.RowKit Go.Proofs.Ytimfbpmaepmdoaa.Gl Go.Proofs.Ytimfbpmaepmdoaa.Sz Go.Proofs.YtimfbpmaepmdoaaW.PrintWords Go.Proofs.YtimfbpmaepmdoaaW.PrintLast Go.Proofs.YtimfbpmaepmdoaaW.PrintMore
attribute [local go_sem] max2_int min2_int max_two min_two max_three min_three max_four min_four   -- for this text's walks alone
set_option linter.unusedVariables false
set_option linter.unusedSimpArgs false
theorem q2_0 {P:Prop} (h:P:=by first|(with_reducible assumption)|assumption):P:=h
theorem q2_1 {P:Prop} (h:P:=by first|rfl|(simp;done)|(simp [*];done)):P:=h
set_option maxHeartbeats 8000000
set_option maxRecDepth 100000
def spec_l01Depths.l0:Nat→List Int→List Int→Int→Option (List Int)
 | 0,_,_,_=>none
 | k+1,x3,x4,x5=>if x5<(x4.length:Int) then (if 0≤x5 then (if x5<(x3.length:Int) then (if 0≤(rd x3 x5) then (if (rd x3 x5)<(x4.length:Int) then (spec_l01Depths.l0 k x3 (x4.set (x5:Int).toNat (wrap64 ((rd x4 (rd x3 x5))+1))) (wrap64 (x5+1))) else (none)) else (none)) else (none)) else (none)) else (some x4)
def spec_l01Depths.f (k:Nat) (l0_0:List Int):Option (List Int):=(spec_l01Parents.f k l0_0).bind fun t132=>((spec_l01N.f l0_0).bind fun t135=>(if 0≤t135 then (if (t135:Int).toNat≤35184372088832 then (spec_l01Depths.l0 k t132 (List.replicate (t135:Int).toNat 0) 1) else (none)) else (none)))
theorem spec_l01Depths.calls (k:Nat) (A0_0:Option Addr) (c0_0:Nat) (l0_0:List Int) (r:List Int) (w:World) (hr0_0:Kd.C (Kd.int .i64) w A0_0 l0_0.length l0_0) (hc0_0:l0_0.length≤c0_0) (h:spec_l01Depths.f k l0_0=some r) :
  Calls Try.prog 26 #[.agg #[.slice A0_0 l0_0.length c0_0]] w fun e w'=>∃ v0_:Value,e=.returned (v0_)∧Kd.R (Kd.int .i64) 2 w' w.heap.size (fun _=>True) v0_ r∧Below w.heap.size w w':=by
 have hu28:=Try.underlying28;have av:=ak hr0_0;have aw:=ak hc0_0;clear hr0_0 hc0_0;have HB:=ak (Below.refl w.heap.size w);have H:((spec_l01Parents.f k l0_0).bind fun ac=>((spec_l01N.f l0_0).bind fun af=>(if 0≤af then (if (af:Int).toNat≤35184372088832 then (spec_l01Depths.l0 k ac (List.replicate (af:Int).toNat 0) 1) else (none)) else (none))))=some r:=h;clear h;replace H:=bs H;obtain ⟨ac,A2,H⟩:=H;(try dsimp only at H);replace H:=bs H;obtain ⟨af,A3,H⟩:=H;(try dsimp only at H);replace H:=ifs H;obtain ⟨c4,H⟩:=H;have aQ:=eq_true c4;have aR:decide (0≤af)=true:=decide_eq_true c4;clear c4;replace H:=ifs H;obtain ⟨c5,H⟩:=H;have aS:=eq_true c5;have aT:decide ((af:Int).toNat≤35184372088832)=true:=decide_eq_true c5;clear c5;obtain ⟨ax,hY⟩:∃ y_:List Int,y_=(List.replicate (af:Int).toNat 0):=⟨_,rfl⟩;replace H:(spec_l01Depths.l0 k ac ax 1)=some r:=hh;have ay:=ak hY;clear hY;have H':=ak H;clear H
 go_enter Try.func26,Try.ntmps26
 try go_wp2_with (first|((with_reducible refine gate_dst (N:=1) rfl ?_);refine bev (N:=1) (cs:=#[.slice A0_0 l0_0.length c0_0]) (t:=28) ?_;intro aj hg w6 hbox hb;have aa:=ak (hbox);have aU:=gbe hg;have aV:=gbe hg;replace HB:=hbs hb;clear hb hbox hg))
 have n0_:=ak (blk_drew aa.out);have n1_:=ak (below_drew1 HB.out);clear aa HB;have aa:=n0_;have HB:=n1_;clear n0_ n1_
 refine start_ (n:=7) (S:=fun w'=>w'.cell? ⟨aj,0,none⟩=some (.slice A0_0 l0_0.length c0_0)) (ds:=[]) #[false,false,false,false,false,false,false] kr rfl rfl ((blk_cell aa.out 0).trans rfl) (fun hHeld=>?_)
 generalize w6.drew=w7 at aa HB hHeld ⊢
 refine take_ (i:=0) (N:=some 6) (v:=?_) (a':=?_) #[true,false,false,false,false,false,false] rfl rfl kr (fun _ _ _ h=>h) (Or.inl ⟨by rfl,?_⟩) hHeld ?_ ?_
 rotate_left
 ·intro w' s0
  go_simp
  with_reducible rfl
 rotate_left
 ·simp only [Act.put,sIB,sc0,scs,i64_w,i32_w]
  rfl
 refine take_ (i:=2) (N:=some 8) (v:=?_) (a':=?_) #[true,false,true,false,false,false,false] rfl rfl kr (fun _ _ _ h=>h) (Or.inl ⟨by rfl,?_⟩) hHeld ?_ ?_
 rotate_left
 ·intro w' s0
  go_simp
  with_reducible rfl
 rotate_left
 ·simp only [Act.put,sIB,sc0,scs,i64_w,i32_w]
  rfl
 refine one_ (i:=1) (N:=some 7) #[true,true,true,false,false,false,false] rfl rfl kr dc (fun K hK=>?_)
 refine goes_ Try.func45 kr rfl #[.agg #[.slice A0_0 l0_0.length c0_0]] (by rfl) rfl rfl am ?_
 with_reducible refine (spec_l01Parents.calls k _ _ l0_0 ac _ ?side1 ?side2 A2.out).mono ?_
 (case side1=>exact pc (Kd.C_below av.out HB.out))
 (case side2=>exact aw.out)
 rintro e w8 ⟨az,rfl,ho0,hb⟩
 refine ⟨_,rfl,?_⟩
 have n0_:=lw ho0;have n1_:=bb aa hb;have n2_:=hbs hb;clear aa HB;have ag:=n0_;have aa:=n1_;have HB:=n2_;clear n0_ n1_ n2_;(try clear hb);(try clear hb2);(try clear hk);(try clear hi);(try clear ho0)
 refine hK.out _ _ ((blk_cell aa.out 0).trans rfl) (fun hHeld=>?_)
 clear hK K
 refine norm_ (a':=?_) ?_ ?_
 rotate_left
 ·show Act.put _ (some 7) _=_;simp only [Act.put,sIB,sc0,scs,i64_w,i32_w]
  rfl
 refine one_ (i:=3) (N:=some 9) #[true,true,true,true,false,false,false] rfl rfl kr dc (fun K hK=>?_)
 refine goes_ Try.func39 kr rfl #[.agg #[.slice A0_0 l0_0.length c0_0]] (by rfl) rfl rfl am ?_
 with_reducible refine (spec_l01N.calls _ _ l0_0 af _ ?side1 ?side2 A3.out).mono ?_
 (case side1=>exact pc (Kd.C_below av.out HB.out))
 (case side2=>exact aw.out)
 rintro e w9 ⟨rfl,hb⟩
 refine ⟨_,rfl,?_⟩
 have n0_:=rb ag hb;have n1_:=bb aa hb;have n2_:=hbs hb;clear ag aa HB;have ag:=n0_;have aa:=n1_;have HB:=n2_;clear n0_ n1_ n2_;(try clear hb);(try clear hb2);(try clear hk);(try clear hi)
 refine hK.out _ _ ((blk_cell aa.out 0).trans rfl) (fun hHeld=>?_)
 clear hK K
 refine norm_ (a':=?_) ?_ ?_
 rotate_left
 ·show Act.put _ (some 9) _=_;simp only [Act.put,sIB,sc0,scs,i64_w,i32_w]
  rfl
 refine pure_ (i:=5) (N:=some 3) (v:=?_) (a':=?_) #[true,true,true,true,false,true,false] rfl rfl kr (fun _ _ _ h=>h) (Or.inl ⟨by rfl,?_⟩) ?_ ?_
 rotate_left
 ·intro w'
  go_simp
  with_reducible rfl
 rotate_left
 ·simp only [Act.put,sIB,sc0,scs,i64_w,i32_w]
  rfl
 refine one_ (i:=4) (N:=some 10) #[true,true,true,true,true,true,false] rfl rfl kr dc (fun K hK=>?_)
 refine Kd.R_make_step (Kd.int .i64) _ 2 (by rfl) (N:=10) rfl 22 _ _ rfl af rfl rfl Try.underlying22 (.int .i64 0) 8 info2 rfl dc (by omega) 0 (ok:=fun _=>True) (okp:=fun _=>True) rfl (fun _ hk=>hk) trivial (od q2_0) (Nat.le_trans (Nat.mul_le_mul_right _ (od q2_0:af.toNat≤35184372088832)) (by omega)) (Below.refl _ _) (Nat.le_refl _) ?_
 intro aA w10 ho11 hb hg_ hnew_
 clear hg_ hnew_;(first|rw [← ay.out] at ho11|(simp only [Int.reduceToNat] at ho11;rw [← ay.out] at ho11));have n0_:=rn ag ho11 hb;have n1_:=lw (nw ho11 ag);have n2_:=bb aa hb;have n3_:=hbs hb;clear ag aa HB;have ag:=n0_;have aE:=n1_;have aa:=n2_;have HB:=n3_;clear n0_ n1_ n2_ n3_ hb ho11
 refine hK.out _ _ ((blk_cell aa.out 0).trans rfl) (fun hHeld=>?_)
 clear hK K
 refine norm_ (a':=?_) ?_ ?_
 rotate_left
 ·show Act.put _ (some 10) _=_;simp only [Act.put,sIB,sc0,scs,i64_w,i32_w]
  rfl
 refine pure_ (i:=6) (N:=some 4) (v:=?_) (a':=?_) #[true,true,true,true,true,true,true] rfl rfl kr (fun _ _ _ h=>h) (Or.inl ⟨by rfl,?_⟩) ?_ ?_
 rotate_left
 ·intro w'
  go_simp
  with_reducible rfl
 rotate_left
 ·simp only [Act.put,sIB,sc0,scs,i64_w,i32_w]
  rfl
 refine done_ kr ?_
 try go_wp2
 go_loopg [5] k (fun kq v5 w'=>∃ (ad:List Int) (ab:Int),v5=.int .i64 ab∧Aside0 (spec_l01Depths.l0 kq ac ad ab=some r)∧Aside0 (kq≤k)∧Aside0 (Kd.R (Kd.int .i64) 2 w' w.heap.size (fun k_=>some k_≠(aA:Value).ownBlock) az ac)∧Aside0 (Kd.R (Kd.int .i64) 2 w' w.heap.size (fun k_=>some k_≠(az:Value).ownBlock) aA ad)∧Aside0 (w'.heap[aj]?=some (.cells #[(.slice A0_0 l0_0.length c0_0)] 28 (0,0)))∧Aside0 (Below w.heap.size w w'))
 case atStart=>exact ⟨(ax),(1),q2_1,H',⟨Nat.le_refl _⟩,⟨pe (Kd.R_mono ag.out (fun _ hk=>hk.2))⟩,⟨pe (Kd.R_mono aE.out (fun _ hk=>hk.2))⟩,⟨pb aa.out⟩,⟨hq⟩⟩
 case round =>
  clear H';obtain ⟨ad,ab,rfl,HA,HK1,ah,ae,aa,HB⟩:=hrel
  cases gk with|zero=>exact absurd HA.out (by simp [spec_l01Depths.l0])|succ k1=>?_
  have H:=HA.out;clear HA;simp only [spec_l01Depths.l0] at H;obtain c12|c12:=nem (ab<(ad.length:Int))
  ·rw [if_neg c12] at H;have aF:=df c12;clear c12;obtain rfl:=Option.some.inj H;obtain ⟨aW,aX,aG⟩:=Kd.R_slice ae.out;subst aG;go_wp2
   go_ret
   exact ⟨_,ew,pe (Kd.R_mono ae.out (fun _ hk=>trivial)),hq⟩
  rw [if_pos c12] at H;have aF:=dt c12;clear c12;replace H:=ifs H;obtain ⟨c13,H⟩:=H;have aY:=dt c13;clear c13;replace H:=ifs H;obtain ⟨c14,H⟩:=H;have aZ:=dt c14;clear c14;replace H:=ifs H;obtain ⟨c15,H⟩:=H;have a1:=dt c15;clear c15;replace H:=ifs H;obtain ⟨c16,H⟩:=H;have a2:=dt c16;clear c16;obtain ⟨al,hY⟩:∃ y_:List Int,y_=(ad.set (ab:Int).toNat (wrap64 ((rd ad (rd ac ab))+1))):=⟨_,rfl⟩;replace H:(spec_l01Depths.l0 k1 ac al (wrap64 (ab+1)))=some r:=hh;have aH:=ak hY;clear hY;have H':=ak H;clear H;obtain ⟨a3,an,aI⟩:=Kd.R_slice ae.out;subst aI;obtain ⟨a4,aJ,aK⟩:=Kd.R_slice ah.out;subst aK;have ao:0≤(ab:Int):=od q2_0;have ap:ab<(ac.length:Int):=od q2_0;(try (obtain ⟨Aop_,cop_,eop_⟩:=Kd.R_slice ah.out;subst eop_));obtain ⟨aL,aM,a5⟩:=Kd.at_int (Kd.R_reads' ah.out).2.2 ab ao ap;cases aM;replace ao:=eq_true ao;replace ap:=eq_true ap;have aq:0≤((rd ac ab):Int):=od q2_0;have ar:(rd ac ab)<(ad.length:Int):=od q2_0;(try (obtain ⟨Aop_,cop_,eop_⟩:=Kd.R_slice ae.out;subst eop_));obtain ⟨a6,aN,aO⟩:=Kd.at_int (Kd.R_reads' ae.out).2.2 (rd ac ab) aq ar;cases aN;replace aq:=eq_true aq;replace ar:=eq_true ar;have p17:0≤(ab:Int):=od q2_0;have q17:(ab:Int)<((ad.length:Int):Int):=od q2_0;obtain ⟨ai,a7,aB,aC,gl17,cl17,aD⟩:=Kd.R_form ae.out (by omega);(first|cases aB|(injection aB with ea_ en_ ec_;(first|subst ea_|(injection ea_ with ea_;subst ea_));subst ec_;clear en_));have GB17:=ak aC;have a8:=ak aD;clear aC gl17 aD;(first|simp only [add_plain] at aO|skip);obtain ⟨a9,ba⟩:=Kd.R_celln 0 ae.out (ab:Int) p17 q17;replace p17:=eq_true p17;replace q17:=eq_true q17;have au:=Kd.R_putg ae.out (ab:Int) (wrap64 ((rd ad (rd ac ab))+1))
  go_wp2_with (first|((with_reducible refine gate_store (t:=2) (p:=27) rfl ?_);refine store_event (t:=2) (p:=27) (v:=?vo_w21) (w1:=(wr.setCell ⟨ai,(ab:Int).toNat,none⟩ (.int .i64 (wrap64 ((rd ad (rd ac ab))+1))))) ?hg ?ho ?hn ?hr ?_;(case ho=>rfl);(case hg=>rfl);(case hn=>rfl);(case hr=>exact gs);intro w21 hw;have hg:wr.grownBy w21 (some ai):=(by rw [hw];exact au.2);have hp_:Kd.R (Kd.int .i64) 2 w21 w.heap.size (fun k_=>some k_≠(.slice (some aL) ac.length aJ:Value).ownBlock) (.slice (some ⟨ai,0,none⟩) ad.length an) al:=(by rw [hw,aH.out];exact au.1);clear au;replace ah:=ak (Kd.R_after (v:=(.slice (some ⟨ai,0,none⟩) ad.length an)) (v1:=(.slice (some ⟨ai,0,none⟩) ad.length an)) (ok:=(fun _=>True)) (pe (Kd.R_mono ah.out (fun _ hk=>⟨trivial,hk⟩))) hg (.inl rfl));replace aa:=ak (blk_grown (g:=aj) (o:=.cells #[.slice A0_0 l0_0.length c0_0] 28 (0,0)) (pb aa.out) hg (Kd.R_ne ae.out aa.out dc));replace ae:=ak (hp_);replace HB:=ak (by rw [hw];exact below_set (HB.out) GB17.out:Below w.heap.size w w21);clear hg hw hp_))
  go_roundg k1
  case measure=>have:=HK1.out;omega
  case rel=>exact ⟨(al),(wrap64 (ab+1)),q2_1,H',⟨by have:=HK1.out;omega⟩,⟨pe (Kd.R_mono ah.out (fun _ hk=>hk.2))⟩,⟨pe ae.out⟩,⟨pb aa.out⟩,⟨hq⟩⟩
def spec_l08Half.f (a0:Int):Option (Int):=if a0<0 then (some (wrap64 (-(wrap64 (Int.tdiv (wrap64 (1 - a0)) 2))))) else (some (wrap64 (Int.tdiv a0 2)))
theorem spec_l08Half.calls (a0:Int) (r:Int) (w:World) (h:spec_l08Half.f a0=some r) :
  Calls Try.prog 41 #[.int .i64 a0] w fun e w'=>e=.returned (.int .i64 r)∧Drawn0 w w':=by
 have H:(if a0<0 then (some (wrap64 (-(wrap64 (Int.tdiv (wrap64 (1 - a0)) 2))))) else (some (wrap64 (Int.tdiv a0 2))))=some r:=h;clear h
 by_cases c2:a0<0
 ·rw [if_pos c2] at H;have aP:=dt c2;clear c2;obtain rfl:=Option.some.inj H
  go_enter Try.func41,Try.ntmps41
  go_wp2
  go_ret
  exact ⟨q2_1,by repeat (first|exact Drawn0.refl _|apply Drawn0.step)⟩
 rw [if_neg c2] at H;have aP:=df c2;clear c2;obtain rfl:=Option.some.inj H
 go_enter Try.func41,Try.ntmps41
 go_wp2
 go_ret
 exact ⟨q2_1,by repeat (first|exact Drawn0.refl _|apply Drawn0.step)⟩
end Go.Proofs.Ytimfbpmaepmdoaa.QFnDrawings
