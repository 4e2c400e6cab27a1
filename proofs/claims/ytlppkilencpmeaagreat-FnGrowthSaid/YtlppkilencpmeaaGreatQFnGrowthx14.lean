/- Functions as Lean functions, with their contracts: written by a program of this claim over the translation; some contracts are proved by hand. -/
import Derived.Test.YtlppkilencpmeaaGreatQFnGrowthx0
import Derived.Test.YtlppkilencpmeaaGreatQFnGrowthx11
import Derived.Test.YtlppkilencpmeaaGreatQFnGrowthx13
namespace Go.Proofs.YtlppkilencpmeaaGreat.QFnGrowth
open Go.RowKit Go.Proofs.YtlppkilencpmeaaGreat.Gl Go.Proofs.YtlppkilencpmeaaGreat.Sz Go.Proofs.YtlppkilencpmeaaGreatW.PrintWords Go.Proofs.YtlppkilencpmeaaGreatW.PrintLast Go.Proofs.YtlppkilencpmeaaGreatW.PrintMore
attribute [local go_sem] max2_int min2_int max_two min_two max_three min_three max_four min_four   -- for this text's walks alone
set_option linter.unusedVariables false
set_option linter.unusedSimpArgs false
theorem q14_0 {P:Prop} (h:P:=by first|(with_reducible assumption)|assumption):P:=h
theorem q14_1 {P:Prop} (h:P:=by first|rfl|(simp;done)|(simp [*];done)):P:=h
set_option maxHeartbeats 8000000
set_option maxRecDepth 100000
def spec_l03Is.f (k:Nat) (a0:ByteArray):Option (Bool):=if (a0.size:Int)≤47 then ((spec_l03End.f k a0 0).bind fun t500=>(some (t500 == (a0.size:Int)))) else (some false)
theorem spec_l03Is.calls (k:Nat) (a0:ByteArray) (r:Bool) (w:World) (h:spec_l03Is.f k a0=some r) :
  Calls Tryz.prog 74 #[.string a0] w fun e w'=>e=.returned (.bool r)∧Drawn0 w w':=by
 have H:(if (a0.size:Int)≤47 then ((spec_l03End.f k a0 0).bind fun aE=>(some (aE == (a0.size:Int)))) else (some false))=some r:=h;clear h;obtain c2|c2:=nem ((a0.size:Int)≤47)
 ·rw [if_neg c2] at H;have a6:=df c2;have a7:decide (a0.size≤47)=false:=decide_eq_false (by omega);clear c2;obtain rfl:=Option.some.inj H
  go_enter Tryz.func74,Tryz.ntmps74
  go_wp2
  go_ret
  exact ⟨q14_1,by repeat (first|exact Drawn0.refl _|apply Drawn0.step)⟩
 rw [if_pos c2] at H;have a6:=dt c2;have a7:decide (a0.size≤47)=true:=decide_eq_true (by omega);clear c2;replace H:=bs H;obtain ⟨aE,A3,H⟩:=H;(try dsimp only at H);obtain rfl:=Option.some.inj H
 go_enter Tryz.func74,Tryz.ntmps74
 go_wp2_with (first|(go_at_call 113;(with_reducible refine (spec_l03End.calls k a0 0 aE _ A3.out).mono ?_);rintro e w' ⟨rfl,⟨nd,rfl⟩⟩))
 go_ret
 exact ⟨q14_1,by repeat (first|exact Drawn0.refl _|apply Drawn0.step)⟩
def spec_l03N.f (a0:ByteArray):Option (Int):=some (wrap64 ((a0.size:Int) / 2))
theorem spec_l03N.calls (a0:ByteArray) (r:Int) (w:World) (h:spec_l03N.f a0=some r) :
  Calls Tryz.prog 115 #[.string a0] w fun e w'=>e=.returned (.int .i64 r)∧Drawn0 w w':=by
 have H:(some (wrap64 ((a0.size:Int) / 2)))=some r:=h;clear h;obtain rfl:=Option.some.inj H
 go_enter Tryz.func115,Tryz.ntmps115
 go_wp2
 go_ret
 exact ⟨q14_1,by repeat (first|exact Drawn0.refl _|apply Drawn0.step)⟩
def spec_l09List.f:Nat→ByteArray→Int→Option (List Int)
 | 0,_,_=>none
 | k+1,a0,a1=>if a0.toList=([48]:List UInt8) then (some ([]:List Int)) else ((spec_l03Sides.f k a0).bind fun bt504=>((spec_l03N.f bt504.2).bind fun t506=>((spec_l09List.f k bt504.1 (wrap64 (a1+t506))).bind fun t507=>((spec_l03N.f a0).bind fun t510=>(if t507.length<17592186044416 then ((some (t507++[wrap64 ((wrap64 (a1+t510)) - 1)]:List Int)).bind fun y511=>((spec_l09List.f k bt504.2 a1).bind fun t514=>(if y511.length+t514.length<17592186044416 then (some (y511++t514)) else (none)))) else (none))))))
theorem spec_l09List.calls (k:Nat):∀ (a0:ByteArray) (a1:Int) (r:List Int) (w:World) (h:spec_l09List.f k a0 a1=some r),
  Calls Tryz.prog 75 #[.string a0,.int .i64 a1] w fun e w'=>∃ v0_:Value,e=.returned (v0_)∧Kd.R (Kd.int .i64) 2 w' w.heap.size (fun _=>True) v0_ r∧Below w.heap.size w w':=by
 induction k using Nat.strongRecOn with
 | _ k ih =>
 intro a0 a1 r w h
 cases k with
 | zero=>exact absurd h (by simp [spec_l09List.f])
 | succ k =>
 simp only [spec_l09List.f] at h;have HB:=ak (Below.refl w.heap.size w);have H:(if a0.toList=([48]:List UInt8) then (some ([]:List Int)) else ((spec_l03Sides.f k a0).bind fun aG=>((spec_l03N.f aG.2).bind fun aw=>((spec_l09List.f k aG.1 (wrap64 (a1+aw))).bind fun aq=>((spec_l03N.f a0).bind fun ar=>(if aq.length<17592186044416 then ((some (aq++[wrap64 ((wrap64 (a1+ar)) - 1)]:List Int)).bind fun ao=>((spec_l09List.f k aG.2 a1).bind fun ai=>(if ao.length+ai.length<17592186044416 then (some (ao++ai)) else (none)))) else (none)))))))=some r:=h;clear h
 by_cases c3:a0.toList=([48]:List UInt8)
 ·rw [if_pos c3] at H;have aV:(a0.toList == ([48]:List UInt8))=true:=beq_iff_eq.mpr c3;have aW:(a0.toList != ([48]:List UInt8))=false:=bne_eq_false_iff_eq.mpr c3;clear c3;obtain ⟨a8,hY⟩:∃ y_:List Int,y_=([]:List Int):=⟨_,rfl⟩;replace H:(some a8)=some r:=hh;have aX:=ak hY;clear hY;obtain rfl:=Option.some.inj H
  go_enter Tryz.func75,Tryz.ntmps75
  go_wp2_with (first|((with_reducible refine gate_dst (N:=11) rfl ?_);refine Kd.R_lit (Kd.int .i64) _ 2 ?hg (N:=11) ?hd (xs:=([]:List Int)) (inner:=[]) (ok:=fun _=>True) (okp:=fun _=>True) ?hr ?hp (fun _ hk=>hk) trivial (Below.refl _ _) (Nat.le_refl _) (by simp) ?_;(case hd=>rfl);(case hg=>rfl);(case hr=>exact gs);(case hp=>exact (Reps.none _ _));intro bD w4 ho5 hb hg_ hnew_;clear hg_ hnew_;(first|rw [← aX.out] at ho5|(simp only [Int.reduceToNat] at ho5;rw [← aX.out] at ho5));have a9:=lw ho5;replace HB:=hbs hb;clear hb ho5))
  go_ret
  exact ⟨_,ew,pe a9.out,hq⟩
 rw [if_neg c3] at H;have aV:(a0.toList == ([48]:List UInt8))=false:=beq_eq_false_iff_ne.mpr c3;have aW:(a0.toList != ([48]:List UInt8))=true:=bne_iff_ne.mpr c3;replace H:=bs H;obtain ⟨⟨aH,au⟩,A6,H⟩:=H;(try dsimp only at H);replace H:=bs H;obtain ⟨aw,A7,H⟩:=H;(try dsimp only at H);replace H:=bs H;obtain ⟨aq,A8,H⟩:=H;(try dsimp only at H);replace H:=bs H;obtain ⟨ar,A9,H⟩:=H;(try dsimp only at H);replace H:=ifs H;obtain ⟨c10,H⟩:=H;have ba:=ak c10;clear c10;obtain ⟨ao,hY⟩:∃ y_:List Int,y_=(aq++[wrap64 ((wrap64 (a1+ar)) - 1)]):=⟨_,rfl⟩;replace H:((spec_l09List.f k au a1).bind fun ai=>(if ao.length+ai.length<17592186044416 then (some (ao++ai)) else (none)))=some r:=hh;have bd:=ak hY;clear hY;replace H:=bs H;obtain ⟨ai,A11,H⟩:=H;(try dsimp only at H);replace H:=ifs H;obtain ⟨c12,H⟩:=H;have bf:=ak c12;clear c12;obtain ⟨bg,hY⟩:∃ y_:List Int,y_=(ao++ai):=⟨_,rfl⟩;replace H:(some bg)=some r:=hh;have bh:=ak hY;clear hY;obtain rfl:=Option.some.inj H
 go_enter Tryz.func75,Tryz.ntmps75
 go_wp2_with (first|((with_reducible refine gate_callee (f:=114) rfl ?_);refine gl (some 14) Tryz.func114 #[.string a0] ?_;(with_reducible refine (spec_l03Sides.calls k a0 aH au _ A6.out).mono ?_);rintro e w' ⟨rfl,⟨nd,rfl⟩⟩;refine ⟨_,rfl,?_⟩)|((with_reducible refine gate_callee (f:=115) rfl ?_);refine gl (some 20) Tryz.func115 #[.string au] ?_;(with_reducible refine (spec_l03N.calls au aw _ A7.out).mono ?_);rintro e w' ⟨rfl,⟨nd,rfl⟩⟩;refine ⟨_,rfl,?_⟩)|((with_reducible refine gate_callee (f:=75) rfl ?_);refine gl (some 22) Tryz.func75 #[.string aH,.int .i64 (wrap64 (a1+aw))] ?_;(with_reducible refine (ih k (by omega) aH (wrap64 (a1+aw)) aq _ A8.out).mono ?_);rintro e w13 ⟨bi,rfl,ho0,hb⟩;refine ⟨_,rfl,?_⟩;have aY:=lw ho0;replace HB:=hbs hb;(try clear hb ho0))|((with_reducible refine gate_callee (f:=115) rfl ?_);refine gl (some 26) Tryz.func115 #[.string a0] ?_;(with_reducible refine (spec_l03N.calls a0 ar _ A9.out).mono ?_);rintro e w' ⟨rfl,⟨nd,rfl⟩⟩;refine ⟨_,rfl,?_⟩)|((with_reducible refine gate_builtin (b:=.append) (xs:=#[.tmp 23,.tmp 29]) rfl ?_);at_builtin;refine Kd.R_append (Kd.int .i64) (w0:=w) w.heap.size rfl (.tmp 23) (.tmp 29) 24 2 (.int .i64 0) 8 rfl Tryz.underlying24 info2 rfl dc (by omega) bi aq (wrap64 ((wrap64 (a1+ar)) - 1)) [.int .i64 (wrap64 ((wrap64 (a1+ar)) - 1))] (fun _=>True) (fun _=>False) rfl rfl ?aP (fun _ hk=>hk.elim) ?aF ?aO ?aB ?aS ?aL ?_;(case aP=>exact rfl);(case aB=>exact hq);(case aF=>exact (fun _ _=>trivial));(case aO=>exact (pe aY.out));(case aS=>exact (below_size hq));(case aL=>have:=ba.out;omega);intro bj w14 ho hb hg hat;rw [← bd.out] at ho;replace HB:=ak (hb);have ax:=ak (ho);clear aY;clear ho hb hg hat)|((with_reducible refine gate_callee (f:=75) rfl ?_);refine gl (some 34) Tryz.func75 #[.string au,.int .i64 a1] ?_;(with_reducible refine (ih k (by omega) au a1 ai _ A11.out).mono ?_);rintro e w15 ⟨bE,rfl,ho0,hb⟩;refine ⟨_,rfl,?_⟩;have ay:=lw (nw ho0 ax);replace ax:=rn ax ho0 hb;replace HB:=hbs hb;(try clear hb);(try clear hb2);(try clear hk);(try clear hi);(try clear ho0);obtain ⟨bk,bl,bm⟩:=Kd.R_slice ay.out;subst bm)|((with_reducible refine gate_builtin (b:=.append) (xs:=#[.tmp 31,.tmp 34]) rfl ?_);at_builtin;refine Kd.R_append_rows (Kd.int .i64) (w0:=w) w.heap.size rfl (.tmp 31) (.tmp 34) 24 2 (.int .i64 0) 8 rfl Tryz.underlying24 info2 rfl dc (by omega) bj ao ai _ _ _ (fun k_=>some k_≠(.slice bk ai.length bl:Value).ownBlock) (fun _=>False) rfl rfl ?aO ?aR (fun _ _ h=>h) (fun _ h=>h.elim) ?aF ?aB ?aS ?aL ?_;(case aR=>exact pc ((Kd.R_reads' ay.out).2.2));(case aB=>exact hq);(case aF=>exact (fun k_ hk=>Kd.fresh' (Kd.R_lt (pe ay.out)) k_ hk));(case aO=>exact (pe (Kd.R_mono ax.out (fun _ hk=>hk.2))));(case aS=>exact (below_size hq));(case aL=>have:=bf.out;omega);intro bF w16 ho hb hg hat;rw [← bh.out] at ho;replace ay:=ak (Kd.R_after (ok:=(fun _=>True)) (pe ay.out) hg hat);replace HB:=ak (hb);have bo:=ak (ho);clear ax;clear ho hb hg hat))
 go_ret
 exact ⟨_,ew,pe (Kd.R_mono bo.out (fun _ hk=>trivial)),hq⟩
def spec_ListOfDecreasing.f (k:Nat) (a0:ByteArray):Option (List Int × Int):=(spec_l03Is.f k a0).bind fun t520=>(if t520=true then ((spec_l09List.f k a0 0).bind fun t521=>(some (t521,0))) else (some (([]:List Int),1)))
theorem spec_ListOfDecreasing.calls (k:Nat) (a0:ByteArray) (r1:List Int) (r2:Int) (w:World) (h:spec_ListOfDecreasing.f k a0=some (r1,r2)) :
  Calls Tryz.prog 19 #[.string a0] w fun e w'=>∃ v0_:Value,e=.returned (.tuple #[v0_,.int .i64 r2])∧Kd.R (Kd.int .i64) 2 w' w.heap.size (fun _=>True) v0_ r1∧Below w.heap.size w w':=by
 have HB:=ak (Below.refl w.heap.size w);have H:((spec_l03Is.f k a0).bind fun aI=>(if aI=true then ((spec_l09List.f k a0 0).bind fun az=>(some (az,0))) else (some (([]:List Int),1))))=some (r1,r2):=h;clear h;replace H:=bs H;obtain ⟨aI,A2,H⟩:=H;(try dsimp only at H);obtain c3|c3:=nem (aI=true)
 ·replace c3:=Bool.eq_false_iff.mpr c3;subst c3;have H1:(some (([]:List Int),1))=some (r1,r2):=by rw [if_neg (show ¬ (false=true) by decide)] at H;exact H
  clear H;have H:=H1;clear H1;simp only [Option.some.injEq,Prod.mk.injEq] at H;obtain ⟨rfl,rfl⟩:=H
  go_enter Tryz.func19,Tryz.ntmps19
  go_wp2_with (first|((with_reducible refine gate_callee (f:=74) rfl ?_);refine gl (some 5) Tryz.func74 #[.string a0] ?_;(with_reducible refine (spec_l03Is.calls k a0 false _ A2.out).mono ?_);rintro e w' ⟨rfl,⟨nd,rfl⟩⟩;refine ⟨_,rfl,?_⟩))
  go_ret2
  exact ⟨_,ew,by first|exact Kd.R_nil _ _ _ _ _|exact Kd.N_nil _ _ _ _ _|exact Kd.V_nil _ _ _ _ _|exact Kd.Q_nil _ _ _ _ _|exact Kd.S_nil _ _ _ _ _,hq⟩
 subst c3;replace H:((spec_l09List.f k a0 0).bind fun az=>(some (az,0)))=some (r1,r2):=by rw [if_pos rfl] at H;exact H
 replace H:=bs H;obtain ⟨az,A4,H⟩:=H;(try dsimp only at H);simp only [Option.some.injEq,Prod.mk.injEq] at H;obtain ⟨rfl,rfl⟩:=H
 go_enter Tryz.func19,Tryz.ntmps19
 go_wp2_with (first|((with_reducible refine gate_callee (f:=74) rfl ?_);refine gl (some 5) Tryz.func74 #[.string a0] ?_;(with_reducible refine (spec_l03Is.calls k a0 true _ A2.out).mono ?_);rintro e w' ⟨rfl,⟨nd,rfl⟩⟩;refine ⟨_,rfl,?_⟩)|((with_reducible refine gate_callee (f:=75) rfl ?_);refine gl (some 8) Tryz.func75 #[.string a0,.int .i64 0] ?_;(with_reducible refine (spec_l09List.calls k a0 0 az _ A4.out).mono ?_);rintro e w5 ⟨bG,rfl,ho0,hb⟩;refine ⟨_,rfl,?_⟩;have bp:=lw ho0;replace HB:=hbs hb;(try clear hb ho0)))
 go_ret2
 exact ⟨_,ew,pe bp.out,hq⟩
def spec_l01N.f (l0_0:List Int):Option (Int):=some (l0_0.length:Int)
theorem spec_l01N.calls (A0_0:Option Addr) (c0_0:Nat) (l0_0:List Int) (r:Int) (w:World) (hr0_0:Kd.C (Kd.int .i64) w A0_0 l0_0.length l0_0) (hc0_0:l0_0.length≤c0_0) (h:spec_l01N.f l0_0=some r) :
  Calls Tryz.prog 80 #[.agg #[.slice A0_0 l0_0.length c0_0]] w fun e w'=>e=.returned (.int .i64 r)∧Below w.heap.size w w':=by
 have hu27:=Tryz.underlying27;have aA:=ak hr0_0;have aC:=ak hc0_0;clear hr0_0 hc0_0;have HB:=ak (Below.refl w.heap.size w);have H:(some (l0_0.length:Int))=some r:=h;clear h;obtain rfl:=Option.some.inj H
 go_enter Tryz.func80,Tryz.ntmps80
 go_wp2_with (first|((with_reducible refine gate_dst (N:=1) rfl ?_);refine bev (N:=1) (cs:=#[.slice A0_0 l0_0.length c0_0]) (t:=27) ?_;intro bH hg w2 hbox hb;have aZ:=ak (hbox);have bI:=gbe hg;have bJ:=gbe hg;replace HB:=hbs hb;clear hb hbox hg;have bK:=bc aZ.out;have bL:=blk_frozen aZ.out 0))
 go_ret
 exact ⟨ew,hq⟩
mutual
def spec_l01Parents.l0:Nat→List Int→Int→List Int→Option (List Int)
 | 0,_,_,_=>none
 | k+1,x3,x4,x526000=>(spec_l01N.f x526000).bind fun t531=>(if x4<t531 then ((spec_l01Children.f k x526000 x4).bind fun t532=>(spec_l01Parents.l1 k x3 x4 t532 0 x526000)) else (some x3))
def spec_l01Parents.l1:Nat→List Int→Int→List Int→Int→List Int→Option (List Int)
 | 0,_,_,_,_,_=>none
 | k+1,x3,x4,x5,x6,x526000=>if x6<(x5.length:Int) then (if 0≤x6 then (if 0≤(rd x5 x6) then (if (rd x5 x6)<(x3.length:Int) then (spec_l01Parents.l1 k (x3.set ((rd x5 x6):Int).toNat x4) x4 x5 (wrap64 (x6+1)) x526000) else (none)) else (none)) else (none)) else (spec_l01Parents.l0 k x3 (wrap64 (x4+1)) x526000)
end
def spec_l01Parents.f (k:Nat) (l0_0:List Int):Option (List Int):=(spec_l01N.f l0_0).bind fun t526=>(if 0≤t526 then (if (t526:Int).toNat≤35184372088832 then ((some (List.replicate (t526:Int).toNat 0:List Int)).bind fun y527=>(if 0<(y527.length:Int) then (spec_l01Parents.l0 k (y527.set (0:Int).toNat (-1)) 0 l0_0) else (none))) else (none)) else (none))
theorem spec_l01Parents.calls (k:Nat) (A0_0:Option Addr) (c0_0:Nat) (l0_0:List Int) (r:List Int) (w:World) (hr0_0:Kd.C (Kd.int .i64) w A0_0 l0_0.length l0_0) (hc0_0:l0_0.length≤c0_0) (h:spec_l01Parents.f k l0_0=some r) :
  Calls Tryz.prog 79 #[.agg #[.slice A0_0 l0_0.length c0_0]] w fun e w'=>∃ v0_:Value,e=.returned (v0_)∧Kd.R (Kd.int .i64) 2 w' w.heap.size (fun _=>True) v0_ r∧Below w.heap.size w w':=by
 have hu27:=Tryz.underlying27;have aA:=ak hr0_0;have aC:=ak hc0_0;clear hr0_0 hc0_0;have HB:=ak (Below.refl w.heap.size w);have H:((spec_l01N.f l0_0).bind fun aj=>(if 0≤aj then (if (aj:Int).toNat≤35184372088832 then ((some (List.replicate (aj:Int).toNat 0:List Int)).bind fun ag=>(if 0<(ag.length:Int) then (spec_l01Parents.l0 k (ag.set (0:Int).toNat (-1)) 0 l0_0) else (none))) else (none)) else (none)))=some r:=h;clear h;replace H:=bs H;obtain ⟨aj,A2,H⟩:=H;(try dsimp only at H);replace H:=ifs H;obtain ⟨c3,H⟩:=H;have aV:=eq_true c3;have aW:decide (0≤aj)=true:=decide_eq_true c3;clear c3;replace H:=ifs H;obtain ⟨c4,H⟩:=H;have bM:=eq_true c4;have bN:decide ((aj:Int).toNat≤35184372088832)=true:=decide_eq_true c4;clear c4;obtain ⟨ag,hY⟩:∃ y_:List Int,y_=(List.replicate (aj:Int).toNat 0):=⟨_,rfl⟩;replace H:(if 0<(ag.length:Int) then (spec_l01Parents.l0 k (ag.set (0:Int).toNat (-1)) 0 l0_0) else (none))=some r:=hh;have a2:=ak hY;clear hY;replace H:=ifs H;obtain ⟨c5,H⟩:=H;have bO:=dt c5;have bP:decide (0<ag.length)=true:=decide_eq_true (by omega);clear c5;obtain ⟨aJ,hY⟩:∃ y_:List Int,y_=(ag.set (0:Int).toNat (-1)):=⟨_,rfl⟩;replace H:(spec_l01Parents.l0 k aJ 0 l0_0)=some r:=hh;have bq:=ak hY;clear hY;have H':=ak H;clear H
 go_enter Tryz.func79,Tryz.ntmps79
 go_wp2_with (first|((with_reducible refine gate_dst (N:=1) rfl ?_);refine bev (N:=1) (cs:=#[.slice A0_0 l0_0.length c0_0]) (t:=27) ?_;intro aD hg w7 hbox hb;have aa:=ak (hbox);have bQ:=gbe hg;have bR:=gbe hg;replace HB:=hbs hb;clear hb hbox hg;have bS:=bc aa.out;have bT:=blk_frozen aa.out 0)|((with_reducible refine gate_callee (f:=80) rfl ?_);refine gl (some 8) Tryz.func80 #[.agg #[.slice A0_0 l0_0.length c0_0]] ?_;(with_reducible refine (spec_l01N.calls _ _ l0_0 aj _ (pc (Kd.C_below aA.out HB.out)) aC.out A2.out).mono ?_);rintro e w9 ⟨rfl,hb⟩;refine ⟨_,rfl,?_⟩;replace aa:=bb aa hb;replace HB:=hbs hb;(try clear hb))|((with_reducible refine gate_dst (N:=9) rfl ?_);refine Kd.R_make (Kd.int .i64) _ 2 rfl (N:=9) rfl 24 _ _ rfl aj rfl rfl Tryz.underlying24 (.int .i64 0) 8 info2 rfl dc (by omega) 0 (ok:=fun _=>True) (okp:=fun _=>True) rfl (fun _ hk=>hk) trivial (od q14_0) (Nat.le_trans (Nat.mul_le_mul_right _ (od q14_0:aj.toNat≤35184372088832)) (by omega)) (Below.refl _ _) (Nat.le_refl _) ?_;intro bU w10 ho11 hb hg_ hnew_;clear hg_ hnew_;(first|rw [← a2.out] at ho11|(simp only [Int.reduceToNat] at ho11;rw [← a2.out] at ho11));have ap:=lw ho11;replace aa:=bb aa hb;replace HB:=hbs hb;clear hb ho11;have p6:0≤(0:Int):=(by omega);have q6:(0:Int)<((ag.length:Int):Int):=od q14_0;have qi6:(0<ag.length)=True:=eq_true (by omega);obtain ⟨go6,co6,eo6,gb6,gl6,cl6,HG6⟩:=Kd.R_form ap.out (by omega);(first|cases eo6|(injection eo6 with ea_ en_ ec_;(first|subst ea_|(injection ea_ with ea_;subst ea_));subst ec_;clear en_));have GB6:=ak gb6;have GG6:=ak HG6;clear gb6 gl6 HG6;obtain ⟨a3,a4⟩:=Kd.R_celln 0 ap.out (0:Int) p6 q6;(try rw [show (0:Int).toNat=0 from rfl] at a3);(try simp only [Nat.reduceMul,Nat.zero_mul,Nat.zero_add,Nat.reduceAdd] at a3);(try rw [show (0:Int).toNat=0 from rfl] at a4);(try simp only [Nat.reduceMul,Nat.zero_mul,Nat.zero_add,Nat.reduceAdd] at a4);replace p6:=eq_true p6;replace q6:=eq_true q6;obtain ⟨hy12_,hz12_⟩:=Kd.R_celln 0 ap.out (0:Int) (by omega) (od q14_0);(try simp only [Int.reduceToNat,Int.toNat_zero,Int.toNat_ofNat,Nat.reduceMul,Nat.zero_mul,Nat.zero_add] at hy12_ hz12_);(try rw [show (0:Int).toNat=0 from rfl] at hy12_);(try rw [show (0:Int).toNat=0 from rfl] at hz12_);have aK:=Kd.R_putg ap.out (0:Int) (-1))|((with_reducible refine gate_store (t:=2) (p:=11) rfl ?_);refine store_event (t:=2) (p:=11) (v:=?vo_w13) (w1:=(w10.setCell ⟨go6,(0:Int).toNat,none⟩ (.int .i64 (-1)))) ?hg ?ho ?hn ?hr ?_;(case ho=>rfl);(case hg=>rfl);(case hn=>rfl);(case hr=>exact gs);intro w13 hw;have hg:w10.grownBy w13 (some go6):=(by rw [hw];exact aK.2);have hp_:Kd.R (Kd.int .i64) 2 w13 w.heap.size (fun _=>True) (.slice (some ⟨go6,0,none⟩) ag.length co6) aJ:=(by rw [hw,bq.out];exact aK.1);clear aK;replace aa:=ak (blk_grown (g:=aD) (o:=.cells #[.slice A0_0 l0_0.length c0_0] 27 (0,0)) (pb aa.out) hg (Kd.R_ne ap.out aa.out dc));replace ap:=ak (hp_);replace HB:=ak (by rw [hw];exact below_set (HB.out) GB6.out:Below w.heap.size w w13);clear hg hw hp_))
 go_loopg [4] k (fun kq v4 w'=>∃ (av:List Int) (ae:Int),v4=.int .i64 ae∧Aside0 (spec_l01Parents.l0 kq av ae l0_0=some r)∧Aside0 (kq≤k)∧Aside0 (Kd.R (Kd.int .i64) 2 w' w.heap.size (fun _=>True) (.slice (some ⟨go6,0,none⟩) ag.length co6) av)∧Aside0 (w'.heap[aD]?=some (.cells #[(.slice A0_0 l0_0.length c0_0)] 27 (0,0)))∧Aside0 (Below w.heap.size w w'))
 case atStart=>exact ⟨(aJ),(0),q14_1,H',⟨Nat.le_refl _⟩,⟨pe ap.out⟩,⟨pb aa.out⟩,⟨hq⟩⟩
 case round =>
  clear H';obtain ⟨av,ae,rfl,HA,HK1,ab,aa,HB⟩:=hrel;have af:=(Kd.R_reads' ab.out).1;rw [af] at ab;(try simp only [af]);(try simp only [af] at aa)
  cases gk with|zero=>exact absurd HA.out (by simp [spec_l01Parents.l0])|succ k1=>?_
  have H:=HA.out;clear HA;simp only [spec_l01Parents.l0] at H;replace H:=bs H;obtain ⟨aM,A14,H⟩:=H;(try dsimp only at H);obtain c15|c15:=nem (ae<aM)
  ·rw [if_neg c15] at H;have br:=df c15;clear c15;obtain rfl:=Option.some.inj H;have bV:=bc aa.out;have bW:=blk_frozen aa.out 0
   go_wp2_with (first|((with_reducible refine gate_callee (f:=80) rfl ?_);refine gl (some 14) Tryz.func80 #[.agg #[.slice A0_0 l0_0.length c0_0]] ?_;(with_reducible refine (spec_l01N.calls _ _ l0_0 aM _ (pc (Kd.C_below aA.out HB.out)) aC.out A14.out).mono ?_);rintro e w31 ⟨rfl,hb⟩;refine ⟨_,rfl,?_⟩;replace ab:=rb ab hb;replace aa:=bb aa hb;replace HB:=hbs hb;(try clear hb)))
   go_ret
   exact ⟨_,ew,pe ab.out,hq⟩
  rw [if_pos c15] at H;have br:=dt c15;clear c15;replace H:=bs H;obtain ⟨ad,A16,H⟩:=H;(try dsimp only at H);have H':=ak H;clear H;have bX:=bc aa.out;have bY:=blk_frozen aa.out 0
  go_wp2_with (first|((with_reducible refine gate_callee (f:=80) rfl ?_);refine gl (some 14) Tryz.func80 #[.agg #[.slice A0_0 l0_0.length c0_0]] ?_;(with_reducible refine (spec_l01N.calls _ _ l0_0 aM _ (pc (Kd.C_below aA.out HB.out)) aC.out A14.out).mono ?_);rintro e w18 ⟨rfl,hb⟩;refine ⟨_,rfl,?_⟩;replace ab:=rb ab hb;replace aa:=bb aa hb;replace HB:=hbs hb;(try clear hb);(try clear hb2);(try clear hk);(try clear hi);have bZ:=bc aa.out;have b0:=blk_frozen aa.out 0)|((with_reducible refine gate_callee (f:=81) rfl ?_);refine gl (some 20) Tryz.func81 #[.agg #[.slice A0_0 l0_0.length c0_0],.int .i64 ae] ?_;(with_reducible refine (spec_l01Children.calls k1 _ _ l0_0 ae ad _ (pc (Kd.C_below aA.out HB.out)) aC.out A16.out).mono ?_);rintro e w20 ⟨a5,rfl,ho0,hb⟩;refine ⟨_,rfl,?_⟩;have bu:=lw (nw ho0 ab);replace ab:=rn ab ho0 hb;replace aa:=bb aa hb;replace HB:=hbs hb;(try clear hb ho0)))
  go_loopg [6] k1 (fun kq v6 w'=>∃ (al:List Int) (ac:Int),v6=.int .i64 ac∧Aside0 (spec_l01Parents.l1 kq al ae ad ac l0_0=some r)∧Aside0 (kq≤k1)∧Aside0 (Kd.R (Kd.int .i64) 2 w' w.heap.size (fun k_=>some k_≠(a5:Value).ownBlock) (.slice (some ⟨go6,0,none⟩) av.length co6) al)∧Aside0 (Kd.R (Kd.int .i64) 2 w' w.heap.size (fun k_=>some k_≠((.slice (some ⟨go6,0,none⟩) av.length co6):Value).ownBlock) a5 ad)∧Aside0 (w'.heap[aD]?=some (.cells #[(.slice A0_0 l0_0.length c0_0)] 27 (0,0)))∧Aside0 (Below w.heap.size w w'))
  case atStart=>exact ⟨(av),(0),q14_1,H',⟨Nat.le_refl _⟩,⟨by (try simp only [af]);exact pe (Kd.R_mono ab.out (fun _ hk=>hk.2))⟩,⟨by (try simp only [af]);exact pe (Kd.R_mono bu.out (fun _ hk=>hk.2))⟩,⟨by (try simp only [af]);exact pb aa.out⟩,⟨hq⟩⟩
  case round =>
   clear H';obtain ⟨al,ac,rfl,HA,HK2,ab,an,aa,HB⟩:=hrel;have ah:=(Kd.R_reads' ab.out).1;rw [ah] at ab;(try simp only [ah]);(try simp only [ah] at aa);(try simp only [ah] at an)
   cases gk with|zero=>exact absurd HA.out (by simp [spec_l01Parents.l1])|succ k2=>?_
   have H:=HA.out;clear HA;simp only [spec_l01Parents.l1] at H;obtain c21|c21:=nem (ac<(ad.length:Int))
   ·rw [if_neg c21] at H;have bv:=df c21;clear c21;have H':=ak H;clear H;obtain ⟨b1,b2,bw⟩:=Kd.R_slice an.out;subst bw;go_wp2;(try simp only [← af,← ah])
    go_roundg k2
    case measure=>have:=HK1.out;have:=HK2.out;omega
    case rel=>exact ⟨(al),(wrap64 (ae+1)),q14_1,H',⟨by have:=HK1.out;have:=HK2.out;omega⟩,⟨by (try simp only [af]);(try simp only [ah]);exact pe (Kd.R_mono ab.out (fun _ hk=>trivial))⟩,⟨by (try simp only [af]);(try simp only [ah]);exact pb aa.out⟩,⟨hq⟩⟩
   rw [if_pos c21] at H;have bv:=dt c21;clear c21;replace H:=ifs H;obtain ⟨c22,H⟩:=H;have b3:=dt c22;clear c22;replace H:=ifs H;obtain ⟨c23,H⟩:=H;have b4:=dt c23;clear c23;replace H:=ifs H;obtain ⟨c24,H⟩:=H;have b5:=dt c24;clear c24;obtain ⟨aN,hY⟩:∃ y_:List Int,y_=(al.set ((rd ad ac):Int).toNat ae):=⟨_,rfl⟩;replace H:(spec_l01Parents.l1 k2 aN ae ad (wrap64 (ac+1)) l0_0)=some r:=hh;have bx:=ak hY;clear hY;have H':=ak H;clear H;obtain ⟨b6,bz,bA⟩:=Kd.R_slice an.out;subst bA;have aQ:0≤(ac:Int):=od q14_0;have aT:ac<(ad.length:Int):=od q14_0;(try (obtain ⟨Aop_,cop_,eop_⟩:=Kd.R_slice an.out;subst eop_));obtain ⟨bB,bC,b7⟩:=Kd.at_int (Kd.R_reads' an.out).2.2 ac aQ aT;cases bC;replace aQ:=eq_true aQ;replace aT:=eq_true aT;have p25:0≤((rd ad ac):Int):=od q14_0;have q25:((rd ad ac):Int)<((al.length:Int):Int):=od q14_0;obtain ⟨b8,b9⟩:=Kd.R_celln 0 ab.out ((rd ad ac):Int) p25 q25;replace p25:=eq_true p25;replace q25:=eq_true q25;have aU:=Kd.R_putg ab.out ((rd ad ac):Int) ae
   go_wp2_with (first|((with_reducible refine gate_store (t:=2) (p:=33) rfl ?_);refine store_event (t:=2) (p:=33) (v:=?vo_w28) (w1:=(wr.setCell ⟨go6,((rd ad ac):Int).toNat,none⟩ (.int .i64 ae))) ?hg ?ho ?hn ?hr ?_;(case ho=>rfl);(case hg=>rfl);(case hn=>rfl);(case hr=>exact gs);intro w28 hw;have hg:wr.grownBy w28 (some go6):=(by rw [hw];exact aU.2);have hp_:Kd.R (Kd.int .i64) 2 w28 w.heap.size (fun k_=>some k_≠(.slice (some bB) ad.length bz:Value).ownBlock) (.slice (some ⟨go6,0,none⟩) al.length co6) aN:=(by rw [hw,bx.out];exact aU.1);clear aU;replace an:=ak (Kd.R_after (v:=(.slice (some ⟨go6,0,none⟩) al.length co6)) (v1:=(.slice (some ⟨go6,0,none⟩) al.length co6)) (ok:=(fun _=>True)) (pe (Kd.R_mono an.out (fun _ hk=>⟨trivial,hk⟩))) hg (.inl rfl));replace aa:=ak (blk_grown (g:=aD) (o:=.cells #[.slice A0_0 l0_0.length c0_0] 27 (0,0)) (pb aa.out) hg (Kd.R_ne ab.out aa.out dc));replace ab:=ak (hp_);replace HB:=ak (by rw [hw];exact below_set (HB.out) GB6.out:Below w.heap.size w w28);clear hg hw hp_))
   (try simp only [← ah])
   go_roundg k2
   case measure=>have:=HK1.out;have:=HK2.out;omega
   case rel=>exact ⟨(aN),(wrap64 (ac+1)),q14_1,H',⟨by have:=HK1.out;have:=HK2.out;omega⟩,⟨by (try simp only [af]);(try simp only [ah]);exact pe ab.out⟩,⟨by (try simp only [af]);(try simp only [ah]);exact pe (Kd.R_mono an.out (fun _ hk=>hk.2))⟩,⟨by (try simp only [af]);(try simp only [ah]);exact pb aa.out⟩,⟨hq⟩⟩
end Go.Proofs.YtlppkilencpmeaaGreat.QFnGrowth
