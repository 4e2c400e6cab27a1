/- Functions as Lean functions, with their contracts: written by a program of this claim over the translation; some contracts are proved by hand. -/
import Derived.Test.YtimfbpmaepmdoaaQFnDrawingsx0
import Derived.Test.YtimfbpmaepmdoaaQFnDrawingsx6
import Derived.Test.YtimfbpmaepmdoaaQFnDrawingsx7
namespace Go.Proofs.Ytimfbpmaepmdoaa.QFnDrawings
open Go.RowKit Go.Proofs.Ytimfbpmaepmdoaa.Gl Go.Proofs.Ytimfbpmaepmdoaa.Sz Go.Proofs.YtimfbpmaepmdoaaW.PrintWords Go.Proofs.YtimfbpmaepmdoaaW.PrintLast Go.Proofs.YtimfbpmaepmdoaaW.PrintMore
attribute [local go_sem] max2_int min2_int max_two min_two max_three min_three max_four min_four   -- for this text's walks alone
set_option linter.unusedVariables false
set_option linter.unusedSimpArgs false
theorem q8_0 {P:Prop} (h:P:=by first|(with_reducible assumption)|assumption):P:=h
theorem q8_1 {P:Prop} (h:P:=by first|rfl|(simp;done)|(simp [*];done)):P:=h
set_option maxHeartbeats 8000000
set_option maxRecDepth 100000
def slices_Min_int64_int64.l0:Nat→List Int→Int→Int→Option (Int)
  | 0,_,_,_=>none
  | k+1,x0,x3,x4=>if x4<(x0.length:Int) then (if 0≤x4 then (slices_Min_int64_int64.l0 k x0 (mn x3 (rd x0 x4)) (wrap64 (x4+1))) else (none)) else (some x3)
def slices_Min_int64_int64.f (k:Nat) (l0:List Int):Option (Int):=if (l0.length:Int)<1 then (none) else (if 0<(l0.length:Int) then (slices_Min_int64_int64.l0 k l0 (rd l0 0) 1) else (none))
theorem slices_Min_int64_int64.calls (k:Nat) (A0:Option Addr) (c0:Nat) (l0:List Int) (r:Int) (w:World) (hr0:Kd.C (Kd.int .i64) w A0 l0.length l0) (hc0:l0.length≤c0) (h:slices_Min_int64_int64.f k l0=some r) :
    Calls Try.prog 48 #[.slice A0 l0.length c0] w fun e w'=>e=.returned (.int .i64 r)∧Below w.heap.size w w':=by
  have HR0:=ak hr0;have HC0:=ak hc0;clear hr0 hc0;have HB:=ak (Below.refl w.heap.size w);have H:(if (l0.length:Int)<1 then (none) else (if 0<(l0.length:Int) then (slices_Min_int64_int64.l0 k l0 (rd l0 0) 1) else (none)))=some r:=h;clear h
  by_cases c2:(l0.length:Int)<1
  · rw [if_pos c2] at H
    exact absurd H (by simp)
  · rw [if_neg c2] at H
    have bu:=df c2;have bv:decide (l0.length<1)=false:=decide_eq_false (by omega);clear c2
    by_cases c3:0<(l0.length:Int)
    · rw [if_pos c3] at H
      have bw:=dt c3;have bx:decide (0<l0.length)=true:=decide_eq_true (by omega);clear c3;have H':=ak H;clear H;have aI:0≤(0:Int):=(by omega);have aJ:0<(l0.length:Int):=od q8_0;obtain ⟨bz,bA,a9⟩:=Kd.at_int HR0.out 0 aI aJ;cases bA;have qi281:(0<l0.length)=True:=eq_true (by omega);(try rw [show (0:Int).toNat=0 from rfl] at a9);(try rw [Addr.add_zero'] at a9);replace aI:=eq_true aI;replace aJ:=eq_true aJ
      go_enter Try.func48,Try.ntmps48
      go_wp2
      go_loopg [3,4] k (fun kq v3 v4 w'=>∃ (aa:Int) (ai:Int),v3=.int .i64 aa∧v4=.int .i64 ai∧Aside0 (slices_Min_int64_int64.l0 kq l0 aa ai=some r)∧Aside0 (kq≤k)∧Aside0 (Below w.heap.size w w'))
      case atStart=>exact ⟨(rd l0 0),(1),q8_1,q8_1,H',⟨Nat.le_refl _⟩,⟨hq⟩⟩
      case round =>
        clear H';obtain ⟨aa,ai,rfl,rfl,HA,HK1,HB⟩:=hrel
        cases gk with
        | zero=>exact absurd HA.out (by simp [slices_Min_int64_int64.l0])
        | succ k1 =>
          have H:=HA.out;clear HA;simp only [slices_Min_int64_int64.l0] at H
          by_cases c4:ai<(l0.length:Int)
          · rw [if_pos c4] at H
            have bB:=dt c4;clear c4
            by_cases c5:0≤ai
            · rw [if_pos c5] at H
              have b0:=dt c5;clear c5;obtain ⟨ji6,aC⟩:∃ j_:Int,(mn aa (rd l0 ai))=j_:=⟨_,rfl⟩;(first|rw [aC] at H|simp only [aC] at H);have hji6_:(if (rd l0 ai)<aa then (rd l0 ai) else aa)=ji6:=aC;have H':=ak H;clear H;have aK:0≤(ai:Int):=od q8_0;have aL:ai<(l0.length:Int):=od q8_0;obtain ⟨bC,bD,aM⟩:=Kd.at_int HR0.out ai aK aL;obtain rfl:bz=bC:=(by injection bD);replace aM:=(HB.out.cell (World.block_lt_of_cell? w _ aM)).trans aM;replace aK:=eq_true aK;replace aL:=eq_true aL;go_wp2
              go_roundg k1
              case measure=>have:=HK1.out;omega
              case rel=>exact ⟨(ji6),(wrap64 (ai+1)),(by first|rfl|(simp;done)|(simp only [← aC] <;> (first|rfl|simp))|(simp [*];done)),q8_1,H',⟨by have:=HK1.out;omega⟩,⟨hq⟩⟩
            · rw [if_neg c5] at H
              exact absurd H (by simp)
          · rw [if_neg c4] at H
            have bB:=df c4;clear c4;obtain rfl:=Option.some.inj H;go_wp2
            go_ret
            exact ⟨ew,hq⟩
    · rw [if_neg c3] at H
      exact absurd H (by simp)
@[go_sem] theorem impl_tidy.field0 (v0 v1 v2:Value) (w:World):Sem.run Try.prog (Instr.field 60 (.agg #[v0,v1,v2]) 0) w=.ok v0 w:=by
 have hu:=Try.underlying60
 have hu2:=Try.underlying22
 unfold Instr.field
 go_simp
 rfl
def impl_tidy.l0:Nat→List Int→Int→Int→Int→Option (List Int)
  | 0,_,_,_,_=>none
  | k+1,x3,x4,x12,x13=>if x13<x12 then (if 0≤x13 then (if x13<(x3.length:Int) then (impl_tidy.l0 k (x3.set (x13:Int).toNat (wrap64 ((rd x3 x13) - x4))) x4 x12 (wrap64 (x13+1))) else (none)) else (none)) else (some x3)
def impl_tidy.f (k:Nat) (l0:List Int):Option (List Int):=(impl_draw.f k l0 0).bind fun bt283=>((slices_Min_int64_int64.f k bt283.1).bind fun t292=>(impl_tidy.l0 k bt283.1 t292 (bt283.1.length:Int) 0))
theorem impl_tidy.calls (k:Nat) (A0:Option Addr) (c0:Nat) (l0:List Int) (r:List Int) (w:World) (hr0:Kd.C (Kd.int .i64) w A0 l0.length l0) (hc0:l0.length≤c0) (h:impl_tidy.f k l0=some r) :
    Calls Try.prog 30 #[.slice A0 l0.length c0] w fun e w'=>∃ v0_:Value,e=.returned (v0_)∧Kd.R (Kd.int .i64) 2 w' w.heap.size (fun _=>True) v0_ r∧Below w.heap.size w w':=by
  have hu_:=Try.underlying60;have HR0:=ak hr0;have HC0:=ak hc0;clear hr0 hc0;have HB:=ak (Below.refl w.heap.size w);have H:((impl_draw.f k l0 0).bind fun aN=>((slices_Min_int64_int64.f k aN.1).bind fun an=>(impl_tidy.l0 k aN.1 an (aN.1.length:Int) 0)))=some r:=h;clear h;replace H:=bs H;obtain ⟨⟨ao,bE,bF⟩,A2,H⟩:=H;(try dsimp only at H);replace H:=bs H;obtain ⟨an,A3,H⟩:=H;(try dsimp only at H);have H':=ak H;clear H
  go_enter Try.func30,Try.ntmps30
  go_wp2_with (first|((with_reducible refine gate_callee (f:=47) rfl ?_);refine gl (some 7) Try.func47 #[.slice A0 l0.length c0,.int .i64 0] ?_;(with_reducible refine (impl_draw.calls k _ _ l0 0 ao bE bF _ (pc (HR0.out)) HC0.out A2.out).mono ?_);rintro e w4 ⟨b1,b2,b3,rfl,ho0,ho1,ho2,hb⟩;refine ⟨_,rfl,?_⟩;have au:=lw ho0;have aO:=lw ho1;have aP:=lw ho2;replace HB:=hbs hb;(try clear hb);(try clear hb2);(try clear hk);(try clear hi);(try clear ho0);(try clear ho1);(try clear ho2);obtain ⟨Ao5,co5,eo5⟩:=Kd.R_slice au.out;subst eo5;obtain ⟨Ay1_,cy1_,ey1_⟩:=Kd.R_slice aO.out;subst ey1_;obtain ⟨Ay2_,cy2_,ey2_⟩:=Kd.R_slice aP.out;subst ey2_)|((with_reducible refine gate_callee (f:=48) rfl ?_);refine gl (some 10) Try.func48 #[.slice Ao5 ao.length co5] ?_;(with_reducible refine (slices_Min_int64_int64.calls k _ _ ao an _ (pc ((Kd.R_reads' au.out).2.2)) (Kd.R_reads' au.out).2.1 A3.out).mono ?_);rintro e w6 ⟨rfl,hb⟩;refine ⟨_,rfl,?_⟩;replace au:=rb au hb;replace aO:=rb aO hb;replace aP:=rb aP hb;replace HB:=hbs hb;(try clear hb)))
  go_loopg [13] k (fun kq v13 w'=>∃ (aa:List Int) (ab:Int),v13=.int .i64 ab∧Aside0 (impl_tidy.l0 kq aa an (ao.length:Int) ab=some r)∧Aside0 (kq≤k)∧Aside0 (Kd.R (Kd.int .i64) 2 w' w.heap.size (fun _=>True) (.slice Ao5 ao.length co5) aa)∧Aside0 (Below w.heap.size w w'))
  case atStart=>exact ⟨(ao),(0),q8_1,H',⟨Nat.le_refl _⟩,⟨pe (Kd.R_mono au.out (fun _ hk=>trivial))⟩,⟨hq⟩⟩
  case round =>
    clear H';obtain ⟨aa,ab,rfl,HA,HK1,ac,HB⟩:=hrel;have ax:=(Kd.R_reads' ac.out).1;rw [ax] at ac;(try simp only [ax])
    cases gk with
    | zero=>exact absurd HA.out (by simp [impl_tidy.l0])
    | succ k1 =>
      have H:=HA.out;clear HA;simp only [impl_tidy.l0] at H
      by_cases c7:ab<(ao.length:Int)
      · rw [if_pos c7] at H
        have aD:=dt c7;clear c7
        by_cases c8:0≤ab
        · rw [if_pos c8] at H
          have b4:=dt c8;clear c8
          by_cases c9:ab<(aa.length:Int)
          · rw [if_pos c9] at H
            have ba:=dt c9;clear c9;obtain ⟨aQ,hY⟩:∃ y_:List Int,y_=(aa.set (ab:Int).toNat (wrap64 ((rd aa ab) - an))):=⟨_,rfl⟩;replace H:(impl_tidy.l0 k1 aQ an (ao.length:Int) (wrap64 (ab+1)))=some r:=hh;have bG:=ak hY;clear hY;have H':=ak H;clear H;have aR:0≤(ab:Int):=od q8_0;have aS:ab<(aa.length:Int):=od q8_0;(try (obtain ⟨Aop_,cop_,eop_⟩:=Kd.R_slice ac.out;subst eop_));obtain ⟨b5,bH,bI⟩:=Kd.at_int (Kd.R_reads' ac.out).2.2 ab aR aS;cases bH;replace aR:=eq_true aR;replace aS:=eq_true aS;have p10:0≤(ab:Int):=od q8_0;have q10:(ab:Int)<((aa.length:Int):Int):=od q8_0;obtain ⟨aT,aE,aF,bd,gl10,cl10,bf⟩:=Kd.R_form ac.out (by omega);(first|cases aF|(injection aF with ea_ en_ ec_;(first|subst ea_|(injection ea_ with ea_;subst ea_));subst ec_;clear en_));have GB10:=ak bd;have b6:=ak bf;clear bd gl10 bf;(first|simp only [add_plain] at bI|skip);obtain ⟨b7,b8⟩:=Kd.R_celln 0 ac.out (ab:Int) p10 q10;replace p10:=eq_true p10;replace q10:=eq_true q10;have aU:=Kd.R_putg ac.out (ab:Int) (wrap64 ((rd aa ab) - an))
            go_wp2_with (first|((with_reducible refine gate_store (t:=2) (p:=22) rfl ?_);refine store_event (t:=2) (p:=22) (v:=?vo_w12) (w1:=(wr.setCell ⟨aT,(ab:Int).toNat,none⟩ (.int .i64 (wrap64 ((rd aa ab) - an))))) ?hg ?ho ?hn ?hr ?_;(case ho=>rfl);(case hg=>rfl);(case hn=>rfl);(case hr=>exact gs);intro w12 hw;have hg:wr.grownBy w12 (some aT):=(by rw [hw];exact aU.2);have hp_:Kd.R (Kd.int .i64) 2 w12 w.heap.size (fun _=>True) (.slice (some ⟨aT,0,none⟩) aa.length co5) aQ:=(by rw [hw,bG.out];exact aU.1);clear aU;replace ac:=ak (hp_);replace HB:=ak (by rw [hw];exact below_set (HB.out) GB10.out:Below w.heap.size w w12);clear hg hw hp_))
            (try simp only [← ax])
            go_roundg k1
            case measure=>have:=HK1.out;omega
            case rel=>exact ⟨(aQ),(wrap64 (ab+1)),q8_1,H',⟨by have:=HK1.out;omega⟩,⟨by (try simp only [ax]);exact pe ac.out⟩,⟨hq⟩⟩
          · rw [if_neg c9] at H
            exact absurd H (by simp)
        · rw [if_neg c8] at H
          exact absurd H (by simp)
      · rw [if_neg c7] at H
        have aD:=df c7;(try rw [ax] at aD);clear c7;obtain rfl:=Option.some.inj H;go_wp2
        go_ret
        exact ⟨_,ew,pe ac.out,hq⟩
def bits_Mul64.f (a0:Int) (a1:Int):Option (Int × Int):=some (IntKind.u64.wrap ((IntKind.u64.wrap ((IntKind.u64.wrap ((a0 / 4294967296)*(a1 / 4294967296)))+((IntKind.u64.wrap ((IntKind.u64.wrap ((a0 / 4294967296)*(Go.bits .and .u64 a1 4294967295)))+((IntKind.u64.wrap ((Go.bits .and .u64 a0 4294967295)*(Go.bits .and .u64 a1 4294967295))) / 4294967296))) / 4294967296)))+((IntKind.u64.wrap ((Go.bits .and .u64 (IntKind.u64.wrap ((IntKind.u64.wrap ((a0 / 4294967296)*(Go.bits .and .u64 a1 4294967295)))+((IntKind.u64.wrap ((Go.bits .and .u64 a0 4294967295)*(Go.bits .and .u64 a1 4294967295))) / 4294967296))) 4294967295)+(IntKind.u64.wrap ((Go.bits .and .u64 a0 4294967295)*(a1 / 4294967296))))) / 4294967296)),IntKind.u64.wrap (a0*a1))
theorem bits_Mul64.calls (a0:Int) (a1:Int) (r1:Int) (r2:Int) (w:World) (h:bits_Mul64.f a0 a1=some (r1,r2)) :
    Calls Try.prog 63 #[.int .u64 a0,.int .u64 a1] w fun e w'=>e=.returned (.tuple #[.int .u64 r1,.int .u64 r2])∧Drawn0 w w':=by
  have H:(some (IntKind.u64.wrap ((IntKind.u64.wrap ((IntKind.u64.wrap ((a0 / 4294967296)*(a1 / 4294967296)))+((IntKind.u64.wrap ((IntKind.u64.wrap ((a0 / 4294967296)*(Go.bits .and .u64 a1 4294967295)))+((IntKind.u64.wrap ((Go.bits .and .u64 a0 4294967295)*(Go.bits .and .u64 a1 4294967295))) / 4294967296))) / 4294967296)))+((IntKind.u64.wrap ((Go.bits .and .u64 (IntKind.u64.wrap ((IntKind.u64.wrap ((a0 / 4294967296)*(Go.bits .and .u64 a1 4294967295)))+((IntKind.u64.wrap ((Go.bits .and .u64 a0 4294967295)*(Go.bits .and .u64 a1 4294967295))) / 4294967296))) 4294967295)+(IntKind.u64.wrap ((Go.bits .and .u64 a0 4294967295)*(a1 / 4294967296))))) / 4294967296)),IntKind.u64.wrap (a0*a1)))=some (r1,r2):=h;clear h;simp only [Option.some.injEq,Prod.mk.injEq] at H;obtain ⟨rfl,rfl⟩:=H
  go_enter Try.func63,Try.ntmps63
  go_wp2
  go_ret2
  exact ⟨q8_1,by repeat (first|exact Drawn0.refl _|apply Drawn0.step)⟩
def bits_Mul.f (a0:Int) (a1:Int):Option (Int × Int):=(bits_Mul64.f a0 a1).bind fun bt295=>(some (bt295.1,bt295.2))
theorem bits_Mul.calls (a0:Int) (a1:Int) (r1:Int) (r2:Int) (w:World) (h:bits_Mul.f a0 a1=some (r1,r2)) :
    Calls Try.prog 50 #[.int .u64 a0,.int .u64 a1] w fun e w'=>e=.returned (.tuple #[.int .u64 r1,.int .u64 r2])∧Drawn0 w w':=by
  have H:((bits_Mul64.f a0 a1).bind fun bg=>(some (bg.1,bg.2)))=some (r1,r2):=h;clear h;replace H:=bs H;obtain ⟨⟨bJ,bK⟩,A3,H⟩:=H;(try dsimp only at H);simp only [Option.some.injEq,Prod.mk.injEq] at H;obtain ⟨rfl,rfl⟩:=H
  go_enter Try.func50,Try.ntmps50
  go_wp2_with (first|((with_reducible refine gate_callee (f:=63) rfl ?_);refine gl (some 25) Try.func63 #[.int .u64 a0,.int .u64 a1] ?_;(with_reducible refine (bits_Mul64.calls a0 a1 bJ bK _ A3.out).mono ?_);rintro e w' ⟨rfl,⟨nd,rfl⟩⟩;refine ⟨_,rfl,?_⟩))
  go_ret2
  exact ⟨q8_1,by repeat (first|exact Drawn0.refl _|apply Drawn0.step)⟩
def slices_Repeat.f (l0:List Int) (a1:Int):Option (List Int):=if l0.length=1∧1≤a1∧a1≤24 then some (List.replicate a1.toNat (rd l0 0)) else none
theorem bits_Mul.one:∀ a:Fin 25,bits_Mul.f 1 ((a.val:Nat):Int)=some (0,((a.val:Nat):Int)):=by decide +kernel
theorem slices_Repeat.calls (A0:Option Addr) (c0:Nat) (l0:List Int) (a1:Int) (r:List Int) (w:World) (hr0:Kd.C (Kd.int .i64) w A0 l0.length l0) (hc0:l0.length≤c0) (h:slices_Repeat.f l0 a1=some r) :
    Calls Try.prog 61 #[.slice A0 l0.length c0,.int .i64 a1] w fun e w'=>∃ v0_:Value,e=.returned (v0_)∧Kd.R (Kd.int .i64) 2 w' w.heap.size (fun _=>True) v0_ r∧Below w.heap.size w w':=by
  unfold slices_Repeat.f at h
  by_cases hc:l0.length=1∧1≤a1∧a1≤24
  · rw [if_pos hc] at h
    obtain ⟨h1,h2,h3⟩:=hc
    obtain ⟨x,rfl⟩:∃ x,l0=[x]:=by
      match l0,h1 with
      | [x],_=>exact ⟨x,rfl⟩
    obtain ⟨m,rfl⟩:∃ m:Nat,a1=(m:Int):=⟨a1.toNat,by omega⟩;have hmul:=bits_Mul.one ⟨m,by omega⟩;simp only at hmul;have HMUL:=ak hmul;have HR0:=ak hr0;have HC0:=ak hc0;obtain rfl:=Option.some.inj h;clear hr0 hc0 hmul h;simp only [List.length_cons,List.length_nil] at h1 ⊢;clear h1
    go_enter Try.func61,Try.ntmps61
    go_wp2_with (first|(go_at_call 50;refine (bits_Mul.calls _ _ _ _ _ HMUL.out).mono ?_;rintro e w1 ⟨rfl,hd⟩;have HB:=ak hd.below;clear hd)|((with_reducible refine gate_dst (N:=30) rfl ?_);refine Kd.R_make (Kd.int .i64) _ 2 rfl (N:=30) rfl 22 _ _ rfl (m:Int) rfl rfl Try.underlying22 (.int .i64 0) 8 info2 rfl dc (by omega) 0 (ok:=fun _=>True) (okp:=fun _=>True) rfl (fun _ hk=>hk) trivial (by omega) (by omega) (Below.refl _ _) (Nat.le_refl _) ?_;intro b9 w4 ho5 hb hg_ hnew_;clear hg_ hnew_;have HO:=ak (Kd.R_lower ho5 HB.out.size);have n1_:=ak (below_step HB.out hb);clear HB;have HB:=n1_;clear n1_;clear hb ho5)|((with_reducible refine gate_dst (N:=33) rfl ?_);refine Kd.R_copy (d:=(0:Int)) _ rfl (.tmp 31) (.tmp 32) 22 22 2 rfl Try.underlying22 kr _ _ _ _ _ _ (fun _=>True) rfl rfl HO.out (Kd.C_below HR0.out HB.out) HB.out HB.out.size ?_;intro w5 ho2 hb2 hg2;have n1_:=ak hb2;have n2_:=ak ho2;clear HB HO hb2 ho2 hg2;have HB:=n1_;have HO:=n2_;clear n1_ n2_))
    obtain ⟨g,cap,L0,rfl,hbg,hg0,hL0,hmc,hcap,ht0⟩:=block_of_R HO.out (m:=m) (by simp;omega) (by omega);have h1m:min 1 m=1:=by omega
    have ht1:L0.take m=encs EI (repd x 1 m):=by
      rw [ht0,List.length_replicate,Int.toNat_natCast,h1m];unfold repd;simp
    have HG0:=ak hg0;have HT0:=ak ht1;have HL0:=ak hL0;clear HO hg0 ht0 ht1 hL0;rw [h1m];have e1:((1:Nat):Int)=1:=rfl;rw [e1];clear h1m e1
    go_loopw [8] (fun v8 w'=>∃ (n:Nat) (L:List Value),v8=.int .i64 (n:Int)∧Aside0 (1≤n∧n≤m)∧Aside0 (w'.heap[g]?=some (.cells L.toArray 2 (0,0)))∧Aside0 (L.length=cap)∧Aside0 (L.take m=encs EI (repd x n m))∧Aside0 (Below w.heap.size w w')) (fun v8 _=>m - (intOf v8).toNat)
    case atStart=>exact ⟨1,L0,rfl,⟨by omega⟩,HG0,HL0,HT0,HB⟩
    case round =>
      obtain ⟨n,L,rfl,HN,HG,HL,HT,HB⟩:=hrel;have hn:=HN.out
      by_cases hlt:n<m
      · go_wp2
        have hle:min n (m - n)≤m - n:=Nat.min_le_right _ _;obtain ⟨q,hq⟩:∃ q,q=min n (m - n):=⟨_,rfl⟩;have HQ:=ak hq;obtain ⟨cs,hcs⟩:∃ cs,cs=encs EI (List.replicate q x):=⟨_,rfl⟩;have hcl:cs.length=q:=by rw [hcs];simp [encs]
        have C1:=ak (show cs.length=Nat.min n (m - n) from hcl.trans hq);have C2:=ak (show 0<cs.length→some (⟨g,n,none⟩:Addr)=some ⟨g,n,none⟩∧∃ ad,some (⟨g,0,none⟩:Addr)=some ad∧∀ j v,cs[j]?=some v→wr.drew.cell? (ad.add j)=some v from fun _=>⟨rfl,_,rfl,fun j v hv=>copy_src HG.out HT.out hn.2 hcs hq hv⟩);have C3:=ak (show n+cs.length≤L.length by rw [hcl,HL.out];omega);have C4:=ak (show ∀ v∈cs,v.oneCell'=true by rw [hcs];intro v hv;simp only [encs,List.mem_map] at hv;obtain ⟨a,_,rfl⟩:=hv;rfl);have HCS:=ak hcs;have HCL:=ak hcl;clear hq hcs hcl hle;have hnc:n≤cap:=by omega
        have ca:¬ cap=n:=by omega
        go_region_law (rw [if_pos (by rfl)];refine op_copy_splice (.tmp 41) (.tmp 44) 22 22 rfl 2 Try.underlying22 kr (some ⟨g,n,none⟩) (some ⟨g,0,none⟩) (m - n) (cap - n) n cap (by go_simp) (by go_simp) g n L 2 HG.out cs C1.out C2.out C3.out C4.out w.heap.size w (below_drew HB.out) hbg ?_;intro w6 hg6 hb6)
        have hg6':=ak hg6.out;have hb6':=ak hb6;clear hg6 hb6;have hq1:1≤q∧n+q≤m:=by rw [HQ.out];omega
        go_simp
        rw [HCL.out,Go.IntWalk.i64_in _ (by omega)]
        go_roundw
        case measure=>simp [intOf];omega
        case rel =>
          (repeat apply Exists.intro)
          refine ⟨⟨n+q,splice L n cs,?_,⟨by omega⟩,hg6',⟨(length_splice L n cs C3.out).trans HL.out⟩,⟨by rw [HCS.out,HQ.out];exact take_splice hn.2 (by rw [HL.out];exact hmc) HT.out⟩,hb6'⟩,rfl⟩
          go_num
      · go_wp2
        refine bodyPost_ret (v:=.slice (some ⟨g,0,none⟩) m cap) (by simp [results,Try.results61,go_sem]) rfl ⟨_,rfl,?_,HB.out⟩
        have e:n=m:=by omega
        subst e
        refine R_of_block hbg HG.out HL.out hmc hcap (by simp) ?_
        rw [HT.out];unfold repd;simp [rd]
  · rw [if_neg hc] at h;cases h
mutual
def impl_parentsOf.l0:Nat→List Int→List Int→Int→Int→Option (List Int)
  | 0,_,_,_,_=>none
  | k+1,x0,x3,x12,x13=>if x13<x12 then ((impl_kidsOf.f k x0 x13).bind fun t303=>(impl_parentsOf.l1 k x0 x3 x13 x12 x13 t303 (t303.length:Int) 0)) else (some x3)
def impl_parentsOf.l1:Nat→List Int→List Int→Int→Int→Int→List Int→Int→Int→Option (List Int)
  | 0,_,_,_,_,_,_,_,_=>none
  | k+1,x0,x3,x4,x12,x13,x18,x19,x20=>if x20<x19 then (if 0≤x20 then (if x20<(x18.length:Int) then (if 0≤(rd x18 x20) then (if (rd x18 x20)<(x3.length:Int) then (impl_parentsOf.l1 k x0 (x3.set ((rd x18 x20):Int).toNat x4) x4 x12 x13 x18 x19 (wrap64 (x20+1))) else (none)) else (none)) else (none)) else (none)) else (impl_parentsOf.l0 k x0 x3 x12 (wrap64 (x13+1)))
end
def impl_parentsOf.f (k:Nat) (l0:List Int):Option (List Int):=(slices_Repeat.f ([(-1)]:List Int) (l0.length:Int)).bind fun t300=>(impl_parentsOf.l0 k l0 t300 (l0.length:Int) 0)
theorem impl_parentsOf.calls (k:Nat) (A0:Option Addr) (c0:Nat) (l0:List Int) (r:List Int) (w:World) (hr0:Kd.C (Kd.int .i64) w A0 l0.length l0) (hc0:l0.length≤c0) (h:impl_parentsOf.f k l0=some r) :
    Calls Try.prog 49 #[.slice A0 l0.length c0] w fun e w'=>∃ v0_:Value,e=.returned (v0_)∧Kd.R (Kd.int .i64) 2 w' w.heap.size (fun _=>True) v0_ r∧Below w.heap.size w w':=by
  have HR0:=ak hr0;have HC0:=ak hc0;clear hr0 hc0;have HB:=ak (Below.refl w.heap.size w);have H:((slices_Repeat.f ([(-1)]:List Int) (l0.length:Int)).bind fun av=>(impl_parentsOf.l0 k l0 av (l0.length:Int) 0))=some r:=h;clear h;obtain ⟨aV,hY⟩:∃ y_:List Int,y_=([(-1)]:List Int):=⟨_,rfl⟩;replace H:((slices_Repeat.f aV (l0.length:Int)).bind fun av=>(impl_parentsOf.l0 k l0 av (l0.length:Int) 0))=some r:=hh;have bh:=ak hY;clear hY;replace H:=bs H;obtain ⟨av,A2,H⟩:=H;(try dsimp only at H);have H':=ak H;clear H
  go_enter Try.func49,Try.ntmps49
  go_wp2_with (first|((with_reducible refine gate_dst (N:=7) rfl ?_);refine Kd.R_lit (Kd.int .i64) _ 2 ?hg (N:=7) ?hd (xs:=([(-1)]:List Int)) (inner:=[.int .i64 (-1)]) (ok:=fun _=>True) (okp:=fun _=>True) ?hr ?hp (fun _ hk=>hk) trivial (Below.refl _ _) (Nat.le_refl _) (by simp) ?_;(case hd=>rfl);(case hg=>rfl);(case hr=>exact gs);(case hp=>exact (Reps.one (show Kd.M (Kd.int .i64) _ _ _ (-1) [.int .i64 (-1)] from rfl) (Reps.none _ _)));intro cb w3 ho4 hb hg_ hnew_;clear hg_ hnew_;(first|rw [← bh.out] at ho4|(simp only [Int.reduceToNat] at ho4;rw [← bh.out] at ho4));have aw:=lw ho4;replace HB:=hbs hb;clear hb ho4;obtain ⟨Ao5,co5,eo5⟩:=Kd.R_slice aw.out;subst eo5)|((with_reducible refine gate_callee (f:=61) rfl ?_);refine gl (some 10) Try.func61 #[.slice Ao5 aV.length co5,.int .i64 (l0.length:Int)] ?_;(with_reducible refine (slices_Repeat.calls _ _ aV (l0.length:Int) av _ (pc ((Kd.R_reads' aw.out).2.2)) (Kd.R_reads' aw.out).2.1 A2.out).mono ?_);rintro e w6 ⟨aW,rfl,ho0,hb⟩;refine ⟨_,rfl,?_⟩;have bL:=lw (nw ho0 aw);replace aw:=rn aw ho0 hb;replace HB:=hbs hb;(try clear hb ho0)))
  go_loopg [13] k (fun kq v13 w'=>∃ (aa:List Int) (ab:Int),v13=.int .i64 ab∧Aside0 (impl_parentsOf.l0 kq l0 aa (l0.length:Int) ab=some r)∧Aside0 (kq≤k)∧Aside0 (Kd.R (Kd.int .i64) 2 w' w.heap.size (fun _=>True) aW aa)∧Aside0 (Below w.heap.size w w'))
  case atStart=>exact ⟨(av),(0),q8_1,H',⟨Nat.le_refl _⟩,⟨pe (Kd.R_mono bL.out (fun _ hk=>trivial))⟩,⟨hq⟩⟩
  case round =>
    clear H';obtain ⟨aa,ab,rfl,HA,HK1,ac,HB⟩:=hrel
    cases gk with
    | zero=>exact absurd HA.out (by simp [impl_parentsOf.l0])
    | succ k1 =>
      have H:=HA.out;clear HA;simp only [impl_parentsOf.l0] at H
      by_cases c7:ab<(l0.length:Int)
      · rw [if_pos c7] at H
        have aD:=dt c7;clear c7;replace H:=bs H;obtain ⟨ag,A8,H⟩:=H;(try dsimp only at H);have H':=ak H;clear H
        go_wp2_with (first|((with_reducible refine gate_callee (f:=58) rfl ?_);refine gl (some 18) Try.func58 #[.slice A0 l0.length c0,.int .i64 ab] ?_;(with_reducible refine (impl_kidsOf.calls k1 _ _ l0 ab ag _ (pc (Kd.C_below HR0.out HB.out)) HC0.out A8.out).mono ?_);rintro e w9 ⟨cc,rfl,ho0,hb⟩;refine ⟨_,rfl,?_⟩;have bi:=lw (nw ho0 ac);replace ac:=rn ac ho0 hb;replace HB:=hbs hb;(try clear hb);(try clear hb2);(try clear hk);(try clear hi);(try clear ho0);obtain ⟨bj,aE,aF⟩:=Kd.R_slice bi.out;subst aF))
        go_loopg [20] k1 (fun kq v20 w'=>∃ (al:List Int) (ah:Int),v20=.int .i64 ah∧Aside0 (impl_parentsOf.l1 kq l0 al ab (l0.length:Int) ab ag (ag.length:Int) ah=some r)∧Aside0 (kq≤k1)∧Aside0 (Kd.R (Kd.int .i64) 2 w' w.heap.size (fun k_=>some k_≠((.slice bj ag.length aE):Value).ownBlock) aW al)∧Aside0 (Kd.R (Kd.int .i64) 2 w' w.heap.size (fun k_=>some k_≠(aW:Value).ownBlock) (.slice bj ag.length aE) ag)∧Aside0 (Below w.heap.size w w'))
        case atStart=>exact ⟨(aa),(0),q8_1,H',⟨Nat.le_refl _⟩,⟨pe (Kd.R_mono ac.out (fun _ hk=>hk.2))⟩,⟨pe (Kd.R_mono bi.out (fun _ hk=>hk.2))⟩,⟨hq⟩⟩
        case round =>
          clear H';obtain ⟨al,ah,rfl,HA,HK2,ac,ay,HB⟩:=hrel
          cases gk with
          | zero=>exact absurd HA.out (by simp [impl_parentsOf.l1])
          | succ k2 =>
            have H:=HA.out;clear HA;simp only [impl_parentsOf.l1] at H
            by_cases c11:ah<(ag.length:Int)
            · rw [if_pos c11] at H
              have bk:=dt c11;clear c11
              by_cases c12:0≤ah
              · rw [if_pos c12] at H
                have bl:=dt c12;clear c12
                by_cases c13:ah<(ag.length:Int)
                · rw [if_pos c13] at H
                  have bM:=dt c13;clear c13
                  by_cases c14:0≤(rd ag ah)
                  · rw [if_pos c14] at H
                    have bN:=dt c14;clear c14
                    by_cases c15:(rd ag ah)<(al.length:Int)
                    · rw [if_pos c15] at H
                      have bO:=dt c15;clear c15;obtain ⟨aX,hY⟩:∃ y_:List Int,y_=(al.set ((rd ag ah):Int).toNat ab):=⟨_,rfl⟩;replace H:(impl_parentsOf.l1 k2 l0 aX ab (l0.length:Int) ab ag (ag.length:Int) (wrap64 (ah+1)))=some r:=hh;have bP:=ak hY;clear hY;have H':=ak H;clear H;have aY:0≤(ah:Int):=od q8_0;have aZ:ah<(ag.length:Int):=od q8_0;(try (obtain ⟨Aop_,cop_,eop_⟩:=Kd.R_slice ay.out;subst eop_));obtain ⟨bQ,bR,cd⟩:=Kd.at_int (Kd.R_reads' ay.out).2.2 ah aY aZ;cases bR;replace aY:=eq_true aY;replace aZ:=eq_true aZ;have p16:0≤((rd ag ah):Int):=od q8_0;have q16:((rd ag ah):Int)<((al.length:Int):Int):=od q8_0;obtain ⟨aj,aG,az,aA,gl16,cl16,aB⟩:=Kd.R_form ac.out (by omega);(first|cases az|(injection az with ea_ en_ ec_;(first|subst ea_|(injection ea_ with ea_;subst ea_));subst ec_;clear en_));have GB16:=ak aA;have bS:=ak aB;clear aA gl16 aB;obtain ⟨bT,bU⟩:=Kd.R_celln 0 ac.out ((rd ag ah):Int) p16 q16;replace p16:=eq_true p16;replace q16:=eq_true q16;have a2:=Kd.R_putg ac.out ((rd ag ah):Int) ab
                      go_wp2_with (first|((with_reducible refine gate_store (t:=2) (p:=27) rfl ?_);refine store_event (t:=2) (p:=27) (v:=?vo_w18) (w1:=(wr.setCell ⟨aj,((rd ag ah):Int).toNat,none⟩ (.int .i64 ab))) ?hg ?ho ?hn ?hr ?_;(case ho=>rfl);(case hg=>rfl);(case hn=>rfl);(case hr=>exact gs);intro w18 hw;have hg:wr.grownBy w18 (some aj):=(by rw [hw];exact a2.2);have hp_:Kd.R (Kd.int .i64) 2 w18 w.heap.size (fun k_=>some k_≠(.slice (some bQ) ag.length aE:Value).ownBlock) (.slice (some ⟨aj,0,none⟩) al.length aG) aX:=(by rw [hw,bP.out];exact a2.1);clear a2;replace ac:=ak (hp_);replace ay:=ak (Kd.R_after (v:=(.slice (some ⟨aj,0,none⟩) al.length aG)) (v1:=(.slice (some ⟨aj,0,none⟩) al.length aG)) (ok:=(fun _=>True)) (pe (Kd.R_mono ay.out (fun _ hk=>⟨trivial,hk⟩))) hg (.inl rfl));replace HB:=ak (by rw [hw];exact below_set (HB.out) GB16.out:Below w.heap.size w w18);clear hg hw hp_))
                      go_roundg k2
                      case measure=>have:=HK1.out;have:=HK2.out;omega
                      case rel=>exact ⟨(aX),(wrap64 (ah+1)),q8_1,H',⟨by have:=HK1.out;have:=HK2.out;omega⟩,⟨pe ac.out⟩,⟨pe (Kd.R_mono ay.out (fun _ hk=>hk.2))⟩,⟨hq⟩⟩
                    · rw [if_neg c15] at H
                      exact absurd H (by simp)
                  · rw [if_neg c14] at H
                    exact absurd H (by simp)
                · rw [if_neg c13] at H
                  exact absurd H (by simp)
              · rw [if_neg c12] at H
                exact absurd H (by simp)
            · rw [if_neg c11] at H
              have bk:=df c11;clear c11;have H':=ak H;clear H;go_wp2
              go_roundg k2
              case measure=>have:=HK1.out;have:=HK2.out;omega
              case rel=>exact ⟨(al),(wrap64 (ab+1)),q8_1,H',⟨by have:=HK1.out;have:=HK2.out;omega⟩,⟨pe (Kd.R_mono ac.out (fun _ hk=>trivial))⟩,⟨hq⟩⟩
      · rw [if_neg c7] at H
        have aD:=df c7;clear c7;obtain rfl:=Option.some.inj H;go_wp2
        go_ret
        exact ⟨_,ew,pe ac.out,hq⟩
def impl_depthsOf.l0:Nat→List Int→List Int→Int→Int→Option (List Int)
  | 0,_,_,_,_=>none
  | k+1,x3,x10,x11,x12=>if x12<x11 then (if 0≤x12 then (if x12<(x10.length:Int) then (if (rd x10 x12)≥0 then (if 0≤(rd x10 x12) then (if (rd x10 x12)<(x3.length:Int) then (if x12<(x3.length:Int) then (impl_depthsOf.l0 k (x3.set (x12:Int).toNat (wrap64 ((rd x3 (rd x10 x12))+1))) x10 x11 (wrap64 (x12+1))) else (none)) else (none)) else (none)) else (impl_depthsOf.l0 k x3 x10 x11 (wrap64 (x12+1)))) else (none)) else (none)) else (some x3)
def impl_depthsOf.f (k:Nat) (l0:List Int):Option (List Int):=if 0≤(l0.length:Int) then (if ((l0.length:Int):Int).toNat≤35184372088832 then ((impl_parentsOf.f k l0).bind fun t311=>(impl_depthsOf.l0 k (List.replicate ((l0.length:Int):Int).toNat 0) t311 (t311.length:Int) 0)) else (none)) else (none)
theorem impl_depthsOf.calls (k:Nat) (A0:Option Addr) (c0:Nat) (l0:List Int) (r:List Int) (w:World) (hr0:Kd.C (Kd.int .i64) w A0 l0.length l0) (hc0:l0.length≤c0) (h:impl_depthsOf.f k l0=some r) :
    Calls Try.prog 31 #[.slice A0 l0.length c0] w fun e w'=>∃ v0_:Value,e=.returned (v0_)∧Kd.R (Kd.int .i64) 2 w' w.heap.size (fun _=>True) v0_ r∧Below w.heap.size w w':=by
  have HR0:=ak hr0;have HC0:=ak hc0;clear hr0 hc0;have HB:=ak (Below.refl w.heap.size w);have H:(if 0≤(l0.length:Int) then (if ((l0.length:Int):Int).toNat≤35184372088832 then ((impl_parentsOf.f k l0).bind fun af=>(impl_depthsOf.l0 k (List.replicate ((l0.length:Int):Int).toNat 0) af (af.length:Int) 0)) else (none)) else (none))=some r:=h;clear h
  by_cases c2:0≤(l0.length:Int)
  · rw [if_pos c2] at H
    have bu:=eq_true c2;have bv:decide (0≤(l0.length:Int))=true:=decide_eq_true c2;clear c2
    by_cases c3:((l0.length:Int):Int).toNat≤35184372088832
    · rw [if_pos c3] at H
      have bw:=eq_true c3;have bx:decide (((l0.length:Int):Int).toNat≤35184372088832)=true:=decide_eq_true c3;clear c3;obtain ⟨bm,hY⟩:∃ y_:List Int,y_=(List.replicate ((l0.length:Int):Int).toNat 0):=⟨_,rfl⟩;replace H:((impl_parentsOf.f k l0).bind fun af=>(impl_depthsOf.l0 k bm af (af.length:Int) 0))=some r:=hh;have bo:=ak hY;clear hY;replace H:=bs H;obtain ⟨af,A4,H⟩:=H;(try dsimp only at H);have H':=ak H;clear H
      go_enter Try.func31,Try.ntmps31
      go_wp2_with (first|((with_reducible refine gate_dst (N:=8) rfl ?_);refine Kd.R_make (Kd.int .i64) _ 2 rfl (N:=8) rfl 22 _ _ rfl (l0.length:Int) rfl rfl Try.underlying22 (.int .i64 0) 8 info2 rfl dc (by omega) 0 (ok:=fun _=>True) (okp:=fun _=>True) rfl (fun _ hk=>hk) trivial (od q8_0) (Nat.le_trans (Nat.mul_le_mul_right _ (od q8_0:(l0.length:Int).toNat≤35184372088832)) (by omega)) (Below.refl _ _) (Nat.le_refl _) ?_;intro bp w5 ho6 hb hg_ hnew_;clear hg_ hnew_;(first|rw [← bo.out] at ho6|(simp only [Int.reduceToNat] at ho6;rw [← bo.out] at ho6));have aH:=lw ho6;replace HB:=hbs hb;clear hb ho6)|((with_reducible refine gate_callee (f:=49) rfl ?_);refine gl (some 10) Try.func49 #[.slice A0 l0.length c0] ?_;(with_reducible refine (impl_parentsOf.calls k _ _ l0 af _ (pc (Kd.C_below HR0.out HB.out)) HC0.out A4.out).mono ?_);rintro e w7 ⟨ce,rfl,ho0,hb⟩;refine ⟨_,rfl,?_⟩;have bq:=lw (nw ho0 aH);replace aH:=rn aH ho0 hb;replace HB:=hbs hb;(try clear hb);(try clear hb2);(try clear hk);(try clear hi);(try clear ho0);obtain ⟨Ao8,co8,eo8⟩:=Kd.R_slice bq.out;subst eo8))
      go_loopg [12] k (fun kq v12 w'=>∃ (aa:List Int) (ae:Int),v12=.int .i64 ae∧Aside0 (impl_depthsOf.l0 kq aa af (af.length:Int) ae=some r)∧Aside0 (kq≤k)∧Aside0 (Kd.R (Kd.int .i64) 2 w' w.heap.size (fun k_=>some k_≠((.slice Ao8 af.length co8):Value).ownBlock) bp aa)∧Aside0 (Kd.R (Kd.int .i64) 2 w' w.heap.size (fun k_=>some k_≠(bp:Value).ownBlock) (.slice Ao8 af.length co8) af)∧Aside0 (Below w.heap.size w w'))
      case atStart=>exact ⟨(bm),(0),q8_1,H',⟨Nat.le_refl _⟩,⟨pe (Kd.R_mono aH.out (fun _ hk=>hk.2))⟩,⟨pe (Kd.R_mono bq.out (fun _ hk=>hk.2))⟩,⟨hq⟩⟩
      case round =>
        clear H';obtain ⟨aa,ae,rfl,HA,HK1,ac,ap,HB⟩:=hrel
        cases gk with
        | zero=>exact absurd HA.out (by simp [impl_depthsOf.l0])
        | succ k1 =>
          have H:=HA.out;clear HA;simp only [impl_depthsOf.l0] at H
          by_cases c9:ae<(af.length:Int)
          · rw [if_pos c9] at H
            have ba:=dt c9;clear c9
            by_cases c10:0≤ae
            · rw [if_pos c10] at H
              have cf:=dt c10;clear c10
              by_cases c11:ae<(af.length:Int)
              · rw [if_pos c11] at H
                have bk:=dt c11;clear c11
                by_cases c12:(rd af ae)≥0
                · rw [if_pos c12] at H
                  have bl:decide (0≤(rd af ae))=true:=decide_eq_true c12;clear c12
                  by_cases c13:0≤(rd af ae)
                  · rw [if_pos c13] at H
                    have bM:=dt c13;clear c13
                    by_cases c14:(rd af ae)<(aa.length:Int)
                    · rw [if_pos c14] at H
                      have bN:=dt c14;clear c14
                      by_cases c15:ae<(aa.length:Int)
                      · rw [if_pos c15] at H
                        have bO:=dt c15;clear c15;obtain ⟨a3,hY⟩:∃ y_:List Int,y_=(aa.set (ae:Int).toNat (wrap64 ((rd aa (rd af ae))+1))):=⟨_,rfl⟩;replace H:(impl_depthsOf.l0 k1 a3 af (af.length:Int) (wrap64 (ae+1)))=some r:=hh;have bV:=ak hY;clear hY;have H':=ak H;clear H;have aq:0≤(ae:Int):=od q8_0;have ar:ae<(af.length:Int):=od q8_0;(try (obtain ⟨Aop_,cop_,eop_⟩:=Kd.R_slice ap.out;subst eop_));obtain ⟨br,a4,bW⟩:=Kd.at_int (Kd.R_reads' ap.out).2.2 ae aq ar;cases a4;replace aq:=eq_true aq;replace ar:=eq_true ar;obtain ⟨cg,a5,bX⟩:=Kd.R_slice ac.out;subst bX;have a6:0≤((rd af ae):Int):=od q8_0;have a7:(rd af ae)<(aa.length:Int):=od q8_0;(try (obtain ⟨Aop_,cop_,eop_⟩:=Kd.R_slice ac.out;subst eop_));obtain ⟨ch,bY,bZ⟩:=Kd.at_int (Kd.R_reads' ac.out).2.2 (rd af ae) a6 a7;cases bY;replace a6:=eq_true a6;replace a7:=eq_true a7;have p16:0≤(ae:Int):=od q8_0;have q16:(ae:Int)<((aa.length:Int):Int):=od q8_0;obtain ⟨aj,aG,az,aA,gl16,cl16,aB⟩:=Kd.R_form ac.out (by omega);(first|cases az|(injection az with ea_ en_ ec_;(first|subst ea_|(injection ea_ with ea_;subst ea_));subst ec_;clear en_));have GB16:=ak aA;have bS:=ak aB;clear aA gl16 aB;(first|simp only [add_plain] at bZ|skip);obtain ⟨bT,bU⟩:=Kd.R_celln 0 ac.out (ae:Int) p16 q16;replace p16:=eq_true p16;replace q16:=eq_true q16;have a8:=Kd.R_putg ac.out (ae:Int) (wrap64 ((rd aa (rd af ae))+1))
                        go_wp2_with (first|((with_reducible refine gate_store (t:=2) (p:=26) rfl ?_);refine store_event (t:=2) (p:=26) (v:=?vo_w19) (w1:=(wr.setCell ⟨aj,(ae:Int).toNat,none⟩ (.int .i64 (wrap64 ((rd aa (rd af ae))+1))))) ?hg ?ho ?hn ?hr ?_;(case ho=>rfl);(case hg=>rfl);(case hn=>rfl);(case hr=>exact gs);intro w19 hw;have hg:wr.grownBy w19 (some aj):=(by rw [hw];exact a8.2);have hp_:Kd.R (Kd.int .i64) 2 w19 w.heap.size (fun k_=>some k_≠(.slice (some br) af.length co8:Value).ownBlock) (.slice (some ⟨aj,0,none⟩) aa.length a5) a3:=(by rw [hw,bV.out];exact a8.1);clear a8;replace ac:=ak (hp_);replace ap:=ak (Kd.R_after (v:=(.slice (some ⟨aj,0,none⟩) aa.length a5)) (v1:=(.slice (some ⟨aj,0,none⟩) aa.length a5)) (ok:=(fun _=>True)) (pe (Kd.R_mono ap.out (fun _ hk=>⟨trivial,hk⟩))) hg (.inl rfl));replace HB:=ak (by rw [hw];exact below_set (HB.out) GB16.out:Below w.heap.size w w19);clear hg hw hp_))
                        go_roundg k1
                        case measure=>have:=HK1.out;omega
                        case rel=>exact ⟨(a3),(wrap64 (ae+1)),q8_1,H',⟨by have:=HK1.out;omega⟩,⟨pe ac.out⟩,⟨pe (Kd.R_mono ap.out (fun _ hk=>hk.2))⟩,⟨hq⟩⟩
                      · rw [if_neg c15] at H
                        exact absurd H (by simp)
                    · rw [if_neg c14] at H
                      exact absurd H (by simp)
                  · rw [if_neg c13] at H
                    exact absurd H (by simp)
                · rw [if_neg c12] at H
                  have bl:decide (0≤(rd af ae))=false:=decide_eq_false c12;clear c12;have H':=ak H;clear H;have aq:0≤(ae:Int):=od q8_0;have ar:ae<(af.length:Int):=od q8_0;(try (obtain ⟨Aop_,cop_,eop_⟩:=Kd.R_slice ap.out;subst eop_));obtain ⟨br,a4,bW⟩:=Kd.at_int (Kd.R_reads' ap.out).2.2 ae aq ar;cases a4;replace aq:=eq_true aq;replace ar:=eq_true ar;go_wp2
                  go_roundg k1
                  case measure=>have:=HK1.out;omega
                  case rel=>exact ⟨(aa),(wrap64 (ae+1)),q8_1,H',⟨by have:=HK1.out;omega⟩,⟨pe ac.out⟩,⟨pe ap.out⟩,⟨hq⟩⟩
              · rw [if_neg c11] at H
                exact absurd H (by simp)
            · rw [if_neg c10] at H
              exact absurd H (by simp)
          · rw [if_neg c9] at H
            have ba:=df c9;clear c9;obtain rfl:=Option.some.inj H;go_wp2
            go_ret
            exact ⟨_,ew,pe (Kd.R_mono ac.out (fun _ hk=>trivial)),hq⟩
    · rw [if_neg c3] at H
      exact absurd H (by simp)
  · rw [if_neg c2] at H
    exact absurd H (by simp)
end Go.Proofs.Ytimfbpmaepmdoaa.QFnDrawings
