/- Short words of the walks: what holds of rows, blocks and worlds is carried on by instances; closing steps that stand often in the printed texts, each said once. -/
import Derived.Test.YtimfbpmaepmdoaaGl
import Derived.Test.YtimfbpmaepmdoaaWApart
import Derived.KernelRfl
namespace Go.Proofs.Ytimfbpmaepmdoaa.Sz
open Go.RowKit Go.Proofs.YtimfbpmaepmdoaaW.PrintWords Go.Proofs.YtimfbpmaepmdoaaW.PrintLast Go.Proofs.YtimfbpmaepmdoaaW.PrintMore
set_option linter.unusedVariables false
structure Lp (w w':World):Prop where
 b:Below w.heap.size w w'
instance lpr (w:World):Nonempty (Lp w w):=⟨⟨Below.refl _ _⟩⟩
instance lpa (w w':World) (o:Obj) [h:Nonempty (Lp w w')]:Nonempty (Lp w (w'.alloc o)):=h.elim fun q=>⟨⟨below_alloc q.b o⟩⟩
instance lpn (w w':World) (m:Nat) [h:Nonempty (Lp w w')]:Nonempty (Lp w (w'.drewN m)):=h.elim fun q=>⟨⟨pw_below_drewN q.b m⟩⟩
instance lpd (w w':World) [h:Nonempty (Lp w w')]:Nonempty (Lp w w'.drew):=h.elim fun q=>⟨⟨below_drew1 q.b⟩⟩
section
variable {α β:Type} {d:Kd α} {d':Kd β} {e e' g n:Nat} {w w' w1 W:World} {base b:Nat} {ok ok' okv oku:Nat→Prop} {u v:Value} {xs:List α} {ys:List β} {o:Obj} {A:Option Addr}
theorem pe (h:d.R e w base ok v xs) [q:Nonempty (Lp w w')]:d.R e w' base ok v xs:=q.elim fun q=>Kd.R_below h q.b
theorem pc (h:d.C w A n xs) [q:Nonempty (Lp w w')]:d.C w' A n xs:=q.elim fun q=>Kd.C_below h q.b
theorem pb (h:w.heap[g]?=some o) [q:Nonempty (Lp w w')]:w'.heap[g]?=some o:=q.elim fun q=>blk_below h q.b
theorem rb (h:Aside0 (d.R e w base ok v xs)) (hb:Below w'.heap.size w' w1) [q:Nonempty (Lp w w')]:Aside0 (d.R e w1 base ok v xs):=⟨Kd.R_below (pe h.out) hb⟩
theorem bb (h:Aside0 (w.heap[g]?=some o)) (hb:Below w'.heap.size w' w1) [q:Nonempty (Lp w w')]:Aside0 (w1.heap[g]?=some o):=⟨blk_below (pb h.out) hb⟩
theorem rn (h:Aside0 (d.R e w base ok u xs)) (ho:Kd.R d' e' w1 w'.heap.size okv v ys) (hb:Below w'.heap.size w' w1) [q:Nonempty (Lp w w')]:Aside0 (d.R e w1 base (fun k=>ok k∧some k≠v.ownBlock) u xs):=⟨Kd.R_elder' (pe h.out) (Kd.R_base ho) hb⟩
theorem rf (h:Aside0 (d.R e w base ok v xs)) {t:Nat} {cells:Array Value} (hb:Aside0 (w.heap[g]?=some (.cells cells t (0,0)))) (u:Value) (ht:∀ q,q∈e :: d.E→q≠t:=by decide):d.R e (w.setCell ⟨g,0,none⟩ u) base ok v xs :=
  Kd.R_mono (Kd.R_far (p:=⟨g,0,none⟩) (Kd.R_types h.out hb.out ht) (fun _ hk=>hk.2) u) (fun _ h_=>h_.1)
theorem geb (hg:g=W.heap.size) (h:Below w.heap.size w W):w.heap.size≤g:=by rw [hg];exact below_size h
theorem nel {x:Nat} (hg:g=W.heap.size) (h:x<W.heap.size):x≠g:=by rw [hg];exact Nat.ne_of_lt h
theorem neg {x:Nat} (hg:g=W.heap.size) (h:x<W.heap.size):g≠x:=by rw [hg];exact Nat.ne_of_gt h
theorem bc {t:TypeId} {v:Value} (h:w.heap[g]?=some (.cells #[v] t (0,0))):w.cell? ⟨g,0,none⟩=some v:=(blk_cell h 0).trans rfl
theorem nlb {x:Nat} (hg:g=w'.heap.size) (h:Aside0 (w.heap[x]?=some o)) [q:Nonempty (Lp w w')]:Aside0 (x≠g):=⟨nel hg (blk_lt (pb h.out))⟩
theorem ngb {x:Nat} (hg:g=w'.heap.size) (h:Aside0 (w.heap[x]?=some o)) [q:Nonempty (Lp w w')]:Aside0 (g≠x):=⟨neg hg (blk_lt (pb h.out))⟩
theorem nw (ho:Kd.R d e w1 w'.heap.size ok v xs) (h:Aside0 (d'.R e' w b oku u ys)) [q:Nonempty (Lp w w')]:Kd.R d e w1 w'.heap.size (fun k=>ok k∧some k≠u.ownBlock) v xs:=Kd.R_new' ho (Kd.R_lt (pe h.out))
end
theorem ak {p:Prop} (h:p):Aside0 p:=⟨h⟩
theorem od {p:Prop} [Decidable p] (h:decide p=true):p:=of_decide_eq_true h
section
variable {P:Program} {ops:Array Oper} {Q:Exit→Act→World→Prop} {md:Region.Mode} {S:World→Prop} {ds:List Nat}
theorem gl {rest:List Oper} {oi:Oper} {a:Act} {w:World} (N:Option Tmp) {f:FuncId} {fn:Func} {as:Array Operand} {ts:Array TypeId} (hf:P.funcs[f]?=some fn) (args:Array Value)
    (h : Calls P f args w fun e w' => ∃ v, e = .returned v ∧ wpList P ops Q rest (a.put N v) w') (hd : oi.dst = N := by rfl) (hg : oi.guard = none := by rfl) (hname : (fn.name == "runtime.NumGoroutine") = false := by kernel_rfl) (hb : fn.body.isSome = true := by rfl)
    (hop:oi.op=.call { callee:=.value (.func f),args:=as,argTypes:=ts }:=by rfl) (hargs:as.map a.eval=args:=by (try simp only [List.map_toArray,List.map_cons,List.map_nil]);first|done|rfl|(simp only [List.length_drop,List.length_take];rfl)):wpList P ops Q (oi :: rest) a w:=goesL_ N hd hg hf hname hb args hop hargs h
theorem pur {i:Nat} {N:Option Tmp} {oi:Oper} {v:Value} {fuel:Nat} {l:Array Bool} {a:Act} {w:World} (l':Array Bool) (hi:ops[i]?=some oi) (hy:Yields P ops oi v a) {a':Act} (ha:a.put N v=a') (h:wpAnyLast P md ops Q S ds fuel l' a' w)
    (hN:oi.dst=N:=by rfl) (hc:anyB md ops l l' i=true:=by exact any_of HT_.out (by kernel_rfl)) (hQ:∀ c a w,Q (.panic c) (a.put oi.dst v) w→Q (.panic c) a w:=by exact fun _ _ _ h=>h):wpAnyLast P md ops Q S ds (fuel+1) l a w:=pure_ l' hi hN hc hQ hy ha h
end
theorem bs {α β:Type} {x:Option α} {f:α→Option β} {r:β} (h:x.bind f=some r):∃ a,Aside0 (x=some a)∧f a=some r:=by
  obtain ⟨a,h1,h2⟩:=Option.bind_eq_some_iff.mp h
  exact ⟨a,⟨h1⟩,h2⟩
theorem ifs {P:Prop} [Decidable P] {α:Type} {x:Option α} {r:α} (h:(if P then x else none)=some r):P∧x=some r:=by
  by_cases c:P
  · rw [if_pos c] at h;exact ⟨c,h⟩
  · rw [if_neg c] at h;cases h
theorem ifn {b:Bool} {α:Type} {x:Option α} {r:α} (h:(if b=true then none else x)=some r):b=false∧x=some r:=by
  cases b with
  | true=>cases h
  | false=>exact ⟨rfl,h⟩
theorem nem (P:Prop):¬ P∨P:=(Classical.em P).symm
theorem dt {P:Prop} [Decidable P] (h:P):decide P=true:=decide_eq_true h
theorem df {P:Prop} [Decidable P] (h:¬ P):decide P=false:=decide_eq_false h
theorem be {α:Type} [BEq α] [LawfulBEq α] {a b:α} (h:a=b):(a == b)=true:=beq_iff_eq.mpr h
theorem bn {α:Type} [BEq α] [LawfulBEq α] {a b:α} (h:a=b):(a != b)=false:=bne_eq_false_iff_eq.mpr h
theorem kr {P:Prop} (h:P:=by kernel_rfl):P:=h
theorem dc {P:Prop} (h:P:=by decide):P:=h
theorem hh {P:Prop} (h:P:=by first|(rw [hY];with_reducible exact H)|(have H2_:=(Option.bind_some _ _).symm.trans H;rw [hY];with_reducible exact H2_)|(have H2_:=(Option.bind_some _ _).symm.trans H;with_reducible exact H2_)|with_reducible exact H|(rw [hY];exact H)|exact H):P:=h
section
variable {P:Program} {ops:Array Oper} {rest:List Oper} {o:Oper} {a:Act} {Q:Exit→Act→World→Prop}
theorem bev {W:World} {N:Tmp} {cs:Array Value} {t:TypeId}
    (h:∀ g,g=W.heap.size→∀ w1,w1.heap[g]?=some (.cells cs t (0,0))→Below W.heap.size W w1→wpList P ops Q rest (a.put o.dst (.pointer (some ⟨g,0,none⟩))) w1)
    (hgd:o.guard=none:=by rfl) (hd:o.dst=some N:=by rfl) (hrun:(execOp a.eval o).run P W=.ok (.value (.pointer (some ⟨W.heap.size,0,none⟩))) (W.alloc (.cells cs t (0,0))):=by first|(go_simp;done)|(go_simp;rfl)):wpList P ops Q (o :: rest) a W:=box_event hgd hd hrun h
end
theorem hq {P:Prop} (h:P:=by repeat (first|(with_reducible first|exact HB.out|apply below_alloc|apply pw_below_drewN|apply below_drew1|refine below_set ?_ (Aside0.out (by with_reducible assumption)))|exact HB.out)):P:=h
theorem gbe {w W:World} {g:Nat} (hg:g=W.heap.size) (h:Below w.heap.size w W:=by repeat (first|(with_reducible first|exact HB.out|apply below_alloc|apply pw_below_drewN|apply below_drew1|refine below_set ?_ (Aside0.out (by with_reducible assumption)))|exact HB.out)):Aside0 (w.heap.size≤g):=⟨geb hg h⟩
theorem hbs {w W w2:World} (hb:Below W.heap.size W w2) (h:Below w.heap.size w W:=by repeat (first|(with_reducible first|exact HB.out|apply below_alloc|apply pw_below_drewN|apply below_drew1|refine below_set ?_ (Aside0.out (by with_reducible assumption)))|exact HB.out)):Aside0 (Below w.heap.size w w2):=⟨below_step h hb⟩
theorem lw {α:Type} {d:Kd α} {e:Nat} {w w1 W:World} {ok:Nat→Prop} {v:Value} {xs:List α} (h0:d.R e w1 W.heap.size ok v xs) (h:Below w.heap.size w W:=by repeat (first|(with_reducible first|exact HB.out|apply below_alloc|apply pw_below_drewN|apply below_drew1|refine below_set ?_ (Aside0.out (by with_reducible assumption)))|exact HB.out)):Aside0 (d.R e w1 w.heap.size ok v xs):=⟨Kd.R_lower h0 (below_size h)⟩
theorem am {P:Prop} (h:P:=by (try simp only [List.map_toArray,List.map_cons,List.map_nil]);first|done|rfl|(simp only [List.length_drop,List.length_take];rfl)):P:=h
theorem dn {P:Prop} (h:P:=by first|exact ⟨rfl,_,World.drewN_drewN _ _ _⟩|exact ⟨rfl,_,Eq.trans (World.drewN_drewN _ _ _) (congrArg (World.drewN _) (Nat.add_assoc _ _ _))⟩):P:=h
theorem gs {P:Prop} (h:P:=by first|(go_simp;done)|(go_simp;rfl)):P:=h
theorem ew {P:Prop} (h:P:=by first|rfl|(simp [errW_none,errW_some] <;> rfl)|(simp [*,errW_none,errW_some] <;> rfl)):P:=h
end Go.Proofs.Ytimfbpmaepmdoaa.Sz
