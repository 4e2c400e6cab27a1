/- Small laws for contracts that are proved by hand: rows of the call's own, copies. -/
import Derived.Test.YtimfbpmaepmdoaaWWords
import Derived.Test.YtimfbpmaepmdoaaWLast
import Derived.Test.YtimfbpmaepmdoaaWMore
import Derived.Laws.CopyOwn
import Derived.Deep.RegionLaw
import Derived.StillTailTactics
import Derived.Lib.LazyBuf
namespace Go.Proofs.Ytimfbpmaepmdoaa.Gl
open Go.RowKit Go.Proofs.YtimfbpmaepmdoaaW.PrintWords Go.Proofs.YtimfbpmaepmdoaaW.PrintLast Go.Proofs.YtimfbpmaepmdoaaW.PrintMore
set_option linter.unusedVariables false
set_option linter.unusedSimpArgs false
theorem sIB {α:Type} (l:List α) (i:Nat) (a:α):l.toArray.setIfInBounds i a=(l.set i a).toArray:=List.setIfInBounds_toArray l i a
theorem sc0 {α:Type} {x a:α} {xs:List α}:(x :: xs).set 0 a=a :: xs:=rfl
theorem scs {α:Type} {x a:α} {xs:List α} {i:Nat}:(x :: xs).set (i+1) a=x :: xs.set i a:=rfl
def tf (a b:Nat):Array Bool:=(List.replicate a true++List.replicate b false).toArray
def repd (x:Int) (n m:Nat):List Int:=List.replicate n x++List.replicate (m - n) 0
abbrev EI:Int→Value:=Value.int .i64
theorem take_splice {L:List Value} {x:Int} {n m:Nat} (h:n≤m) (hm:m≤L.length) (hL:L.take m=encs EI (repd x n m)) :
    (splice L n (encs EI (List.replicate (min n (m - n)) x))).take m=encs EI (repd x (n+min n (m - n)) m):=by
  have e1:L.take n=encs EI (List.replicate n x):=by
    have:=congrArg (List.take n) hL
    rw [List.take_take,Nat.min_eq_left h] at this
    rw [this];unfold repd encs;rw [List.map_append,List.take_append_of_le_length (by simp),List.take_of_length_le (by simp)]
  have e2:(L.take m).drop (n+min n (m - n))=encs EI (List.replicate (m - (n+min n (m - n))) 0):=by
    rw [hL];unfold repd encs
    rw [List.map_append,List.drop_append]
    simp
    omega
  unfold splice
  rw [e1]
  have l1:(encs EI (List.replicate n x)).length=n:=by simp [encs]
  have l2:(encs EI (List.replicate (min n (m - n)) x)).length=min n (m - n):=by simp [encs]
  rw [← List.append_assoc,List.take_append,List.length_append,l1,l2,List.take_of_length_le (by rw [List.length_append,l1,l2];omega)]
  have e3:(L.drop (n+min n (m - n))).take (m - (n+min n (m - n)))=(L.take m).drop (n+min n (m - n)):=by rw [List.drop_take]
  rw [e3,e2]
  unfold repd encs
  rw [← List.replicate_append_replicate,List.map_append,List.map_append]
open Go.RowKit in
theorem op_copy_splice {P:Program} {o:Oper} {a:Act} {w:World} {K:Act→World→Prop} {Q:Exit→Act→World→Prop} (d s:Operand) (dT sT:TypeId)
    (ho:o.op=.call { callee:=.builtin .copy,args:=#[d,s],argTypes:=#[dT,sT] }) (elem:TypeId) (hu:P.underlying dT=some (.slice elem)) (hsz:(P.info? elem).map (·.size)=some 1)
    (dp sp:Option Addr) (dLen dCap sLen sCap:Nat) (hd:a.eval d=.slice dp dLen dCap) (hs:a.eval s=.slice sp sLen sCap)
    (g off:Nat) (cur:List Value) (t:TypeId) (hg:w.heap[g]?=some (.cells cur.toArray t (0,0))) (cs:List Value) (hn:cs.length=Nat.min sLen dLen)
    (hpos:0<cs.length→dp=some ⟨g,off,none⟩∧∃ ad,sp=some ad∧∀ j v,cs[j]?=some v→w.cell? (ad.add j)=some v)
    (hfit:off+cs.length≤cur.length) (h1:∀ v∈cs,v.oneCell'=true) (B:Nat) (w0:World) (hb:RowKit.Below B w0 w) (hBg:B≤g)
    (h:∀ w',RowKit.Hid (w'.heap[g]?=some (.cells (splice cur off cs).toArray t (0,0)))→RowKit.Below B w0 w'→K (a.put o.dst (goInt cs.length)) w') :
    Oper.wp P o a w K Q:=by
  have:=step_copy_splice (P:=P) (ops:=#[o]) (o:={ o with guard:=none }) (a:=a) (w:=w) (K:=K) (Q:=Q) (E:=True) rfl d s dT sT ho elem hu hsz dp sp dLen dCap sLen sCap hd hs g off cur t hg cs hn hpos hfit h1 B w0 hb hBg h
  rw [if_pos (by simp [Region.wanted])] at this
  exact this
theorem copy_src {w:World} {g n m q:Nat} {x:Int} {L cs:List Value} (hg:w.heap[g]?=some (.cells L.toArray 2 (0,0))) (hL:L.take m=encs EI (repd x n m)) (hn:n≤m) (hcs:cs=encs EI (List.replicate q x)) (hq:q=min n (m - n)) {j:Nat} {v:Value} (hv:cs[j]?=some v) :
    w.drew.cell? ((⟨g,0,none⟩:Addr).add j)=some v:=by
  have hj:j<q:=by
    have:=(List.getElem?_eq_some_iff.1 hv).1
    rw [hcs] at this;simpa [encs] using this
  have e:v=EI x:=by
    rw [hcs] at hv
    simp [encs,List.getElem?_replicate,hj] at hv
    exact hv.symm
  have e2:L[j]?=some (EI x):=by
    have:(L.take m)[j]?=some (EI x):=by
      rw [hL];unfold repd encs
      rw [List.map_append,List.getElem?_append_left (by simp;omega)]
      simp [List.getElem?_replicate];omega
    rw [List.getElem?_take] at this
    split at this
    · exact this
    · cases this
  rw [e]
  show w.cell? _=_
  by_cases h0:j=0
  · subst h0;simp [World.cell?,Addr.add,hg,e2]
  · simp [World.cell?,Addr.add,hg,e2,h0]
theorem R_of_block {w:World} {base g m cap:Nat} {L:List Value} {xs:List Int} (hb:base≤g) (hg:w.heap[g]?=some (.cells L.toArray 2 (0,0))) (hL:L.length=cap) (hm:m≤cap) (hc:cap≤maxLen) (hx:xs.length=m) (ht:L.take m=encs EI xs) :
    (Kd.int .i64).R 2 w base (fun _=>True) (.slice (some ⟨g,0,none⟩) m cap) xs:=by
  refine Kd.R_of_own ?_ (fun _ _=>trivial)
  subst hx
  refine ⟨by simp [encs],.inr ⟨g,cap,L.toArray,rfl,hb,hg,hm,hc,by simp [hL],?_⟩⟩
  simpa using ht
theorem block_of_R {w:World} {base m:Nat} {v:Value} {xs:List Int} (h:(Kd.int .i64).R 2 w base (fun _=>True) v xs) (hx:xs.length=m) (hm:1≤m) :
    ∃ g cap L,v=.slice (some ⟨g,0,none⟩) m cap∧base≤g∧w.heap[g]?=some (.cells (L:List Value).toArray 2 (0,0))∧L.length=cap∧m≤cap∧cap≤maxLen∧L.take m=encs EI xs:=by
  have ho:=Kd.own_of_R h
  obtain ⟨h1,h2⟩:=ho
  rcases h2 with ⟨_,h2⟩|⟨g,cap,cur,hv,hb,hg,hm2,hc,hs,ht⟩
  · omega
  · subst hx
    exact ⟨g,cap,cur.toList,hv,hb,by simpa using hg,by simpa using hs,hm2,hc,by simpa using ht⟩
end Go.Proofs.Ytimfbpmaepmdoaa.Gl
