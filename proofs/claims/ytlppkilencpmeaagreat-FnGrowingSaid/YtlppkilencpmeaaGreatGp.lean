/- A row of the call's own whose cells have been written anew: what is held behind it. -/
import Derived.Test.YtlppkilencpmeaaGreatGl
import Derived.Shelf.SlicesG.Delete
namespace Go.Proofs.YtlppkilencpmeaaGreat.Gl
open Go.RowKit Go.Sort Go.Proofs.YtlppkilencpmeaaGreatW.PrintWords Go.Proofs.YtlppkilencpmeaaGreatW.PrintLast Go.Proofs.YtlppkilencpmeaaGreatW.PrintMore
set_option linter.unusedVariables false
set_option linter.unusedSimpArgs false
theorem holds_blk {w:World} {g:Nat} {L:List Value} {l:List Int} (hg:w.heap[g]?=some (.cells L.toArray 2 (0,0))) (ht:L.take l.length=encs EI l):Holds (Value.int .i64) w g 0 l.toArray:=by
  intro j hj
  have hj':j<l.length:=by simpa using hj
  have e:L[j]?=some (EI l[j]):=by
    have:(L.take l.length)[j]?=some (EI l[j]):=by rw [ht];simp [encs,hj']
    rw [List.getElem?_take,if_pos hj'] at this
    exact this
  have e2:l.toArray[j]! = l[j]:=by simp [hj']
  rw [e2,Nat.zero_add]
  refine ⟨by simp [World.cell?,hg,e],?_⟩
  simp [World.frozen?,hg]
theorem put_world {w0 w:World} {P0:Nat→Prop} {g cap:Nat} {L:List Value} {s rest:List Int} (hm:s.length+rest.length≤cap) (hb:w0.heap.size≤g) (hp:P0 g) (hg:w.heap[g]?=some (.cells L.toArray 2 (0,0))) (hL:L.length=cap) (hc:cap≤maxLen)
    (hB:Below w0.heap.size w0 w) (n:Nat) :
    (Kd.int .i64).R 2 (putRow (Value.int .i64) (Sort.ahead w n) g 0 (s++rest).toArray) w0.heap.size (fun k_=>(P0 k_∨w.heap.size≤k_)) (.slice (some ⟨g,0,none⟩) s.length cap) s ∧
    Below w0.heap.size w0 (putRow (Value.int .i64) (Sort.ahead w n) g 0 (s++rest).toArray)∧Kept w (putRow (Value.int .i64) (Sort.ahead w n) g 0 (s++rest).toArray) (fun k_=>P0 k_):=by
  have hglt:g<w.heap.size:=by
    rcases Nat.lt_or_ge g w.heap.size with h|h
    · exact h
    · rw [Array.getElem?_eq_none h] at hg;cases hg
  have hother:∀ k,k<w.heap.size→k≠g→(putRow (Value.int .i64) (Sort.ahead w n) g 0 (s++rest).toArray).heap[k]?=w.heap[k]?:=by
    intro k hk hne
    show (w.heap.modify g _)[k]?=_
    rw [Array.getElem?_modify,if_neg (fun e=>hne e.symm)]
  have hself:(putRow (Value.int .i64) (Sort.ahead w n) g 0 (s++rest).toArray).heap[g]?=some (.cells (putCells (Value.int .i64) 0 (s++rest).toArray L.toArray) 2 (0,0)):=by
    show (w.heap.modify g _)[g]?=_
    rw [Array.getElem?_modify,if_pos rfl,hg]
    rfl
  refine ⟨?_,⟨hB.os,hB.tape,hB.output,?_,fun k hk=>?_⟩,⟨?_,fun k hk hn=>?_⟩⟩
  · refine Kd.R_mono (ok:=fun k=>k=g) ?_ (fun k hk=>by rw [hk];exact .inl hp)
    refine Kd.R_of_own ?_ (fun k hk=>by simp [Value.ownBlock] at hk;exact hk.symm)
    refine ⟨by simp [encs],.inr ⟨g,cap,_,rfl,hb,hself,by omega,hc,by simp [putCells,hL],?_⟩⟩
    rw [Nat.mul_one]
    apply List.ext_getElem?
    intro i
    simp only [putCells,List.getElem?_take,Array.getElem?_toList,Array.getElem?_mapIdx,encs,List.getElem?_map]
    by_cases hi:i<s.length
    · rw [if_pos hi]
      have hiL:i<L.length:=by omega
      have hi2:i<s.length+rest.length:=by omega
      simp [hi,hiL,hi2,List.getElem_append_left hi]
    · rw [if_neg hi,List.getElem?_eq_none (by omega)];rfl
  · have:=hB.size
    show w0.heap.size≤(putRow (Value.int .i64) (Sort.ahead w n) g 0 (s++rest).toArray).heap.size
    simp [Sort.ahead];omega
  · rw [hother k (by have:=hB.size;omega) (by omega)]
    exact hB.block k hk
  · show w.heap.size≤(putRow (Value.int .i64) (Sort.ahead w n) g 0 (s++rest).toArray).heap.size
    simp [Sort.ahead]
  · exact hother k hk (fun e=>hn (by rw [e];exact hp))
end Go.Proofs.YtlppkilencpmeaaGreat.Gl
