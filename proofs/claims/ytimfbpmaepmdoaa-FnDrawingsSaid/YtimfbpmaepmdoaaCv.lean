/- A row of bytes made from a string: it is marked behind its end, so it is told apart from other rows of one's own. Laws of the model's steps. -/
import Derived.Test.YtimfbpmaepmdoaaWMore
import Derived.Lib.ConvBytes
namespace Go.Proofs.Ytimfbpmaepmdoaa.Cv
open Go.RowKit Go.Proofs.YtimfbpmaepmdoaaW.PrintWords Go.Lib
set_option linter.unusedSimpArgs false
set_option linter.unusedVariables false
def Cv (e:Nat) (W:World) (base:Nat) (v:Value) (xs:List Int):Prop :=
  ∃ (g cap:Nat) (cur:Array Value) (fz:Nat × Nat),v=.slice (some ⟨g,0,none⟩) xs.length cap∧base≤g∧W.heap[g]?=some (.cells cur e fz)∧xs.length≤fz.1∧xs.length≤cur.size∧∀ i,i<xs.length→cur[i]?=some (.int .u8 (rd xs (i:Int)))
theorem Cv.form {e:Nat} {W:World} {base:Nat} {v:Value} {xs:List Int} (h:Cv e W base v xs):∃ g cap,v=.slice (some ⟨g,0,none⟩) xs.length cap∧base≤g∧g<W.heap.size:=by
  obtain ⟨g,cap,cur,fz,e1,e2,e3,_⟩:=h
  refine ⟨g,cap,e1,e2,?_⟩
  rcases Nat.lt_or_ge g W.heap.size with h|h
  · exact h
  · rw [Array.getElem?_eq_none h] at e3;cases e3
theorem Cv.lower {e:Nat} {W:World} {base base':Nat} {v:Value} {xs:List Int} (h:Cv e W base v xs) (hb:base'≤base):Cv e W base' v xs:=by
  obtain ⟨g,cap,cur,fz,e1,e2,e3⟩:=h
  exact ⟨g,cap,cur,fz,e1,Nat.le_trans hb e2,e3⟩
theorem Cv.typed {e:Nat} {W:World} {base:Nat} {v:Value} {xs:List Int} (h:Cv e W base v xs):∀ k,v.ownBlock=some k→∃ cells fz,W.heap[k]?=some (.cells cells e fz):=by
  obtain ⟨g,cap,cur,fz,rfl,e2,e3,_⟩:=h
  intro k hk
  have:g=k:=by simpa [Value.ownBlock] using hk
  subst this
  exact ⟨cur,fz,e3⟩
theorem Cv.cell {e:Nat} {W:World} {base g n cap:Nat} {xs:List Int} (h:Cv e W base (.slice (some ⟨g,0,none⟩) n cap) xs) (i:Int) (h0:0≤i) (hi:i<(xs.length:Int)):W.cell? ⟨g,i.toNat,none⟩=some (.int .u8 (rd xs i))∧W.frozen? ⟨g,i.toNat,none⟩=false:=by
  obtain ⟨g',cap',cur,fz,e1,e2,e3,e4,e5,e6⟩:=h
  injection e1 with e1 _ _
  injection e1 with e1
  injection e1 with e1
  subst e1
  obtain ⟨j,rfl⟩:=Int.eq_ofNat_of_zero_le h0
  have hj:=e6 j (by omega)
  refine ⟨?_,?_⟩
  · simp only [World.cell?,e3,Int.toNat_natCast]
    simpa using hj
  · simp only [World.frozen?,e3,Int.toNat_natCast]
    have:¬ fz.1≤j:=by omega
    simp [this]
theorem Cv.put {e:Nat} {W:World} {base g n cap:Nat} {xs:List Int} (h:Cv e W base (.slice (some ⟨g,0,none⟩) n cap) xs) (i:Int) (x:Int) (h0:0≤i) (hi:i<(xs.length:Int)):Cv e (W.setCell ⟨g,i.toNat,none⟩ (.int .u8 x)) base (.slice (some ⟨g,0,none⟩) n cap) (xs.set i.toNat x)∧W.grownBy (W.setCell ⟨g,i.toNat,none⟩ (.int .u8 x)) (some g):=by
  obtain ⟨g',cap',cur,fz,e1,e2,e3,e4,e5,e6⟩:=h
  injection e1 with e1 en ec
  injection e1 with e1
  injection e1 with e1
  subst e1
  refine ⟨⟨g,cap,cur.setIfInBounds i.toNat (.int .u8 x),fz,by rw [List.length_set,en],e2,?_,by rw [List.length_set];exact e4,by rw [List.length_set,Array.size_setIfInBounds];exact e5,fun j hj=>?_⟩,⟨rfl,rfl,rfl,by simp [World.setCell],fun k _ hk=>Below.heap_setCell _ _ _ k (fun e=>hk (by rw [e]))⟩⟩
  · simp only [World.setCell,Array.getElem?_modify,e3]
    simp
  · rw [List.length_set] at hj
    obtain ⟨q,rfl⟩:=Int.eq_ofNat_of_zero_le h0
    rw [Int.toNat_natCast,Array.getElem?_setIfInBounds]
    unfold rd
    rw [Int.toNat_natCast,List.getD_eq_getElem?_getD,List.getElem?_set]
    by_cases e:q=j
    · subst e
      rw [if_pos rfl,if_pos (by omega),if_pos rfl,if_pos (by omega)];rfl
    · rw [if_neg e,if_neg e,e6 j hj]
      unfold rd
      rw [Int.toNat_natCast,List.getD_eq_getElem?_getD]
theorem Cv.over {e e':Nat} {W w1:World} {base:Nat} {v u:Value} {xs:List Int} (h:Cv e W base v xs) (hv:∀ k,u.ownBlock=some k→∃ cells,W.heap[k]?=some (.cells cells e' (0,0))) (ht:e≠e') (hg:W.grownBy w1 u.ownBlock):Cv e w1 base v xs:=by
  obtain ⟨g,cap,cur,fz,e1,e2,e3,e4⟩:=h
  refine ⟨g,cap,cur,fz,e1,e2,?_,e4⟩
  have hlt:g<W.heap.size:=by
    rcases Nat.lt_or_ge g W.heap.size with h|h
    · exact h
    · rw [Array.getElem?_eq_none h] at e3;cases e3
  rw [hg.block g hlt (fun he=>?_)]
  · exact e3
  · obtain ⟨cells,hc⟩:=hv g he.symm
    rw [e3] at hc
    injection hc with hc
    injection hc with _ hc
    exact ht hc
theorem R_overF {α:Type} {d:Kd α} {e e':Nat} {W w1:World} {base:Nat} {u v:Value} {xs:List α} {ok:Nat→Prop} (h:d.R e W base ok u xs) (hty:∀ k,v.ownBlock=some k→∃ cells fz,W.heap[k]?=some (.cells cells e' fz)) (ht:∀ q,q∈e :: d.E→q≠e') (hg:W.grownBy w1 v.ownBlock):d.R e w1 base ok u xs:=by
  refine Kd.R_mono (Kd.R_move (Kd.R_bound h) (fun k hk=>hg.block k hk.2.2.1 (fun he=>?_))) (fun _ hk=>hk.1)
  obtain ⟨_,_,_,q,hq,cells,hc⟩:=hk
  obtain ⟨cells',fz,hc'⟩:=hty k he.symm
  rw [hc] at hc'
  injection hc' with hc'
  injection hc' with _ hc'
  exact ht q hq hc'
theorem Cv.ne {e:Nat} {W:World} {base:Nat} {v:Value} {xs:List Int} (h:Cv e W base v xs) {g t:Nat} {cells:Array Value} (hb:W.heap[g]?=some (.cells cells t (0,0))) (ht:e≠t):some g≠v.ownBlock:=by
  intro he
  obtain ⟨c,fz,hc⟩:=h.typed g he.symm
  rw [hb] at hc
  injection hc with hc
  injection hc with _ hc
  exact ht hc.symm
theorem Cv.string {P:Program} {e':Nat} {W:World} {base:Nat} {e src dst:TypeId} {v:Value} {xs:List Int} (hs:P.underlying src=some (.slice e)) (he:P.underlying e=some (.int .u8)) (hd:P.underlying dst=some .string) (h:Cv e' W base v xs):(convert src dst v).run P W=.ok (.string (strOfNums xs)) W:=by
  obtain ⟨g,cap,hv,_,_⟩:=h.form
  subst hv
  refine run_convert_bytes_arg W src e hs he g 0 xs.length cap xs rfl (fun i hi=>?_) dst hd
  have:=(h.cell (i:Int) (by omega) (by omega)).1
  rw [Int.toNat_natCast] at this
  rw [Nat.zero_add,this]
  rfl
section
variable {P:Program} {ops:Array Oper} {rest:List Oper} {o:Oper} {a:Act} {Q:Exit→Act→World→Prop}
theorem bytes_len (s:ByteArray):(bytesOf s).length=s.size:=by simp [bytesOf]
theorem make_cv {W:World} {e:Nat} (s:ByteArray):Cv e (bytesWorld W e s) W.heap.size (.slice (some ⟨W.heap.size,0,none⟩) s.size (grownCap W s.size 0 e)) (bytesOf s):=by
  have hl:=bytes_len s
  refine ⟨W.heap.size,_,bytesCells W e s,_,by rw [hl],Nat.le_refl _,bytesWorld_at_new W e s,?_,?_,fun i hi=>?_⟩
  · simp [hl,bytesCells]
  · simp [hl,bytesCells]
  · rw [hl] at hi
    have h:=bytesWorld_cell W e s i hi
    simp only [World.cell?,bytesWorld_at_new] at h
    have h2:(bytesCells W e s)[i]?=some (Value.int .u8 (s.data.toList.getD i 0).toNat):=by simpa using h
    rw [h2]
    unfold rd bytesOf
    rw [Int.toNat_natCast,List.getD_eq_getElem?_getD,List.getD_eq_getElem?_getD,List.getElem?_map]
    have hi2:i<s.data.toList.length:=by simpa using hi
    rw [List.getElem?_eq_getElem hi2]
    simp
theorem make_event {w0 W:World} (base e:Nat) (hgd:o.guard=none) {N:Tmp} (hd:o.dst=some N) (src t:TypeId) (x:Operand) (ho:o.op=.convert src t x) (s:ByteArray) (hx:a.eval x=.string s) {u:TypeDesc}
    (hs:P.underlying src=some u) (ht:P.underlying t=some (.slice e)) (he:P.underlying e=some (.int .u8)) (HB:Below base w0 W) (hbase:base≤W.heap.size)
    (h:∀ v1 w1,Cv e w1 W.heap.size v1 (bytesOf s)→Below W.heap.size W w1→wpList P ops Q rest (a.put o.dst v1) w1):wpList P ops Q (o :: rest) a W:=by
  have hr:=Go.Lib.run_convert_string_bytes (P:=P) W src t e s hs ht he
  refine Kd.event_run hgd (v:=.slice (some ⟨W.heap.size,0,none⟩) s.size (grownCap W s.size 0 e)) (w1:=bytesWorld W e s) (by simp [execOp,ho,hx,hr]) (h _ _ (make_cv s) ⟨?_,?_,?_,?_,fun k hk=>bytesWorld_at_old W e s k hk⟩)
  · simp [bytesWorld,World.freeze,World.alloc,World.drew,-World.alloc_eq,-World.drew_eq]
  · simp [bytesWorld,World.freeze,World.alloc,World.drew,-World.alloc_eq,-World.drew_eq]
  · simp [bytesWorld,World.freeze,World.alloc,World.drew,-World.alloc_eq,-World.drew_eq]
  · rw [bytesWorld_size];omega
end
end Go.Proofs.Ytimfbpmaepmdoaa.Cv
