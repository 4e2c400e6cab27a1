import Derived.Test.YtlppkilencpmeaaGreatQFnGrowingx
import Derived.Test.YtlppkilencpmeaaGreatGs
import Derived.Test.YtlppkilencpmeaaGreatWWords
import Derived.Laws.Bits64b
namespace Go.Proofs.YtlppkilencpmeaaGreat.Tr
open Go.RowKit Go.Proofs.YtlppkilencpmeaaGreatW.PrintWords
set_option linter.unusedSimpArgs false
set_option linter.unusedVariables false
inductive F where
  | nil:F
  | cons:F→F→F
  deriving DecidableEq
namespace F
def size:F→Nat
  | nil=>0
  | cons b n=>1+b.size+n.size
def len:F→Nat
  | nil=>0
  | cons _ n=>1+n.len
def enc:F→List Int
  | nil=>[]
  | cons b n=>(b.len:Int) :: (b.enc++n.enc)
def app:F→F→F
  | nil,g=>g
  | cons b n,g=>cons b (n.app g)
def roots:F→Nat→List Int
  | nil,_=>[]
  | cons b n,p=>(p:Int) :: n.roots (p+1+b.size)
theorem enc_len (f:F):f.enc.length=f.size:=by
  induction f with
  | nil=>rfl
  | cons b n hb hn=>simp [enc,size,hb,hn];omega
theorem roots_len (f:F):∀ p,(f.roots p).length=f.len:=by
  induction f with
  | nil=>intro p;rfl
  | cons b n hb hn=>intro p;simp [roots,len,hn];omega
theorem len_le (f:F):f.len≤f.size:=by
  induction f with
  | nil=>exact Nat.le_refl _
  | cons b n hb hn=>simp [len,size];omega
theorem app_len (f g:F):(f.app g).len=f.len+g.len:=by
  induction f with
  | nil=>simp [app,len]
  | cons b n _ hn=>simp [app,len,hn];omega
theorem app_enc (f g:F):(f.app g).enc=f.enc++g.enc:=by
  induction f with
  | nil=>simp [app,enc]
  | cons b n _ hn=>simp [app,enc,hn]
theorem len_zero {f:F} (h:f.len=0):f=nil:=by
  cases f with
  | nil=>rfl
  | cons b n=>simp [len] at h
theorem split:∀ (g:F) (i:Nat),i≤g.len→∃ b n:F,g=b.app n∧b.len=i
  | g,0,_=>⟨nil,g,rfl,rfl⟩
  | nil,i+1,h=>by simp [len] at h
  | cons b n,i+1,h=>by
    obtain ⟨x,y,rfl,hx⟩:=split n i (by simp [len] at h;omega)
    exact ⟨cons b x,y,rfl,by simp only [len,hx];omega⟩
end F
def Pl (d:List Int) (p:Nat) (g:F):Prop:=∃ pre post,d=pre++g.enc++post∧pre.length=p
theorem rd_app (pre s:List Int) (i:Nat):rd (pre++s) ((pre.length+i:Nat):Int)=rd s (i:Nat):=by
  unfold rd
  rw [Int.toNat_natCast,Int.toNat_natCast,List.getD_eq_getElem?_getD,List.getD_eq_getElem?_getD,List.getElem?_append_right (by omega)]
  congr 2
  omega
theorem rd_app0 (pre s:List Int):rd (pre++s) (pre.length:Int)=rd s 0:=by
  have:=rd_app pre s 0
  simpa using this
theorem rd_cons0 (x:Int) (s:List Int):rd (x :: s) 0=x:=by simp [rd]
theorem rd_mem {l:List Int} {i:Int} (h0:0≤i) (h:i<l.length):rd l i∈l:=by
  unfold rd
  rw [List.getD_eq_getElem?_getD,List.getElem?_eq_getElem (by omega)]
  exact List.getElem_mem _
theorem rd_getElem {l:List Int} {i:Nat} (h:i<l.length):rd l (i:Int)=l[i]:=by
  unfold rd
  rw [List.getD_eq_getElem?_getD,Int.toNat_natCast,List.getElem?_eq_getElem h];rfl
namespace Pl
theorem le {d:List Int} {p:Nat} {g:F} (h:Pl d p g):p+g.size≤d.length:=by
  obtain ⟨pre,post,rfl,rfl⟩:=h
  simp only [List.length_append,F.enc_len];omega
theorem whole (g:F):Pl g.enc 0 g:=⟨[],[],by simp,rfl⟩
theorem deg {d:List Int} {p:Nat} {b n:F} (h:Pl d p (.cons b n)):rd d (p:Int)=b.len:=by
  obtain ⟨pre,post,rfl,rfl⟩:=h
  rw [List.append_assoc,rd_app0]
  simp [F.enc,rd]
theorem below {d:List Int} {p:Nat} {b n:F} (h:Pl d p (.cons b n)):Pl d (p+1) b:=by
  obtain ⟨pre,post,rfl,rfl⟩:=h
  exact ⟨pre++[(b.len:Int)],n.enc++post,by simp [F.enc],by simp⟩
theorem next {d:List Int} {p:Nat} {b n:F} (h:Pl d p (.cons b n)):Pl d (p+1+b.size) n:=by
  obtain ⟨pre,post,rfl,rfl⟩:=h
  exact ⟨pre++(b.len:Int) :: b.enc,post,by simp [F.enc],by simp [F.enc_len];omega⟩
theorem one {d:List Int} {p:Nat} {b n:F} (h:Pl d p (.cons b n)):Pl d p (.cons b .nil):=by
  obtain ⟨pre,post,rfl,rfl⟩:=h
  exact ⟨pre,n.enc++post,by simp [F.enc],rfl⟩
theorem left {d:List Int} {p:Nat} {f g:F} (h:Pl d p (f.app g)):Pl d p f:=by
  obtain ⟨pre,post,rfl,rfl⟩:=h
  exact ⟨pre,g.enc++post,by simp [F.app_enc],rfl⟩
end Pl
def ok:List Int→Int→Bool
  | [],m=>m == 0
  | x :: xs,m=>m != 0 && (decide (0≤x) && (decide (x<24) && ok xs (m - 1+x)))
def isT (d:List Int):Bool:=decide (1≤d.length) && (decide (d.length≤24) && ok d 1)
theorem ok_enc:∀ (l:List Int) (m:Int),0≤m→ok l m=true→∃ g:F,l=g.enc∧(g.len:Int)=m:=by
  intro l
  induction l with
  | nil=>intro m _ h;exact ⟨.nil,rfl,by simp [ok] at h;simp [F.len,h]⟩
  | cons x xs ih =>
    intro m hm h
    simp only [ok,Bool.and_eq_true,bne_iff_ne,decide_eq_true_eq] at h
    obtain ⟨h0,h1,h2,h3⟩:=h
    obtain ⟨g,rfl,hg⟩:=ih (m - 1+x) (by omega) h3
    obtain ⟨b,n,rfl,hb⟩:=F.split g x.toNat (by omega)
    refine ⟨.cons b n,?_,?_⟩
    · simp only [F.enc,F.app_enc,List.cons.injEq,and_true];omega
    · rw [F.app_len] at hg;simp only [F.len];omega
theorem enc_ok:∀ (g:F) (s:List Int) (j:Nat),g.size<24→ok (g.enc++s) (g.len+j)=ok s j:=by
  intro g
  induction g with
  | nil=>intro s j _;simp [F.enc,F.len]
  | cons b n hb hn =>
    intro s j hs
    simp only [F.size] at hs
    have h1:=hb (n.enc++s) (n.len+j) (by omega)
    have h2:=hn s j (by omega)
    have hl:=F.len_le b
    have e:((1+n.len:Nat):Int)+(j:Int) - 1+(b.len:Int)=(b.len:Int)+((n.len+j:Nat):Int):=by omega
    have e2:((n.len+j:Nat):Int)=(n.len:Int)+(j:Int):=by omega
    have hne:((1+n.len:Nat):Int)+(j:Int)≠0:=by omega
    simp only [F.enc,F.len,List.cons_append,ok,List.append_assoc,e,h1]
    rw [e2,h2]
    have hb0:(0:Int)≤(b.len:Int):=by omega
    have hb1:(b.len:Int)<24:=by omega
    rw [bne_iff_ne.mpr hne,decide_eq_true hb0,decide_eq_true hb1]
    rfl
theorem isT_iff (d:List Int):isT d=true↔∃ b:F,d=(F.cons b .nil).enc∧1+b.size≤24:=by
  constructor
  · intro h
    simp only [isT,Bool.and_eq_true,decide_eq_true_eq] at h
    obtain ⟨h0,h1,h2⟩:=h
    obtain ⟨g,rfl,hg⟩:=ok_enc d 1 (by omega) h2
    cases g with
    | nil=>simp [F.len] at hg
    | cons b n =>
      obtain rfl:=F.len_zero (f:=n) (by simp [F.len] at hg;omega)
      refine ⟨b,rfl,?_⟩
      simp [F.enc_len,F.size] at h1
      omega
  · rintro ⟨b,rfl,hb⟩
    simp only [isT,Bool.and_eq_true,decide_eq_true_eq,F.enc_len,F.size]
    refine ⟨by omega,by omega,?_⟩
    have h1:=enc_ok b [] 0 (by omega)
    have hl:=F.len_le b
    have e:(1:Int) - 1+(b.len:Int)=(b.len:Int)+((0:Nat):Int):=by omega
    simp only [F.enc,ok,List.append_nil] at h1 ⊢
    rw [e,h1]
    have hb1:(b.len:Int)<24:=by omega
    simp [hb1]
def ok25:List Int→Int→Bool
  | [],m=>m == 0
  | x :: xs,m=>m != 0 && (decide (0≤x∧x≤24) && ok25 xs (m - 1+x))
theorem ok25_short:∀ (l:List Int) (m:Int),l.length<m→ok25 l m=false:=by
  intro l
  induction l with
  | nil=>intro m h;simp [ok25] at h ⊢;omega
  | cons x l ih =>
    intro m h
    by_cases hx:0≤x∧x≤24
    · simp only [ok25,ih (m - 1+x) (by simp only [List.length_cons] at h;omega),Bool.and_false]
    · simp only [ok25,decide_eq_false hx,Bool.false_and,Bool.and_false]
theorem ok25_eq:∀ (l:List Int) (m:Int),0≤m→l.length≤24→ok25 l m=ok l m:=by
  intro l
  induction l with
  | nil=>intro m _ _;rfl
  | cons x l ih =>
    intro m hm hl
    simp only [List.length_cons] at hl
    by_cases h0:m=0
    · simp [ok25,ok,h0]
    by_cases hx:0≤x
    · by_cases hy:x<24
      · simp only [ok25,ok,ih (m - 1+x) (by omega) (by omega),decide_eq_true hx,decide_eq_true hy,decide_eq_true (⟨hx,by omega⟩:0≤x∧x≤24),Bool.true_and]
      · simp only [ok25,ok,decide_eq_false hy,Bool.false_and,Bool.and_false]
        by_cases hz:x=24
        · simp only [ok25_short l (m - 1+x) (by omega),Bool.and_false]
        · simp only [decide_eq_false (by omega:¬ (0≤x∧x≤24)),Bool.false_and,Bool.and_false]
    · simp only [ok25,ok,decide_eq_false hx,decide_eq_false (fun h=>hx h.1:¬ (0≤x∧x≤24)),Bool.false_and,Bool.and_false]
theorem isT_eq25 (d:List Int) (h0:1≤d.length) (h1:d.length≤24):isT d=ok25 d 1:=by
  rw [ok25_eq d 1 (by omega) h1]
  simp only [isT,decide_eq_true h0,decide_eq_true h1,Bool.true_and]
theorem wrap_id {x:Int} (h0:-9223372036854775808≤x) (h1:x<9223372036854775808):wrap64 x=x:=by
  unfold wrap64;omega
def nodesCode (n:Int):List Int→Int
  | []=>0
  | v :: r=>if 0≤v∧v<n then nodesCode n r else 2
theorem isT_at {d:List Int} (h:isT d=true):∃ b:F,d=(F.cons b .nil).enc∧1+b.size≤24∧d.length=1+b.size∧Pl d 0 (.cons b .nil):=by
  obtain ⟨b,rfl,hb⟩:=(isT_iff d).1 h
  exact ⟨b,rfl,hb,by rw [F.enc_len];simp [F.size],Pl.whole _⟩
theorem wrap_succ {i:Nat} (h:i≤1000000000000):wrap64 ((i:Int)+1)=((i+1:Nat):Int):=by
  rw [wrap_id (by omega) (by omega)];omega
end Go.Proofs.YtlppkilencpmeaaGreat.Tr
namespace Go.Proofs.YtlppkilencpmeaaGreat.Tr
open Go.RowKit Go.Proofs.YtlppkilencpmeaaGreatW.PrintWords
set_option linter.unusedSimpArgs false
set_option linter.unusedVariables false
namespace F
def sub:F→Nat→F
  | nil,_=>nil
  | cons b n,v=>if v=0 then b else if v<1+b.size then b.sub (v - 1) else n.sub (v - 1 - b.size)
def par:F→Nat→Int→Nat→Int
  | nil,_,q,_=>q
  | cons b n,p,q,c=>if c=p then q else if c<p+1+b.size then b.par (p+1) p c else n.par (p+1+b.size) q c
theorem sub_zero (b n:F):(cons b n).sub 0=b:=by simp [sub]
theorem sub_left {b n:F} {v:Nat} (h0:1≤v) (h:v<1+b.size):(cons b n).sub v=b.sub (v - 1):=by
  rw [sub,if_neg (by omega),if_pos h]
theorem sub_right {b n:F} {v:Nat} (h:1+b.size≤v):(cons b n).sub v=n.sub (v - 1 - b.size):=by
  rw [sub,if_neg (by omega),if_neg (by omega)]
theorem sub_fits:∀ (g:F) (v:Nat),v<g.size→v+1+(g.sub v).size≤g.size:=by
  intro g
  induction g with
  | nil=>intro v h;simp [size] at h
  | cons b n hb hn =>
    intro v h
    simp only [size] at h ⊢
    by_cases h0:v=0
    · subst h0;rw [sub_zero];omega
    · by_cases h1:v<1+b.size
      · rw [sub_left (by omega) h1]
        have:=hb (v - 1) (by omega);omega
      · rw [sub_right (by omega)]
        have:=hn (v - 1 - b.size) (by omega);omega
theorem par_range:∀ (g:F) (p:Nat) (q:Int) (c:Nat),p≤c→c<p+g.size→g.par p q c=q∨((p:Int)≤g.par p q c∧g.par p q c<c):=by
  intro g
  induction g with
  | nil=>intro p q c h1 h2;simp [size] at h2;omega
  | cons b n hb hn =>
    intro p q c h1 h2
    simp only [size] at h2
    rw [par]
    by_cases e:c=p
    · rw [if_pos e];exact .inl rfl
    · rw [if_neg e]
      by_cases h3:c<p+1+b.size
      · rw [if_pos h3]
        rcases hb (p+1) p c (by omega) h3 with h|h
        · rw [h];omega
        · omega
      · rw [if_neg h3]
        rcases hn (p+1+b.size) q c (by omega) (by omega) with h|h
        · exact .inl h
        · omega
theorem roots_range:∀ (g:F) (p:Nat) (c:Int),c∈g.roots p→(p:Int)≤c∧c<p+g.size:=by
  intro g
  induction g with
  | nil=>intro p c h;simp [roots] at h
  | cons b n hb hn =>
    intro p c h
    simp only [roots,List.mem_cons] at h
    simp only [size]
    rcases h with rfl|h
    · omega
    · have:=hn _ _ h;omega
theorem roots_par:∀ (g:F) (p:Nat) (q:Int) (c:Nat),q<p→p≤c→c<p+g.size→((c:Int)∈g.roots p↔g.par p q c=q):=by
  intro g
  induction g with
  | nil=>intro p q c hq h1 h2;simp [size] at h2;omega
  | cons b n hb hn =>
    intro p q c hq h1 h2
    simp only [size] at h2
    rw [par,roots,List.mem_cons]
    by_cases e:c=p
    · rw [if_pos e];simp [e]
    · rw [if_neg e]
      by_cases h3:c<p+1+b.size
      · rw [if_pos h3]
        constructor
        · rintro (h|h)
          · omega
          · have:=roots_range _ _ _ h;omega
        · intro h
          rcases par_range b (p+1) p c (by omega) h3 with h'|h' <;> omega
      · rw [if_neg h3]
        have:=hn (p+1+b.size) q c (by omega) (by omega) (by omega)
        rw [← this]
        constructor
        · rintro (h|h)
          · omega
          · exact h
        · exact fun h=>.inr h
theorem kids_par:∀ (g:F) (p:Nat) (q:Int) (v c:Nat),q<p→p≤v→v<p+g.size→p≤c→c<p+g.size →
    ((c:Int)∈(g.sub (v - p)).roots (v+1)↔g.par p q c=v):=by
  intro g
  induction g with
  | nil=>intro p q v c hq h1 h2;simp [size] at h2;omega
  | cons b n hb hn =>
    intro p q v c hq h1 h2 h3 h4
    simp only [size] at h2 h4
    rw [par]
    by_cases ev:v=p
    · subst ev
      rw [Nat.sub_self,sub_zero]
      by_cases e:c=v
      · rw [if_pos e]
        constructor
        · intro h;have:=roots_range _ _ _ h;omega
        · intro h;omega
      · rw [if_neg e]
        by_cases h5:c<v+1+b.size
        · rw [if_pos h5];exact roots_par b (v+1) v c (by omega) (by omega) h5
        · rw [if_neg h5]
          constructor
          · intro h;have:=roots_range _ _ _ h;omega
          · intro h
            rcases par_range n (v+1+b.size) q c (by omega) (by omega) with h'|h' <;> omega
    · by_cases hv:v<p+1+b.size
      · rw [sub_left (by omega) (by omega),show v - p - 1=v - (p+1) by omega]
        by_cases e:c=p
        · rw [if_pos e]
          constructor
          · intro h;have:=roots_range _ _ _ h;omega
          · intro h;omega
        · rw [if_neg e]
          by_cases h5:c<p+1+b.size
          · rw [if_pos h5];exact hb (p+1) p v c (by omega) (by omega) (by omega) (by omega) h5
          · rw [if_neg h5]
            constructor
            · intro h
              have:=roots_range _ _ _ h
              have:=sub_fits b (v - (p+1)) (by omega)
              omega
            · intro h
              rcases par_range n (p+1+b.size) q c (by omega) (by omega) with h'|h' <;> omega
      · rw [sub_right (by omega),show v - p - 1 - b.size=v - (p+1+b.size) by omega]
        by_cases e:c=p
        · rw [if_pos e]
          constructor
          · intro h;have:=roots_range _ _ _ h;omega
          · intro h;omega
        · rw [if_neg e]
          by_cases h5:c<p+1+b.size
          · rw [if_pos h5]
            constructor
            · intro h;have:=roots_range _ _ _ h;omega
            · intro h
              rcases par_range b (p+1) p c (by omega) h5 with h'|h' <;> omega
          · rw [if_neg h5];exact hn (p+1+b.size) q v c (by omega) (by omega) (by omega) (by omega) (by omega)
theorem par_self {p:Nat} {b n:F} {q:Int}:(cons b n).par p q p=q:=by simp [par]
end F
theorem Pl.nth:∀ {g:F} {d:List Int} {p:Nat} (_:Pl d p g) (v:Nat),v<g.size→∃ n,Pl d (p+v) (.cons (g.sub v) n):=by
  intro g
  induction g with
  | nil=>intro d p h v h2;simp [F.size] at h2
  | cons b n hb hn =>
    intro d p h v h2
    simp only [F.size] at h2
    by_cases e:v=0
    · subst e;rw [F.sub_zero];exact ⟨n,h⟩
    · by_cases h3:v<1+b.size
      · rw [F.sub_left (by omega) h3]
        obtain ⟨m,hm⟩:=hb h.below (v - 1) (by omega)
        exact ⟨m,by rw [show p+v=p+1+(v - 1) by omega];exact hm⟩
      · rw [F.sub_right (by omega)]
        obtain ⟨m,hm⟩:=hn h.next (v - 1 - b.size) (by omega)
        exact ⟨m,by rw [show p+v=p+1+b.size+(v - 1 - b.size) by omega];exact hm⟩
structure Tree (d:List Int) (t:F):Prop where
  enc:d=t.enc
  one:∃ b,t=.cons b .nil
  few:t.size≤24
theorem Tree.of {d:List Int} (h:isT d=true):∃ t,Tree d t:=by
  obtain ⟨b,rfl,hb,_,_⟩:=isT_at h
  exact ⟨.cons b .nil,rfl,⟨b,rfl⟩,by simp only [F.size];omega⟩
theorem isT_cases (d:List Int):isT d=false∨∃ t,Tree d t:=by
  cases h:isT d with
  | false=>exact .inl rfl
  | true=>exact .inr (Tree.of h)
namespace Tree
variable {d:List Int} {t:F}
theorem isT (h:Tree d t):isT d=true:=by
  obtain ⟨rfl,⟨b,rfl⟩,hf⟩:=h
  exact (isT_iff _).2 ⟨b,rfl,by simp only [F.size] at hf;omega⟩
theorem len (h:Tree d t):d.length=t.size:=by rw [h.enc,F.enc_len]
theorem le (h:Tree d t):d.length≤24:=by rw [h.len];exact h.few
theorem pos (h:Tree d t):1≤t.size:=by obtain ⟨_,⟨b,rfl⟩,_⟩:=h;simp only [F.size];omega
theorem pl (h:Tree d t):Pl d 0 t:=by rw [h.enc];exact Pl.whole _
theorem node (h:Tree d t) {v:Nat} (hv:v<t.size):∃ n,Pl d v (.cons (t.sub v) n):=by
  have:=h.pl.nth v hv
  rwa [Nat.zero_add] at this
theorem deg (h:Tree d t) {v:Nat} (hv:v<t.size):rd d (v:Int)=(t.sub v).len:=by
  obtain ⟨n,hp⟩:=h.node hv
  exact hp.deg
theorem fits (h:Tree d t) {v:Nat} (hv:v<t.size):v+1+(t.sub v).size≤t.size:=F.sub_fits t v hv
theorem par_zero (h:Tree d t):t.par 0 (-1) 0=-1:=by obtain ⟨_,⟨b,rfl⟩,_⟩:=h;exact F.par_self
theorem par_pos (h:Tree d t) {c:Nat} (h1:1≤c) (hc:c<t.size):0≤t.par 0 (-1) c∧t.par 0 (-1) c<c:=by
  obtain ⟨rfl,⟨b,rfl⟩,_⟩:=h
  simp only [F.size] at hc
  rw [F.par,if_neg (by omega),if_pos (by omega)]
  rcases F.par_range b (0+1) ((0:Nat):Int) c (by omega) (by omega) with h'|h' <;> omega
theorem par_lt (h:Tree d t) {c:Nat} (hc:c<t.size):-1≤t.par 0 (-1) c∧t.par 0 (-1) c<c:=by
  by_cases e:c=0
  · subst e;rw [h.par_zero];omega
  · have:=h.par_pos (c:=c) (by omega) hc;omega
theorem kids (h:Tree d t) {v c:Nat} (hv:v<t.size) (hc:c<t.size):(c:Int)∈(t.sub v).roots (v+1)↔t.par 0 (-1) c=v:=by
  have:=F.kids_par t 0 (-1) v c (by omega) (by omega) (by omega) (by omega) (by omega)
  rwa [Nat.sub_zero] at this
theorem kid_range (h:Tree d t) {v:Nat} (hv:v<t.size) {c:Int} (hc:c∈(t.sub v).roots (v+1)):(v:Int)<c∧c<t.size:=by
  have h1:=F.roots_range _ _ _ hc
  have h2:=h.fits hv
  omega
end Tree
def each (n:Nat) (f:Nat→Int):List Int:=(List.range n).map f
theorem each_len (n:Nat) (f:Nat→Int):(each n f).length=n:=by simp [each]
theorem each_rd {n:Nat} {f:Nat→Int} {v:Nat} (h:v<n):rd (each n f) (v:Int)=f v:=by
  rw [rd_getElem (by rw [each_len];exact h)]
  simp [each]
theorem each_rd' {n:Nat} {f:Nat→Int} {v:Int} (h0:0≤v) (h:v<n):rd (each n f) v=f v.toNat:=by
  obtain ⟨k,rfl⟩:∃ k:Nat,v=(k:Int):=⟨v.toNat,by omega⟩
  rw [each_rd (by omega)];simp
theorem each_succ (n:Nat) (f:Nat→Int):each (n+1) f=each n f++[f n]:=by simp [each,List.range_succ]
theorem each_eq {n:Nat} {f:Nat→Int} {l:List Int} (hl:l.length=n) (h:∀ v,v<n→rd l (v:Int)=f v):l=each n f:=by
  apply List.ext_getElem
  · rw [each_len,hl]
  · intro i h1 h2
    have:=h i (by omega)
    rw [rd_getElem h1] at this
    rw [this];simp [each]
def setAll (out:List Int) (l:List Int) (v:Int):List Int:=l.foldl (fun o c=>o.set c.toNat v) out
theorem setAll_len (l:List Int) (v:Int):∀ out,(setAll out l v).length=out.length:=by
  induction l with
  | nil=>intro out;rfl
  | cons c l ih=>intro out;simp only [setAll,List.foldl_cons];exact (ih _).trans (by simp)
theorem rd_set {l:List Int} {c:Int} {x:Int} {i:Nat} (hi:i<l.length) (h0:0≤c):rd (l.set c.toNat x) (i:Int)=if c=i then x else rd l (i:Int):=by
  rw [rd_getElem (by simpa using hi),rd_getElem hi,List.getElem_set]
  by_cases e:c.toNat=i
  · rw [if_pos e,if_pos (by omega)]
  · rw [if_neg e,if_neg (by omega)]
theorem setAll_rd (v:Int):∀ (l:List Int) (out:List Int) (i:Nat),(∀ c∈l,0≤c)→i<out.length→rd (setAll out l v) (i:Int)=if (i:Int)∈l then v else rd out (i:Int):=by
  intro l
  induction l with
  | nil=>intro out i _ _;simp [setAll]
  | cons c l ih =>
    intro out i h0 hi
    have h1:=ih (out.set c.toNat v) i (fun x hx=>h0 x (List.mem_cons_of_mem _ hx)) (by simpa using hi)
    simp only [setAll,List.foldl_cons] at h1 ⊢
    rw [h1,rd_set hi (h0 c (List.mem_cons_self ..))]
    by_cases e:(i:Int)∈l
    · rw [if_pos e,if_pos (List.mem_cons_of_mem _ e)]
    · rw [if_neg e]
      by_cases e2:c=i
      · rw [if_pos e2,if_pos (by rw [e2];exact List.mem_cons_self ..)]
      · rw [if_neg e2,if_neg (by simp only [List.mem_cons,not_or];exact ⟨fun h=>e2 h.symm,e⟩)]
def parentsL (t:F):List Int:=each t.size (t.par 0 (-1))
def sizesL (t:F):List Int:=each t.size (fun v=>((1+(t.sub v).size:Nat):Int))
end Go.Proofs.YtlppkilencpmeaaGreat.Tr
namespace Go.Proofs.YtlppkilencpmeaaGreat.Tr
open Go.RowKit Go.Proofs.YtlppkilencpmeaaGreatW.PrintWords
set_option linter.unusedSimpArgs false
set_option linter.unusedVariables false
theorem rdOf_set {l:List Bool} {c:Int} {x:Bool} {i:Nat} (hi:i<l.length) (h0:0≤c):rdOf false (l.set c.toNat x) (i:Int)=if c=i then x else rdOf false l (i:Int):=by
  unfold rdOf
  rw [Int.toNat_natCast,List.getD_eq_getElem?_getD,List.getD_eq_getElem?_getD,List.getElem?_set]
  by_cases e:c.toNat=i
  · rw [if_pos e,if_pos (by omega:c=i),if_pos (by omega)];rfl
  · rw [if_neg e,if_neg (by omega:¬ c=i)]
theorem rdOf_rep {n i:Nat}:rdOf false (List.replicate n false) (i:Int)=false:=by
  unfold rdOf
  rw [Int.toNat_natCast,List.getD_eq_getElem?_getD,List.getElem?_replicate]
  split <;> rfl
def canNext (t:F) (beg:List Int) (v:Nat):Bool:=decide (¬ (v:Int)∈beg) && (decide (v=0) || decide (t.par 0 (-1) v∈beg))
def nxtTo (t:F) (beg:List Int) (m:Nat):List Int:=((List.range m).filter (canNext t beg)).map (fun v:Nat=>(v:Int))
def nxt (t:F) (beg:List Int):List Int:=nxtTo t beg t.size
theorem nxtTo_succ (t:F) (beg:List Int) (m:Nat):nxtTo t beg (m+1)=if canNext t beg m=true then nxtTo t beg m++[(m:Int)] else nxtTo t beg m:=by
  unfold nxtTo
  rw [List.range_succ,List.filter_append,List.map_append]
  by_cases h:canNext t beg m=true
  · rw [if_pos h];simp [h]
  · rw [if_neg h];simp [h]
theorem nxtTo_len (t:F) (beg:List Int) (m:Nat):(nxtTo t beg m).length≤m:=by
  unfold nxtTo
  rw [List.length_map]
  exact Nat.le_trans (List.length_filter_le _ _) (by simp)
theorem nxt_mem {t:F} {beg:List Int} {c:Int}:c∈nxt t beg↔∃ v:Nat,c=v∧v<t.size∧canNext t beg v=true:=by
  unfold nxt nxtTo
  simp only [List.mem_map,List.mem_filter,List.mem_range]
  constructor
  · rintro ⟨v,⟨h1,h2⟩,rfl⟩;exact ⟨v,rfl,h1,h2⟩
  · rintro ⟨v,rfl,h1,h2⟩;exact ⟨v,⟨h1,h2⟩,rfl⟩
def upto (m:Nat):List Int:=each m (fun v=>(v:Int))
theorem upto_mem {m:Nat} {c:Int}:c∈upto m↔0≤c∧c<m:=by
  unfold upto each
  simp only [List.mem_map,List.mem_range]
  constructor
  · rintro ⟨v,h,rfl⟩;omega
  · rintro ⟨h0,h1⟩;exact ⟨c.toNat,by omega,by omega⟩
theorem nxt_upto {d:List Int} {t:F} (h:Tree d t) {m:Nat} (hm:m<t.size):∃ l,nxt t (upto m)=(m:Int) :: l:=by
  have h0:∀ k,k≤m→nxtTo t (upto m) k=[]:=by
    intro k
    induction k with
    | zero=>intro _;rfl
    | succ k ih =>
      intro hk
      rw [nxtTo_succ,ih (by omega),if_neg]
      have:(k:Int)∈upto m:=upto_mem.2 ⟨by omega,by omega⟩
      simp [canNext,this]
  have h1:canNext t (upto m) m=true:=by
    unfold canNext
    have e1:¬ (m:Int)∈upto m:=fun h=>by have:=(upto_mem.1 h).2;omega
    rw [decide_eq_true e1,Bool.true_and]
    by_cases e:m=0
    · rw [decide_eq_true e];rfl
    · have:=h.par_pos (c:=m) (by omega) hm
      rw [decide_eq_true (upto_mem.2 this),Bool.or_true]
  have h2:∀ j,m+1+j≤t.size→∃ l,nxtTo t (upto m) (m+1+j)=(m:Int) :: l:=by
    intro j
    induction j with
    | zero =>
      intro _
      rw [Nat.add_zero,nxtTo_succ,if_pos h1,h0 m (Nat.le_refl _)]
      exact ⟨[],rfl⟩
    | succ j ih =>
      intro hj
      obtain ⟨l,e⟩:=ih (by omega)
      rw [show m+1+(j+1)=m+1+j+1 by omega,nxtTo_succ,e]
      split
      · exact ⟨_,rfl⟩
      · exact ⟨_,rfl⟩
  have:=h2 (t.size - (m+1)) (by omega)
  rwa [show m+1+(t.size - (m+1))=t.size by omega] at this
end Go.Proofs.YtlppkilencpmeaaGreat.Tr
namespace Go.Proofs.YtlppkilencpmeaaGreat.Tr
open Go.RowKit Go.Proofs.YtlppkilencpmeaaGreatW.PrintWords
set_option linter.unusedSimpArgs false
set_option linter.unusedVariables false
def idx (x:Int):List Int→Nat→Int
  | [],_=>-1
  | y :: r,i=>if x=y then (i:Int) else idx x r (i+1)
theorem idx_range (x:Int):∀ (l:List Int) (i:Nat),idx x l i=-1∨((i:Int)≤idx x l i∧idx x l i<((i+l.length:Nat):Int)):=by
  intro l
  induction l with
  | nil=>intro i;exact .inl rfl
  | cons y r ih =>
    intro i
    unfold idx
    split
    · right;simp only [List.length_cons];omega
    · rcases ih (i+1) with h|h
      · exact .inl h
      · right;simp only [List.length_cons];omega
theorem idx_mem (x:Int):∀ (l:List Int) (i:Nat),0≤idx x l i↔x∈l:=by
  intro l
  induction l with
  | nil=>intro i;simp [idx]
  | cons y r ih =>
    intro i
    unfold idx
    by_cases h:x=y
    · rw [if_pos h];simp [h]
    · rw [if_neg h,ih];simp [h]
theorem pigeon:∀ (n:Nat) (l:List Int),(∀ v:Nat,v<n→(v:Int)∈l)→n≤l.length:=by
  intro n
  induction n with
  | zero=>intro l _;omega
  | succ n ih =>
    intro l h
    have h1:=h n (by omega)
    have h2:=ih (l.erase (n:Int)) (fun v hv=>(List.mem_erase_of_ne (by omega)).2 (h v (by omega)))
    rw [List.length_erase_of_mem h1] at h2
    have:=List.length_pos_of_mem h1
    omega
theorem nxt_pos {d:List Int} {t:F} (h:Tree d t) {beg:List Int} (hb:beg.length<t.size):1≤(nxt t beg).length:=by
  have hex:∃ v:Nat,v<t.size∧¬ (v:Int)∈beg:=by
    apply Classical.byContradiction
    intro hn
    have:=pigeon t.size beg (fun v hv=>Classical.byContradiction fun h'=>hn ⟨v,hv,h'⟩)
    omega
  have hl:∀ m v:Nat,v<m→v<t.size→¬ (v:Int)∈beg→∃ u:Nat,u<t.size∧canNext t beg u=true:=by
    intro m
    induction m with
    | zero=>intro v hv;omega
    | succ m ih =>
      intro v hv hs hm
      by_cases e:v=0
      · exact ⟨v,hs,by simp [canNext,hm,e];subst e;simpa using hm⟩
      · have hp:=h.par_pos (c:=v) (by omega) hs
        by_cases hq:t.par 0 (-1) v∈beg
        · exact ⟨v,hs,by simp [canNext,hm,e,hq]⟩
        · exact ih (t.par 0 (-1) v).toNat (by omega) (by omega) (by rw [Int.toNat_of_nonneg hp.1];exact hq)
  obtain ⟨v,hv,hm⟩:=hex
  obtain ⟨u,hu,hc⟩:=hl (v+1) v (by omega) hv hm
  exact List.length_pos_of_mem (nxt_mem.2 ⟨u,rfl,hu,hc⟩)
end Go.Proofs.YtlppkilencpmeaaGreat.Tr
namespace Go.Proofs.YtlppkilencpmeaaGreat.Tr
open Go.RowKit Go.Proofs.YtlppkilencpmeaaGreatW.PrintWords
set_option linter.unusedSimpArgs false
set_option linter.unusedVariables false
def fact:Nat→Nat
  | 0=>1
  | n+1=>(n+1)*fact n
theorem fact_pos:∀ n,0<fact n
  | 0=>by simp [fact]
  | n+1=>by unfold fact;exact Nat.mul_pos (by omega) (fact_pos n)
theorem fact_le:∀ m n,m≤n→fact m≤fact n:=by
  intro m n h
  induction n with
  | zero =>
    obtain rfl:m=0:=(by omega)
    exact Nat.le_refl _
  | succ n ih =>
    by_cases e:m=n+1
    · rw [e];exact Nat.le_refl _
    · have:=ih (by omega)
      have h2:fact n≤(n+1)*fact n:=Nat.le_mul_of_pos_left _ (by omega)
      exact Nat.le_trans this h2
def bin:Nat→Nat→Nat
  | 0,_=>1
  | _+1,0=>1
  | a+1,c+1=>bin a (c+1)+bin (a+1) c
termination_by a c=>a+c
theorem bin_fact:∀ s a c:Nat,a+c=s→bin a c*(fact a*fact c)=fact s:=by
  intro s
  induction s with
  | zero =>
    intro a c h
    obtain rfl:a=0:=by omega
    obtain rfl:c=0:=by omega
    simp [bin,fact]
  | succ s ih =>
    intro a c h
    match a,c with
    | 0,c =>
      obtain rfl:c=s+1:=(by omega)
      simp [bin,fact]
    | a+1,0 =>
      obtain rfl:a=s:=(by omega)
      simp [bin,fact]
    | a+1,c+1 =>
      have h1:=ih a (c+1) (by omega)
      have h2:=ih (a+1) c (by omega)
      have e1:bin a (c+1)*(fact (a+1)*fact (c+1))=(a+1)*(bin a (c+1)*(fact a*fact (c+1))):=by
        rw [show fact (a+1)=(a+1)*fact a from rfl];ac_rfl
      have e2:bin (a+1) c*(fact (a+1)*fact (c+1))=(c+1)*(bin (a+1) c*(fact (a+1)*fact c)):=by
        rw [show fact (c+1)=(c+1)*fact c from rfl];ac_rfl
      rw [show bin (a+1) (c+1)=bin a (c+1)+bin (a+1) c by rw [bin],Nat.add_mul,e1,e2,h1,h2,← Nat.add_mul,show fact (s+1)=(s+1)*fact s from rfl]
      congr 1
theorem fact_dvd (a c:Nat):fact a*fact c∣fact (a+c):=⟨bin a c,by rw [Nat.mul_comm];exact (bin_fact (a+c) a c rfl).symm⟩
def F.prod:F→Nat
  | .nil=>1
  | .cons b n=>(1+b.size)*(b.prod*n.prod)
theorem F.prod_dvd (f:F):f.prod∣fact f.size:=by
  induction f with
  | nil=>simp [F.prod,F.size,fact]
  | cons b n hb hn =>
    have h1:(1+b.size)*b.prod∣fact (1+b.size):=by
      rw [show 1+b.size=b.size+1 by omega,show fact (b.size+1)=(b.size+1)*fact b.size from rfl]
      exact Nat.mul_dvd_mul_left _ hb
    have h2:((1+b.size)*b.prod)*n.prod∣fact (1+b.size)*fact n.size:=Nat.mul_dvd_mul h1 hn
    have h3:=Nat.dvd_trans h2 (fact_dvd (1+b.size) n.size)
    rw [show (F.cons b n).prod=(1+b.size)*(b.prod*n.prod) from rfl,show (F.cons b n).size=1+b.size+n.size from rfl,← Nat.mul_assoc]
    exact h3
def lprod:List Nat→Nat
  | []=>1
  | x :: l=>x*lprod l
theorem lprod_app (a b:List Nat):lprod (a++b)=lprod a*lprod b:=by
  induction a with
  | nil=>simp [lprod]
  | cons x l ih=>simp [lprod,ih,Nat.mul_assoc]
theorem lprod_pos:∀ (l:List Nat),(∀ x∈l,0<x)→0<lprod l
  | [],_=>by simp [lprod]
  | x :: l,h=>by unfold lprod;exact Nat.mul_pos (h x (List.mem_cons_self ..)) (lprod_pos l (fun y hy=>h y (List.mem_cons_of_mem _ hy)))
def cancel:Nat→List Nat→Nat × List Nat
  | b,[]=>(b,[])
  | b,t :: ts=>if 1<b then ((cancel (b / Nat.gcd t b) ts).1,t / Nat.gcd t b :: (cancel (b / Nat.gcd t b) ts).2) else (b,t :: ts)
theorem cancel_spec:∀ (ts:List Nat) (b:Nat),0<b→(∀ x∈ts,0<x)→b∣lprod ts →
    (cancel b ts).1=1∧b*lprod (cancel b ts).2=lprod ts∧(∀ x∈(cancel b ts).2,0<x)∧(cancel b ts).2.length=ts.length:=by
  intro ts
  induction ts with
  | nil =>
    intro b hb _ hd
    simp only [lprod,Nat.dvd_one] at hd
    subst hd
    simp [cancel,lprod]
  | cons t ts ih =>
    intro b hb hp hd
    have ht:=hp t (List.mem_cons_self ..)
    have hts:∀ x∈ts,0<x:=fun x hx=>hp x (List.mem_cons_of_mem _ hx)
    by_cases h1:1<b
    · have hg:0<Nat.gcd t b:=Nat.gcd_pos_of_pos_left _ ht
      obtain ⟨t',ht'⟩:=Nat.gcd_dvd_left t b
      obtain ⟨b',hb'⟩:=Nat.gcd_dvd_right t b
      have e1:t / Nat.gcd t b=t':=Nat.div_eq_of_eq_mul_right hg ht'
      have e2:b / Nat.gcd t b=b':=Nat.div_eq_of_eq_mul_right hg hb'
      have hcop:Nat.Coprime b' t':=by
        have:=Nat.coprime_div_gcd_div_gcd (m:=t) (n:=b) hg
        rw [e1,e2] at this
        exact this.symm
      have hb'p:0<b':=by
        rcases Nat.eq_zero_or_pos b' with h|h
        · rw [h,Nat.mul_zero] at hb';omega
        · exact h
      have ht'p:0<t':=by
        rcases Nat.eq_zero_or_pos t' with h|h
        · rw [h,Nat.mul_zero] at ht';omega
        · exact h
      have hd2:b'∣lprod ts:=by
        have h2:Nat.gcd t b*b'∣Nat.gcd t b*(t'*lprod ts):=by
          rw [← hb',← Nat.mul_assoc,← ht'];exact hd
        have h3:b'∣t'*lprod ts:=Nat.dvd_of_mul_dvd_mul_left hg h2
        exact hcop.dvd_of_dvd_mul_left h3
      obtain ⟨i1,i2,i3,i4⟩:=ih b' hb'p hts hd2
      unfold cancel
      rw [if_pos h1,e1,e2]
      refine ⟨i1,?_,?_,by simp [i4]⟩
      · show b*(t'*lprod (cancel b' ts).2)=t*lprod ts
        generalize Nat.gcd t b=g at ht' hb'
        rw [ht',hb',← i2];ac_rfl
      · intro x hx
        rcases List.mem_cons.1 hx with rfl|hx
        · exact ht'p
        · exact i3 x hx
    · have e:b=1:=by omega
      subst e
      unfold cancel
      rw [if_neg h1]
      exact ⟨rfl,by simp,hp,rfl⟩
theorem cancel_le {M:Nat}:∀ (ts:List Nat) (b:Nat),(∀ x∈ts,x≤M)→∀ x∈(cancel b ts).2,x≤M:=by
  intro ts
  induction ts with
  | nil=>intro b _ x hx;simp [cancel] at hx
  | cons t ts ih =>
    intro b h x hx
    unfold cancel at hx
    by_cases h1:1<b
    · rw [if_pos h1] at hx
      rcases List.mem_cons.1 hx with rfl|hx
      · exact Nat.le_trans (Nat.div_le_self _ _) (h t (List.mem_cons_self ..))
      · exact ih _ (fun y hy=>h y (List.mem_cons_of_mem _ hy)) x hx
    · rw [if_neg h1] at hx
      exact h x hx
def cancelAll:List Nat→List Nat→List Nat
  | [],ts=>ts
  | b :: bs,ts=>cancelAll bs (cancel b ts).2
theorem cancelAll_spec:∀ (bs ts:List Nat),(∀ x∈bs,0<x)→(∀ x∈ts,0<x)→lprod bs∣lprod ts→lprod bs*lprod (cancelAll bs ts)=lprod ts:=by
  intro bs
  induction bs with
  | nil=>intro ts _ _ _;simp [cancelAll,lprod]
  | cons b bs ih =>
    intro ts hb ht hd
    have hb0:=hb b (List.mem_cons_self ..)
    have hd1:b∣lprod ts:=Nat.dvd_trans ⟨lprod bs,rfl⟩ hd
    obtain ⟨h1,h2,h3,h4⟩:=cancel_spec ts b hb0 ht hd1
    have hd2:lprod bs∣lprod (cancel b ts).2:=by
      have:b*lprod bs∣b*lprod (cancel b ts).2:=by rw [h2];exact hd
      exact Nat.dvd_of_mul_dvd_mul_left hb0 this
    have:=ih (cancel b ts).2 (fun x hx=>hb x (List.mem_cons_of_mem _ hx)) h3 hd2
    rw [show cancelAll (b :: bs) ts=cancelAll bs (cancel b ts).2 from rfl,show lprod (b :: bs)=b*lprod bs from rfl,Nat.mul_assoc,this,h2]
theorem lprod_up:∀ n,lprod ((List.range n).map (·+1))=fact n:=by
  intro n
  induction n with
  | zero=>rfl
  | succ n ih=>rw [List.range_succ,List.map_append,lprod_app,ih];simp [lprod,fact,Nat.mul_comm]
def F.szs:F→List Nat
  | .nil=>[]
  | .cons b n=>(1+b.size) :: (b.szs++n.szs)
theorem F.szs_prod (f:F):lprod f.szs=f.prod:=by
  induction f with
  | nil=>rfl
  | cons b n hb hn=>simp [F.szs,F.prod,lprod,lprod_app,hb,hn]
theorem F.szs_len (f:F):f.szs.length=f.size:=by
  induction f with
  | nil=>rfl
  | cons b n hb hn=>simp [F.szs,F.size,hb,hn];omega
theorem F.szs_get:∀ (f:F) (v:Nat),v<f.size→f.szs.getD v 0=1+(f.sub v).size:=by
  intro f
  induction f with
  | nil=>intro v h;simp [F.size] at h
  | cons b n hb hn =>
    intro v h
    simp only [F.size] at h
    by_cases e:v=0
    · subst e;rw [F.sub_zero];simp [F.szs]
    · obtain ⟨u,rfl⟩:∃ u,v=u+1:=⟨v - 1,by omega⟩
      by_cases h2:u+1<1+b.size
      · rw [F.sub_left (by omega) h2,Nat.add_sub_cancel]
        rw [F.szs,List.getD_cons_succ,List.getD_eq_getElem?_getD,List.getElem?_append_left (by rw [F.szs_len];omega),← List.getD_eq_getElem?_getD]
        exact hb u (by omega)
      · rw [F.sub_right (by omega),Nat.add_sub_cancel]
        rw [F.szs,List.getD_cons_succ,List.getD_eq_getElem?_getD,List.getElem?_append_right (by rw [F.szs_len];omega),F.szs_len,← List.getD_eq_getElem?_getD]
        exact hn (u - b.size) (by omega)
end Go.Proofs.YtlppkilencpmeaaGreat.Tr
namespace Go.Proofs.YtlppkilencpmeaaGreat.Tr
open Go.RowKit Go.Proofs.YtlppkilencpmeaaGreatW.PrintWords
set_option linter.unusedSimpArgs false
set_option linter.unusedVariables false
def isOrd (n:Nat) (l:List Int):Prop:=l.length=n∧l.Nodup∧∀ x∈l,0≤x∧x<n
instance (n:Nat) (l:List Int):Decidable (isOrd n l):=by unfold isOrd;infer_instance
def msort (l:List Int):List Int:=l.mergeSort fun x y=>decide (x≤y)
theorem msort_len (l:List Int):(msort l).length=l.length:=List.length_mergeSort _
theorem msort_perm (l:List Int):(msort l).Perm l:=List.mergeSort_perm _ _
theorem msort_sorted (l:List Int):(msort l).Pairwise (fun x y=>x≤y):=by
  have:=List.pairwise_mergeSort (le:=fun x y:Int=>decide (x≤y)) (by intro a b c;simp;omega) (by intro a b;simp;omega) l
  exact this.imp (by intro a b h;simpa using h)
theorem strict_full:∀ (s:List Int) (a:Nat),s.Pairwise (fun x y=>x<y)→(∀ x∈s,(a:Int)≤x∧x<((a+s.length:Nat):Int))→s=(List.range' a s.length).map (fun v:Nat=>(v:Int)):=by
  intro s
  induction s with
  | nil=>intro a _ _;rfl
  | cons x s ih =>
    intro a hp hr
    rw [List.pairwise_cons] at hp
    have h1:=ih (a+1) hp.2 (by
      intro y hy
      have q:=hp.1 y hy
      have q1:=hr x (by simp)
      have q2:=hr y (by simp [hy])
      simp only [List.length_cons] at q2
      omega)
    have hx:x=(a:Int):=by
      have q1:=hr x (by simp)
      simp only [List.length_cons] at q1
      cases s with
      | nil=>simp only [List.length_nil] at q1;omega
      | cons y s' =>
        have:((a+1:Nat):Int)∈y :: s':=by rw [h1];simp [List.range'_succ]
        have:=hp.1 _ this
        omega
    simp only [List.length_cons,List.range'_succ,List.map_cons]
    rw [← h1,hx]
theorem upto_range (n:Nat):upto n=(List.range' 0 n).map (fun v:Nat=>(v:Int)):=by
  unfold upto each;rw [List.range_eq_range']
theorem upto_nodup (n:Nat):(upto n).Nodup:=by
  rw [upto_range]
  refine List.Pairwise.map _ ?_ (List.nodup_range' (s:=0) (n:=n))
  intro a b h;omega
theorem isOrd_sort {n:Nat} {l:List Int}:isOrd n l↔l.length=n∧msort l=upto n:=by
  constructor
  · rintro ⟨h1,h2,h3⟩
    refine ⟨h1,?_⟩
    have hn:(msort l).Nodup:=(msort_perm l).nodup_iff.mpr h2
    have hp:(msort l).Pairwise (fun x y=>x<y):=by
      have:=List.Pairwise.and (msort_sorted l) hn
      exact this.imp (by intro a b h;omega)
    have:=strict_full (msort l) 0 hp (by
      intro x hx
      have:=h3 x ((msort_perm l).mem_iff.mp hx)
      rw [msort_len,h1];omega)
    rw [this,msort_len,h1,upto_range]
  · rintro ⟨h1,h2⟩
    refine ⟨h1,?_,?_⟩
    · rw [← (msort_perm l).nodup_iff,h2];exact upto_nodup n
    · intro x hx
      rw [← (msort_perm l).mem_iff,h2,upto_mem] at hx
      exact hx
theorem isOrd_mem {n:Nat} {l:List Int} (h:isOrd n l) {v:Int}:v∈l↔0≤v∧v<n:=by
  rw [← (msort_perm l).mem_iff,(isOrd_sort.mp h).2,upto_mem]
theorem upto_rd {n i:Nat} (h:i<n):rd (upto n) (i:Int)=i:=each_rd h
theorem idx_left (x:Int):∀ (a b:List Int) (i:Nat),x∈a→idx x (a++b) i=idx x a i:=by
  intro a
  induction a with
  | nil=>intro b i h;simp at h
  | cons y a ih =>
    intro b i h
    simp only [List.cons_append,idx]
    split
    · rfl
    · rename_i hne
      exact ih b (i+1) (by simpa [hne] using h)
theorem idx_right (x:Int):∀ (a b:List Int) (i:Nat),x∉a→idx x (a++b) i=idx x b (i+a.length):=by
  intro a
  induction a with
  | nil=>intro b i h;simp
  | cons y a ih =>
    intro b i h
    simp only [List.mem_cons,not_or] at h
    simp only [List.cons_append,idx,if_neg h.1,List.length_cons]
    rw [ih b (i+1) h.2]
    congr 1;omega
theorem idx_at {x:Int} {a b:List Int} (h:x∉a):idx x (a++x :: b) 0=a.length:=by
  rw [idx_right x a (x :: b) 0 h];simp [idx]
def grows (t:F):List Int→List Int→Bool
  | _,[]=>true
  | pre,x :: r=>(decide (t.par 0 (-1) x.toNat<0) || decide (t.par 0 (-1) x.toNat∈pre)) && grows t (pre++[x]) r
theorem grows_iff (t:F):∀ (r pre:List Int),grows t pre r=true↔∀ a x b,r=a++x :: b→t.par 0 (-1) x.toNat<0∨t.par 0 (-1) x.toNat∈pre++a:=by
  intro r
  induction r with
  | nil=>intro pre;simp [grows]
  | cons y r ih =>
    intro pre
    simp only [grows,Bool.and_eq_true,Bool.or_eq_true,decide_eq_true_eq,ih]
    constructor
    · rintro ⟨h1,h2⟩ a x b hab
      cases a with
      | nil =>
        simp only [List.nil_append,List.cons.injEq] at hab
        obtain ⟨rfl,rfl⟩:=hab
        simpa using h1
      | cons z a =>
        simp only [List.cons_append,List.cons.injEq] at hab
        obtain ⟨rfl,rfl⟩:=hab
        have:=h2 a x b rfl
        simpa [List.append_assoc] using this
    · intro h
      refine ⟨by simpa using h [] y r rfl,?_⟩
      intro a x b hab
      have:=h (y :: a) x b (by rw [hab];rfl)
      simpa [List.append_assoc] using this
theorem grows_pos {d:List Int} {t:F} (h:Tree d t) {l:List Int} (ho:isOrd t.size l):grows t [] l=true↔∀ v:Nat,1≤v→v<t.size→idx (t.par 0 (-1) v) l 0≤idx (v:Int) l 0:=by
  rw [grows_iff]
  constructor
  · intro hg v h1 h2
    have hm:(v:Int)∈l:=(isOrd_mem ho).mpr (by omega)
    obtain ⟨a,b,rfl,hna⟩:=List.eq_append_cons_of_mem hm
    rw [idx_at hna]
    have hp:=h.par_pos h1 h2
    rcases hg a v b rfl with q|q
    · simp only [Int.toNat_natCast] at q;omega
    · simp only [Int.toNat_natCast,List.nil_append] at q
      rw [idx_left _ _ _ _ q]
      have:=idx_range (t.par 0 (-1) v) a 0
      omega
  · intro hp a x b hab
    subst hab
    have hx:=(isOrd_mem ho (v:=x)).mp (by simp)
    have hnd:x∉a:=by
      have:=ho.2.1
      rw [List.nodup_append] at this
      intro hxa
      exact this.2.2 x hxa x (by simp) rfl
    obtain ⟨v,rfl⟩:=Int.eq_ofNat_of_zero_le hx.1
    have hv:v<t.size:=by omega
    simp only [Int.toNat_natCast,List.nil_append]
    by_cases h0:v=0
    · subst h0;left;have:=h.par_zero;omega
    · have hq:=hp v (by omega) hv
      have hpar:=h.par_pos (by omega:1≤v) hv
      by_cases hin:t.par 0 (-1) v∈a
      · exact .inr hin
      · exfalso
        have hmem:t.par 0 (-1) v∈a++(v:Int) :: b:=(isOrd_mem ho).mpr (by omega)
        have hge:=(idx_mem (t.par 0 (-1) v) (a++(v:Int) :: b) 0).mpr hmem
        rw [idx_right _ _ _ _ hin] at hq hge
        rw [idx_at hnd] at hq
        simp only [idx] at hq hge
        rw [if_neg (by omega)] at hq hge
        have:=idx_range (t.par 0 (-1) v) b (0+a.length+1)
        omega
def labels (l:List Int) (n:Nat):List Int:=each n (fun v=>idx (v:Int) l 0)
def codeO (d l:List Int):Int:=if isT d=true then (if isOrd d.length l then 0 else 2) else 1
def growing (t:F) (l:List Int):Bool:=grows t [] l
def codeG (d l:List Int) (t:F):Int:=if isOrd d.length l then (if growing t l=true then 0 else 5) else 2
theorem codeG_zero {d l:List Int} {t:F}:codeG d l t=0↔isOrd d.length l∧growing t l=true:=by
  unfold codeG
  by_cases h:isOrd d.length l
  · rw [if_pos h]
    cases growing t l with
    | true=>simp [h]
    | false=>simp
  · rw [if_neg h];simp [h]
def breaks (l:List Int):Nat→Nat→List Int
  | 0,_=>[]
  | m+1,i=>if rd l (i:Int)>rd l ((i+1:Nat):Int) then (i:Int) :: breaks l m (i+1) else breaks l m (i+1)
theorem breaks_len (l:List Int):∀ m i,(breaks l m i).length≤m:=by
  intro m
  induction m with
  | zero=>intro i;simp [breaks]
  | succ m ih =>
    intro i
    have:=ih (i+1)
    unfold breaks
    split
    · simp only [List.length_cons];omega
    · omega
def frees (p l:List Int):Nat→Nat→List Int
  | 0,_=>[]
  | m+1,i=>if rd p (rd l ((i+1:Nat):Int))=rd l (i:Int) then frees p l m (i+1) else (i:Int) :: frees p l m (i+1)
theorem frees_len (p l:List Int):∀ m i,(frees p l m i).length≤m:=by
  intro m
  induction m with
  | zero=>intro i;simp [frees]
  | succ m ih =>
    intro i
    have:=ih (i+1)
    unfold frees
    split
    · omega
    · simp only [List.length_cons];omega
theorem isOrd_rd {n:Nat} {l:List Int} (h:isOrd n l) {i:Nat} (hi:i<n):0≤rd l (i:Int)∧rd l (i:Int)<n :=
  h.2.2 _ (rd_mem (by omega) (by have:=h.1;omega))
end Go.Proofs.YtlppkilencpmeaaGreat.Tr
namespace Go.Proofs.YtlppkilencpmeaaGreat.Tr
open Go.RowKit Go.Proofs.YtlppkilencpmeaaGreatW.PrintWords
set_option linter.unusedSimpArgs false
set_option linter.unusedVariables false
def fillL (t:F):Nat→List Int→List Int
  | 0,b=>b
  | m+1,b=>fillL t m (b++[rd (nxt t b) 0])
theorem fillL_len (t:F):∀ m b,(fillL t m b).length=b.length+m:=by
  intro m
  induction m with
  | zero=>intro b;rfl
  | succ m ih=>intro b;rw [fillL,ih];simp;omega
theorem nxt_range {t:F} {beg:List Int} {c:Int} (h:c∈nxt t beg):0≤c∧c<t.size:=by
  obtain ⟨v,rfl,hv,_⟩:=nxt_mem.1 h
  omega
theorem nxt_len (t:F) (beg:List Int):(nxt t beg).length≤t.size:=nxtTo_len t beg t.size
theorem rd_range {t:F} {beg:List Int} (h:1≤(nxt t beg).length):0≤rd (nxt t beg) 0∧rd (nxt t beg) 0<t.size :=
  nxt_range (rd_mem (by omega) (by omega))
def firstGt (x:Int):List Int→Option Int
  | []=>none
  | v :: l=>if v≤x then firstGt x l else some v
theorem firstGt_mem {x:Int}:∀ {l:List Int} {v:Int},firstGt x l=some v→v∈l:=by
  intro l
  induction l with
  | nil=>intro v h;cases h
  | cons y l ih =>
    intro v h
    unfold firstGt at h
    split at h
    · exact List.mem_cons_of_mem _ (ih h)
    · injection h with h;rw [← h];exact List.mem_cons_self ..
def nextG (t:F) (l:List Int):Nat→List Int × Int
  | 0=>([],4)
  | i+1=>match firstGt (rd l (i:Int)) (nxt t (l.take i)) with
    | some v=>(fillL t (t.size - (i+1)) (l.take i++[v]),0)
    | none=>nextG t l i
end Go.Proofs.YtlppkilencpmeaaGreat.Tr
namespace Go.Proofs.YtlppkilencpmeaaGreat.Tr
open Go.RowKit Go.Proofs.YtlppkilencpmeaaGreatW.PrintWords
set_option linter.unusedSimpArgs false
set_option linter.unusedVariables false
def F.unm (un:Nat→Bool):F→Nat→List Nat
  | .nil,_=>[]
  | .cons b n,p=>(if un p=true then [1+b.size] else [])++(F.unm un b (p+1)++F.unm un n (p+1+b.size))
theorem range_split (a b:Nat):List.range (1+a+b)=0 :: ((List.range a).map (fun v=>1+v)++(List.range b).map (fun v=>1+a+v)):=by
  rw [List.range_add,show 1+a=a+1 by omega,List.range_succ_eq_map,List.cons_append]
  congr 2
  apply List.map_congr_left
  intro v _;omega
theorem F.unm_eq (un:Nat→Bool):∀ (f:F) (p:Nat),f.unm un p=((List.range f.size).filter (fun v=>un (p+v))).map (fun v=>1+(f.sub v).size):=by
  intro f
  induction f with
  | nil=>intro p;rfl
  | cons b n hb hn =>
    intro p
    rw [F.unm,hb,hn,show (F.cons b n).size=1+b.size+n.size from rfl,range_split,List.filter_cons]
    have e1:((List.range b.size).filter (fun v=>un (p+1+v))).map (fun v=>1+(b.sub v).size)=(((List.range b.size).map (fun v=>1+v)).filter (fun v=>un (p+v))).map (fun v=>1+((F.cons b n).sub v).size):=by
      rw [List.filter_map,List.map_map]
      have e:((fun v=>un (p+v)) ∘ fun v=>1+v)=(fun v=>un (p+1+v)):=by funext v;simp [Function.comp,Nat.add_assoc]
      rw [e]
      apply List.map_congr_left
      intro v hv
      have hv':v<b.size:=by
        have:=(List.mem_filter.1 hv).1
        simpa using this
      simp only [Function.comp]
      rw [F.sub_left (by omega) (by omega),show 1+v - 1=v by omega]
    have e2:((List.range n.size).filter (fun v=>un (p+1+b.size+v))).map (fun v=>1+(n.sub v).size)=(((List.range n.size).map (fun v=>1+b.size+v)).filter (fun v=>un (p+v))).map (fun v=>1+((F.cons b n).sub v).size):=by
      rw [List.filter_map,List.map_map]
      have e:((fun v=>un (p+v)) ∘ fun v=>1+b.size+v)=(fun v=>un (p+1+b.size+v)):=by funext v;simp [Function.comp,Nat.add_assoc]
      rw [e]
      apply List.map_congr_left
      intro v hv
      simp only [Function.comp]
      rw [F.sub_right (by omega),show 1+b.size+v - 1 - b.size=v by omega]
    rw [e1,e2,List.filter_append]
    by_cases h:un p=true
    · rw [if_pos h,if_pos (by simpa using h),List.map_cons,List.map_append,F.sub_zero];rfl
    · rw [if_neg h,if_neg (by simpa using h),List.map_append,List.nil_append]
theorem F.unm_all (un:Nat→Bool):∀ (f:F) (p:Nat),(∀ c,p≤c→c<p+f.size→un c=true)→f.unm un p=f.szs:=by
  intro f
  induction f with
  | nil=>intro p _;rfl
  | cons b n hb hn =>
    intro p h
    simp only [F.size] at h
    rw [F.unm,if_pos (h p (Nat.le_refl _) (by omega)),hb (p+1) (fun c h1 h2=>h c (by omega) (by omega)),hn (p+1+b.size) (fun c h1 h2=>h c (by omega) (by omega)),F.szs]
    rfl
theorem F.unm_dvd (un:Nat→Bool):∀ (f:F) (p:Nat) (q:Int),q<p→(∀ c e:Nat,p≤c→c<p+f.size→f.par p q c=(e:Int)→p≤e→un e=true→un c=true)→lprod (f.unm un p)∣fact (f.unm un p).length:=by
  intro f
  induction f with
  | nil=>intro p q _ _;simp [F.unm,lprod,fact]
  | cons b n hb hn =>
    intro p q hq h
    have hpb:∀ c,p+1≤c→c<p+1+b.size→(F.cons b n).par p q c=b.par (p+1) p c:=by
      intro c h1 h2
      rw [F.par,if_neg (by omega),if_pos (by omega)]
    have hpn:∀ c,p+1+b.size≤c→(F.cons b n).par p q c=n.par (p+1+b.size) q c:=by
      intro c h1
      rw [F.par,if_neg (by omega),if_neg (by omega)]
    simp only [F.size] at h
    have h2:=hn (p+1+b.size) q (by omega) (fun c e h1 h2 h3 h4 h5=>h c e (by omega) (by omega) (by rw [hpn c h1];exact h3) (by omega) h5)
    by_cases hu:un p=true
    · have hall:∀ c,p+1≤c→c<p+1+b.size→un c=true:=by
        intro c
        induction c using Nat.strongRecOn with
        | ind c ih =>
          intro h1 h3
          rcases F.par_range b (p+1) p c h1 h3 with hr|⟨hr1,hr2⟩
          · exact h c p (by omega) (by omega) (by rw [hpb c h1 h3];exact hr) (Nat.le_refl _) hu
          · obtain ⟨e,he⟩:=Int.eq_ofNat_of_zero_le (by omega:0≤b.par (p+1) p c)
            rw [he] at hr1 hr2
            exact h c e (by omega) (by omega) (by rw [hpb c h1 h3];exact he) (by omega) (ih e (by omega) (by omega) (by omega))
      rw [F.unm,if_pos hu,F.unm_all un b (p+1) hall]
      generalize F.unm un n (p+1+b.size)=l at h2 ⊢
      have h1:(1+b.size)*b.prod∣fact (1+b.size):=by
        rw [show 1+b.size=b.size+1 by omega,show fact (b.size+1)=(b.size+1)*fact b.size from rfl]
        exact Nat.mul_dvd_mul_left _ (F.prod_dvd b)
      have h3:=Nat.dvd_trans (Nat.mul_dvd_mul h1 h2) (fact_dvd (1+b.size) l.length)
      have e1:lprod ([1+b.size]++(b.szs++l))=(1+b.size)*b.prod*lprod l:=by
        rw [lprod_app,lprod_app,F.szs_prod];simp [lprod,Nat.mul_assoc]
      have e2:([1+b.size]++(b.szs++l)).length=1+b.size+l.length:=by
        rw [List.length_append,List.length_append,F.szs_len];simp;omega
      rw [e1,e2];exact h3
    · have h1:=hb (p+1) p (by omega) (fun c e h1 h2 h3 h4 h5=>h c e (by omega) (by omega) (by rw [hpb c h1 h2];exact h3) (by omega) h5)
      rw [F.unm,if_neg hu,List.nil_append,lprod_app,List.length_append]
      exact Nat.dvd_trans (Nat.mul_dvd_mul h1 h2) (fact_dvd _ _)
def closed (t:F) (beg:List Int):Prop:=(∀ c∈beg,0≤c∧c<t.size)∧∀ v:Nat,1≤v→v<t.size→(v:Int)∈beg→t.par 0 (-1) v∈beg
def left (t:F) (beg:List Int):List Nat:=(List.range t.size).filter (fun v:Nat=>decide (¬ (v:Int)∈beg))
def leftS (t:F) (beg:List Int):List Nat:=(left t beg).map (fun v=>1+(t.sub v).size)
def cnt (t:F) (beg:List Int):Nat:=fact (leftS t beg).length / lprod (leftS t beg)
theorem leftS_unm (t:F) (beg:List Int):leftS t beg=t.unm (fun v:Nat=>decide (¬ (v:Int)∈beg)) 0:=by
  rw [F.unm_eq];unfold leftS left;simp only [Nat.zero_add]
theorem left_dvd {d:List Int} {t:F} (h:Tree d t) {beg:List Int} (hc:closed t beg):lprod (leftS t beg)∣fact (leftS t beg).length:=by
  rw [leftS_unm]
  refine F.unm_dvd _ t 0 (-1) (by omega) ?_
  intro c e h1 h2 h3 h4 h5
  simp only [decide_eq_true_eq] at h5 ⊢
  intro hm
  by_cases h0:c=0
  · subst h0;rw [h.par_zero] at h3;omega
  · have:=hc.2 c (by omega) (by omega) hm
    rw [h3] at this
    exact h5 this
theorem closed_nil (t:F):closed t []:=⟨by simp,by simp⟩
theorem closed_next {d:List Int} {t:F} (h:Tree d t) {beg:List Int} (hc:closed t beg) {w:Int} (hw:w∈nxt t beg):closed t (beg++[w]):=by
  obtain ⟨u,rfl,hu,hn⟩:=nxt_mem.1 hw
  refine ⟨?_,?_⟩
  · intro c hc'
    simp only [List.mem_append,List.mem_singleton] at hc'
    rcases hc' with hc'|rfl
    · exact hc.1 c hc'
    · omega
  · intro v h1 hv hm
    simp only [List.mem_append,List.mem_singleton] at hm ⊢
    rcases hm with hm|hm
    · exact .inl (hc.2 v h1 hv hm)
    · have:v=u:=by omega
      subst this
      unfold canNext at hn
      simp only [Bool.and_eq_true,Bool.or_eq_true,decide_eq_true_eq] at hn
      rcases hn.2 with q|q
      · omega
      · exact .inl q
theorem grows_closed {d:List Int} {t:F} (h:Tree d t) {L:List Int} (ho:isOrd t.size L) (hg:growing t L=true) (i:Nat):closed t (L.take i):=by
  refine ⟨fun c hc=>ho.2.2 c (List.mem_of_mem_take hc),fun v h1 hv hm=>?_⟩
  obtain ⟨a,b,hab,hna⟩:=List.eq_append_cons_of_mem hm
  have hL:L=a++(v:Int) :: (b++L.drop i):=by
    have:=List.take_append_drop i L
    rw [hab] at this
    exact this.symm.trans (by simp)
  have:=(grows_iff t L []).1 hg a v (b++L.drop i) hL
  have hp:=h.par_pos h1 hv
  rcases this with q|q
  · simp only [Int.toNat_natCast] at q;omega
  · simp only [Int.toNat_natCast,List.nil_append] at q
    rw [hab]
    exact List.mem_append_left _ q
theorem grows_next {d:List Int} {t:F} (h:Tree d t) {L:List Int} (ho:isOrd t.size L) (hg:growing t L=true) {i:Nat} (hi:i<t.size):rd L (i:Int)∈nxt t (L.take i):=by
  have hil:i<L.length:=by rw [ho.1];exact hi
  have hr:=isOrd_rd ho hi
  have hL:L=L.take i++rd L (i:Int) :: L.drop (i+1):=by
    rw [rd_getElem hil,← List.drop_eq_getElem_cons hil,List.take_append_drop]
  obtain ⟨v,hv⟩:=Int.eq_ofNat_of_zero_le hr.1
  rw [hv] at hr hL ⊢
  refine nxt_mem.2 ⟨v,rfl,by omega,?_⟩
  have hn:¬ (v:Int)∈L.take i:=by
    have h2:=ho.2.1
    rw [hL,List.nodup_append] at h2
    intro hm
    exact h2.2.2 _ (by simpa using hm) (v:Int) (by simp) rfl
  have:=(grows_iff t L []).1 hg (L.take i) v (L.drop (i+1)) hL
  unfold canNext
  rw [decide_eq_true hn,Bool.true_and]
  by_cases h0:v=0
  · rw [decide_eq_true h0];rfl
  · have hp:=h.par_pos (by omega:1≤v) (by omega)
    rcases this with q|q
    · simp only [Int.toNat_natCast] at q;omega
    · simp only [Int.toNat_natCast,List.nil_append] at q
      rw [decide_eq_true q,Bool.or_true]
theorem nxt_sorted (t:F) (beg:List Int):(nxt t beg).Pairwise (fun x y=>x<y):=by
  unfold nxt nxtTo
  refine List.Pairwise.map _ ?_ ((List.pairwise_lt_range (n:=t.size)).filter _)
  intro a b h;omega
def accIn (t:F) (beg:List Int) (x:Int):List Int→Int→Int
  | [],a=>a
  | w :: l,a=>accIn t beg x l (if w<x then wrap64 (a+(cnt t (beg++[w]):Int)) else a)
theorem accIn_ge (t:F) (beg:List Int) (x:Int):∀ (l:List Int) (a:Int),(∀ w∈l,¬ w<x)→accIn t beg x l a=a:=by
  intro l
  induction l with
  | nil=>intro a _;rfl
  | cons w l ih =>
    intro a h
    rw [accIn,if_neg (h w (List.mem_cons_self ..))]
    exact ih a (fun y hy=>h y (List.mem_cons_of_mem _ hy))
def rankFrom (t:F) (L:List Int):Nat→Nat→Int→Int
  | 0,_,a=>a
  | m+1,i,a=>rankFrom t L m (i+1) (accIn t (L.take i) (rd L (i:Int)) (nxt t (L.take i)) a)
end Go.Proofs.YtlppkilencpmeaaGreat.Tr
namespace Go.Proofs.YtlppkilencpmeaaGreat.Tr
open Go.RowKit Go.Proofs.YtlppkilencpmeaaGreatW.PrintWords
set_option linter.unusedSimpArgs false
set_option linter.unusedVariables false
def F.tops (un:Nat→Bool):F→Nat→List Nat
  | .nil,_=>[]
  | .cons b n,p=>(if un p=true then [1+b.size] else F.tops un b (p+1))++F.tops un n (p+1+b.size)
theorem par_left {b n:F} {p:Nat} {q:Int} {c:Nat} (h1:p+1≤c) (h2:c<p+1+b.size):(F.cons b n).par p q c=b.par (p+1) p c:=by
  rw [F.par,if_neg (by omega),if_pos (by omega)]
theorem par_right {b n:F} {p:Nat} {q:Int} {c:Nat} (h1:p+1+b.size≤c):(F.cons b n).par p q c=n.par (p+1+b.size) q c:=by
  rw [F.par,if_neg (by omega),if_neg (by omega)]
theorem unm_below {un:Nat→Bool} {b n:F} {p:Nat} {q:Int} (h:∀ c e:Nat,p≤c→c<p+(F.cons b n).size→(F.cons b n).par p q c=(e:Int)→p≤e→un e=true→un c=true) (hu:un p=true):∀ c,p+1≤c→c<p+1+b.size→un c=true:=by
  intro c
  simp only [F.size] at h
  induction c using Nat.strongRecOn with
  | ind c ih =>
    intro h1 h3
    rcases F.par_range b (p+1) p c h1 h3 with hr|⟨hr1,hr2⟩
    · exact h c p (by omega) (by omega) (by rw [par_left h1 h3];exact hr) (Nat.le_refl _) hu
    · obtain ⟨e,he⟩:=Int.eq_ofNat_of_zero_le (by omega:0≤b.par (p+1) p c)
      rw [he] at hr1 hr2
      exact h c e (by omega) (by omega) (by rw [par_left h1 h3];exact he) (by omega) (ih e (by omega) (by omega) (by omega))
theorem F.tops_sum (un:Nat→Bool):∀ (f:F) (p:Nat) (q:Int),q<p→(∀ c e:Nat,p≤c→c<p+f.size→f.par p q c=(e:Int)→p≤e→un e=true→un c=true)→(f.tops un p).sum=(f.unm un p).length:=by
  intro f
  induction f with
  | nil=>intro p q _ _;rfl
  | cons b n hb hn =>
    intro p q hq h
    have h':=h
    simp only [F.size] at h
    have h2:=hn (p+1+b.size) q (by omega) (fun c e h1 h2 h3 h4 h5=>h c e (by omega) (by omega) (by rw [par_right h1];exact h3) (by omega) h5)
    by_cases hu:un p=true
    · rw [F.tops,if_pos hu,F.unm,if_pos hu,F.unm_all un b (p+1) (unm_below h' hu),List.sum_append,List.length_append,List.length_append,h2,F.szs_len]
      simp;omega
    · have h1:=hb (p+1) p (by omega) (fun c e h1 h2 h3 h4 h5=>h c e (by omega) (by omega) (by rw [par_left h1 h2];exact h3) (by omega) h5)
      rw [F.tops,if_neg hu,F.unm,if_neg hu,List.sum_append,List.nil_append,List.length_append,h1,h2]
theorem F.tops_eq (un tp:Nat→Bool):∀ (f:F) (p:Nat) (q:Int),q<p→(∀ c e:Nat,p≤c→c<p+f.size→f.par p q c=(e:Int)→p≤e→un e=true→un c=true) →
    (∀ c,p≤c→c<p+f.size→(f.par p q c=q→tp c=true)∧(∀ e:Nat,f.par p q c=(e:Int)→p≤e→tp c=!un e)) →
    f.tops un p=((List.range f.size).filter (fun v=>un (p+v) && tp (p+v))).map (fun v=>1+(f.sub v).size):=by
  intro f
  induction f with
  | nil=>intro p q _ _ _;rfl
  | cons b n hb hn =>
    intro p q hq h ht
    have h':=h
    simp only [F.size] at h ht
    have h2:=hn (p+1+b.size) q (by omega) (fun c e h1 h2 h3 h4 h5=>h c e (by omega) (by omega) (by rw [par_right h1];exact h3) (by omega) h5)
      (fun c h1 h2=>by
        have:=ht c (by omega) (by omega)
        rw [par_right h1] at this
        exact ⟨this.1,fun e h3 h4=>this.2 e h3 (by omega)⟩)
    have e1:∀ g:Nat→Bool,((List.range b.size).filter (fun v=>g (p+1+v))).map (fun v=>1+(b.sub v).size)=(((List.range b.size).map (fun v=>1+v)).filter (fun v=>g (p+v))).map (fun v=>1+((F.cons b n).sub v).size):=by
      intro g
      rw [List.filter_map,List.map_map]
      have e:((fun v=>g (p+v)) ∘ fun v=>1+v)=(fun v=>g (p+1+v)):=by funext v;simp [Function.comp,Nat.add_assoc]
      rw [e]
      apply List.map_congr_left
      intro v hv
      have hv':v<b.size:=by
        have:=(List.mem_filter.1 hv).1
        simpa using this
      simp only [Function.comp]
      rw [F.sub_left (by omega) (by omega),show 1+v - 1=v by omega]
    have e2:∀ g:Nat→Bool,((List.range n.size).filter (fun v=>g (p+1+b.size+v))).map (fun v=>1+(n.sub v).size)=(((List.range n.size).map (fun v=>1+b.size+v)).filter (fun v=>g (p+v))).map (fun v=>1+((F.cons b n).sub v).size):=by
      intro g
      rw [List.filter_map,List.map_map]
      have e:((fun v=>g (p+v)) ∘ fun v=>1+b.size+v)=(fun v=>g (p+1+b.size+v)):=by funext v;simp [Function.comp,Nat.add_assoc]
      rw [e]
      apply List.map_congr_left
      intro v hv
      simp only [Function.comp]
      rw [F.sub_right (by omega),show 1+b.size+v - 1 - b.size=v by omega]
    have hp:=(ht p (Nat.le_refl _) (by omega)).1 F.par_self
    rw [F.tops,h2,show (F.cons b n).size=1+b.size+n.size from rfl,range_split,List.filter_cons,show p+0=p from rfl,hp,Bool.and_true,List.filter_append]
    rw [e2 (fun c=>un c && tp c)]
    by_cases hu:un p=true
    · have hall:=unm_below h' hu
      have e3:((List.range b.size).map (fun v=>1+v)).filter (fun v=>un (p+v) && tp (p+v))=[]:=by
        rw [List.filter_eq_nil_iff]
        intro c hc
        simp only [List.mem_map,List.mem_range] at hc
        obtain ⟨v,hv,rfl⟩:=hc
        have q1:=ht (p+(1+v)) (by omega) (by omega)
        rw [par_left (by omega) (by omega)] at q1
        have q2:tp (p+(1+v))=false:=by
          rcases F.par_range b (p+1) p (p+(1+v)) (by omega) (by omega) with hr|⟨hr1,hr2⟩
          · rw [q1.2 p hr (Nat.le_refl _),hu];rfl
          · obtain ⟨e,he⟩:=Int.eq_ofNat_of_zero_le (by omega:0≤b.par (p+1) p (p+(1+v)))
            rw [he] at hr1 hr2
            rw [q1.2 e he (by omega),hall e (by omega) (by omega)];rfl
        rw [q2,Bool.and_false];simp
      rw [if_pos hu,if_pos hu,e3,List.nil_append,List.map_cons,F.sub_zero]
      rfl
    · have h1:=hb (p+1) p (by omega) (fun c e h1 h2 h3 h4 h5=>h c e (by omega) (by omega) (by rw [par_left h1 h2];exact h3) (by omega) h5)
        (fun c h1 h2=>by
          have:=ht c (by omega) (by omega)
          rw [par_left h1 h2] at this
          refine ⟨fun h3=>?_,fun e h3 h4=>this.2 e h3 (by omega)⟩
          rw [this.2 p h3 (Nat.le_refl _),Bool.eq_false_iff.2 hu];rfl)
      rw [if_neg hu,if_neg hu,h1,e1 (fun c=>un c && tp c),List.map_append]
def nxtN (t:F) (beg:List Int):List Nat:=(List.range t.size).filter (canNext t beg)
theorem nxt_sum {d:List Int} {t:F} (h:Tree d t) {beg:List Int} (hc:closed t beg):((nxtN t beg).map (fun v=>1+(t.sub v).size)).sum=(leftS t beg).length:=by
  have hup:∀ c e:Nat,0≤c→c<0+t.size→t.par 0 (-1) c=(e:Int)→0≤e→decide (¬ (e:Int)∈beg)=true→decide (¬ (c:Int)∈beg)=true:=by
    intro c e h1 h2 h3 h4 h5
    simp only [decide_eq_true_eq] at h5 ⊢
    intro hm
    by_cases h0:c=0
    · subst h0;rw [h.par_zero] at h3;omega
    · have:=hc.2 c (by omega) (by omega) hm
      rw [h3] at this
      exact h5 this
  have h1:=F.tops_sum (fun v:Nat=>decide (¬ (v:Int)∈beg)) t 0 (-1) (by omega) hup
  have h2:=F.tops_eq (fun v:Nat=>decide (¬ (v:Int)∈beg)) (fun v:Nat=>decide (v=0) || decide (t.par 0 (-1) v∈beg)) t 0 (-1) (by omega) hup (by
    intro c h3 h4
    refine ⟨fun h5=>?_,fun e h5 h6=>?_⟩
    · by_cases h0:c=0
      · rw [decide_eq_true h0];rfl
      · have:=h.par_pos (by omega:1≤c) (by omega)
        omega
    · have h0:¬ c=0:=by
        intro h0;subst h0;rw [h.par_zero] at h5;omega
      rw [decide_eq_false h0,Bool.false_or,h5]
      by_cases hm:(e:Int)∈beg
      · rw [decide_eq_true hm,decide_eq_false (by simpa using hm)];rfl
      · rw [decide_eq_false hm,decide_eq_true hm];rfl)
  rw [leftS_unm,← h1,h2]
  simp only [Nat.zero_add]
  rfl
theorem prod_out (f:Nat→Nat) (v:Nat):∀ (l:List Nat) (g:Nat→Bool),l.Nodup→v∈l→g v=true →
    lprod ((l.filter g).map f)=f v*lprod ((l.filter (fun x=>g x && decide (x≠v))).map f)∧(l.filter g).length=(l.filter (fun x=>g x && decide (x≠v))).length+1:=by
  intro l
  induction l with
  | nil=>intro g _ h;simp at h
  | cons y l ih =>
    intro g hn hm hg
    rw [List.nodup_cons] at hn
    by_cases hy:y=v
    · subst hy
      have e:l.filter (fun x=>g x && decide (x≠y))=l.filter g:=by
        apply List.filter_congr
        intro x hx
        have:x≠y:=fun e=>hn.1 (e ▸ hx)
        simp [this]
      rw [List.filter_cons,if_pos hg,List.filter_cons,if_neg (by simp),e]
      exact ⟨rfl,rfl⟩
    · have hm':v∈l:=by
        rcases List.mem_cons.1 hm with q|q
        · exact absurd q.symm hy
        · exact q
      obtain ⟨h1,h2⟩:=ih g hn.2 hm' hg
      by_cases hgy:g y=true
      · rw [List.filter_cons,if_pos hgy,List.filter_cons,if_pos (by simp [hgy,hy])]
        simp only [List.map_cons,lprod,List.length_cons,h1,h2]
        exact ⟨by rw [Nat.mul_left_comm],trivial⟩
      · rw [List.filter_cons,if_neg hgy,List.filter_cons,if_neg (by simp [hgy])]
        exact ⟨h1,h2⟩
theorem cnt_next {d:List Int} {t:F} (h:Tree d t) {beg:List Int} (hc:closed t beg) {v:Nat} (hv:v∈nxtN t beg):cnt t (beg++[(v:Int)])*lprod (leftS t beg)=fact ((leftS t beg).length - 1)*(1+(t.sub v).size):=by
  have hvm:=List.mem_filter.1 hv
  have hvs:v<t.size:=by simpa using hvm.1
  have hcan:=hvm.2
  have hnv:¬ (v:Int)∈beg:=by
    unfold canNext at hcan
    simp only [Bool.and_eq_true,decide_eq_true_eq] at hcan
    exact hcan.1
  have hw:(v:Int)∈nxt t beg:=nxt_mem.2 ⟨v,rfl,hvs,hcan⟩
  have hd:=left_dvd h (closed_next h hc hw)
  obtain ⟨h1,h2⟩:=prod_out (fun v=>1+(t.sub v).size) v (List.range t.size) (fun x:Nat=>decide (¬ (x:Int)∈beg)) List.nodup_range (by simpa using hvs) (by simpa using hnv)
  have e:left t (beg++[(v:Int)])=(List.range t.size).filter (fun x:Nat=>decide (¬ (x:Int)∈beg) && decide (x≠v)):=by
    unfold left
    apply List.filter_congr
    intro x _
    by_cases hx:(x:Int)∈beg
    · simp [hx]
    · by_cases hxv:x=v
      · simp [hxv]
      · have:¬ (x:Int)=(v:Int):=by omega
        simp [hx,hxv,this]
  have e1:leftS t (beg++[(v:Int)])=((List.range t.size).filter (fun x:Nat=>decide (¬ (x:Int)∈beg) && decide (x≠v))).map (fun v=>1+(t.sub v).size):=by unfold leftS;rw [e]
  have e2:(leftS t beg).length=(leftS t (beg++[(v:Int)])).length+1:=by
    rw [e1];unfold leftS left;rw [List.length_map,List.length_map];exact h2
  have e3:lprod (leftS t beg)=(1+(t.sub v).size)*lprod (leftS t (beg++[(v:Int)])):=by
    rw [e1];exact h1
  unfold cnt
  rw [e2,Nat.add_sub_cancel,e3]
  generalize leftS t (beg++[(v:Int)])=l at hd ⊢
  rw [Nat.mul_left_comm,Nat.div_mul_cancel hd,Nat.mul_comm]
theorem sum_mul (l:List Nat) (f:Nat→Nat) (c:Nat):(l.map f).sum*c=(l.map (fun v=>f v*c)).sum:=by
  induction l with
  | nil=>simp
  | cons x l ih=>simp only [List.map_cons,List.sum_cons,Nat.add_mul,ih]
theorem mul_sum (l:List Nat) (f:Nat→Nat) (c:Nat):c*(l.map f).sum=(l.map (fun v=>c*f v)).sum:=by
  induction l with
  | nil=>simp
  | cons x l ih=>simp only [List.map_cons,List.sum_cons,Nat.mul_add,ih]
theorem cnt_sum {d:List Int} {t:F} (h:Tree d t) {beg:List Int} (hc:closed t beg) (hl:1≤(leftS t beg).length):((nxtN t beg).map (fun v:Nat=>cnt t (beg++[(v:Int)]))).sum=cnt t beg:=by
  have hpos:0<lprod (leftS t beg):=lprod_pos _ (fun x hx=>by
    unfold leftS at hx
    simp only [List.mem_map] at hx
    obtain ⟨v,_,rfl⟩:=hx
    omega)
  apply Nat.eq_of_mul_eq_mul_right hpos
  rw [sum_mul]
  have e1:((nxtN t beg).map (fun v:Nat=>cnt t (beg++[(v:Int)])*lprod (leftS t beg)))=(nxtN t beg).map (fun v=>fact ((leftS t beg).length - 1)*(1+(t.sub v).size)):=by
    apply List.map_congr_left
    intro v hv
    exact cnt_next h hc hv
  rw [e1,← mul_sum,nxt_sum h hc]
  unfold cnt
  rw [Nat.div_mul_cancel (left_dvd h hc)]
  obtain ⟨m,hm⟩:∃ m,(leftS t beg).length=m+1:=⟨(leftS t beg).length - 1,by omega⟩
  rw [hm,Nat.add_sub_cancel,Nat.mul_comm]
  rfl
theorem nxt_N (t:F) (beg:List Int):nxt t beg=(nxtN t beg).map (fun v:Nat=>(v:Int)):=rfl
theorem cnt_le {d:List Int} {t:F} (h:Tree d t) (hs:t.size≤20) (beg:List Int):cnt t beg≤2432902008176640000:=by
  unfold cnt
  have h1:=Nat.div_le_self (fact (leftS t beg).length) (lprod (leftS t beg))
  have h2:(leftS t beg).length≤t.size:=by
    unfold leftS left
    rw [List.length_map]
    have:=List.length_filter_le (fun v:Nat=>decide (¬ (v:Int)∈beg)) (List.range t.size)
    simpa using this
  have h3:=fact_le (leftS t beg).length 20 (by omega)
  rw [show fact 20=2432902008176640000 by rfl] at h3
  omega
def pick (t:F) (beg:List Int):List Int→Int→Int × Int
  | [],a=>(a,0)
  | w :: l,a=>if a<(cnt t (beg++[w]):Int) then (a,w) else pick t beg l (a - (cnt t (beg++[w]):Int))
def sumN (t:F) (beg:List Int) (l:List Int):Nat:=(l.map (fun w=>cnt t (beg++[w]))).sum
theorem pick_mem (t:F) (beg:List Int):∀ (l:List Int) (a:Int),0≤a→a<(sumN t beg l:Int)→(pick t beg l a).2∈l∧0≤(pick t beg l a).1∧(pick t beg l a).1<(cnt t (beg++[(pick t beg l a).2]):Int):=by
  intro l
  induction l with
  | nil=>intro a h0 h1;simp [sumN] at h1;omega
  | cons w l ih =>
    intro a h0 h1
    simp only [sumN,List.map_cons,List.sum_cons] at h1
    unfold pick
    by_cases hlt:a<(cnt t (beg++[w]):Int)
    · rw [if_pos hlt];exact ⟨List.mem_cons_self ..,h0,hlt⟩
    · rw [if_neg hlt]
      have:=ih (a - (cnt t (beg++[w]):Int)) (by omega) (by unfold sumN;omega)
      exact ⟨List.mem_cons_of_mem _ this.1,this.2⟩
theorem sumN_nxt {d:List Int} {t:F} (h:Tree d t) {beg:List Int} (hc:closed t beg) (hl:beg.length<t.size):sumN t beg (nxt t beg)=cnt t beg:=by
  rw [sumN,nxt_N,List.map_map]
  refine cnt_sum h hc ?_
  have h1:=nxt_pos h hl
  rw [← nxt_sum h hc]
  rw [nxt_N,List.length_map] at h1
  match hq:nxtN t beg with
  | []=>rw [hq] at h1;simp at h1
  | v :: l=>simp only [List.map_cons,List.sum_cons];omega
def unrank (t:F):Nat→List Int→Int→List Int
  | 0,o,_=>o
  | m+1,o,a=>unrank t m (o++[(pick t o (nxt t o) a).2]) (pick t o (nxt t o) a).1
theorem unrank_len (t:F):∀ m o a,(unrank t m o a).length=o.length+m:=by
  intro m
  induction m with
  | zero=>intro o a;rfl
  | succ m ih=>intro o a;rw [unrank,ih];simp;omega
end Go.Proofs.YtlppkilencpmeaaGreat.Tr
namespace Go.Proofs.YtlppkilencpmeaaGreat.Tr
open Go.RowKit Go.Proofs.YtlppkilencpmeaaGreatW.PrintWords
set_option linter.unusedSimpArgs false
set_option linter.unusedVariables false
def blw (t:F) (beg:List Int) (x:Int):List Int→Nat
  | []=>0
  | w :: l=>(if w<x then cnt t (beg++[w]) else 0)+blw t beg x l
def rk (t:F) (L:List Int):Nat→Nat→Nat
  | 0,_=>0
  | m+1,i=>blw t (L.take i) (rd L (i:Int)) (nxt t (L.take i))+rk t L m (i+1)
theorem cnt_pos {d:List Int} {t:F} (h:Tree d t) {beg:List Int} (hc:closed t beg):0<cnt t beg:=by
  unfold cnt
  refine Nat.div_pos (Nat.le_of_dvd (fact_pos _) (left_dvd h hc)) (lprod_pos _ (fun x hx=>?_))
  unfold leftS at hx
  simp only [List.mem_map] at hx
  obtain ⟨v,_,rfl⟩:=hx
  omega
theorem blw_ge (t:F) (beg:List Int) (x:Int):∀ (l:List Int),(∀ w∈l,¬ w<x)→blw t beg x l=0:=by
  intro l
  induction l with
  | nil=>intro _;rfl
  | cons w l ih =>
    intro h
    rw [blw,if_neg (h w (List.mem_cons_self ..)),ih (fun y hy=>h y (List.mem_cons_of_mem _ hy))]
theorem blw_mem (t:F) (beg:List Int) (x:Int):∀ (l:List Int),l.Pairwise (fun x y=>x<y)→x∈l→blw t beg x l+cnt t (beg++[x])≤sumN t beg l:=by
  intro l
  induction l with
  | nil=>intro _ h;simp at h
  | cons w l ih =>
    intro hp hm
    rw [List.pairwise_cons] at hp
    simp only [sumN,List.map_cons,List.sum_cons,blw]
    by_cases hx:w=x
    · subst hx
      rw [if_neg (by omega),blw_ge t beg w l (fun y hy=>by have:=hp.1 y hy;omega)]
      omega
    · have hm':x∈l:=by
        rcases List.mem_cons.1 hm with q|q
        · exact absurd q.symm hx
        · exact q
      have h1:=ih hp.2 hm'
      unfold sumN at h1
      rw [if_pos (hp.1 x hm')]
      omega
theorem firstGt_none {x:Int}:∀ {l:List Int},firstGt x l=none→∀ w∈l,w≤x:=by
  intro l
  induction l with
  | nil=>intro _ w h;simp at h
  | cons y l ih =>
    intro h w hw
    unfold firstGt at h
    split at h
    · rename_i hy
      rcases List.mem_cons.1 hw with rfl|q
      · exact hy
      · exact ih h w q
    · cases h
theorem blw_max (t:F) (beg:List Int) (x:Int):∀ (l:List Int),l.Pairwise (fun x y=>x<y)→x∈l→(∀ w∈l,w≤x)→blw t beg x l+cnt t (beg++[x])=sumN t beg l:=by
  intro l
  induction l with
  | nil=>intro _ h;simp at h
  | cons w l ih =>
    intro hp hm hle
    rw [List.pairwise_cons] at hp
    simp only [sumN,List.map_cons,List.sum_cons,blw]
    by_cases hx:w=x
    · subst hx
      have hl:l=[]:=by
        cases l with
        | nil=>rfl
        | cons y l =>
          have h1:=hp.1 y (List.mem_cons_self ..)
          have h2:=hle y (by simp)
          omega
      subst hl
      simp [blw]
    · have hm':x∈l:=by
        rcases List.mem_cons.1 hm with q|q
        · exact absurd q.symm hx
        · exact q
      have h1:=ih hp.2 hm' (fun y hy=>hle y (List.mem_cons_of_mem _ hy))
      unfold sumN at h1
      rw [if_pos (hp.1 x hm')]
      omega
theorem blw_next (t:F) (beg:List Int) (x v:Int):∀ (l:List Int),l.Pairwise (fun x y=>x<y)→x∈l→firstGt x l=some v→blw t beg v l=blw t beg x l+cnt t (beg++[x]):=by
  intro l
  induction l with
  | nil=>intro _ h;simp at h
  | cons w l ih =>
    intro hp hm hf
    rw [List.pairwise_cons] at hp
    unfold firstGt at hf
    by_cases hw:w≤x
    · rw [if_pos hw] at hf
      have hv:=hp.1 v (firstGt_mem hf)
      simp only [blw]
      rw [if_pos hv]
      by_cases hx:w=x
      · subst hx
        rw [if_neg (by omega),blw_ge t beg w l (fun y hy=>by have:=hp.1 y hy;omega)]
        have e:blw t beg v l=0:=by
          cases l with
          | nil=>rfl
          | cons y l =>
            have h1:=hp.1 y (List.mem_cons_self ..)
            have hp2:=List.pairwise_cons.1 hp.2
            unfold firstGt at hf
            rw [if_neg (by omega)] at hf
            injection hf with hf
            subst hf
            exact blw_ge t beg y _ (fun z hz=>by
              rcases List.mem_cons.1 hz with rfl|q
              · omega
              · have:=hp2.1 z q;omega)
        omega
      · have hm':x∈l:=by
          rcases List.mem_cons.1 hm with q|q
          · exact absurd q.symm hx
          · exact q
        have h1:=ih hp.2 hm' hf
        rw [if_pos (hp.1 x hm')]
        omega
    · exfalso
      rcases List.mem_cons.1 hm with q|q
      · omega
      · have:=hp.1 x q;omega
theorem accIn_blw (t:F) (beg:List Int) (x:Int):∀ (l:List Int) (a:Int),0≤a→a+(blw t beg x l:Int)≤2432902008176640000→accIn t beg x l a=a+(blw t beg x l:Int):=by
  intro l
  induction l with
  | nil=>intro a _ _;simp [accIn,blw]
  | cons w l ih =>
    intro a h0 h1
    simp only [accIn,blw] at h1 ⊢
    by_cases hw:w<x
    · rw [if_pos hw] at h1 ⊢
      rw [if_pos hw,wrap_id (by omega) (by omega),ih _ (by omega) (by omega)]
      omega
    · rw [if_neg hw] at h1 ⊢
      rw [if_neg hw,ih _ (by omega) (by omega)]
      omega
theorem take_next {L:List Int} {i:Nat} (hi:i<L.length):L.take (i+1)=L.take i++[rd L (i:Int)]:=by
  rw [rd_getElem hi,List.take_succ_eq_append_getElem hi]
structure Gro (d:List Int) (t:F) (L:List Int):Prop where
  h:Tree d t
  hs:t.size≤20
  ho:isOrd t.size L
  hg:growing t L=true
theorem Gro.mem {d:List Int} {t:F} {L:List Int} (G:Gro d t L) {i:Nat} (hi:i<t.size):rd L (i:Int)∈nxt t (L.take i):=grows_next G.h G.ho G.hg hi
theorem Gro.cl {d:List Int} {t:F} {L:List Int} (G:Gro d t L) (i:Nat):closed t (L.take i):=grows_closed G.h G.ho G.hg i
theorem Gro.sum {d:List Int} {t:F} {L:List Int} (G:Gro d t L) {i:Nat} (hi:i<t.size):sumN t (L.take i) (nxt t (L.take i))=cnt t (L.take i):=by
  have:=G.ho.1
  exact sumN_nxt G.h (G.cl i) (by simp;omega)
theorem Gro.step {d:List Int} {t:F} {L:List Int} (G:Gro d t L) {i:Nat} (hi:i<t.size):blw t (L.take i) (rd L (i:Int)) (nxt t (L.take i))+cnt t (L.take (i+1))≤cnt t (L.take i):=by
  have:=G.ho.1
  rw [take_next (by omega),← G.sum hi]
  exact blw_mem t _ _ _ (nxt_sorted _ _) (G.mem hi)
theorem Gro.rk_lt {d:List Int} {t:F} {L:List Int} (G:Gro d t L):∀ m i,i+m=t.size→rk t L m i<cnt t (L.take i):=by
  intro m
  induction m with
  | zero=>intro i _;exact cnt_pos G.h (G.cl i)
  | succ m ih =>
    intro i hi
    have h1:=ih (i+1) (by omega)
    have h2:=G.step (i:=i) (by omega)
    rw [rk]
    omega
theorem Gro.rank {d:List Int} {t:F} {L:List Int} (G:Gro d t L):∀ (m i:Nat) (a:Int),i+m=t.size→0≤a→a+(cnt t (L.take i):Int)≤2432902008176640000→rankFrom t L m i a=a+(rk t L m i:Int):=by
  intro m
  induction m with
  | zero=>intro i a _ _ _;simp [rankFrom,rk]
  | succ m ih =>
    intro i a hi h0 h1
    have h2:=G.step (i:=i) (by omega)
    rw [rankFrom,rk,accIn_blw _ _ _ _ _ h0 (by omega),ih (i+1) _ (by omega) (by omega) (by omega)]
    omega
theorem Gro.rank0 {d:List Int} {t:F} {L:List Int} (G:Gro d t L):rankFrom t L t.size 0 0=(rk t L t.size 0:Int):=by
  have:=cnt_le G.h G.hs (L.take 0)
  rw [G.rank t.size 0 0 (by omega) (by omega) (by omega)]
  omega
theorem pick_blw (t:F) (beg:List Int) (x:Int):∀ (l:List Int) (a:Int),l.Pairwise (fun x y=>x<y)→x∈l→0≤a→a<(cnt t (beg++[x]):Int)→pick t beg l ((blw t beg x l:Int)+a)=(a,x):=by
  intro l
  induction l with
  | nil=>intro a _ h;simp at h
  | cons w l ih =>
    intro a hp hm h0 h1
    rw [List.pairwise_cons] at hp
    unfold pick
    by_cases hx:w=x
    · subst hx
      rw [blw,blw_ge t beg w l (fun y hy=>by have:=hp.1 y hy;omega),if_neg (show ¬ w<w by omega),if_pos (by omega)]
      simp
    · have hm':x∈l:=by
        rcases List.mem_cons.1 hm with q|q
        · exact absurd q.symm hx
        · exact q
      rw [blw,if_pos (hp.1 x hm'),if_neg (by omega),← ih a hp.2 hm' h0 h1]
      congr 1;omega
theorem Gro.unrank {d:List Int} {t:F} {L:List Int} (G:Gro d t L):∀ m i,i+m=t.size→Tr.unrank t m (L.take i) (rk t L m i:Int)=L:=by
  have hL:=G.ho.1
  intro m
  induction m with
  | zero=>intro i hi;rw [Tr.unrank,List.take_of_length_le (by omega)]
  | succ m ih =>
    intro i hi
    have h1:=G.rk_lt m (i+1) (by omega)
    rw [take_next (by omega)] at h1
    rw [Tr.unrank,rk,Int.natCast_add,pick_blw t _ _ _ _ (nxt_sorted _ _) (G.mem (by omega)) (by omega) (by omega)]
    have h2:=ih (i+1) (by omega)
    rw [take_next (by omega)] at h2
    exact h2
theorem Gro.last {d:List Int} {t:F} {L:List Int} (G:Gro d t L):∀ m i,i+m=t.size→(∀ j:Nat,i≤j→j<t.size→firstGt (rd L (j:Int)) (nxt t (L.take j))=none)→rk t L m i+1=cnt t (L.take i):=by
  have hL:=G.ho.1
  intro m
  induction m with
  | zero =>
    intro i hi _
    have e:left t (L.take i)=[]:=by
      unfold left
      rw [List.filter_eq_nil_iff]
      intro v hv
      have:=(isOrd_mem G.ho (v:=(v:Int))).mpr ⟨by omega,by simpa using hv⟩
      rw [List.take_of_length_le (by omega)]
      simpa using this
    unfold cnt leftS
    rw [e]
    simp [rk,fact,lprod]
  | succ m ih =>
    intro i hi hj
    have h1:=ih (i+1) (by omega) (fun j h1 h2=>hj j (by omega) h2)
    have h2:=blw_max t (L.take i) _ _ (nxt_sorted _ _) (G.mem (i:=i) (by omega)) (firstGt_none (hj i (Nat.le_refl _) (by omega)))
    rw [G.sum (by omega),← take_next (by omega)] at h2
    rw [rk]
    omega
theorem nextG_cases (t:F) (L:List Int):∀ i,(nextG t L i=([],4)∧∀ j:Nat,j<i→firstGt (rd L (j:Int)) (nxt t (L.take j))=none)∨∃ (j:Nat) (v:Int),j<i∧firstGt (rd L (j:Int)) (nxt t (L.take j))=some v∧(∀ k:Nat,j<k→k<i→firstGt (rd L (k:Int)) (nxt t (L.take k))=none)∧nextG t L i=(fillL t (t.size - (j+1)) (L.take j++[v]),0):=by
  intro i
  induction i with
  | zero=>exact .inl ⟨rfl,fun j h=>by omega⟩
  | succ i ih =>
    cases hf:firstGt (rd L (i:Int)) (nxt t (L.take i)) with
    | some v =>
      exact .inr ⟨i,v,by omega,hf,fun k h1 h2=>by omega,by rw [nextG,hf]⟩
    | none =>
      have e:nextG t L (i+1)=nextG t L i:=by rw [nextG,hf]
      rw [e]
      rcases ih with ⟨h1,h2⟩|⟨j,v,h1,h2,h3,h4⟩
      · refine .inl ⟨h1,fun j hj=>?_⟩
        by_cases h:j=i
        · subst h;exact hf
        · exact h2 j (by omega)
      · refine .inr ⟨j,v,by omega,h2,fun k hk hk2=>?_,h4⟩
        by_cases h:k=i
        · subst h;exact hf
        · exact h3 k hk (by omega)
def good (t:F) (b:List Int):Prop:=∀ a x c,b=a++x :: c→x∈nxt t a
theorem good_snoc {t:F} {b:List Int} {w:Int} (hb:good t b) (hw:w∈nxt t b):good t (b++[w]):=by
  intro a x c e
  rcases List.eq_nil_or_concat c with rfl|⟨c',y,rfl⟩
  · obtain ⟨rfl,h2⟩:=List.append_inj' e rfl
    injection h2 with h2
    exact h2 ▸ hw
  · have e2:b++[w]=(a++x :: c')++[y]:=by rw [e];simp
    obtain ⟨h1,_⟩:=List.append_inj' e2 rfl
    exact hb a x c' h1
theorem good_pre {t:F} {a c:List Int} (h:good t (a++c)):good t a:=fun a' x c' e=>h a' x (c'++c) (by rw [e];simp)
theorem Gro.good {d:List Int} {t:F} {L:List Int} (G:Gro d t L):good t L:=by
  intro a x c e
  have hL:=G.ho.1
  have h1:=G.mem (i:=a.length) (by rw [← hL,e];simp)
  rw [e,List.take_left,rd_app0,rd_cons0] at h1
  exact h1
theorem good_ord {t:F}:∀ (n:Nat) (b:List Int),b.length=n→good t b→b.Nodup∧∀ x∈b,0≤x∧x<t.size:=by
  intro n
  induction n with
  | zero=>intro b hl _;rw [List.length_eq_zero_iff] at hl;subst hl;simp
  | succ n ih =>
    intro b hl hb
    rcases List.eq_nil_or_concat b with rfl|⟨a,w,rfl⟩
    · simp at hl
    have hw:=hb a w [] (by simp)
    rw [List.concat_eq_append] at hl hb ⊢
    obtain ⟨h1,h2⟩:=ih a (by simpa using hl) (good_pre hb)
    obtain ⟨v,rfl,hv,hn⟩:=nxt_mem.1 hw
    unfold canNext at hn
    simp only [Bool.and_eq_true,decide_eq_true_eq] at hn
    refine ⟨?_,fun x hx=>?_⟩
    · rw [List.nodup_append]
      refine ⟨h1,by simp,fun x hx y hy=>?_⟩
      rw [List.mem_singleton] at hy
      intro e
      exact hn.1 (by rw [← hy,← e];exact hx)
    · rcases List.mem_append.1 hx with hx|hx
      · exact h2 x hx
      · rw [List.mem_singleton] at hx;omega
theorem good_gro {d:List Int} {t:F} {b:List Int} (h:Tree d t) (hs:t.size≤20) (hb:good t b) (hl:b.length=t.size):Gro d t b:=by
  refine ⟨h,hs,⟨hl,good_ord _ b rfl hb⟩,?_⟩
  refine (grows_iff t b []).2 (fun a x c e=>?_)
  obtain ⟨v,rfl,hv,hn⟩:=nxt_mem.1 (hb a x c e)
  unfold canNext at hn
  simp only [Bool.and_eq_true,Bool.or_eq_true,decide_eq_true_eq] at hn
  rw [Int.toNat_natCast,List.nil_append]
  rcases hn.2 with q|q
  · subst q;left;have:=h.par_zero;omega
  · exact .inr q
theorem fillL_good {d:List Int} {t:F} (h:Tree d t):∀ (m:Nat) (b:List Int),b.length+m=t.size→good t b→good t (fillL t m b)∧(fillL t m b).take b.length=b∧rk t (fillL t m b) m b.length=0:=by
  intro m
  induction m with
  | zero=>intro b _ hb;exact ⟨hb,List.take_length,rfl⟩
  | succ m ih =>
    intro b hl hb
    have h1:=nxt_pos h (beg:=b) (by omega)
    have hw:rd (nxt t b) 0∈nxt t b:=rd_mem (by omega) (by omega)
    obtain ⟨g1,g2,g3⟩:=ih (b++[rd (nxt t b) 0]) (by simp;omega) (good_snoc hb hw)
    have hlen:=fillL_len t m (b++[rd (nxt t b) 0])
    rw [fillL]
    rw [List.length_append,List.length_singleton] at g2 g3 hlen
    have e1:(fillL t m (b++[rd (nxt t b) 0])).take b.length=b:=by
      have:=congrArg (List.take b.length) g2
      rw [List.take_take,List.take_left,Nat.min_eq_left (by omega)] at this
      exact this
    have e2:rd (fillL t m (b++[rd (nxt t b) 0])) (b.length:Int)=rd (nxt t b) 0:=by
      rw [take_next (by omega),e1] at g2
      have:=List.append_cancel_left g2
      injection this
    refine ⟨g1,e1,?_⟩
    rw [rk,e1,e2,g3,Nat.add_zero]
    refine blw_ge t b _ _ (fun w hm=>?_)
    have hp:=nxt_sorted t b
    cases hq:nxt t b with
    | nil=>rw [hq] at h1;simp at h1
    | cons y l =>
      rw [hq] at hm hp
      rw [rd_cons0]
      rcases List.mem_cons.1 hm with rfl|q
      · omega
      · have:=(List.pairwise_cons.1 hp).1 w q;omega
theorem rk_same (t:F) (L L':List Int) (j n:Nat) (hj:L'.take j=L.take j) (h1:j≤L.length) (h2:j≤L'.length):∀ m i,i+m=j→rk t L' (m+n) i+rk t L n j=rk t L (m+n) i+rk t L' n j:=by
  intro m
  induction m with
  | zero=>intro i hi;rw [Nat.zero_add,show i=j by omega];omega
  | succ m ih =>
    intro i hi
    have h3:=ih (i+1) (by omega)
    have e1:L'.take i=L.take i:=by
      have:=congrArg (List.take i) hj
      rw [List.take_take,List.take_take,Nat.min_eq_left (by omega)] at this
      exact this
    have e2:rd L' (i:Int)=rd L (i:Int):=by
      have e3:L'.take (i+1)=L.take (i+1):=by
        have:=congrArg (List.take (i+1)) hj
        rw [List.take_take,List.take_take,Nat.min_eq_left (by omega)] at this
        exact this
      rw [take_next (by omega),take_next (by omega),e1] at e3
      have:=List.append_cancel_left e3
      injection this
    rw [show m+1+n=(m+n)+1 by omega,rk,rk,e1,e2]
    omega
theorem Gro.next {d:List Int} {t:F} {L:List Int} (G:Gro d t L):((nextG t L t.size).2=4∧rk t L t.size 0+1=cnt t [])∨((nextG t L t.size).2=0∧Gro d t (nextG t L t.size).1∧rk t (nextG t L t.size).1 t.size 0=rk t L t.size 0+1∧rk t L t.size 0+1<cnt t []):=by
  have hL:=G.ho.1
  rcases nextG_cases t L t.size with ⟨h1,h2⟩|⟨j,v,h1,h2,h3,h4⟩
  · refine .inl ⟨by rw [h1],?_⟩
    exact G.last t.size 0 (by omega) (fun j _ hj=>h2 j hj)
  · have hm:=firstGt_mem h2
    have hb:Tr.good t (L.take j++[v]):=good_snoc (good_pre (c:=L.drop j) (by rw [List.take_append_drop];exact G.good)) hm
    have hlj:(L.take j).length=j:=by simp;omega
    have hlen:(L.take j++[v]).length=j+1:=by rw [List.length_append,hlj];rfl
    obtain ⟨g1,g2,g3⟩:=fillL_good G.h (t.size - (j+1)) (L.take j++[v]) (by omega) hb
    have hfl:=fillL_len t (t.size - (j+1)) (L.take j++[v])
    have G':=good_gro G.h G.hs g1 (by omega)
    rw [hlen] at g2 g3 hfl
    rw [h4]
    generalize fillL t (t.size - (j+1)) (L.take j++[v])=L' at *
    have e1:L'.take j=L.take j:=by
      have:=congrArg (List.take j) g2
      rw [List.take_take,List.take_append_of_le_length (by omega),Nat.min_eq_left (by omega),List.take_of_length_le (l:=L.take j) (by omega)] at this
      exact this
    have e2:rd L' (j:Int)=v:=by
      rw [take_next (by omega),e1] at g2
      have:=List.append_cancel_left g2
      injection this
    have h5:=rk_same t L L' j (t.size - (j+1)+1) e1 (by omega) (by omega) j 0 (by omega)
    rw [show j+(t.size - (j+1)+1)=t.size by omega] at h5
    have h6:=G.last (t.size - (j+1)) (j+1) (by omega) (fun k a b=>h3 k (by omega) b)
    have h7:=blw_next t (L.take j) (rd L (j:Int)) v (nxt t (L.take j)) (nxt_sorted _ _) (G.mem h1) h2
    rw [← take_next (by omega)] at h7
    have e3:rk t L' (t.size - (j+1)+1) j=blw t (L.take j) v (nxt t (L.take j))+0:=by rw [rk,e1,e2,g3]
    have e4:rk t L (t.size - (j+1)+1) j=blw t (L.take j) (rd L (j:Int)) (nxt t (L.take j))+rk t L (t.size - (j+1)) (j+1):=by rw [rk]
    have h8:rk t L' t.size 0=rk t L t.size 0+1:=by omega
    have h9:=G'.rk_lt t.size 0 (by omega)
    rw [List.take_zero] at h9
    exact .inr ⟨rfl,G',h8,by show _<_;omega⟩
theorem labels_back {n:Nat} {l:List Int} (ho:isOrd n l) {i:Nat} (hi:i<n):rd (labels l n) (rd l (i:Int))=(i:Int):=by
  have hr:=isOrd_rd ho hi
  have hil:i<l.length:=by rw [ho.1];exact hi
  have hL:l=l.take i++rd l (i:Int) :: l.drop (i+1):=by
    rw [rd_getElem hil,← List.drop_eq_getElem_cons hil,List.take_append_drop]
  unfold labels
  rw [each_rd' hr.1 hr.2,Int.toNat_of_nonneg hr.1]
  have h2:=ho.2.1
  rw [hL,List.nodup_append] at h2
  conv=>lhs;arg 2;rw [hL]
  rw [idx_at (fun hm=>h2.2.2 _ hm _ (List.mem_cons_self ..) rfl)]
  simp;omega
theorem frees_mem (p l:List Int) (j:Nat) (hf:¬ rd p (rd l ((j+1:Nat):Int))=rd l (j:Int)):∀ m i,i≤j→j<i+m→(j:Int)∈frees p l m i:=by
  intro m
  induction m with
  | zero=>intro i h1 h2;omega
  | succ m ih =>
    intro i h1 h2
    unfold frees
    by_cases h:i=j
    · subst h
      rw [if_neg hf]
      exact List.mem_cons_self ..
    · have:=ih (i+1) (by omega) (by omega)
      split
      · exact this
      · exact List.mem_cons_of_mem _ this
theorem grows_app (t:F):∀ (a pre b:List Int),grows t pre (a++b)=(grows t pre a && grows t (pre++a) b):=by
  intro a
  induction a with
  | nil=>intro pre b;simp [grows]
  | cons x a ih=>intro pre b;simp only [List.cons_append,grows,ih,List.append_assoc,Bool.and_assoc,List.nil_append]
theorem grows_congr (t:F):∀ (b p q:List Int),(∀ x,x∈p↔x∈q)→grows t p b=grows t q b:=by
  intro b
  induction b with
  | nil=>intro p q _;rfl
  | cons y b ih =>
    intro p q h
    simp only [grows]
    rw [ih (p++[y]) (q++[y]) (fun x=>by simp [h x])]
    simp only [h]
theorem swap_ok {t:F} {n:Nat} {l:List Int} (ho:isOrd n l) (hn:n=t.size) (hg:growing t l=true) {i:Nat} (hi:i+1<l.length) (hf:¬ rd (parentsL t) (rd l ((i+1:Nat):Int))=rd l (i:Int)) :
    ∃ M,M=(l.set i (rd l ((i+1:Nat):Int))).set (i+1) (rd l (i:Int))∧isOrd n M∧growing t M=true∧¬ rd (parentsL t) (rd M ((i+1:Nat):Int))=rd M (i:Int)∧(M.set i (rd M ((i+1:Nat):Int))).set (i+1) (rd M (i:Int))=l:=by
  have hol:=ho.1
  have hx:=isOrd_rd ho (i:=i) (by omega)
  have hy:=isOrd_rd ho (i:=i+1) (by omega)
  have hL:l=l.take i++rd l (i:Int) :: rd l ((i+1:Nat):Int) :: l.drop (i+2):=by
    rw [rd_getElem (i:=i) (by omega),rd_getElem (i:=i+1) (by omega),← List.drop_eq_getElem_cons (i:=i+1) (by omega),← List.drop_eq_getElem_cons (by omega),List.take_append_drop]
  generalize hx':rd l (i:Int)=x at *
  generalize hy':rd l ((i+1:Nat):Int)=y at *
  have ha:(l.take i).length=i:=by simp;omega
  generalize l.take i=a at *
  generalize l.drop (i+2)=c at *
  have hset:∀ (u v p q:Int),((a++u :: v :: c).set i p).set (i+1) q=a++p :: q :: c:=by
    intro u v p q
    subst ha
    rw [List.set_append_right _ _ (Nat.le_refl _),List.set_append_right _ _ (by omega)]
    simp
  have hrd:∀ (u v:Int),rd (a++u :: v :: c) (i:Int)=u∧rd (a++u :: v :: c) ((i+1:Nat):Int)=v:=by
    intro u v
    subst ha
    refine ⟨by rw [rd_app0,rd_cons0],?_⟩
    rw [rd_app]
    rfl
  have hpl:∀ u:Int,0≤u→u<t.size→rd (parentsL t) u=t.par 0 (-1) u.toNat:=fun u h0 h1=>each_rd' h0 h1
  have hnd:=ho.2.1
  rw [hL] at hnd
  rw [hL] at hg
  unfold growing at hg
  rw [grows_app] at hg
  simp only [grows,List.nil_append,Bool.and_eq_true,Bool.or_eq_true,decide_eq_true_eq,List.mem_append,List.mem_singleton] at hg
  rw [hpl y (by omega) (by omega)] at hf
  have hxa:¬ y∈a:=fun hm=>(List.nodup_append.1 hnd).2.2 y hm y (by simp) rfl
  refine ⟨_,rfl,?_⟩
  rw [hL,hset]
  obtain ⟨h1,h2⟩:=hrd y x
  rw [h1,h2,hset,hpl x (by omega) (by omega)]
  have hpm:(a++y :: x :: c).Perm l:=by rw [hL];exact List.Perm.append_left _ (List.Perm.swap _ _ _)
  refine ⟨⟨by rw [hpm.length_eq];exact hol,hpm.nodup_iff.2 ho.2.1,fun z hz=>ho.2.2 z (hpm.mem_iff.1 hz)⟩,?_,?_,rfl⟩
  · unfold growing
    rw [grows_app]
    simp only [grows,List.nil_append,Bool.and_eq_true,Bool.or_eq_true,decide_eq_true_eq,List.mem_append,List.mem_singleton]
    refine ⟨hg.1,?_,?_,?_⟩
    · rcases hg.2.2.1 with q|q|q
      · exact .inl q
      · exact .inr q
      · exact absurd q hf
    · rcases hg.2.1 with q|q
      · exact .inl q
      · exact .inr (.inl q)
    · rw [← hg.2.2.2]
      refine grows_congr t c _ _ (fun z=>?_)
      simp only [List.mem_append,List.mem_singleton]
      constructor
      · rintro ((q|q)|q)
        · exact .inl (.inl q)
        · exact .inr q
        · exact .inl (.inr q)
      · rintro ((q|q)|q)
        · exact .inl (.inl q)
        · exact .inr q
        · exact .inl (.inr q)
  · intro e
    rcases hg.2.1 with q|q
    · omega
    · exact hxa (e ▸ q)
end Go.Proofs.YtlppkilencpmeaaGreat.Tr
namespace Go.Proofs.YtlppkilencpmeaaGreat.Dr
open Go.RowKit Go.Proofs.YtlppkilencpmeaaGreatW.PrintWords
theorem u64_in (x:Int):0≤IntKind.u64.wrap x∧IntKind.u64.wrap x<18446744073709551616:=by
  have h:IntKind.u64.wrap x=x % 18446744073709551616:=by rfl
  rw [h];omega
theorem low_in {x:Int} (h0:0≤x) (h1:x<18446744073709551616):0≤Go.bits .and .u64 x 16777215∧Go.bits .and .u64 x 16777215≤16777215:=by
  obtain ⟨n,rfl⟩:=Int.eq_ofNat_of_zero_le h0
  have h:=Go.bits_and_u64_nat n 16777215 (by omega) (by omega)
  rw [show ((16777215:Nat):Int)=16777215 from rfl] at h
  rw [h]
  have:=Nat.and_le_right (n:=n) (m:=16777215)
  omega
theorem hash_in (x:Int):0≤Go.bits .and .u64 (IntKind.u64.wrap x / 8589934592) 16777215∧Go.bits .and .u64 (IntKind.u64.wrap x / 8589934592) 16777215≤16777215:=by
  have h:=u64_in x
  exact low_in (by omega) (by omega)
theorem tmod_in {a b:Int} (h0:0≤a) (hb:1≤b):0≤Int.tmod a b∧Int.tmod a b<b:=by
  rw [Int.tmod_eq_emod_of_nonneg h0]
  exact ⟨Int.emod_nonneg _ (by omega),Int.emod_lt_of_pos _ (by omega)⟩
end Go.Proofs.YtlppkilencpmeaaGreat.Dr
namespace Go.Proofs.YtlppkilencpmeaaGreat.Tr
open Go.RowKit Go.Proofs.YtlppkilencpmeaaGreatW.PrintWords
def okw:List Int→Int→Prop
  | [],m=>m=0
  | x :: xs,m=>1≤m∧0≤x∧okw xs (m - 1+x)
theorem okw_enc:∀ (l:List Int) (m:Int),0≤m→okw l m→∃ g:F,l=g.enc∧(g.len:Int)=m:=by
  intro l
  induction l with
  | nil=>intro m _ h;exact ⟨.nil,rfl,by simp only [okw] at h;simp [F.len,h]⟩
  | cons x xs ih =>
    intro m hm h
    simp only [okw] at h
    obtain ⟨h0,h1,h3⟩:=h
    obtain ⟨g,rfl,hg⟩:=ih (m - 1+x) (by omega) h3
    obtain ⟨b,n,rfl,hb⟩:=F.split g x.toNat (by omega)
    refine ⟨.cons b n,?_,?_⟩
    · simp only [F.enc,F.app_enc,List.cons.injEq,and_true];omega
    · rw [F.app_len] at hg;simp only [F.len];omega
theorem okw_tree {d:List Int} (h:okw d 1) (h2:d.length≤24):∃ t,Tree d t:=by
  obtain ⟨g,rfl,hg⟩:=okw_enc d 1 (by omega) h
  cases g with
  | nil=>simp [F.len] at hg
  | cons b n =>
    obtain rfl:=F.len_zero (f:=n) (by simp [F.len] at hg;omega)
    exact ⟨.cons b .nil,rfl,⟨b,rfl⟩,by rw [F.enc_len] at h2;exact h2⟩
theorem okw_snoc:∀ (l:List Int) (m:Int),okw l m→okw (l++[0]) (m+1):=by
  intro l
  induction l with
  | nil=>intro m h;simp only [okw] at h;simp only [List.nil_append,okw];omega
  | cons x xs ih =>
    intro m h
    simp only [okw,List.cons_append] at h ⊢
    have:=ih _ h.2.2
    rw [show m - 1+x+1=m+1 - 1+x by omega] at this
    exact ⟨by omega,h.2.1,this⟩
theorem okw_add:∀ (l:List Int) (m:Int) (w:Nat),okw l m→w<l.length→okw (l.set w (rd l (w:Int)+1)++[0]) m:=by
  intro l
  induction l with
  | nil=>intro m w h hw;simp at hw
  | cons x xs ih =>
    intro m w h hw
    simp only [okw] at h
    cases w with
    | zero =>
      have:=okw_snoc _ _ h.2.2
      have e:rd (x :: xs) ((0:Nat):Int)=x:=by simp [rd]
      rw [e]
      simp only [List.set_cons_zero,List.cons_append,okw]
      rw [show m - 1+x+1=m - 1+(x+1) by omega] at this
      exact ⟨h.1,by omega,this⟩
    | succ w =>
      have:=ih (m - 1+x) w h.2.2 (by simpa using hw)
      have e:rd (x :: xs) ((w+1:Nat):Int)=rd xs (w:Int):=by unfold rd;rw [Int.toNat_natCast,Int.toNat_natCast];simp
      rw [e]
      simp only [List.set_cons_succ,List.cons_append,okw]
      exact ⟨h.1,h.2.1,this⟩
end Go.Proofs.YtlppkilencpmeaaGreat.Tr
namespace Go.Proofs.YtlppkilencpmeaaGreat.QFnGrowing
open Go.RowKit Go.Proofs.YtlppkilencpmeaaGreatW.PrintWords Go.Proofs.YtlppkilencpmeaaGreatW.PrintLast Go.Proofs.YtlppkilencpmeaaGreatW.PrintMore Go.Proofs.YtlppkilencpmeaaGreat
set_option linter.unusedVariables false
set_option linter.unusedSimpArgs false
theorem Ev_succ {α:Type} {g:Nat→Option α} {r:α} (h:Ev (fun k=>g (k+1)) r):Ev g r:=Ev.step (fun _=>rfl) h
theorem evpos {α:Type} {c:Prop} [Decidable c] {f g:Nat→Option α} {r:α} (h:c) (k:Ev f r):Ev (fun n=>if c then f n else g n) r:=by
  simp only [if_pos h];exact k
theorem evneg {α:Type} {c:Prop} [Decidable c] {f g:Nat→Option α} {r:α} (h:¬ c) (k:Ev g r):Ev (fun n=>if c then f n else g n) r:=by
  simp only [if_neg h];exact k
theorem evsome {α β:Type} {a:α} {f:Nat→α→Option β} {r:β} (k:Ev (fun n=>f n a) r):Ev (fun n=>(some a).bind (f n)) r:=k
theorem evnow {α:Type} {a r:α} (h:a=r):Ev (fun _=>some a) r:=by subst h;exact Ev.now _
theorem ev_isTree_l0:∀ (l pre:List Int) (m:Int) (n:Int),n=((pre++l).length:Int)→n≤1000→0≤m→m+24*l.length≤100000 →
    Ev (fun k=>impl_isTree.l0 k m (pre++l) n (pre.length:Int)) (Tr.ok l m):=by
  intro l
  induction l with
  | nil =>
    intro pre m n hn hb h0 h1
    refine Ev_succ ?_
    simp only [impl_isTree.l0]
    simp only [List.length_append,List.length_nil] at hn
    refine evneg (by omega) (evnow ?_)
    rfl
  | cons x l ih =>
    intro pre m n hn hb h0 h1
    refine Ev_succ ?_
    simp only [impl_isTree.l0]
    have hn':=hn
    simp only [List.length_append,List.length_cons] at hn h1 ⊢
    refine evpos (by omega) (evpos (by omega) (evpos (by simp;omega) ?_))
    have e:rd (pre++x :: l) (pre.length:Int)=x:=by rw [Tr.rd_app0];exact Tr.rd_cons0 _ _
    rw [e]
    by_cases hm:m=0
    · refine evpos hm (evnow ?_);simp [Tr.ok,hm]
    · refine evneg hm ?_
      by_cases hx:x<0
      · refine evpos hx (evnow ?_);simp [Tr.ok,hm,Int.not_le.mpr hx]
      · refine evneg hx ?_
        by_cases hy:x≥24
        · refine evpos hy (evnow ?_);simp [Tr.ok,hm,Int.not_lt.mpr hy]
        · refine evneg hy ?_
          have e2:wrap64 (m+wrap64 (x - 1))=m - 1+x:=by rw [Tr.wrap_id (x:=x - 1) (by omega) (by omega),Tr.wrap_id (by omega) (by omega)];omega
          have e3:wrap64 ((pre.length:Int)+1)=((pre++[x]).length:Int):=by rw [Tr.wrap_id (by omega) (by omega)];simp
          rw [e2,e3]
          have:=ih (pre++[x]) (m - 1+x) n (by simp;omega) hb (by omega) (by omega)
          simp only [List.append_assoc,List.singleton_append] at this
          rw [show Tr.ok (x :: l) m=Tr.ok l (m - 1+x) by
            have:(m != 0)=true:=bne_iff_ne.mpr hm
            have h4:decide (0≤x)=true:=decide_eq_true (by omega)
            have h5:decide (x<24)=true:=decide_eq_true (by omega)
            simp only [Tr.ok,this,h4,h5,Bool.true_and]]
          exact this
theorem ev_isTree (d:List Int):Ev (fun k=>impl_isTree.f k d) (Tr.isT d):=by
  unfold impl_isTree.f
  by_cases h:(d.length:Int)<1
  · refine evpos h (Ev_succ ?_)
    simp only [impl_isTree.j0]
    refine evpos (by simp) (evnow ?_)
    simp only [Tr.isT,decide_eq_false (by omega:¬ 1≤d.length),Bool.false_and]
  · refine evneg h (Ev_succ ?_)
    simp only [impl_isTree.j0]
    by_cases h2:(d.length:Int)>24
    · refine evpos (decide_eq_true h2) (evnow ?_)
      simp only [Tr.isT,decide_eq_false (by omega:¬ d.length≤24),Bool.false_and,Bool.and_false]
    · refine evneg (by simpa using h2) ?_
      have:=ev_isTree_l0 d [] 1 d.length (by simp) (by omega) (by omega) (by omega)
      rw [show Tr.isT d=Tr.ok d 1 by simp only [Tr.isT,decide_eq_true (by omega:1≤d.length),decide_eq_true (by omega:d.length≤24),Bool.true_and]]
      exact this
theorem ev_IsTree (d:List Int):Ev (fun k=>impl_IsTree.f k d) (Tr.isT d):=by
  unfold impl_IsTree.f
  exact Ev.bind (ev_isTree d) (Ev.now _)
theorem l01In_eq (a b c:Int):spec_l01In.f a b c=some (decide (b≤a∧a≤c)):=by
  unfold spec_l01In.f
  by_cases h:a≥b
  · rw [if_pos h];congr 1;simp;omega
  · rw [if_neg h];congr 1;symm;simp;omega
theorem l01N_eq (d:List Int):spec_l01N.f d=some (d.length:Int):=rfl
theorem ev_l01Is_l0:∀ (l pre:List Int) (m:Int),(pre++l).length≤24→0≤m→(m≥1∨True)→m+25*l.length≤100000 →
    Ev (fun k=>spec_l01Is.l0 k m (pre.length:Int) (pre++l)) (Tr.ok25 l m):=by
  intro l
  induction l with
  | nil =>
    intro pre m hb h0 _ h1
    refine Ev_succ ?_
    simp only [spec_l01Is.l0,List.length_append,List.length_nil]
    refine evneg (by omega) (evnow ?_)
    rfl
  | cons x l ih =>
    intro pre m hb h0 _ h1
    refine Ev_succ ?_
    simp only [spec_l01Is.l0]
    simp only [List.length_append,List.length_cons] at h1 hb ⊢
    refine evpos (by omega) ?_
    have e:rd (pre++x :: l) (pre.length:Int)=x:=by rw [Tr.rd_app0];exact Tr.rd_cons0 _ _
    rw [e,l01In_eq]
    by_cases hm:m=0
    · refine evpos hm (evnow ?_);simp [Tr.ok25,hm]
    · refine evneg hm (evpos (by omega) (evsome ?_))
      by_cases hx:0≤x∧x≤24
      · refine evpos (decide_eq_true hx) ?_
        have e2:wrap64 (wrap64 (m - 1)+x)=m - 1+x:=by rw [Tr.wrap_id (x:=m - 1) (by omega) (by omega),Tr.wrap_id (by omega) (by omega)]
        have e3:wrap64 ((pre.length:Int)+1)=((pre++[x]).length:Int):=by rw [Tr.wrap_id (by omega) (by omega)];simp
        rw [e2,e3]
        have:=ih (pre++[x]) (m - 1+x) (by simp;omega) (by omega) (.inr trivial) (by omega)
        simp only [List.append_assoc,List.singleton_append] at this
        rw [show Tr.ok25 (x :: l) m=Tr.ok25 l (m - 1+x) by
          have:(m != 0)=true:=bne_iff_ne.mpr hm
          simp only [Tr.ok25,this,decide_eq_true hx,Bool.true_and]]
        exact this
      · refine evneg (by simpa using hx) (evnow ?_)
        simp only [Tr.ok25,decide_eq_false hx,Bool.false_and,Bool.and_false]
theorem ev_l01Is (d:List Int):Ev (fun k=>spec_l01Is.f k d) (Tr.isT d):=by
  unfold spec_l01Is.f
  rw [l01N_eq]
  refine evsome ?_
  rw [l01In_eq]
  refine evsome ?_
  by_cases h:(1:Int)≤(d.length:Int)∧(d.length:Int)≤24
  · refine evpos (decide_eq_true h) ?_
    have:=ev_l01Is_l0 d [] 1 (by simp;omega) (by omega) (.inr trivial) (by omega)
    rw [Tr.isT_eq25 d (by omega) (by omega)]
    exact this
  · refine evneg (by simpa using h) (evnow ?_)
    simp only [Tr.isT]
    by_cases h2:1≤d.length
    · simp only [decide_eq_false (by omega:¬ d.length≤24),Bool.false_and,Bool.and_false]
    · simp only [decide_eq_false h2,Bool.false_and]
theorem ev_endOf_l0 (d:List Int) (hd:d.length≤1000) (r:Int):∀ (g:Tr.F) (p j:Nat),Tr.Pl d p g→j+g.size≤100000 →
    Ev (fun k=>impl_endOf.l0 k d ((p+g.size:Nat):Int) (j:Int)) r→Ev (fun k=>impl_endOf.l0 k d (p:Int) ((g.len+j:Nat):Int)) r:=by
  intro g
  induction g with
  | nil=>intro p j _ _ h;simpa [Tr.F.size,Tr.F.len] using h
  | cons b n hb hn =>
    intro p j hp hj h
    have hle:=hp.le
    simp only [Tr.F.size] at hle hj
    have l1:=Tr.F.len_le b
    have l2:=Tr.F.len_le n
    refine Ev_succ ?_
    simp only [impl_endOf.l0,Tr.F.len]
    refine evpos (by omega) (evpos (by omega) (evpos (by omega) ?_))
    rw [hp.deg]
    have e:wrap64 ((p:Int)+1)=((p+1:Nat):Int):=by rw [Tr.wrap_id (by omega) (by omega)];omega
    have e2:wrap64 (((1+n.len+j:Nat):Int)+wrap64 ((b.len:Int) - 1))=((b.len+(n.len+j):Nat):Int):=by
      rw [Tr.wrap_id (x:=(b.len:Int) - 1) (by omega) (by omega),Tr.wrap_id (by omega) (by omega)];omega
    rw [e,e2]
    refine hb (p+1) (n.len+j) hp.below (by omega) ?_
    refine hn (p+1+b.size) j hp.next (by omega) ?_
    rw [show p+1+b.size+n.size=p+(Tr.F.cons b n).size by simp only [Tr.F.size];omega]
    exact h
theorem ev_endOf {d:List Int} (hd:d.length≤1000) {p:Nat} {b n:Tr.F} (h:Tr.Pl d p (.cons b n)):Ev (fun k=>impl_endOf.f k d (p:Int)) ((p+1+b.size:Nat):Int):=by
  unfold impl_endOf.f
  have:=ev_endOf_l0 d hd ((p+1+b.size:Nat):Int) (.cons b .nil) p 0 h.one (by have:=h.le;simp only [Tr.F.size] at this ⊢;omega)
  simp only [Tr.F.len,Tr.F.size] at this
  refine this ?_
  refine Ev_succ ?_
  simp only [impl_endOf.l0]
  refine evneg (by omega) (evnow (by omega))
theorem ev_l01End_l0 (d:List Int) (hd:d.length≤1000) (r:Int):∀ (g:Tr.F) (p j:Nat),Tr.Pl d p g→j+g.size≤100000 →
    Ev (fun k=>spec_l01End.l0 k ((p+g.size:Nat):Int) (j:Int) d) r→Ev (fun k=>spec_l01End.l0 k (p:Int) ((g.len+j:Nat):Int) d) r:=by
  intro g
  induction g with
  | nil=>intro p j _ _ h;simpa [Tr.F.size,Tr.F.len] using h
  | cons b n hb hn =>
    intro p j hp hj h
    have hle:=hp.le
    simp only [Tr.F.size] at hle hj
    have l1:=Tr.F.len_le b
    have l2:=Tr.F.len_le n
    refine Ev_succ ?_
    simp only [spec_l01End.l0,Tr.F.len]
    refine evpos (by omega) (evpos (by omega) (evpos (by omega) ?_))
    rw [hp.deg]
    have e:wrap64 ((p:Int)+1)=((p+1:Nat):Int):=by rw [Tr.wrap_id (by omega) (by omega)];omega
    have e2:wrap64 (wrap64 (((1+n.len+j:Nat):Int) - 1)+(b.len:Int))=((b.len+(n.len+j):Nat):Int):=by
      rw [Tr.wrap_id (x:=((1+n.len+j:Nat):Int) - 1) (by omega) (by omega),Tr.wrap_id (by omega) (by omega)];omega
    rw [e,e2]
    refine hb (p+1) (n.len+j) hp.below (by omega) ?_
    refine hn (p+1+b.size) j hp.next (by omega) ?_
    rw [show p+1+b.size+n.size=p+(Tr.F.cons b n).size by simp only [Tr.F.size];omega]
    exact h
theorem ev_l01End {d:List Int} (hd:d.length≤1000) {p:Nat} {b n:Tr.F} (h:Tr.Pl d p (.cons b n)):Ev (fun k=>spec_l01End.f k d (p:Int)) ((p+1+b.size:Nat):Int):=by
  unfold spec_l01End.f
  have:=ev_l01End_l0 d hd ((p+1+b.size:Nat):Int) (.cons b .nil) p 0 h.one (by have:=h.le;simp only [Tr.F.size] at this ⊢;omega)
  simp only [Tr.F.len,Tr.F.size] at this
  refine this ?_
  refine Ev_succ ?_
  simp only [spec_l01End.l0]
  refine evneg (by omega) (evnow (by omega))
theorem ev_kidsOf_l0 (d:List Int) (hd:d.length≤1000):∀ (g:Tr.F) (p i N:Nat) (out:List Int),Tr.Pl d p g→i+g.len=N→N≤1000→out.length≤i →
    Ev (fun k=>impl_kidsOf.l0 k d out (p:Int) (N:Int) (i:Int)) (out++g.roots p):=by
  intro g
  induction g with
  | nil =>
    intro p i N out hp hi hN ho
    simp only [Tr.F.len] at hi
    refine Ev_succ ?_
    simp only [impl_kidsOf.l0]
    refine evneg (by omega) (evnow ?_)
    simp [Tr.F.roots]
  | cons b n hb hn =>
    intro p i N out hp hi hN ho
    simp only [Tr.F.len] at hi
    refine Ev_succ ?_
    simp only [impl_kidsOf.l0]
    refine evpos (by omega) (evpos (by omega) (Ev.bind (ev_endOf hd hp) ?_))
    have e:wrap64 ((i:Int)+1)=((i+1:Nat):Int):=by rw [Tr.wrap_id (by omega) (by omega)];omega
    rw [e]
    have:=hn (p+1+b.size) (i+1) N (out++[(p:Int)]) hp.next (by omega) hN (by simp;omega)
    simpa [Tr.F.roots] using this
theorem ev_kidsOf {d:List Int} (hd:d.length≤1000) {p:Nat} {b n:Tr.F} (h:Tr.Pl d p (.cons b n)):Ev (fun k=>impl_kidsOf.f k d (p:Int)) (b.roots (p+1)):=by
  have hle:=h.le
  simp only [Tr.F.size] at hle
  have l1:=Tr.F.len_le b
  unfold impl_kidsOf.f
  refine evpos (by omega) (evpos (by omega) ?_)
  have e:wrap64 ((p:Int)+1)=((p+1:Nat):Int):=by rw [Tr.wrap_id (by omega) (by omega)];omega
  rw [h.deg,e]
  have:=ev_kidsOf_l0 d hd b (p+1) 0 b.len [] h.below (by omega) (by omega) (by simp)
  simpa using this
theorem ev_l01Children_l0 (d:List Int) (hd:d.length≤1000):∀ (g:Tr.F) (p:Nat) (out:List Int),Tr.Pl d p g→out.length+g.len≤1000 →
    Ev (fun k=>spec_l01Children.l0 k out (p:Int) (g.len:Int) d) (out++g.roots p):=by
  intro g
  induction g with
  | nil =>
    intro p out hp ho
    refine Ev_succ ?_
    simp only [spec_l01Children.l0,Tr.F.len]
    refine evneg (by omega) (evnow ?_)
    simp [Tr.F.roots]
  | cons b n hb hn =>
    intro p out hp ho
    simp only [Tr.F.len] at ho
    refine Ev_succ ?_
    simp only [spec_l01Children.l0,Tr.F.len]
    refine evpos (by omega) (evpos (by omega) (Ev.bind (ev_l01End hd hp) ?_))
    have e:wrap64 (((1+n.len:Nat):Int) - 1)=(n.len:Int):=by rw [Tr.wrap_id (by omega) (by omega)];omega
    rw [e]
    have:=hn (p+1+b.size) (out++[(p:Int)]) hp.next (by simp;omega)
    simpa [Tr.F.roots] using this
theorem ev_l01Children {d:List Int} (hd:d.length≤1000) {p:Nat} {b n:Tr.F} (h:Tr.Pl d p (.cons b n)):Ev (fun k=>spec_l01Children.f k d (p:Int)) (b.roots (p+1)):=by
  have hle:=h.le
  simp only [Tr.F.size] at hle
  have l1:=Tr.F.len_le b
  unfold spec_l01Children.f
  refine evpos (by omega) (evpos (by omega) ?_)
  have e:wrap64 ((p:Int)+1)=((p+1:Nat):Int):=by rw [Tr.wrap_id (by omega) (by omega)];omega
  rw [h.deg,e]
  have:=ev_l01Children_l0 d hd b (p+1) [] h.below (by simp;omega)
  simpa using this
theorem l01Own_eq (l:List Int) (h:l.length≤1000000):spec_l01Own.f l=some l:=by
  unfold spec_l01Own.f
  simp only [Option.bind_some]
  rw [if_pos (by simp;omega)]
  simp
theorem l01Make_eq (l:List Int) (h:l.length≤1000000):spec_l01Make.f l=some l:=by
  unfold spec_l01Make.f
  rw [l01Own_eq l h];rfl
theorem ev_l01Parents_l1 (d:List Int) (v:Nat) (hv:v≤1000) (r:List Int):∀ (l pre out:List Int),(pre++l).length≤1000→(∀ c∈l,0≤c∧c<out.length) →
    Ev (fun k=>spec_l01Parents.l0 k (Tr.setAll out l v) ((v+1:Nat):Int) d) r→Ev (fun k=>spec_l01Parents.l1 k out (v:Int) (pre++l) (pre.length:Int) d) r:=by
  intro l
  induction l with
  | nil =>
    intro pre out hb _ h
    refine Ev_succ ?_
    simp only [spec_l01Parents.l1]
    refine evneg (by simp) ?_
    have e:wrap64 ((v:Int)+1)=((v+1:Nat):Int):=by rw [Tr.wrap_id (by omega) (by omega)];omega
    rw [e];exact h
  | cons c l ih =>
    intro pre out hb hc h
    have h1:=hc c (List.mem_cons_self ..)
    refine Ev_succ ?_
    simp only [spec_l01Parents.l1]
    have e:rd (pre++c :: l) (pre.length:Int)=c:=by rw [Tr.rd_app0];exact Tr.rd_cons0 _ _
    have hb':=hb
    simp only [List.length_append,List.length_cons] at hb
    have e3:wrap64 ((pre.length:Int)+1)=((pre++[c]).length:Int):=by rw [Tr.wrap_id (by omega) (by omega)];simp
    refine evpos (by simp;omega) (evpos (by omega) (evpos (by rw [e];omega) (evpos (by rw [e];omega) ?_)))
    rw [e,e3]
    have:=ih (pre++[c]) (out.set c.toNat v) (by simpa using hb') (fun x hx=>by have:=hc x (List.mem_cons_of_mem _ hx);simpa using this) h
    simpa using this
theorem ev_l01Parents_l0 {d:List Int} {t:Tr.F} (h:Tr.Tree d t):∀ (m v:Nat) (out:List Int),v+m=t.size→out.length=t.size→(∀ c:Nat,c<t.size→t.par 0 (-1) c<v→rd out (c:Int)=t.par 0 (-1) c) →
    Ev (fun k=>spec_l01Parents.l0 k out (v:Int) d) (Tr.parentsL t):=by
  have hle:=h.le
  have hlen:=h.len
  intro m
  induction m with
  | zero =>
    intro v out hv ho hi
    refine Ev_succ ?_
    simp only [spec_l01Parents.l0,l01N_eq]
    refine evsome (evneg (by omega) (evnow ?_))
    refine Tr.each_eq ho (fun c hc=>hi c hc ?_)
    have:=(h.par_lt hc).2;omega
  | succ m ih =>
    intro v out hv ho hi
    refine Ev_succ ?_
    simp only [spec_l01Parents.l0,l01N_eq]
    obtain ⟨n,hp⟩:=h.node (v:=v) (by omega)
    refine evsome (evpos (by omega) (Ev.bind (ev_l01Children (by omega) hp) ?_))
    have hk:∀ c∈(t.sub v).roots (v+1),0≤c∧c<out.length:=fun c hc=>by have:=h.kid_range (v:=v) (by omega) hc;omega
    refine ev_l01Parents_l1 d v (by omega) _ _ [] out ?_ hk ?_
    · have:=Tr.F.len_le (t.sub v)
      have:=h.fits (v:=v) (by omega)
      rw [List.nil_append,Tr.F.roots_len];omega
    · refine ih (v+1) _ (by omega) (by rw [Tr.setAll_len];exact ho) (fun c hc hpc=>?_)
      rw [Tr.setAll_rd v _ _ _ (fun x hx=>(hk x hx).1) (by omega)]
      by_cases e:(c:Int)∈(t.sub v).roots (v+1)
      · rw [if_pos e];exact ((h.kids (by omega) hc).1 e).symm
      · rw [if_neg e]
        refine hi c hc ?_
        have:¬ t.par 0 (-1) c=v:=fun e'=>e ((h.kids (by omega) hc).2 e')
        omega
theorem ev_l01Parents {d:List Int} {t:Tr.F} (h:Tr.Tree d t):Ev (fun k=>spec_l01Parents.f k d) (Tr.parentsL t):=by
  have hle:=h.le
  have hlen:=h.len
  have hpos:=h.pos
  unfold spec_l01Parents.f
  rw [l01N_eq]
  refine evsome (evpos (by omega) (evpos (by omega) (evsome (evpos (by simp;omega) ?_))))
  refine ev_l01Parents_l0 h t.size 0 _ (by omega) (by simp;omega) (fun c hc hp=>?_)
  have e:c=0:=by
    by_cases e:c=0
    · exact e
    · have:=h.par_pos (c:=c) (by omega) hc;omega
  subst e
  rw [h.par_zero]
  have:=Tr.rd_set (l:=List.replicate (d.length:Int).toNat 0) (c:=0) (x:=-1) (i:=0) (by simp;omega) (by omega)
  simpa using this
theorem ev_sizesOf_l0 {d:List Int} {t:Tr.F} (h:Tr.Tree d t):∀ (m v:Nat),v+m=t.size →
    Ev (fun k=>impl_sizesOf.l0 k d (Tr.each v (fun v=>((1+(t.sub v).size:Nat):Int))) (t.size:Int) (v:Int)) (Tr.sizesL t):=by
  have hle:=h.le
  have hlen:=h.len
  intro m
  induction m with
  | zero =>
    intro v hv
    refine Ev_succ ?_
    simp only [impl_sizesOf.l0]
    refine evneg (by omega) (evnow ?_)
    have:v=t.size:=by omega
    rw [this];rfl
  | succ m ih =>
    intro v hv
    refine Ev_succ ?_
    simp only [impl_sizesOf.l0]
    obtain ⟨n,hp⟩:=h.node (v:=v) (by omega)
    have hf:=h.fits (v:=v) (by omega)
    refine evpos (by omega) (Ev.bind (ev_endOf (by omega) hp) (evpos (by rw [Tr.each_len];omega) ?_))
    have e:wrap64 ((v:Int)+1)=((v+1:Nat):Int):=by rw [Tr.wrap_id (by omega) (by omega)];omega
    have e2:wrap64 (((v+1+(t.sub v).size:Nat):Int) - v)=((1+(t.sub v).size:Nat):Int):=by rw [Tr.wrap_id (by omega) (by omega)];omega
    rw [e,e2]
    have:=ih (v+1) (by omega)
    rw [Tr.each_succ] at this
    exact this
theorem ev_sizesOf {d:List Int} {t:Tr.F} (h:Tr.Tree d t):Ev (fun k=>impl_sizesOf.f k d) (Tr.sizesL t):=by
  unfold impl_sizesOf.f
  have:=ev_sizesOf_l0 h t.size 0 (by omega)
  rw [h.len]
  exact this
theorem ev_l09Next_l1 {d:List Int} {t:Tr.F} (h:Tr.Tree d t) (beg:List Int) (met:List Bool) (hm:met.length=t.size) (hmet:∀ v:Nat,v<t.size→rdOf false met (v:Int)=decide ((v:Int)∈beg)):∀ (m v:Nat),v+m=t.size →
    Ev (fun k=>spec_l09Next.l1 k (Tr.parentsL t) met (Tr.nxtTo t beg v) (v:Int) d) (Tr.nxt t beg):=by
  have hle:=h.le
  have hlen:=h.len
  have hpl:(Tr.parentsL t).length=t.size:=Tr.each_len _ _
  intro m
  induction m with
  | zero =>
    intro v hv
    refine Ev_succ ?_
    simp only [spec_l09Next.l1,l01N_eq]
    refine evsome (evneg (by omega) (evnow ?_))
    have:v=t.size:=by omega
    rw [this];rfl
  | succ m ih =>
    intro v hv
    refine Ev_succ ?_
    simp only [spec_l09Next.l1,l01N_eq]
    have hl:=Tr.nxtTo_len t beg v
    have e:wrap64 ((v:Int)+1)=((v+1:Nat):Int):=by rw [Tr.wrap_id (by omega) (by omega)];omega
    have hs:=ih (v+1) (by omega)
    rw [Tr.nxtTo_succ] at hs
    refine evsome (evpos (by omega) (evpos (by omega) (evpos (by omega) ?_)))
    rw [hmet v (by omega),e]
    by_cases h1:(v:Int)∈beg
    · refine evpos (decide_eq_true h1) ?_
      rw [if_neg (by simp [Tr.canNext,h1])] at hs
      exact hs
    · refine evneg (by simpa using h1) ?_
      by_cases h2:v=0
      · refine evpos (by omega) (evpos (by omega) ?_)
        rw [if_pos (by simp [Tr.canNext,h1,h2];subst h2;simpa using h1)] at hs
        exact hs
      · have hp:=h.par_pos (c:=v) (by omega) (by omega)
        have hr:rd (Tr.parentsL t) (v:Int)=t.par 0 (-1) v:=Tr.each_rd (by omega)
        obtain ⟨q,hq⟩:∃ q:Nat,t.par 0 (-1) v=(q:Int):=⟨(t.par 0 (-1) v).toNat,by omega⟩
        refine evneg (by omega) (evpos (by omega) (evpos (by rw [hr];omega) (evpos (by rw [hr];omega) ?_)))
        rw [hr,hq,hmet q (by omega)]
        by_cases h3:(q:Int)∈beg
        · refine evpos (decide_eq_true h3) (evpos (by omega) ?_)
          rw [if_pos (by simp [Tr.canNext,h1,h2,hq,h3])] at hs
          exact hs
        · refine evneg (by simpa using h3) ?_
          rw [if_neg (by simp [Tr.canNext,h1,h2,hq,h3])] at hs
          exact hs
theorem ev_l09Next_l0 {d:List Int} {t:Tr.F} (h:Tr.Tree d t):∀ (l pre:List Int) (met:List Bool),(∀ c∈l,0≤c∧c<t.size)→(pre++l).length≤1000→met.length=t.size→(∀ v:Nat,v<t.size→rdOf false met (v:Int)=decide ((v:Int)∈pre)) →
    Ev (fun k=>spec_l09Next.l0 k (pre++l) (Tr.parentsL t) met [] (pre.length:Int) d) (Tr.nxt t (pre++l)):=by
  intro l
  induction l with
  | nil =>
    intro pre met _ hb hm hmet
    refine Ev_succ ?_
    simp only [spec_l09Next.l0]
    refine evneg (by simp) ?_
    rw [List.append_nil]
    exact ev_l09Next_l1 h pre met hm hmet t.size 0 (by omega)
  | cons c l ih =>
    intro pre met hc hb hm hmet
    have h1:=hc c (List.mem_cons_self ..)
    refine Ev_succ ?_
    simp only [spec_l09Next.l0]
    have e:rd (pre++c :: l) (pre.length:Int)=c:=by rw [Tr.rd_app0];exact Tr.rd_cons0 _ _
    have hb':=hb
    simp only [List.length_append,List.length_cons] at hb
    have e3:wrap64 ((pre.length:Int)+1)=((pre++[c]).length:Int):=by rw [Tr.wrap_id (by omega) (by omega)];simp
    refine evpos (by simp;omega) (evpos (by omega) (evpos (by rw [e];omega) (evpos (by rw [e];omega) ?_)))
    rw [e,e3]
    have:=ih (pre++[c]) (met.set c.toNat true) (fun x hx=>hc x (List.mem_cons_of_mem _ hx)) (by simpa using hb') (by simpa using hm) (fun v hv=>by
      rw [Tr.rdOf_set (by omega) h1.1,hmet v hv]
      by_cases e:c=v
      · rw [if_pos e];simp [e]
      · rw [if_neg e];congr 1;simp only [List.mem_append,List.mem_singleton,eq_iff_iff];constructor
        · exact fun h=>.inl h
        · rintro (h|h)
          · exact h
          · exact absurd h.symm e)
    simpa using this
theorem ev_l09Next {d:List Int} {t:Tr.F} (h:Tr.Tree d t) {beg:List Int} (hb:∀ c∈beg,0≤c∧c<t.size) (hl:beg.length≤1000):Ev (fun k=>spec_l09Next.f k d beg) (Tr.nxt t beg):=by
  have hle:=h.le
  have hlen:=h.len
  unfold spec_l09Next.f
  refine Ev.bind (ev_l01Parents h) ?_
  rw [l01N_eq]
  refine evsome (evpos (by omega) (evpos (by omega) ?_))
  have:=ev_l09Next_l0 h beg [] (List.replicate d.length false) hb (by simpa using hl) (by simpa using hlen) (fun v hv=>by rw [Tr.rdOf_rep];simp)
  simpa using this
theorem ev_l09Fill_first {d:List Int} {t:Tr.F} (h:Tr.Tree d t):∀ (m v:Nat),v+m=t.size→Ev (fun k=>spec_l09Fill.l0 k true (Tr.upto v) d) (Tr.upto t.size):=by
  have hle:=h.le
  have hlen:=h.len
  intro m
  induction m with
  | zero =>
    intro v hv
    refine Ev_succ ?_
    simp only [spec_l09Fill.l0,l01N_eq]
    have:v=t.size:=by omega
    rw [this]
    refine evsome (evneg (by rw [Tr.upto,Tr.each_len];omega) (Ev.now _))
  | succ m ih =>
    intro v hv
    refine Ev_succ ?_
    simp only [spec_l09Fill.l0,l01N_eq]
    have hl:(Tr.upto v).length=v:=Tr.each_len _ _
    obtain ⟨l,e⟩:=Tr.nxt_upto h (m:=v) (by omega)
    refine evsome (evpos (by omega) (Ev.bind (ev_l09Next h (fun c hc=>by have:=Tr.upto_mem.1 hc;omega) (by omega)) (evpos (by simp) (evpos (by rw [e];simp only [List.length_cons];omega) (evpos (by omega) ?_)))))
    rw [e,Tr.rd_cons0]
    have:=ih (v+1) (by omega)
    rw [Tr.upto,Tr.each_succ] at this
    exact this
theorem ev_l09Fill_all {d:List Int} {t:Tr.F} (h:Tr.Tree d t):Ev (fun k=>spec_l09Fill.f k d [] true) (Tr.upto t.size):=by
  unfold spec_l09Fill.f
  rw [l01Own_eq [] (by simp)]
  exact evsome (ev_l09Fill_first h t.size 0 (by omega))
theorem ev_preorder_l0 (n:Nat) (hn:n≤1000):∀ (m v:Nat),v+m=n→Ev (fun k=>impl_preorder.l0 k (Tr.upto v) (n:Int) (v:Int)) (Tr.upto n):=by
  intro m
  induction m with
  | zero =>
    intro v hv
    refine Ev_succ ?_
    simp only [impl_preorder.l0]
    have:v=n:=by omega
    rw [this]
    exact evneg (by omega) (Ev.now _)
  | succ m ih =>
    intro v hv
    refine Ev_succ ?_
    simp only [impl_preorder.l0]
    have hl:(Tr.upto v).length=v:=Tr.each_len _ _
    have e:wrap64 ((v:Int)+1)=((v+1:Nat):Int):=by rw [Tr.wrap_id (by omega) (by omega)];omega
    refine evpos (by omega) (evpos (by omega) ?_)
    rw [e]
    have:=ih (v+1) (by omega)
    rw [Tr.upto,Tr.each_succ] at this
    exact this
theorem ev_preorder (d:List Int) (hd:d.length≤1000):Ev (fun k=>impl_preorder.f k d) (Tr.upto d.length):=by
  unfold impl_preorder.f
  exact ev_preorder_l0 d.length hd d.length 0 (by omega)
theorem ev_parentsOf_l1 (d:List Int) (v:Nat) (hv:v≤1000) (N:Int) (r:List Int):∀ (l pre out:List Int),(pre++l).length≤1000→(∀ c∈l,0≤c∧c<out.length) →
    Ev (fun k=>impl_parentsOf.l0 k d (Tr.setAll out l v) N ((v+1:Nat):Int)) r→Ev (fun k=>impl_parentsOf.l1 k d out (v:Int) N (v:Int) (pre++l) ((pre++l).length:Int) (pre.length:Int)) r:=by
  intro l
  induction l with
  | nil =>
    intro pre out hb _ h
    refine Ev_succ ?_
    simp only [impl_parentsOf.l1]
    refine evneg (by simp) ?_
    rw [Tr.wrap_succ (by omega)];exact h
  | cons c l ih =>
    intro pre out hb hc h
    have h1:=hc c (List.mem_cons_self ..)
    refine Ev_succ ?_
    simp only [impl_parentsOf.l1]
    have e:rd (pre++c :: l) (pre.length:Int)=c:=by rw [Tr.rd_app0];exact Tr.rd_cons0 _ _
    have hb':=hb
    simp only [List.length_append,List.length_cons] at hb
    refine evpos (by simp;omega) (evpos (by omega) (evpos (by simp;omega) ?_))
    rw [e]
    clear e
    refine evpos h1.1 (evpos h1.2 ?_)
    rw [Tr.wrap_succ (by omega)]
    have:=ih (pre++[c]) (out.set c.toNat v) (by simpa using hb') (fun x hx=>by have:=hc x (List.mem_cons_of_mem _ hx);simpa using this) h
    simpa using this
theorem ev_parentsOf_l0 {d:List Int} {t:Tr.F} (h:Tr.Tree d t):∀ (m v:Nat) (out:List Int),v+m=t.size→out.length=t.size→(∀ c:Nat,c<t.size→t.par 0 (-1) c<v→rd out (c:Int)=t.par 0 (-1) c) →
    Ev (fun k=>impl_parentsOf.l0 k d out (t.size:Int) (v:Int)) (Tr.parentsL t):=by
  have hle:=h.le
  have hlen:=h.len
  intro m
  induction m with
  | zero =>
    intro v out hv ho hi
    refine Ev_succ ?_
    simp only [impl_parentsOf.l0]
    refine evneg (by omega) (evnow ?_)
    refine Tr.each_eq ho (fun c hc=>hi c hc ?_)
    have:=(h.par_lt hc).2;omega
  | succ m ih =>
    intro v out hv ho hi
    refine Ev_succ ?_
    simp only [impl_parentsOf.l0]
    obtain ⟨n,hp⟩:=h.node (v:=v) (by omega)
    refine evpos (by omega) (Ev.bind (ev_kidsOf (by omega) hp) ?_)
    have hk:∀ c∈(t.sub v).roots (v+1),0≤c∧c<out.length:=fun c hc=>by have:=h.kid_range (v:=v) (by omega) hc;omega
    refine ev_parentsOf_l1 d v (by omega) _ _ _ [] out ?_ hk ?_
    · have:=Tr.F.len_le (t.sub v)
      have:=h.fits (v:=v) (by omega)
      rw [List.nil_append,Tr.F.roots_len];omega
    · refine ih (v+1) _ (by omega) (by rw [Tr.setAll_len];exact ho) (fun c hc hpc=>?_)
      rw [Tr.setAll_rd v _ _ _ (fun x hx=>(hk x hx).1) (by omega)]
      by_cases e:(c:Int)∈(t.sub v).roots (v+1)
      · rw [if_pos e];exact ((h.kids (by omega) hc).1 e).symm
      · rw [if_neg e]
        refine hi c hc ?_
        have:¬ t.par 0 (-1) c=v:=fun e'=>e ((h.kids (by omega) hc).2 e')
        omega
theorem ev_parentsOf {d:List Int} {t:Tr.F} (h:Tr.Tree d t):Ev (fun k=>impl_parentsOf.f k d) (Tr.parentsL t):=by
  have hle:=h.le
  have hlen:=h.len
  have hpos:=h.pos
  unfold impl_parentsOf.f slices_Repeat.f
  rw [if_pos (by refine ⟨rfl,?_,?_⟩ <;> omega)]
  refine evsome ?_
  rw [hlen]
  refine ev_parentsOf_l0 h t.size 0 _ (by omega) (by simp) (fun c hc hp=>?_)
  have e:c=0:=by
    by_cases e:c=0
    · exact e
    · have:=h.par_pos (c:=c) (by omega) hc;omega
  subst e
  rw [h.par_zero]
  rw [Tr.rd_getElem (by simp;omega)]
  simp [rd]
theorem ev_Index_l0 (x:Int):∀ (l pre:List Int) (N:Int),N=((pre++l).length:Int)→N≤100000000→Ev (fun k=>slices_Index_int64_int64.l0 k (pre++l) x N (pre.length:Int)) (Tr.idx x l pre.length):=by
  intro l
  induction l with
  | nil =>
    intro pre N hN hb
    refine Ev_succ ?_
    simp only [slices_Index_int64_int64.l0]
    simp only [List.length_append,List.length_nil] at hN
    exact evneg (by omega) (evnow rfl)
  | cons y l ih =>
    intro pre N hN hb
    have hN':=hN
    simp only [List.length_append,List.length_cons] at hN
    refine Ev_succ ?_
    simp only [slices_Index_int64_int64.l0]
    rw [Tr.rd_app0,Tr.rd_cons0]
    refine evpos (by omega) (evpos (by omega) (evpos (by simp;omega) ?_))
    unfold Tr.idx
    by_cases h:x=y
    · rw [if_pos h];exact evpos h (Ev.now _)
    · rw [if_neg h]
      refine evneg h ?_
      rw [Tr.wrap_succ (by omega)]
      have:=ih (pre++[y]) N (by rw [hN'];simp) hb
      simpa using this
theorem ev_Index (l:List Int) (x:Int) (h:l.length≤100000000):Ev (fun k=>slices_Index_int64_int64.f k l x) (Tr.idx x l 0):=by
  unfold slices_Index_int64_int64.f
  exact ev_Index_l0 x l [] l.length (by simp) (by omega)
theorem ev_Contains (l:List Int) (x:Int) (h:l.length≤100000000):Ev (fun k=>slices_Contains_int64_int64.f k l x) (decide (x∈l)):=by
  unfold slices_Contains_int64_int64.f
  refine Ev.bind (ev_Index l x h) (evnow ?_)
  have:=Tr.idx_mem x l 0
  by_cases hm:x∈l
  · rw [decide_eq_true hm,decide_eq_true (this.2 hm)]
  · rw [decide_eq_false hm,decide_eq_false (fun h=>hm (this.1 h))]
theorem ev_nexts_l0 {d:List Int} {t:Tr.F} (h:Tr.Tree d t) (beg:List Int) (hb:beg.length≤1000):∀ (m v:Nat),v+m=t.size →
    Ev (fun k=>impl_nexts.l0 k beg (Tr.parentsL t) (Tr.nxtTo t beg v) (t.size:Int) (v:Int)) (Tr.nxt t beg):=by
  have hle:=h.le
  have hlen:=h.len
  have hpl:(Tr.parentsL t).length=t.size:=Tr.each_len _ _
  intro m
  induction m with
  | zero =>
    intro v hv
    refine Ev_succ ?_
    simp only [impl_nexts.l0]
    refine evneg (by omega) (evnow ?_)
    have:v=t.size:=by omega
    rw [this];rfl
  | succ m ih =>
    intro v hv
    have hl:=Tr.nxtTo_len t beg v
    have hs:=ih (v+1) (by omega)
    rw [Tr.nxtTo_succ] at hs
    refine Ev_succ ?_
    simp only [impl_nexts.l0]
    refine evpos (by omega) (Ev.bind (ev_Contains beg v (by omega)) ?_)
    rw [Tr.wrap_succ (by omega)]
    by_cases h1:(v:Int)∈beg
    · refine evpos (decide_eq_true h1) ?_
      rw [if_neg (by simp [Tr.canNext,h1])] at hs
      exact hs
    · refine evneg (by simpa using h1) ?_
      by_cases h2:v=0
      · refine evpos (by omega) (evpos (by omega) ?_)
        rw [if_pos (by simp [Tr.canNext,h1,h2];subst h2;simpa using h1)] at hs
        exact hs
      · have hr:rd (Tr.parentsL t) (v:Int)=t.par 0 (-1) v:=Tr.each_rd (by omega)
        rw [hr]
        clear hr
        refine evneg (by omega) (evpos (by omega) (evpos (by omega) (Ev.bind (ev_Contains beg _ (by omega)) ?_)))
        by_cases h3:t.par 0 (-1) v∈beg
        · refine evpos (decide_eq_true h3) (evpos (by omega) ?_)
          rw [if_pos (by simp [Tr.canNext,h1,h2,h3])] at hs
          exact hs
        · refine evneg (by simpa using h3) ?_
          rw [if_neg (by simp [Tr.canNext,h1,h2,h3])] at hs
          exact hs
theorem ev_nexts {d:List Int} {t:Tr.F} (h:Tr.Tree d t) (beg:List Int) (hb:beg.length≤1000):Ev (fun k=>impl_nexts.f k d beg) (Tr.nxt t beg):=by
  unfold impl_nexts.f
  refine Ev.bind (ev_parentsOf h) ?_
  rw [h.len]
  exact ev_nexts_l0 h beg hb t.size 0 (by omega)
theorem ev_LastGrowing_l0 {d:List Int} {t:Tr.F} (h:Tr.Tree d t):∀ (m v:Nat) (beg:List Int),v+m=t.size→beg.length=v→(∀ c∈beg,0≤c∧c<t.size) →
    ∃ r:List Int,Ev (fun k=>spec_l09Fill.l0 k false beg d) r∧Ev (fun k=>impl_LastGrowing.l0 k beg (t.size:Int) (v:Int) d) (r,0)∧r.length=t.size:=by
  have hle:=h.le
  have hlen:=h.len
  intro m
  induction m with
  | zero =>
    intro v beg hv hb _
    refine ⟨beg,Ev_succ ?_,Ev_succ ?_,by omega⟩
    · simp only [spec_l09Fill.l0,l01N_eq]
      exact evsome (evneg (by omega) (Ev.now _))
    · simp only [impl_LastGrowing.l0]
      exact evneg (by omega) (Ev.now _)
  | succ m ih =>
    intro v beg hv hb hc
    have hpos:=Tr.nxt_pos h (beg:=beg) (by omega)
    have hmem:rd (Tr.nxt t beg) (((Tr.nxt t beg).length:Int) - 1)∈Tr.nxt t beg:=Tr.rd_mem (by omega) (by omega)
    have hnl:(Tr.nxt t beg).length≤t.size:=Tr.nxtTo_len t beg t.size
    obtain ⟨u,hu,hus,_⟩:=Tr.nxt_mem.1 hmem
    obtain ⟨r,h1,h2,h3⟩:=ih (v+1) (beg++[rd (Tr.nxt t beg) (((Tr.nxt t beg).length:Int) - 1)]) (by omega) (by simp;omega) (fun c hc'=>by
      simp only [List.mem_append,List.mem_singleton] at hc'
      rcases hc' with hc'|rfl
      · exact hc c hc'
      · rw [hu];omega)
    clear hu hmem
    have hn1:=ev_l09Next h hc (by omega)
    have hn2:=ev_nexts h beg (by omega)
    generalize Tr.nxt t beg=L at hpos hnl h1 h2 hn1 hn2
    refine ⟨r,Ev_succ ?_,Ev_succ ?_,h3⟩
    · simp only [spec_l09Fill.l0,l01N_eq]
      refine evsome (evpos (by omega) (Ev.bind hn1 (evneg (by simp) ?_)))
      rw [Tr.wrap_id (by omega) (by omega)]
      exact evpos (by omega) (evpos (by omega) (evpos (by omega) h1))
    · simp only [impl_LastGrowing.l0]
      refine evpos (by omega) (Ev.bind hn2 ?_)
      rw [Tr.wrap_id (x:=(L.length:Int) - 1) (by omega) (by omega),Tr.wrap_succ (by omega)]
      exact evpos (by omega) (evpos (by omega) (evpos (by omega) h2))
theorem ev_LastGrowing (d:List Int):∃ r:List Int × Int,Ev (fun k=>spec_LastGrowing.f k d) r∧Ev (fun k=>impl_LastGrowing.f k d) r∧r.1.length≤1000:=by
  rcases Tr.isT_cases d with h|⟨t,h⟩
  · refine ⟨([],1),?_,?_,by simp⟩
    · unfold spec_LastGrowing.f;exact Ev.bind (ev_l01Is d) (evneg (by simp [h]) (Ev.now _))
    · unfold impl_LastGrowing.f;exact Ev.bind (ev_IsTree d) (evneg (by simp [h]) (Ev.now _))
  · have hle:=h.le
    have hlen:=h.len
    obtain ⟨r,h1,h2,h3⟩:=ev_LastGrowing_l0 h t.size 0 [] (by omega) rfl (fun c hc=>by simp at hc)
    refine ⟨(r,0),?_,?_,?_⟩
    · unfold spec_LastGrowing.f spec_l09Fill.f
      refine Ev.bind (ev_l01Is d) (evpos h.isT ?_)
      rw [l01Own_eq [] (by simp)]
      exact Ev.bind (evsome h1) (Ev.now _)
    · unfold impl_LastGrowing.f
      refine Ev.bind (ev_IsTree d) (evpos h.isT ?_)
      rw [hlen];exact h2
    · have:=h.few;simp only;omega
theorem ev_ways_l0 (szl:List Int) (f:Nat→Nat):∀ (l pre:List Nat) (N:Int),N=((pre++l).length:Int)→(pre++l).length≤20→(∀ v∈pre++l,v<szl.length∧rd szl (v:Int)=(f v:Int)∧0<f v)→Tr.lprod ((pre++l).map f)≤Tr.fact (pre++l).length →
    Ev (fun k=>impl_ways.l0 k szl (Tr.fact pre.length:Int) (Tr.lprod (pre.map f):Int) ((pre++l).map (fun v:Nat=>(v:Int))) N (pre.length:Int)) ((Tr.fact (pre++l).length / Tr.lprod ((pre++l).map f):Nat):Int):=by
  intro l
  induction l with
  | nil =>
    intro pre N hN hb hv hp
    rw [List.append_nil] at hN hb hv hp ⊢
    have hpos:0<Tr.lprod (pre.map f):=Tr.lprod_pos _ (fun x hx=>by
      simp only [List.mem_map] at hx
      obtain ⟨v,hv',rfl⟩:=hx
      exact (hv v hv').2.2)
    have hfl:=Tr.fact_le _ _ hb
    rw [show Tr.fact 20=2432902008176640000 by rfl] at hfl
    refine Ev_succ ?_
    simp only [impl_ways.l0]
    generalize Tr.fact pre.length=A at hp hfl ⊢
    generalize Tr.lprod (pre.map f)=B at hp hpos ⊢
    have hdl:A / B≤A:=Nat.div_le_self _ _
    have e:Int.tdiv (A:Int) (B:Int)=((A / B:Nat):Int):=by rw [Int.tdiv_eq_ediv_of_nonneg (by omega)];exact (Int.natCast_ediv _ _).symm
    rw [e]
    clear e
    generalize A / B=C at hdl ⊢
    exact evneg (by omega) (evneg (by omega) (evnow (Tr.wrap_id (by omega) (by omega))))
  | cons v l ih =>
    intro pre N hN hb hv hp
    obtain ⟨h1,h2,h3⟩:=hv v (by simp)
    have hb':=hb
    simp only [List.length_append,List.length_cons] at hb
    have hfl:=Tr.fact_le (pre.length+1) 20 (by omega)
    rw [show Tr.fact 20=2432902008176640000 by rfl] at hfl
    have hfl2:=Tr.fact_le (pre++v :: l).length 20 hb'
    rw [show Tr.fact 20=2432902008176640000 by rfl] at hfl2
    have hpp:Tr.lprod ((pre++[v]).map f)≤Tr.lprod ((pre++v :: l).map f):=by
      have e:pre++v :: l=(pre++[v])++l:=by simp
      have e0:Tr.lprod ((pre++v :: l).map f)=Tr.lprod ((pre++[v]).map f)*Tr.lprod (l.map f):=by rw [e,List.map_append,Tr.lprod_app]
      rw [e0]
      refine Nat.le_mul_of_pos_right _ (Tr.lprod_pos (l.map f) (fun x hx=>?_))
      simp only [List.mem_map] at hx
      obtain ⟨u,hu,rfl⟩:=hx
      exact (hv u (by simp [hu])).2.2
    have e2:Tr.lprod ((pre++[v]).map f)=Tr.lprod (pre.map f)*f v:=by rw [List.map_append,Tr.lprod_app];simp [Tr.lprod]
    have e3:Tr.fact (pre++[v]).length=(pre.length+1)*Tr.fact pre.length:=by simp [Tr.fact]
    have:=ih (pre++[v]) N (by rw [hN];simp) (by simpa using hb') (by simpa using hv) (by simpa using hp)
    rw [e2,e3] at this
    have e4:pre++[v]++l=pre++v :: l:=by simp
    have e5:(pre++[v]).length=pre.length+1:=by simp
    rw [e4,e5] at this
    have hml:((pre++v :: l).map (fun v:Nat=>(v:Int))).length=pre.length+(l.length+1):=by simp
    have e6:rd ((pre++v :: l).map (fun v:Nat=>(v:Int))) (pre.length:Int)=v:=by rw [Tr.rd_getElem (by simp)];simp
    rw [show Tr.fact (pre.length+1)=(pre.length+1)*Tr.fact pre.length from rfl] at hfl
    rw [e2] at hpp
    simp only [List.length_append,List.length_cons] at hN
    refine Ev_succ ?_
    simp only [impl_ways.l0]
    rw [e6,h2]
    clear e6 h2 e2 e3 e4 e5 ih
    generalize Tr.fact pre.length=A at hfl this ⊢
    generalize Tr.lprod (pre.map f)=B at hpp this ⊢
    generalize f v=s at hpp this h3 ⊢
    have q1:(A:Int)*((pre.length:Int)+1)=(((pre.length+1)*A:Nat):Int):=by rw [Nat.mul_comm];simp
    have q2:(B:Int)*(s:Int)=((B*s:Nat):Int):=by simp
    rw [Tr.wrap_id (x:=(pre.length:Int)+1) (by omega) (by omega),q1,q2]
    clear q1 q2
    generalize (pre.length+1)*A=A' at hfl this ⊢
    generalize B*s=B' at hpp this ⊢
    rw [Tr.wrap_id (x:=(A':Int)) (by omega) (by omega),Tr.wrap_id (x:=(B':Int)) (by omega) (by omega)]
    refine evpos (by omega) (evpos (by omega) (evpos (by omega) (evpos (by omega) (evpos (by omega) ?_))))
    rw [show (pre.length:Int)+1=((pre.length+1:Nat):Int) by omega]
    exact this
theorem ev_ways (szl:List Int) (f:Nat→Nat) (l:List Nat) (hl:l.length≤20) (hv:∀ v∈l,v<szl.length∧rd szl (v:Int)=(f v:Int)∧0<f v) (hd:Tr.lprod (l.map f)∣Tr.fact l.length) :
    Ev (fun k=>impl_ways.f k szl (l.map (fun v:Nat=>(v:Int)))) ((Tr.fact l.length / Tr.lprod (l.map f):Nat):Int):=by
  unfold impl_ways.f
  have:=ev_ways_l0 szl f l [] l.length (by simp) (by simpa using hl) (by simpa using hv) (by simpa using Nat.le_of_dvd (Tr.fact_pos _) hd)
  simpa [Tr.fact,Tr.lprod] using this
def toI (l:List Nat):List Int:=l.map (fun v:Nat=>(v:Int))
theorem toI_len (l:List Nat):(toI l).length=l.length:=by simp [toI]
theorem toI_rd (l:List Nat) (i:Nat):rd (toI l) (i:Int)=((l.getD i 0:Nat):Int):=by
  unfold rd toI
  rw [Int.toNat_natCast,List.getD_eq_getElem?_getD,List.getD_eq_getElem?_getD,List.getElem?_map]
  cases l[i]? <;> rfl
theorem toI_set (l:List Nat) (i x:Nat):(toI l).set i (x:Int)=toI (l.set i x):=by simp [toI,List.map_set]
theorem ev_l09Count_l5:∀ (l pre:List Nat),(pre++l).length≤1000→(∀ x∈pre++l,0<x)→Tr.lprod (pre++l)≤2432902008176640000 →
    Ev (fun k=>spec_l09Count.l5 k (toI (pre++l)) (Tr.lprod pre:Int) (pre.length:Int)) (Tr.lprod (pre++l):Int):=by
  intro l
  induction l with
  | nil =>
    intro pre hb _ _
    refine Ev_succ ?_
    simp only [spec_l09Count.l5]
    rw [List.append_nil,toI_len]
    exact evneg (by omega) (Ev.now _)
  | cons x l ih =>
    intro pre hb hp hl
    have h1:Tr.lprod (pre++[x])≤Tr.lprod (pre++x :: l):=by
      have e:pre++x :: l=(pre++[x])++l:=by simp
      have e0:Tr.lprod (pre++x :: l)=Tr.lprod (pre++[x])*Tr.lprod l:=by rw [e,Tr.lprod_app]
      rw [e0]
      exact Nat.le_mul_of_pos_right _ (Tr.lprod_pos l (fun y hy=>hp y (by simp [hy])))
    have e2:Tr.lprod (pre++[x])=Tr.lprod pre*x:=by rw [Tr.lprod_app];simp [Tr.lprod]
    have:=ih (pre++[x]) (by simpa using hb) (by simpa using hp) (by simpa using hl)
    have e4:pre++[x]++l=pre++x :: l:=by simp
    have e5:(pre++[x]).length=pre.length+1:=by simp
    rw [e2,e4,e5] at this
    rw [e2] at h1
    have hg:(pre++x :: l).getD pre.length 0=x:=by simp [List.getD_eq_getElem?_getD]
    simp only [List.length_append,List.length_cons] at hb
    refine Ev_succ ?_
    simp only [spec_l09Count.l5]
    rw [toI_rd,hg,toI_len,show (Tr.lprod pre:Int)*(x:Int)=((Tr.lprod pre*x:Nat):Int) by simp]
    generalize Tr.lprod pre*x=A at h1 this ⊢
    generalize Tr.lprod (pre++x :: l)=B at hl h1 this ⊢
    refine evpos (by simp;omega) (evpos (by omega) ?_)
    rw [Tr.wrap_id (x:=(A:Int)) (by omega) (by omega),Tr.wrap_succ (by omega)]
    exact this
theorem ev_l09Count_l4 (top bel:List Nat) (i j:Nat) (hi:i<bel.length) (hj:j<top.length) (hT:∀ x∈top,x≤1000) (hB:∀ x∈bel,x≤1000) (hk:top.length≤1000) (r:Int):∀ (n b a:Nat),b<n→0<a→a≤1000→b≤1000 →
    Ev (fun k=>spec_l09Count.l3 k (toI (top.set j (top.getD j 0 / Nat.gcd a b))) (toI (bel.set i (bel.getD i 0 / Nat.gcd a b))) (i:Int) ((j+1:Nat):Int)) r→Ev (fun k=>spec_l09Count.l4 k (toI top) (toI bel) (i:Int) (j:Int) (a:Int) (b:Int)) r:=by
  intro n
  induction n with
  | zero=>intro b a h;omega
  | succ n ih =>
    intro b a hb ha hla hlb h
    by_cases hz:b=0
    · subst hz
      rw [Nat.gcd_zero_right] at h
      refine Ev_succ ?_
      simp only [spec_l09Count.l4]
      rw [toI_rd,toI_rd,toI_len,toI_len]
      have t1:top.getD j 0≤1000:=by rw [List.getD_eq_getElem?_getD,List.getElem?_eq_getElem hj];exact hT _ (List.getElem_mem _)
      have t2:bel.getD i 0≤1000:=by rw [List.getD_eq_getElem?_getD,List.getElem?_eq_getElem hi];exact hB _ (List.getElem_mem _)
      generalize top.getD j 0=x at t1 h ⊢
      generalize bel.getD i 0=y at t2 h ⊢
      have d1:Int.tdiv (x:Int) (a:Int)=((x / a:Nat):Int):=by rw [Int.tdiv_eq_ediv_of_nonneg (by omega)];exact (Int.natCast_ediv _ _).symm
      have d2:Int.tdiv (y:Int) (a:Int)=((y / a:Nat):Int):=by rw [Int.tdiv_eq_ediv_of_nonneg (by omega)];exact (Int.natCast_ediv _ _).symm
      have l1:x / a≤x:=Nat.div_le_self _ _
      have l2:y / a≤y:=Nat.div_le_self _ _
      rw [d1,d2]
      clear d1 d2
      generalize x / a=x' at l1 h ⊢
      generalize y / a=y' at l2 h ⊢
      rw [Tr.wrap_id (x:=(x':Int)) (by omega) (by omega),Tr.wrap_id (x:=(y':Int)) (by omega) (by omega),Tr.wrap_succ (by omega),Int.toNat_natCast,Int.toNat_natCast,toI_set,toI_set]
      exact evneg (by omega) (evpos (by omega) (evpos (by omega) (evneg (by omega) (evpos (by omega) (evpos (by omega) h)))))
    · have hlt:a % b<b:=Nat.mod_lt _ (by omega)
      have e:Int.tmod (a:Int) (b:Int)=((a % b:Nat):Int):=by rw [Int.tmod_eq_emod_of_nonneg (by omega)];exact (Int.natCast_emod _ _).symm
      have hg:Nat.gcd b (a % b)=Nat.gcd a b:=by rw [Nat.gcd_comm b,← Nat.gcd_rec,Nat.gcd_comm]
      have:=ih (a % b) b (by omega) (by omega) hlb (by omega) (by rw [hg];exact h)
      refine Ev_succ ?_
      simp only [spec_l09Count.l4]
      rw [e]
      clear e
      exact evpos (by omega) (evneg (by omega) this)
theorem ev_l09Count_l3 (bel:List Nat) (i:Nat) (hi:i<bel.length) (hB:∀ x∈bel,x≤1000) (hbl:bel.length≤1000) (r:Int):∀ (ts pre:List Nat) (b:Nat),0<b→b≤1000→(pre++ts).length≤1000→(∀ x∈pre++ts,0<x∧x≤1000) →
    Ev (fun k=>spec_l09Count.l2 k (toI (pre++(Tr.cancel b ts).2)) (toI (bel.set i (Tr.cancel b ts).1)) ((i+1:Nat):Int)) r→Ev (fun k=>spec_l09Count.l3 k (toI (pre++ts)) (toI (bel.set i b)) (i:Int) (pre.length:Int)) r:=by
  intro ts
  induction ts with
  | nil =>
    intro pre b hb hb1 hl _ h
    refine Ev_succ ?_
    simp only [spec_l09Count.l3]
    rw [toI_len]
    refine evneg (by simp) (Ev_succ ?_)
    simp only [spec_l09Count.j4]
    refine evneg (by simp) ?_
    rw [Tr.wrap_succ (by omega)]
    exact h
  | cons t ts ih =>
    intro pre b hb hb1 hl hp h
    have hgb:(bel.set i b).getD i 0=b:=by simp [List.getD_eq_getElem?_getD,hi]
    have hgt:(pre++t :: ts).getD pre.length 0=t:=by simp [List.getD_eq_getElem?_getD]
    have ht:=hp t (by simp)
    have hl':=hl
    simp only [List.length_append,List.length_cons] at hl
    refine Ev_succ ?_
    simp only [spec_l09Count.l3]
    rw [toI_len,toI_len,toI_rd,hgb]
    refine evpos (by simp;omega) (evpos (by omega) (evpos (by simp;omega) (Ev_succ ?_)))
    simp only [spec_l09Count.j4]
    rw [toI_len,toI_len,toI_rd,toI_rd,hgb,hgt]
    unfold Tr.cancel at h
    by_cases h1:1<b
    · rw [if_pos h1] at h
      refine evpos (by simp;omega) (evpos (by omega) (evpos (by simp;omega) (evpos (by omega) (evpos (by simp;omega) ?_))))
      have hg:0<Nat.gcd t b:=Nat.gcd_pos_of_pos_left _ ht.1
      have hb2:0<b / Nat.gcd t b:=Nat.div_pos (Nat.le_of_dvd hb (Nat.gcd_dvd_right t b)) hg
      have ht2:0<t / Nat.gcd t b:=Nat.div_pos (Nat.le_of_dvd ht.1 (Nat.gcd_dvd_left t b)) hg
      have hb3:b / Nat.gcd t b≤b:=Nat.div_le_self _ _
      have ht3:t / Nat.gcd t b≤t:=Nat.div_le_self _ _
      refine ev_l09Count_l4 (pre++t :: ts) (bel.set i b) i pre.length (by simpa using hi) (by simp) (fun x hx=>(hp x hx).2) (fun x hx=>by
        rcases List.mem_or_eq_of_mem_set hx with hx|rfl
        · exact hB x hx
        · exact hb1) hl' r (b+1) b t (by omega) ht.1 ht.2 hb1 ?_
      rw [hgb,hgt,List.set_set,show (pre++t :: ts).set pre.length (t / Nat.gcd t b)=pre++(t / Nat.gcd t b) :: ts by simp]
      have:=ih (pre++[t / Nat.gcd t b]) (b / Nat.gcd t b) hb2 (by omega) (by simpa using hl') (fun x hx=>by
        simp only [List.mem_append,List.mem_cons,List.mem_singleton,List.not_mem_nil,or_false] at hx
        rcases hx with (hx|rfl)|hx
        · exact hp x (by simp [hx])
        · exact ⟨ht2,by omega⟩
        · exact hp x (by simp [hx])) (by simpa using h)
      simpa using this
    · rw [if_neg h1] at h
      refine evneg (by simp;omega) ?_
      rw [Tr.wrap_succ (by omega)]
      exact h
theorem ev_l09Count_l2:∀ (bs pre ts:List Nat),(pre++bs).length≤1000→ts.length≤1000→(∀ x∈pre++bs,0<x∧x≤1000)→(∀ x∈ts,0<x∧x≤1000)→Tr.lprod ts≤2432902008176640000→Tr.lprod bs∣Tr.lprod ts →
    Ev (fun k=>spec_l09Count.l2 k (toI ts) (toI (pre++bs)) (pre.length:Int)) (Tr.lprod (Tr.cancelAll bs ts):Int):=by
  intro bs
  induction bs with
  | nil =>
    intro pre ts hb hl _ ht hp _
    refine Ev_succ ?_
    simp only [spec_l09Count.l2]
    rw [toI_len]
    refine evneg (by simp) ?_
    have:=ev_l09Count_l5 ts [] (by simpa using hl) (by simpa using fun x hx=>(ht x hx).1) (by simpa using hp)
    simpa [Tr.lprod,Tr.cancelAll] using this
  | cons b bs ih =>
    intro pre ts hb hl hpb ht hp hd
    have hb0:=hpb b (by simp)
    have hd1:b∣Tr.lprod ts:=Nat.dvd_trans ⟨Tr.lprod bs,rfl⟩ hd
    obtain ⟨c1,c2,c3,c4⟩:=Tr.cancel_spec ts b hb0.1 (fun x hx=>(ht x hx).1) hd1
    have hd2:Tr.lprod bs∣Tr.lprod (Tr.cancel b ts).2:=by
      have:b*Tr.lprod bs∣b*Tr.lprod (Tr.cancel b ts).2:=by rw [c2];exact hd
      exact Nat.dvd_of_mul_dvd_mul_left hb0.1 this
    have hle:Tr.lprod (Tr.cancel b ts).2≤Tr.lprod ts:=by rw [← c2];exact Nat.le_mul_of_pos_left _ hb0.1
    have hb':=hb
    simp only [List.length_append,List.length_cons] at hb
    have hset:(pre++b :: bs).set pre.length b=pre++b :: bs:=by simp
    refine Ev_succ ?_
    simp only [spec_l09Count.l2]
    rw [toI_len]
    refine evpos (by simp;omega) ?_
    have:=ev_l09Count_l3 (pre++b :: bs) pre.length (by simp) (fun x hx=>(hpb x hx).2) hb' (Tr.lprod (Tr.cancelAll (b :: bs) ts):Int) ts [] b hb0.1 hb0.2 (by simpa using hl) (by simpa using ht) ?_
    · rw [hset] at this
      exact this
    · rw [c1]
      have h2:=ih (pre++[1]) (Tr.cancel b ts).2 (by simpa using hb') (by omega) (fun x hx=>by
        simp only [List.mem_append,List.mem_singleton] at hx
        rcases hx with (hx|rfl)|hx
        · exact hpb x (by simp [hx])
        · omega
        · exact hpb x (by simp [hx])) (fun x hx=>⟨c3 x hx,?_⟩) (by omega) hd2
      · rw [show (pre++b :: bs).set pre.length 1=(pre++[1])++bs by simp,List.nil_append]
        simpa [Tr.cancelAll] using h2
      · exact Tr.cancel_le ts b (fun x hx=>(ht x hx).2) x hx
theorem ev_l09Count_l1 {d:List Int} {t:Tr.F} (h:Tr.Tree d t) (hs:t.size≤20) (met:List Bool) (hm:met.length=t.size) (un:Nat→Bool) (hun:∀ v:Nat,v<t.size→rdOf false met (v:Int)=!un v) (bs:List Nat) (hbs:bs=((List.range t.size).filter un).map (fun v=>1+(t.sub v).size)) (hd:Tr.lprod bs∣Tr.fact bs.length) :
    ∀ (m v:Nat),v+m=t.size→Ev (fun k=>spec_l09Count.l1 k met (toI ((List.range (((List.range v).filter un).length)).map (·+1))) (toI (((List.range v).filter un).map (fun v=>1+(t.sub v).size))) (v:Int) d) ((Tr.fact bs.length / Tr.lprod bs:Nat):Int):=by
  have hle:=h.le
  have hlen:=h.len
  intro m
  induction m with
  | zero =>
    intro v hv
    obtain rfl:v=t.size:=(by omega)
    have hbl:bs.length≤20:=by
      rw [hbs,List.length_map]
      exact Nat.le_trans (List.length_filter_le _ _) (by simp;omega)
    have e1:((List.range t.size).filter un).length=bs.length:=by rw [hbs,List.length_map]
    have hfl:=Tr.fact_le _ _ hbl
    rw [show Tr.fact 20=2432902008176640000 by rfl] at hfl
    have hp0:∀ x∈bs,0<x∧x≤1000:=by
      intro x hx
      rw [hbs] at hx
      simp only [List.mem_map,List.mem_filter,List.mem_range] at hx
      obtain ⟨v,⟨hv1,_⟩,rfl⟩:=hx
      have:=h.fits hv1
      omega
    have ht0:∀ x∈(List.range bs.length).map (·+1),0<x∧x≤1000:=by
      intro x hx
      simp only [List.mem_map,List.mem_range] at hx
      obtain ⟨v,hv1,rfl⟩:=hx
      omega
    refine Ev_succ ?_
    simp only [spec_l09Count.l1,l01N_eq]
    rw [e1,← hbs]
    refine evsome (evneg (by omega) ?_)
    have:=ev_l09Count_l2 bs [] ((List.range bs.length).map (·+1)) (by simp;omega) (by simp;omega) (by simpa using hp0) ht0 (by rw [Tr.lprod_up];exact hfl) (by rw [Tr.lprod_up];exact hd)
    have hsp:=Tr.cancelAll_spec bs ((List.range bs.length).map (·+1)) (fun x hx=>(hp0 x hx).1) (fun x hx=>(ht0 x hx).1) (by rw [Tr.lprod_up];exact hd)
    rw [Tr.lprod_up] at hsp
    have hpos:=Tr.lprod_pos bs (fun x hx=>(hp0 x hx).1)
    rw [← hsp,Nat.mul_div_cancel_left _ hpos]
    simpa using this
  | succ m ih =>
    intro v hv
    obtain ⟨n,hp⟩:=h.node (v:=v) (by omega)
    have hf:=h.fits (v:=v) (by omega)
    have hfl:((List.range v).filter un).length≤v:=Nat.le_trans (List.length_filter_le _ _) (by simp)
    have hnext:=ih (v+1) (by omega)
    rw [List.range_succ,List.filter_append] at hnext
    have hmt:=hun v (by omega)
    refine Ev_succ ?_
    simp only [spec_l09Count.l1,l01N_eq]
    refine evsome (evpos (by omega) (evpos (by omega) (evpos (by omega) ?_)))
    rw [hmt,Tr.wrap_succ (by omega)]
    cases hu:un v with
    | false =>
      simp only [List.filter_cons,hu,List.filter_nil,List.append_nil] at hnext
      exact evpos (by simp) (by simpa using hnext)
    | true =>
      simp only [List.filter_cons,hu,List.filter_nil,if_true] at hnext
      refine evneg (by simp) (evpos (by rw [toI_len];simp;omega) (Ev.bind (ev_l01End (by omega) hp) (evpos (by rw [toI_len];simp;omega) ?_)))
      rw [toI_len,Tr.wrap_id (x:=((v+1+(t.sub v).size:Nat):Int) - v) (by omega) (by omega)]
      simp only [List.length_map,List.length_range]
      rw [Tr.wrap_succ (by omega)]
      have q1:∀ (l:List Nat) (x:Nat),toI l++[(x:Int)]=toI (l++[x]):=fun l x=>by simp [toI]
      rw [show ((v+1+(t.sub v).size:Nat):Int) - v=((1+(t.sub v).size:Nat):Int) by omega,q1,q1]
      rw [List.length_append,List.map_append,show ([v]:List Nat).length=1 from rfl,List.range_succ,List.map_append] at hnext
      exact hnext
theorem ev_l09Count_l0 {d:List Int} {t:Tr.F} (h:Tr.Tree d t) (hs:t.size≤20) (bs:List Nat):∀ (l pre:List Int) (met:List Bool),(∀ c∈l,0≤c∧c<t.size)→(pre++l).length≤1000→met.length=t.size→(∀ v:Nat,v<t.size→rdOf false met (v:Int)=decide ((v:Int)∈pre)) →
    bs=((List.range t.size).filter (fun v:Nat=>decide (¬ (v:Int)∈pre++l))).map (fun v=>1+(t.sub v).size)→Tr.lprod bs∣Tr.fact bs.length →
    Ev (fun k=>spec_l09Count.l0 k (pre++l) met (pre.length:Int) d) ((Tr.fact bs.length / Tr.lprod bs:Nat):Int):=by
  intro l
  induction l with
  | nil =>
    intro pre met _ hb hm hmet hbs hd
    refine Ev_succ ?_
    simp only [spec_l09Count.l0]
    refine evneg (by simp) ?_
    have:=ev_l09Count_l1 h hs met hm (fun v:Nat=>decide (¬ (v:Int)∈pre++[])) (fun v hv=>by rw [hmet v hv];simp) bs hbs hd t.size 0 (by omega)
    simpa [toI] using this
  | cons c l ih =>
    intro pre met hc hb hm hmet hbs hd
    have h1:=hc c (List.mem_cons_self ..)
    have e:rd (pre++c :: l) (pre.length:Int)=c:=by rw [Tr.rd_app0];exact Tr.rd_cons0 _ _
    have hb':=hb
    simp only [List.length_append,List.length_cons] at hb
    refine Ev_succ ?_
    simp only [spec_l09Count.l0]
    rw [e]
    clear e
    refine evpos (by simp;omega) (evpos (by omega) (evpos h1.1 (evpos (by omega) ?_)))
    rw [Tr.wrap_succ (by omega)]
    have:=ih (pre++[c]) (met.set c.toNat true) (fun x hx=>hc x (List.mem_cons_of_mem _ hx)) (by simpa using hb') (by simpa using hm) (fun v hv=>by
      rw [Tr.rdOf_set (by omega) h1.1,hmet v hv]
      by_cases e:c=v
      · rw [if_pos e];simp [e]
      · rw [if_neg e];congr 1;simp only [List.mem_append,List.mem_singleton,eq_iff_iff];constructor
        · exact fun h=>.inl h
        · rintro (h|h)
          · exact h
          · exact absurd h.symm e) (by rw [hbs];simp) hd
    simpa using this
theorem ev_l09Count {d:List Int} {t:Tr.F} (h:Tr.Tree d t) (hs:t.size≤20) (bs:List Nat) (beg:List Int) (hb:∀ c∈beg,0≤c∧c<t.size) (hl:beg.length≤1000)
    (hbs:bs=((List.range t.size).filter (fun v:Nat=>decide (¬ (v:Int)∈beg))).map (fun v=>1+(t.sub v).size)) (hd:Tr.lprod bs∣Tr.fact bs.length) :
    Ev (fun k=>spec_l09Count.f k d beg) ((Tr.fact bs.length / Tr.lprod bs:Nat):Int):=by
  have hle:=h.le
  have hlen:=h.len
  unfold spec_l09Count.f
  rw [l01N_eq]
  refine evsome (evpos (by omega) (evpos (by omega) ?_))
  have:=ev_l09Count_l0 h hs bs beg [] (List.replicate d.length false) hb (by simpa using hl) (by simpa using hlen) (fun v hv=>by rw [Tr.rdOf_rep];simp) (by simpa using hbs) hd
  simpa using this
theorem ev_CountGrowing (d:List Int):∃ r:Int × Int,Ev (fun k=>spec_CountGrowing.f k d) r∧Ev (fun k=>impl_CountGrowing.f k d) r:=by
  rcases Tr.isT_cases d with h|⟨t,h⟩
  · refine ⟨(0,1),?_,?_⟩
    · unfold spec_CountGrowing.f spec_l09Few.f;exact Ev.bind (Ev.bind (ev_l01Is d) (evneg (by simp [h]) (Ev.now _))) (evneg (by omega) (Ev.now _))
    · unfold impl_CountGrowing.f impl_grownCode.f;exact Ev.bind (Ev.bind (ev_IsTree d) (evneg (by simp [h]) (Ev.now _))) (evneg (by omega) (Ev.now _))
  · have hle:=h.le
    have hlen:=h.len
    by_cases hs:t.size≤20
    · have hbs:(List.range t.size).map (fun v=>1+(t.sub v).size)=t.szs:=by
        apply List.ext_getElem
        · simp [Tr.F.szs_len]
        · intro i h1 h2
          have h3:i<t.size:=by simpa using h1
          have:=Tr.F.szs_get t i h3
          rw [List.getD_eq_getElem?_getD,List.getElem?_eq_getElem h2] at this
          simp at this ⊢
          exact this.symm
      have hd:Tr.lprod t.szs∣Tr.fact t.szs.length:=by rw [Tr.F.szs_len,Tr.F.szs_prod];exact Tr.F.prod_dvd t
      refine ⟨(((Tr.fact t.szs.length / Tr.lprod t.szs:Nat):Int),0),?_,?_⟩
      · unfold spec_CountGrowing.f spec_l09Few.f
        refine Ev.bind (a:=0) (Ev.bind (ev_l01Is d) (evpos h.isT ?_)) (evpos rfl (Ev.bind (ev_l09Count h hs t.szs [] (by simp) (by simp) (by rw [← hbs,List.filter_eq_self.2 (fun v _=>by simp)]) hd) (Ev.now _)))
        rw [l01N_eq]
        exact evsome (evneg (by omega) (Ev.now _))
      · unfold impl_CountGrowing.f impl_grownCode.f
        refine Ev.bind (a:=0) (Ev.bind (ev_IsTree d) (evpos h.isT (evneg (by omega) (Ev.now _)))) (evpos rfl (Ev.bind (ev_sizesOf h) (Ev.bind (ev_preorder d (by omega)) ?_)))
        have hw:=ev_ways (Tr.sizesL t) (fun v=>1+(t.sub v).size) (List.range t.size) (by simpa using hs) (fun v hv=>by
          have hv':v<t.size:=by simpa using hv
          exact ⟨by rw [Tr.sizesL,Tr.each_len];exact hv',Tr.each_rd hv',by omega⟩) (by rw [hbs];simpa [Tr.F.szs_len] using hd)
        rw [hbs] at hw
        have e:Tr.upto d.length=(List.range t.size).map (fun v:Nat=>(v:Int)):=by rw [hlen];rfl
        rw [e,Tr.F.szs_len]
        simp only [List.length_range] at hw
        exact Ev.bind hw (Ev.now _)
    · refine ⟨(0,3),?_,?_⟩
      · unfold spec_CountGrowing.f spec_l09Few.f
        refine Ev.bind (a:=3) (Ev.bind (ev_l01Is d) (evpos h.isT ?_)) (evneg (by omega) (Ev.now _))
        rw [l01N_eq]
        exact evsome (evpos (by omega) (Ev.now _))
      · unfold impl_CountGrowing.f impl_grownCode.f
        exact Ev.bind (a:=3) (Ev.bind (ev_IsTree d) (evpos h.isT (evpos (by omega) (Ev.now _)))) (evneg (by omega) (Ev.now _))
theorem ev_l09Order_l0 (d:List Int) (hd:d.length≤1000):∀ (l pre:List Int) (met:List Bool),(pre++l).length≤100000000→met.length=d.length→pre.Nodup→(∀ x∈pre,0≤x∧x<d.length)→(∀ v:Nat,v<d.length→rdOf false met (v:Int)=decide ((v:Int)∈pre)) →
    Ev (fun k=>spec_l09Order.l0 k (pre++l) met (pre.length:Int) d) (decide (Tr.isOrd d.length (pre++l))):=by
  intro l
  induction l with
  | nil =>
    intro pre met hb hm hn hr hmet
    refine Ev_succ ?_
    simp only [spec_l09Order.l0,l01N_eq]
    refine evneg (by simp) (evsome (evnow ?_))
    rw [List.append_nil,Bool.eq_iff_iff,beq_iff_eq,decide_eq_true_eq]
    constructor
    · intro e;exact ⟨by omega,hn,hr⟩
    · intro e;have:=e.1;omega
  | cons x l ih =>
    intro pre met hb hm hn hr hmet
    have hb':=hb
    simp only [List.length_append,List.length_cons] at hb
    have e:rd (pre++x :: l) (pre.length:Int)=x:=by rw [Tr.rd_app0];exact Tr.rd_cons0 _ _
    have e3:wrap64 ((pre.length:Int)+1)=((pre++[x]).length:Int):=by rw [Tr.wrap_id (by omega) (by omega)];simp
    refine Ev_succ ?_
    simp only [spec_l09Order.l0,l01N_eq]
    refine evpos (by simp;omega) (evpos (by omega) (evsome ?_))
    rw [e,e3,l01In_eq,Tr.wrap_id (by omega) (by omega)]
    refine evsome ?_
    by_cases hx:0≤x∧x≤(d.length:Int) - 1
    · obtain ⟨v,rfl⟩:=Int.eq_ofNat_of_zero_le hx.1
      have hv:v<d.length:=by omega
      refine evpos (by simpa using hx) (evpos (by omega) (evpos (by omega) ?_))
      rw [hmet v hv]
      by_cases hp:(v:Int)∈pre
      · refine evpos (by simpa using hp) (evnow ?_)
        symm;rw [decide_eq_false_iff_not]
        rintro ⟨_,h2,_⟩
        rw [List.nodup_append] at h2
        exact h2.2.2 _ hp _ (by simp) rfl
      · refine evneg (by simpa using hp) ?_
        have:=ih (pre++[(v:Int)]) (met.set (v:Int).toNat true) (by simpa using hb') (by simpa using hm)
          (by
            rw [List.nodup_append]
            refine ⟨hn,by simp,?_⟩
            intro a ha b hb e
            simp only [List.mem_singleton] at hb
            subst hb;subst e;exact hp ha)
          (by
            intro y hy
            simp only [List.mem_append,List.mem_singleton] at hy
            rcases hy with hy|rfl
            · exact hr y hy
            · omega)
          (fun u hu=>by
            rw [Tr.rdOf_set (by omega) (by omega),hmet u hu]
            by_cases e:(v:Int)=u
            · rw [if_pos e];simp [e]
            · rw [if_neg e];congr 1;simp only [List.mem_append,List.mem_singleton,eq_iff_iff];constructor
              · exact fun h=>.inl h
              · rintro (h|h)
                · exact h
                · exact absurd h.symm e)
        simpa using this
    · refine evneg (by simpa using hx) (evnow ?_)
      symm;rw [decide_eq_false_iff_not]
      rintro ⟨_,_,h3⟩
      have:=h3 x (by simp)
      omega
theorem ev_l09Order (d:List Int) (hd:d.length≤1000) (l:List Int) (hl:l.length≤100000000):Ev (fun k=>spec_l09Order.f k d l) (decide (Tr.isOrd d.length l)):=by
  unfold spec_l09Order.f
  rw [l01N_eq]
  refine evsome (evpos (by omega) (evpos (by omega) ?_))
  have:=ev_l09Order_l0 d hd l [] (List.replicate d.length false) (by simpa using hl) (by simp) (by simp) (by simp) (fun v hv=>by rw [Tr.rdOf_rep];simp)
  simpa using this
theorem ev_l09Growing_l0 {d:List Int} {t:Tr.F} (h:Tr.Tree d t):∀ (l pre:List Int) (met:List Bool),(∀ c∈l,0≤c∧c<t.size)→(pre++l).length≤100000000→met.length=t.size→(∀ v:Nat,v<t.size→rdOf false met (v:Int)=decide ((v:Int)∈pre)) →
    Ev (fun k=>spec_l09Growing.l0 k (pre++l) (Tr.parentsL t) met (pre.length:Int)) (Tr.grows t pre l):=by
  have hle:=h.le
  have hlen:=h.len
  intro l
  induction l with
  | nil =>
    intro pre met _ hb hm hmet
    refine Ev_succ ?_
    simp only [spec_l09Growing.l0]
    exact evneg (by simp) (Ev.now _)
  | cons x l ih =>
    intro pre met hc hb hm hmet
    have h1:=hc x (List.mem_cons_self ..)
    have hb':=hb
    simp only [List.length_append,List.length_cons] at hb
    have e:rd (pre++x :: l) (pre.length:Int)=x:=by rw [Tr.rd_app0];exact Tr.rd_cons0 _ _
    have e3:wrap64 ((pre.length:Int)+1)=((pre++[x]).length:Int):=by rw [Tr.wrap_id (by omega) (by omega)];simp
    obtain ⟨v,rfl⟩:=Int.eq_ofNat_of_zero_le h1.1
    have hv:v<t.size:=by omega
    have hpr:rd (Tr.parentsL t) (v:Int)=t.par 0 (-1) v:=Tr.each_rd hv
    have hpl:(Tr.parentsL t).length=t.size:=Tr.each_len _ _
    have hpv:=h.par_lt hv
    have go:Ev (fun k=>spec_l09Growing.l0 k (pre++(v:Int) :: l) (Tr.parentsL t) (met.set (v:Int).toNat true) ((pre++[(v:Int)]).length:Int)) (Tr.grows t (pre++[(v:Int)]) l):=by
      have:=ih (pre++[(v:Int)]) (met.set (v:Int).toNat true) (fun x hx=>hc x (List.mem_cons_of_mem _ hx)) (by simpa using hb') (by simpa using hm) (fun u hu=>by
        rw [Tr.rdOf_set (by omega) (by omega),hmet u hu]
        by_cases e:(v:Int)=u
        · rw [if_pos e];simp [e]
        · rw [if_neg e];congr 1;simp only [List.mem_append,List.mem_singleton,eq_iff_iff];constructor
          · exact fun h=>.inl h
          · rintro (h|h)
            · exact h
            · exact absurd h.symm e)
      simpa using this
    refine Ev_succ ?_
    simp only [spec_l09Growing.l0]
    refine evpos (by simp;omega) (evpos (by omega) ?_)
    rw [e,e3,hpr,hpl,hm]
    refine evpos (by omega) (evpos (by omega) ?_)
    simp only [Tr.grows]
    rw [show (v:Int).toNat=v from Int.toNat_natCast v] at go ⊢
    generalize t.par 0 (-1) v=q at hpr hpv ⊢
    by_cases hp:0≤q
    · obtain ⟨p,rfl⟩:=Int.eq_ofNat_of_zero_le hp
      refine evpos (by omega) (evpos (by omega) (evpos (by omega) ?_))
      rw [hmet p (by omega),show decide (((p:Int))<0)=false from decide_eq_false (by omega),Bool.false_or]
      by_cases hm2:(p:Int)∈pre
      · refine evpos (by simpa using hm2) (evpos (by omega) ?_)
        rw [decide_eq_true hm2,Bool.true_and]
        exact go
      · refine evneg (by simpa using hm2) (evnow ?_)
        rw [decide_eq_false hm2,Bool.false_and]
    · refine evneg (by omega) (evpos (by omega) ?_)
      rw [decide_eq_true (by omega:q<0),Bool.true_or,Bool.true_and]
      exact go
theorem ev_l09Growing {d:List Int} {t:Tr.F} (h:Tr.Tree d t) {l:List Int} (ho:Tr.isOrd d.length l):Ev (fun k=>spec_l09Growing.f k d l) (Tr.growing t l):=by
  have hle:=h.le
  have hlen:=h.len
  unfold spec_l09Growing.f
  refine Ev.bind (ev_l01Parents h) ?_
  rw [l01N_eq]
  refine evsome (evpos (by omega) (evpos (by omega) ?_))
  have:=ev_l09Growing_l0 h l [] (List.replicate d.length false) (by rw [← hlen];exact ho.2.2) (by have:=ho.1;simp;omega) (by simpa using hlen) (fun v hv=>by rw [Tr.rdOf_rep];simp)
  show Ev _ (Tr.grows t [] l)
  simpa using this
theorem ev_l09Code_bad {d:List Int} (h:Tr.isT d=false) (l:List Int):Ev (fun k=>spec_l09Code.f k d l) 1:=by
  unfold spec_l09Code.f;exact Ev.bind (ev_l01Is d) (evneg (by simp [h]) (Ev.now _))
theorem ev_l09Code {d:List Int} {t:Tr.F} (h:Tr.Tree d t) (l:List Int) (hl:l.length≤100000000):Ev (fun k=>spec_l09Code.f k d l) (Tr.codeG d l t):=by
  have hle:=h.le
  unfold spec_l09Code.f
  refine Ev.bind (ev_l01Is d) (evpos h.isT (Ev.bind (ev_l09Order d (by omega) l hl) ?_))
  unfold Tr.codeG
  by_cases ho:Tr.isOrd d.length l
  · refine evpos (by simpa using ho) (Ev.bind (ev_l09Growing h ho) ?_)
    rw [if_pos ho]
    cases hg:Tr.growing t l with
    | true=>exact evpos rfl (evnow (by simp))
    | false=>exact evneg (by simp) (evnow (by simp))
  · refine evneg (by simpa using ho) (evnow ?_)
    rw [if_neg ho]
theorem ev_orderCode_l0:∀ (l pre:List Int) (N:Int),N=((pre++l).length:Int)→N≤100000000→pre=Tr.upto pre.length →
    Ev (fun k=>impl_orderCode.l0 k (pre++l) N (pre.length:Int)) (if pre++l=Tr.upto (pre++l).length then 0 else 2):=by
  intro l
  induction l with
  | nil =>
    intro pre N hN hb hp
    refine Ev_succ ?_
    simp only [impl_orderCode.l0]
    refine evneg (by simp at hN;omega) (evnow ?_)
    rw [List.append_nil,if_pos hp]
  | cons x l ih =>
    intro pre N hN hb hp
    have hN':=hN
    simp only [List.length_append,List.length_cons] at hN
    have e:rd (pre++x :: l) (pre.length:Int)=x:=by rw [Tr.rd_app0];exact Tr.rd_cons0 _ _
    have e3:wrap64 ((pre.length:Int)+1)=((pre++[x]).length:Int):=by rw [Tr.wrap_id (by omega) (by omega)];simp
    refine Ev_succ ?_
    simp only [impl_orderCode.l0]
    refine evpos (by omega) (evpos (by omega) (evpos (by simp;omega) ?_))
    rw [e,e3]
    by_cases hx:x=(pre.length:Int)
    · refine evpos hx ?_
      have:=ih (pre++[x]) N (by simpa using hN') hb (by
        rw [List.length_append,List.length_singleton]
        show pre++[x]=Tr.each (pre.length+1) _
        rw [Tr.each_succ]
        show pre++[x]=Tr.upto pre.length++[(pre.length:Int)]
        rw [← hp,hx])
      simpa using this
    · refine evneg hx (evnow ?_)
      rw [if_neg]
      intro hq
      have h1:rd (pre++x :: l) (pre.length:Int)=rd (Tr.upto (pre++x :: l).length) (pre.length:Int):=by rw [← hq]
      rw [e,Tr.upto_rd (by simp)] at h1
      exact hx h1
theorem ev_orderCode (d l:List Int) (hl:l.length≤100000000):Ev (fun k=>impl_orderCode.f k d l) (Tr.codeO d l):=by
  unfold impl_orderCode.f Tr.codeO
  refine Ev.bind (ev_IsTree d) ?_
  cases hd:Tr.isT d with
  | false=>exact evneg (by simp) (evnow (by simp))
  | true =>
    refine evpos rfl ?_
    rw [if_pos rfl,show slices_Clone.f l=some l by unfold slices_Clone.f;rw [if_pos hl]]
    refine evsome ?_
    rw [show slices_Sort.f l=some (Tr.msort l) by unfold slices_Sort.f;rw [if_pos hl];rfl]
    refine evsome ?_
    by_cases hn:l.length=d.length
    · refine evpos (by omega) ?_
      have:=ev_orderCode_l0 (Tr.msort l) [] (l.length:Int) (by simp [Tr.msort_len]) (by omega) rfl
      simp only [List.nil_append,List.length_nil,Tr.msort_len,hn] at this
      rw [← hn] at this
      have e:(Tr.isOrd d.length l)=(Tr.msort l=Tr.upto l.length):=by
        rw [eq_iff_iff,Tr.isOrd_sort,← hn];simp
      have e2:(if Tr.isOrd d.length l then (0:Int) else 2)=if Tr.msort l=Tr.upto l.length then 0 else 2:=by
        by_cases q:Tr.isOrd d.length l
        · rw [if_pos q,if_pos (e ▸ q)]
        · rw [if_neg q,if_neg (e ▸ q)]
      rw [e2]
      exact this
    · refine evneg (by omega) (evnow ?_)
      rw [if_neg]
      intro q;exact hn q.1
theorem ev_labelsOf_l0 {n:Nat} {l:List Int} (ho:Tr.isOrd n l) (hn:n≤1000):∀ (r pre out:List Int),l=pre++r→out.length=n→(∀ v:Nat,v<n→(v:Int)∈pre→rd out (v:Int)=Tr.idx (v:Int) l 0) →
    Ev (fun k=>impl_labelsOf.l0 k out l (n:Int) (pre.length:Int)) (Tr.labels l n):=by
  intro r
  induction r with
  | nil =>
    intro pre out hl hol hout
    have:=ho.1
    refine Ev_succ ?_
    simp only [impl_labelsOf.l0]
    rw [List.append_nil] at hl
    refine evneg (by rw [← hl];omega) (evnow ?_)
    refine Tr.each_eq hol (fun v hv=>hout v hv ?_)
    rw [← hl];exact (Tr.isOrd_mem ho).mpr (by omega)
  | cons x r ih =>
    intro pre out hl hol hout
    have hlen:=ho.1
    have hll:l.length=pre.length+(r.length+1):=by rw [hl];simp
    have e:rd l (pre.length:Int)=x:=by rw [hl,Tr.rd_app0];exact Tr.rd_cons0 _ _
    have e3:wrap64 ((pre.length:Int)+1)=((pre++[x]).length:Int):=by rw [Tr.wrap_id (by omega) (by omega)];simp
    have hx:=ho.2.2 x (by rw [hl];simp)
    have hnx:x∉pre:=by
      have:=ho.2.1
      rw [hl,List.nodup_append] at this
      intro hxa
      exact this.2.2 x hxa x (by simp) rfl
    refine Ev_succ ?_
    simp only [impl_labelsOf.l0]
    refine evpos (by omega) (evpos (by omega) (evpos (by omega) ?_))
    rw [e,e3]
    refine evpos (by omega) (evpos (by omega) ?_)
    refine ih (pre++[x]) _ (by rw [hl];simp) (by simpa using hol) (fun v hv hm=>?_)
    rw [Tr.rd_set (by omega) hx.1]
    by_cases hxv:x=(v:Int)
    · rw [if_pos hxv,hl,← hxv,Tr.idx_at hnx]
    · rw [if_neg hxv]
      refine hout v hv ?_
      simp only [List.mem_append,List.mem_singleton] at hm
      rcases hm with hm|hm
      · exact hm
      · exact absurd hm.symm hxv
theorem ev_labelsOf {n:Nat} {l:List Int} (ho:Tr.isOrd n l) (hn:n≤1000):Ev (fun k=>impl_labelsOf.f k l) (Tr.labels l n):=by
  unfold impl_labelsOf.f
  have:=ho.1
  refine evpos (by omega) (evpos (by omega) ?_)
  have:=ev_labelsOf_l0 ho hn l [] (List.replicate (l.length:Int).toNat 0) rfl (by simp;omega) (fun v _ hm=>absurd hm (by simp))
  rw [ho.1] at this ⊢
  simpa using this
theorem ev_isGrowing_l0 {d:List Int} {t:Tr.F} (h:Tr.Tree d t) (l:List Int):∀ (m v:Nat),v+m=t.size→1≤v →
    Ev (fun k=>impl_isGrowing.l0 k d (Tr.labels l t.size) (Tr.parentsL t) (v:Int)) (decide (∀ u:Nat,u<t.size→v≤u→Tr.idx (t.par 0 (-1) u) l 0≤Tr.idx (u:Int) l 0)):=by
  have hle:=h.le
  have hlen:=h.len
  intro m
  induction m with
  | zero =>
    intro v hv h1
    refine Ev_succ ?_
    simp only [impl_isGrowing.l0]
    refine evneg (by omega) (evnow ?_)
    symm;rw [decide_eq_true_eq]
    intro u hu hvu;omega
  | succ m ih =>
    intro v hv h1
    have hvs:v<t.size:=by omega
    have hpr:rd (Tr.parentsL t) (v:Int)=t.par 0 (-1) v:=Tr.each_rd hvs
    have hpl:(Tr.parentsL t).length=t.size:=Tr.each_len _ _
    have hll:(Tr.labels l t.size).length=t.size:=Tr.each_len _ _
    have hpv:=h.par_pos h1 hvs
    have e1:rd (Tr.labels l t.size) (v:Int)=Tr.idx (v:Int) l 0:=Tr.each_rd hvs
    have e2:rd (Tr.labels l t.size) (t.par 0 (-1) v)=Tr.idx (t.par 0 (-1) v) l 0:=by
      obtain ⟨p,hp⟩:=Int.eq_ofNat_of_zero_le hpv.1
      rw [hp] at hpv ⊢
      exact Tr.each_rd (by omega)
    refine Ev_succ ?_
    simp only [impl_isGrowing.l0]
    rw [hpr,e1,e2,hpl,hll,Tr.wrap_succ (by omega)]
    refine evpos (by omega) (evpos (by omega) (evpos (by omega) (evpos (by omega) (evpos (by omega) (evpos (by omega) ?_)))))
    by_cases hlt:Tr.idx (v:Int) l 0<Tr.idx (t.par 0 (-1) v) l 0
    · refine evpos hlt (evnow ?_)
      symm;rw [decide_eq_false_iff_not]
      intro hq
      have:=hq v hvs (Nat.le_refl _)
      omega
    · refine evneg hlt ?_
      have e:(∀ u:Nat,u<t.size→v≤u→Tr.idx (t.par 0 (-1) u) l 0≤Tr.idx (u:Int) l 0)↔(∀ u:Nat,u<t.size→v+1≤u→Tr.idx (t.par 0 (-1) u) l 0≤Tr.idx (u:Int) l 0):=by
        constructor
        · intro hq u hu hvu;exact hq u hu (by omega)
        · intro hq u hu hvu
          rcases Nat.lt_or_ge v u with q|q
          · exact hq u hu q
          · have:u=v:=by omega
            subst this;omega
      rw [decide_eq_decide.mpr e]
      exact ih (v+1) (by omega) (by omega)
theorem ev_isGrowing {d:List Int} {t:Tr.F} (h:Tr.Tree d t) {l:List Int} (ho:Tr.isOrd d.length l):Ev (fun k=>impl_isGrowing.f k d l) (Tr.growing t l):=by
  have hle:=h.le
  have hlen:=h.len
  have hpos:=h.pos
  rw [hlen] at ho
  unfold impl_isGrowing.f
  refine Ev.bind (ev_labelsOf ho (by omega)) (Ev.bind (ev_parentsOf h) ?_)
  have:=ev_isGrowing_l0 h l (t.size - 1) 1 (by omega) (by omega)
  have e:(∀ u:Nat,u<t.size→1≤u→Tr.idx (t.par 0 (-1) u) l 0≤Tr.idx (u:Int) l 0)↔Tr.grows t [] l=true:=by
    rw [Tr.grows_pos h ho]
    constructor
    · intro q v h1 h2;exact q v h2 h1
    · intro q v h1 h2;exact q v h2 h1
  have e':decide (∀ u:Nat,u<t.size→1≤u→Tr.idx (t.par 0 (-1) u) l 0≤Tr.idx (u:Int) l 0)=Tr.growing t l:=by
    rw [Bool.eq_iff_iff,decide_eq_true_eq];exact e
  rw [e'] at this
  exact this
theorem ev_growingCode_bad {d:List Int} (h:Tr.isT d=false) (l:List Int) (hl:l.length≤100000000):Ev (fun k=>impl_growingCode.f k d l) 1:=by
  unfold impl_growingCode.f
  refine Ev.bind (ev_orderCode d l hl) ?_
  have e:Tr.codeO d l=1:=by unfold Tr.codeO;simp [h]
  rw [e];exact evneg (by omega) (Ev.now _)
theorem ev_growingCode {d:List Int} {t:Tr.F} (h:Tr.Tree d t) (l:List Int) (hl:l.length≤100000000):Ev (fun k=>impl_growingCode.f k d l) (Tr.codeG d l t):=by
  unfold impl_growingCode.f
  refine Ev.bind (ev_orderCode d l hl) ?_
  unfold Tr.codeO Tr.codeG
  rw [if_pos h.isT]
  by_cases ho:Tr.isOrd d.length l
  · rw [if_pos ho,if_pos ho]
    refine evpos rfl (Ev.bind (ev_isGrowing h ho) ?_)
    cases hg:Tr.growing t l with
    | true=>exact evpos rfl (evnow (by simp))
    | false=>exact evneg (by simp) (evnow (by simp))
  · rw [if_neg ho,if_neg ho]
    exact evneg (by omega) (Ev.now _)
theorem ev_IsGrowing (d l:List Int) (hl:l.length≤100000000):∃ r:Bool × Int,Ev (fun k=>spec_IsGrowing.f k d l) r∧Ev (fun k=>impl_IsGrowing.f k d l) r:=by
  rcases Tr.isT_cases d with h|⟨t,h⟩
  · refine ⟨(false,1),?_,?_⟩
    · unfold spec_IsGrowing.f;exact Ev.bind (ev_l09Code_bad h l) (evneg (by omega) (evnow (by simp)))
    · unfold impl_IsGrowing.f
      refine Ev.bind (ev_orderCode d l hl) ?_
      have e:Tr.codeO d l=1:=by unfold Tr.codeO;simp [h]
      rw [e];exact evneg (by omega) (Ev.now _)
  · refine ⟨if Tr.isOrd d.length l then (Tr.growing t l,0) else (false,2),?_,?_⟩
    · unfold spec_IsGrowing.f
      refine Ev.bind (ev_l09Code h l hl) ?_
      unfold Tr.codeG
      by_cases ho:Tr.isOrd d.length l
      · rw [if_pos ho,if_pos ho]
        cases hg:Tr.growing t l with
        | true=>exact evneg (by simp) (evnow (by simp))
        | false=>exact evpos (by simp) (evnow (by simp))
      · rw [if_neg ho,if_neg ho]
        exact evneg (by omega) (evnow (by simp))
    · unfold impl_IsGrowing.f
      refine Ev.bind (ev_orderCode d l hl) ?_
      unfold Tr.codeO
      rw [if_pos h.isT]
      by_cases ho:Tr.isOrd d.length l
      · rw [if_pos ho,if_pos ho]
        exact evpos rfl (Ev.bind (ev_isGrowing h ho) (Ev.now _))
      · rw [if_neg ho,if_neg ho]
        exact evneg (by omega) (Ev.now _)
theorem ev_LabelsOf_l0 {n:Nat} {l:List Int} (ho:Tr.isOrd n l) (hn:n≤1000):∀ (r pre out:List Int),l=pre++r→out.length=n→(∀ v:Nat,v<n→(v:Int)∈pre→rd out (v:Int)=Tr.idx (v:Int) l 0) →
    Ev (fun k=>spec_LabelsOf.l0 k l out (pre.length:Int)) (Tr.labels l n,0):=by
  intro r
  induction r with
  | nil =>
    intro pre out hl hol hout
    have:=ho.1
    refine Ev_succ ?_
    simp only [spec_LabelsOf.l0]
    rw [List.append_nil] at hl
    refine evneg (by rw [← hl];omega) (evnow ?_)
    congr 1
    refine Tr.each_eq hol (fun v hv=>hout v hv ?_)
    rw [← hl];exact (Tr.isOrd_mem ho).mpr (by omega)
  | cons x r ih =>
    intro pre out hl hol hout
    have hlen:=ho.1
    have hll:l.length=pre.length+(r.length+1):=by rw [hl];simp
    have e:rd l (pre.length:Int)=x:=by rw [hl,Tr.rd_app0];exact Tr.rd_cons0 _ _
    have e3:wrap64 ((pre.length:Int)+1)=((pre++[x]).length:Int):=by rw [Tr.wrap_id (by omega) (by omega)];simp
    have hx:=ho.2.2 x (by rw [hl];simp)
    have hnx:x∉pre:=by
      have:=ho.2.1
      rw [hl,List.nodup_append] at this
      intro hxa
      exact this.2.2 x hxa x (by simp) rfl
    refine Ev_succ ?_
    simp only [spec_LabelsOf.l0]
    refine evpos (by omega) (evpos (by omega) ?_)
    rw [e,e3]
    refine evpos (by omega) (evpos (by omega) ?_)
    refine ih (pre++[x]) _ (by rw [hl];simp) (by simpa using hol) (fun v hv hm=>?_)
    rw [Tr.rd_set (by omega) hx.1]
    by_cases hxv:x=(v:Int)
    · rw [if_pos hxv,hl,← hxv,Tr.idx_at hnx]
    · rw [if_neg hxv]
      refine hout v hv ?_
      simp only [List.mem_append,List.mem_singleton] at hm
      rcases hm with hm|hm
      · exact hm
      · exact absurd hm.symm hxv
theorem ev_LabelsOf (d l:List Int) (hl:l.length≤100000000):∃ r:List Int × Int,Ev (fun k=>spec_LabelsOf.f k d l) r∧Ev (fun k=>impl_LabelsOf.f k d l) r∧r.1.length≤1000:=by
  rcases Tr.isT_cases d with h|⟨t,h⟩
  · refine ⟨([],1),?_,?_,by simp⟩
    · unfold spec_LabelsOf.f;exact Ev.bind (ev_l09Code_bad h l) (evneg (by omega) (Ev.now _))
    · unfold impl_LabelsOf.f;exact Ev.bind (ev_growingCode_bad h l hl) (evneg (by omega) (Ev.now _))
  · have hle:=h.le
    by_cases hc:Tr.codeG d l t=0
    · have ho:=(Tr.codeG_zero.mp hc).1
      have hol:=ho.1
      refine ⟨(Tr.labels l d.length,0),?_,?_,?_⟩
      · unfold spec_LabelsOf.f
        refine Ev.bind (ev_l09Code h l hl) (evpos hc (evpos (by omega) (evpos (by omega) ?_)))
        have:=ev_LabelsOf_l0 ho (by omega) l [] (List.replicate (l.length:Int).toNat 0) rfl (by simp;omega) (fun v _ hm=>absurd hm (by simp))
        simpa using this
      · unfold impl_LabelsOf.f
        exact Ev.bind (ev_growingCode h l hl) (evpos hc (Ev.bind (ev_labelsOf ho (by omega)) (Ev.now _)))
      · show (Tr.labels l d.length).length≤1000
        rw [show (Tr.labels l d.length).length=d.length from Tr.each_len _ _];omega
    · refine ⟨([],Tr.codeG d l t),?_,?_,by simp⟩
      · unfold spec_LabelsOf.f;exact Ev.bind (ev_l09Code h l hl) (evneg hc (Ev.now _))
      · unfold impl_LabelsOf.f;exact Ev.bind (ev_growingCode h l hl) (evneg hc (Ev.now _))
theorem ev_BreaksOf_spec (l:List Int) (hl:l.length≤1000):∀ (m i:Nat) (out:List Int),i+m+1=l.length→out.length≤i →
    Ev (fun k=>spec_BreaksOf.l0 k l out (i:Int)) (out++Tr.breaks l m i,0):=by
  intro m
  induction m with
  | zero =>
    intro i out hi ho
    refine Ev_succ ?_
    simp only [spec_BreaksOf.l0]
    rw [Tr.wrap_succ (by omega)]
    exact evneg (by omega) (evnow (by simp [Tr.breaks]))
  | succ m ih =>
    intro i out hi ho
    refine Ev_succ ?_
    simp only [spec_BreaksOf.l0,Tr.breaks]
    rw [Tr.wrap_succ (by omega)]
    refine evpos (by omega) (evpos (by omega) (evpos (by omega) (evpos (by omega) ?_)))
    by_cases hq:rd l (i:Int)>rd l ((i+1:Nat):Int)
    · rw [if_pos hq]
      refine evpos hq (evpos (by omega) ?_)
      have:=ih (i+1) (out++[(i:Int)]) (by omega) (by simp;omega)
      simpa using this
    · rw [if_neg hq]
      exact evneg hq (ih (i+1) out (by omega) (by omega))
theorem ev_BreaksOf_impl (l:List Int) (hl:l.length≤1000):∀ (m i:Nat) (out:List Int),i+m+1=l.length→out.length≤i →
    Ev (fun k=>impl_BreaksOf.l0 k l out (i:Int)) (out++Tr.breaks l m i,0):=by
  intro m
  induction m with
  | zero =>
    intro i out hi ho
    refine Ev_succ ?_
    simp only [impl_BreaksOf.l0]
    rw [Tr.wrap_succ (by omega)]
    exact evneg (by omega) (evnow (by simp [Tr.breaks]))
  | succ m ih =>
    intro i out hi ho
    refine Ev_succ ?_
    simp only [impl_BreaksOf.l0,Tr.breaks]
    rw [Tr.wrap_succ (by omega)]
    refine evpos (by omega) (evpos (by omega) (evpos (by omega) (evpos (by omega) ?_)))
    by_cases hq:rd l (i:Int)>rd l ((i+1:Nat):Int)
    · rw [if_pos hq]
      refine evpos hq (evpos (by omega) ?_)
      have:=ih (i+1) (out++[(i:Int)]) (by omega) (by simp;omega)
      simpa using this
    · rw [if_neg hq]
      exact evneg hq (ih (i+1) out (by omega) (by omega))
theorem ev_BreaksOf (d l:List Int) (hl:l.length≤100000000):∃ r:List Int × Int,Ev (fun k=>spec_BreaksOf.f k d l) r∧Ev (fun k=>impl_BreaksOf.f k d l) r∧r.1.length≤1000:=by
  rcases Tr.isT_cases d with h|⟨t,h⟩
  · refine ⟨([],1),?_,?_,by simp⟩
    · unfold spec_BreaksOf.f;exact Ev.bind (ev_l09Code_bad h l) (evneg (by omega) (Ev.now _))
    · unfold impl_BreaksOf.f;exact Ev.bind (ev_growingCode_bad h l hl) (evneg (by omega) (Ev.now _))
  · have hle:=h.le
    have hpos:=h.pos
    have hlen:=h.len
    by_cases hc:Tr.codeG d l t=0
    · have ho:=(Tr.codeG_zero.mp hc).1
      have hol:=ho.1
      refine ⟨(Tr.breaks l (l.length - 1) 0,0),?_,?_,?_⟩
      · unfold spec_BreaksOf.f
        refine Ev.bind (ev_l09Code h l hl) (evpos hc ?_)
        have:=ev_BreaksOf_spec l (by omega) (l.length - 1) 0 [] (by omega) (by simp)
        simpa using this
      · unfold impl_BreaksOf.f
        refine Ev.bind (ev_growingCode h l hl) (evpos hc ?_)
        have:=ev_BreaksOf_impl l (by omega) (l.length - 1) 0 [] (by omega) (by simp)
        simpa using this
      · have:=Tr.breaks_len l (l.length - 1) 0
        show (Tr.breaks l (l.length - 1) 0).length≤1000
        omega
    · refine ⟨([],Tr.codeG d l t),?_,?_,by simp⟩
      · unfold spec_BreaksOf.f;exact Ev.bind (ev_l09Code h l hl) (evneg hc (Ev.now _))
      · unfold impl_BreaksOf.f;exact Ev.bind (ev_growingCode h l hl) (evneg hc (Ev.now _))
theorem bne_dec (x y:Int):(x != y)=!decide (x=y):=by
  by_cases h:x=y
  · simp [h]
  · simp [h]
theorem ev_l09Free {d:List Int} {t:Tr.F} (h:Tr.Tree d t) {l:List Int} (ho:Tr.isOrd d.length l) (i:Nat) (hi:i+1<l.length):Ev (fun k=>spec_l09Free.f k d l (i:Int)) (!decide (rd (Tr.parentsL t) (rd l ((i+1:Nat):Int))=rd l (i:Int))):=by
  have hle:=h.le
  have hol:=ho.1
  have hlen:=h.len
  unfold spec_l09Free.f
  refine Ev.bind (ev_l01Parents h) ?_
  have hpl:(Tr.parentsL t).length=t.size:=Tr.each_len _ _
  have hq:=Tr.isOrd_rd ho (i:=i+1) (by omega)
  rw [Tr.wrap_succ (by omega),hpl]
  refine evpos (by omega) (evpos (by omega) (evpos (by omega) (evpos (by omega) (evpos (by omega) (evpos (by omega) (evnow ?_))))))
  exact bne_dec _ _
theorem ev_FreePlaces_spec {d:List Int} {t:Tr.F} (h:Tr.Tree d t) {l:List Int} (ho:Tr.isOrd d.length l):∀ (m i:Nat) (out:List Int),i+m+1=l.length→out.length≤i →
    Ev (fun k=>spec_FreePlaces.l0 k l out (i:Int) d) (out++Tr.frees (Tr.parentsL t) l m i,0):=by
  have hle:=h.le
  have hol:=ho.1
  intro m
  induction m with
  | zero =>
    intro i out hi hO
    refine Ev_succ ?_
    simp only [spec_FreePlaces.l0]
    rw [Tr.wrap_succ (by omega)]
    exact evneg (by omega) (evnow (by simp [Tr.frees]))
  | succ m ih =>
    intro i out hi hO
    refine Ev_succ ?_
    simp only [spec_FreePlaces.l0,Tr.frees]
    rw [Tr.wrap_succ (by omega)]
    refine evpos (by omega) (Ev.bind (ev_l09Free h ho i (by omega)) ?_)
    by_cases hq:rd (Tr.parentsL t) (rd l ((i+1:Nat):Int))=rd l (i:Int)
    · rw [if_pos hq]
      exact evneg (by simpa using hq) (ih (i+1) out (by omega) (by omega))
    · rw [if_neg hq]
      refine evpos (by simpa using hq) (evpos (by omega) ?_)
      have:=ih (i+1) (out++[(i:Int)]) (by omega) (by simp;omega)
      simpa using this
theorem ev_FreePlaces_impl {d:List Int} {t:Tr.F} (h:Tr.Tree d t) {l:List Int} (ho:Tr.isOrd d.length l):∀ (m i:Nat) (out:List Int),i+m+1=l.length→out.length≤i →
    Ev (fun k=>impl_FreePlaces.l0 k l (Tr.parentsL t) out (i:Int)) (out++Tr.frees (Tr.parentsL t) l m i,0):=by
  have hle:=h.le
  have hol:=ho.1
  have hlen:=h.len
  have hpl:(Tr.parentsL t).length=t.size:=Tr.each_len _ _
  intro m
  induction m with
  | zero =>
    intro i out hi hO
    refine Ev_succ ?_
    simp only [impl_FreePlaces.l0]
    rw [Tr.wrap_succ (by omega)]
    exact evneg (by omega) (evnow (by simp [Tr.frees]))
  | succ m ih =>
    intro i out hi hO
    have hq:=Tr.isOrd_rd ho (i:=i+1) (by omega)
    refine Ev_succ ?_
    simp only [impl_FreePlaces.l0,Tr.frees]
    rw [Tr.wrap_succ (by omega),hpl]
    refine evpos (by omega) (evpos (by omega) (evpos (by omega) (evpos (by omega) (evpos (by omega) (evpos (by omega) ?_)))))
    by_cases hq:rd (Tr.parentsL t) (rd l ((i+1:Nat):Int))=rd l (i:Int)
    · rw [if_pos hq]
      exact evpos hq (ih (i+1) out (by omega) (by omega))
    · rw [if_neg hq]
      refine evneg hq (evpos (by omega) ?_)
      have:=ih (i+1) (out++[(i:Int)]) (by omega) (by simp;omega)
      simpa using this
theorem ev_FreePlaces (d l:List Int) (hl:l.length≤100000000):∃ r:List Int × Int,Ev (fun k=>spec_FreePlaces.f k d l) r∧Ev (fun k=>impl_FreePlaces.f k d l) r∧r.1.length≤1000:=by
  rcases Tr.isT_cases d with h|⟨t,h⟩
  · refine ⟨([],1),?_,?_,by simp⟩
    · unfold spec_FreePlaces.f;exact Ev.bind (ev_l09Code_bad h l) (evneg (by omega) (Ev.now _))
    · unfold impl_FreePlaces.f;exact Ev.bind (ev_growingCode_bad h l hl) (evneg (by omega) (Ev.now _))
  · have hle:=h.le
    have hpos:=h.pos
    have hlen:=h.len
    by_cases hc:Tr.codeG d l t=0
    · have ho:=(Tr.codeG_zero.mp hc).1
      have hol:=ho.1
      refine ⟨(Tr.frees (Tr.parentsL t) l (l.length - 1) 0,0),?_,?_,?_⟩
      · unfold spec_FreePlaces.f
        refine Ev.bind (ev_l09Code h l hl) (evpos hc ?_)
        have:=ev_FreePlaces_spec h ho (l.length - 1) 0 [] (by omega) (by simp)
        simpa using this
      · unfold impl_FreePlaces.f
        refine Ev.bind (ev_growingCode h l hl) (evpos hc (Ev.bind (ev_parentsOf h) ?_))
        have:=ev_FreePlaces_impl h ho (l.length - 1) 0 [] (by omega) (by simp)
        simpa using this
      · have:=Tr.frees_len (Tr.parentsL t) l (l.length - 1) 0
        show (Tr.frees (Tr.parentsL t) l (l.length - 1) 0).length≤1000
        omega
    · refine ⟨([],Tr.codeG d l t),?_,?_,by simp⟩
      · unfold spec_FreePlaces.f;exact Ev.bind (ev_l09Code h l hl) (evneg hc (Ev.now _))
      · unfold impl_FreePlaces.f;exact Ev.bind (ev_growingCode h l hl) (evneg hc (Ev.now _))
theorem ev_ExchV (d l:List Int) (a:Int) (hl:l.length≤100000000):∃ r:List Int × Int,Ev (fun k=>spec_ExchangeAt.f k d l a) r∧Ev (fun k=>impl_ExchangeAt.f k d l a) r∧r.1.length≤1000∧(r.2=0→∃ (t:Tr.F) (i:Nat),Tr.Tree d t∧a=i∧Tr.isOrd d.length l∧i+1<l.length∧Tr.growing t l=true∧¬ rd (Tr.parentsL t) (rd l ((i+1:Nat):Int))=rd l (i:Int)∧r.1=(l.set i (rd l ((i+1:Nat):Int))).set (i+1) (rd l (i:Int))):=by
  rcases Tr.isT_cases d with h|⟨t,h⟩
  · refine ⟨([],1),?_,?_,by simp,fun h=>absurd h (by decide)⟩
    · unfold spec_ExchangeAt.f;exact Ev.bind (ev_l01Is d) (evneg (by simp [h]) (Ev.now _))
    · unfold impl_ExchangeAt.f
      refine Ev.bind (ev_orderCode d l hl) ?_
      have e:Tr.codeO d l=1:=by unfold Tr.codeO;simp [h]
      rw [e];exact evneg (by omega) (Ev.now _)
  have hle:=h.le
  have hlen:=h.len
  by_cases ho:Tr.isOrd d.length l
  · have hol:=ho.1
    have hcO:Tr.codeO d l=0:=by unfold Tr.codeO;rw [if_pos h.isT,if_pos ho]
    by_cases hr:0≤a∧a≤(l.length:Int) - 2
    · obtain ⟨i,rfl⟩:=Int.eq_ofNat_of_zero_le hr.1
      have hi:i+1<l.length:=by omega
      have goS:∀ r,Ev (fun k=>spec_ExchangeAt.j0 k l (i:Int) false d) r→Ev (fun k=>spec_ExchangeAt.f k d l (i:Int)) r:=by
        intro r hr'
        unfold spec_ExchangeAt.f
        refine Ev.bind (ev_l01Is d) (evpos h.isT (Ev.bind (ev_l09Order d (by omega) l hl) (evpos (by simpa using ho) ?_)))
        rw [l01In_eq,Tr.wrap_id (by omega) (by omega)]
        refine evsome ?_
        rw [decide_eq_true (by omega:(0:Int)≤(i:Int)∧(i:Int)≤(l.length:Int) - 2)]
        exact hr'
      have goI:∀ r,Ev (fun k=>impl_ExchangeAt.j0 k l (i:Int) false d) r→Ev (fun k=>impl_ExchangeAt.f k d l (i:Int)) r:=by
        intro r hr'
        unfold impl_ExchangeAt.f
        refine Ev.bind (ev_orderCode d l hl) (evpos hcO (evneg (by omega) ?_))
        rw [Tr.wrap_id (by omega) (by omega),decide_eq_false (by omega)]
        exact hr'
      cases hg:Tr.growing t l with
      | false =>
        refine ⟨([],5),goS _ (Ev_succ ?_),goI _ (Ev_succ ?_),by simp,fun h=>absurd h (by decide)⟩
        · simp only [spec_ExchangeAt.j0]
          exact evneg (by simp) (Ev.bind (ev_l09Growing h ho) (evneg (by simp [hg]) (Ev.now _)))
        · simp only [impl_ExchangeAt.j0]
          exact evneg (by simp) (Ev.bind (ev_isGrowing h ho) (evneg (by simp [hg]) (Ev.now _)))
      | true =>
        have hq:=Tr.isOrd_rd ho (i:=i+1) (by omega)
        have hpl:(Tr.parentsL t).length=t.size:=Tr.each_len _ _
        by_cases hf:rd (Tr.parentsL t) (rd l ((i+1:Nat):Int))=rd l (i:Int)
        · refine ⟨([],5),goS _ (Ev_succ ?_),goI _ (Ev_succ ?_),by simp,fun h=>absurd h (by decide)⟩
          · simp only [spec_ExchangeAt.j0]
            exact evneg (by simp) (Ev.bind (ev_l09Growing h ho) (evpos hg (Ev.bind (ev_l09Free h ho i hi) (evneg (by simpa using hf) (Ev.now _)))))
          · simp only [impl_ExchangeAt.j0]
            rw [Tr.wrap_succ (by omega)]
            refine evneg (by simp) (Ev.bind (ev_isGrowing h ho) (evpos hg (Ev.bind (ev_parentsOf h) ?_)))
            rw [hpl]
            exact evpos (by omega) (evpos (by omega) (evpos (by omega) (evpos (by omega) (evpos (by omega) (evpos (by omega) (evpos hf (Ev.now _)))))))
        · refine ⟨((l.set (i:Int).toNat (rd l ((i+1:Nat):Int))).set (((i+1:Nat):Int)).toNat (rd l (i:Int)),0),goS _ (Ev_succ ?_),goI _ (Ev_succ ?_),?_,fun _=>⟨t,i,h,rfl,ho,hi,hg,hf,rfl⟩⟩
          · simp only [spec_ExchangeAt.j0]
            refine evneg (by simp) (Ev.bind (ev_l09Growing h ho) (evpos hg (Ev.bind (ev_l09Free h ho i hi) (evpos (by simpa using hf) ?_))))
            rw [l01Own_eq l (by omega),Tr.wrap_succ (by omega)]
            refine evsome ?_
            exact evpos (by omega) (evpos (by omega) (evpos (by omega) (evpos (by omega) (evpos (by omega) (evpos (by omega) (Ev.now _))))))
          · simp only [impl_ExchangeAt.j0]
            rw [Tr.wrap_succ (by omega)]
            refine evneg (by simp) (Ev.bind (ev_isGrowing h ho) (evpos hg (Ev.bind (ev_parentsOf h) ?_)))
            rw [hpl,show slices_Clone.f l=some l by unfold slices_Clone.f;rw [if_pos hl]]
            refine evpos (by omega) (evpos (by omega) (evpos (by omega) (evpos (by omega) (evpos (by omega) (evpos (by omega) (evneg hf ?_))))))
            refine evsome ?_
            exact evpos (by omega) (evpos (by omega) (Ev.now _))
          · simp only [List.length_set];omega
    · refine ⟨([],2),?_,?_,by simp,fun h=>absurd h (by decide)⟩
      · unfold spec_ExchangeAt.f
        refine Ev.bind (ev_l01Is d) (evpos h.isT (Ev.bind (ev_l09Order d (by omega) l hl) (evpos (by simpa using ho) ?_)))
        rw [l01In_eq,Tr.wrap_id (by omega) (by omega)]
        refine evsome (Ev_succ ?_)
        simp only [spec_ExchangeAt.j0]
        exact evpos (by first|(simp;omega)|(simpa using hr)) (Ev.now _)
      · unfold impl_ExchangeAt.f
        refine Ev.bind (ev_orderCode d l hl) (evpos hcO ?_)
        rw [Tr.wrap_id (by omega) (by omega)]
        by_cases h0:a<0
        · refine evpos h0 (Ev_succ ?_)
          simp only [impl_ExchangeAt.j0]
          exact evpos trivial (Ev.now _)
        · refine evneg h0 (Ev_succ ?_)
          simp only [impl_ExchangeAt.j0]
          exact evpos (by simp;omega) (Ev.now _)
  · refine ⟨([],2),?_,?_,by simp,fun h=>absurd h (by decide)⟩
    · unfold spec_ExchangeAt.f
      refine Ev.bind (ev_l01Is d) (evpos h.isT (Ev.bind (ev_l09Order d (by omega) l hl) (evneg (by simpa using ho) (Ev_succ ?_))))
      simp only [spec_ExchangeAt.j0]
      exact evpos trivial (Ev.now _)
    · unfold impl_ExchangeAt.f
      have hcO:Tr.codeO d l=2:=by unfold Tr.codeO;rw [if_pos h.isT,if_neg ho]
      refine Ev.bind (ev_orderCode d l hl) ?_
      rw [hcO]
      exact evneg (by omega) (Ev.now _)
theorem ev_l09Fill_least {d:List Int} {t:Tr.F} (h:Tr.Tree d t):∀ (m:Nat) (b:List Int),b.length+m=t.size→(∀ c∈b,0≤c∧c<t.size)→Ev (fun k=>spec_l09Fill.l0 k true b d) (Tr.fillL t m b):=by
  have hle:=h.le
  have hlen:=h.len
  intro m
  induction m with
  | zero =>
    intro b hb _
    refine Ev_succ ?_
    simp only [spec_l09Fill.l0,l01N_eq]
    exact evsome (evneg (by omega) (Ev.now _))
  | succ m ih =>
    intro b hb hr
    have hp:=Tr.nxt_pos h (beg:=b) (by omega)
    have hx:=Tr.rd_range hp
    refine Ev_succ ?_
    simp only [spec_l09Fill.l0,l01N_eq]
    refine evsome (evpos (by omega) (Ev.bind (ev_l09Next h hr (by omega)) (evpos (by simp) (evpos (by omega) (evpos (by omega) ?_)))))
    exact ih (b++[rd (Tr.nxt t b) 0]) (by simp;omega) (by
      intro c hc
      simp only [List.mem_append,List.mem_singleton] at hc
      rcases hc with hc|rfl
      · exact hr c hc
      · exact hx)
theorem ev_NextGrowing_l2 {d:List Int} {t:Tr.F} (h:Tr.Tree d t) (L:List Int) (hL:L.length=t.size):∀ (m:Nat) (b:List Int),b.length+m=t.size→(∀ c∈b,0≤c∧c<t.size)→Ev (fun k=>impl_NextGrowing.l2 k L b d) (Tr.fillL t m b,0):=by
  have hle:=h.le
  have hlen:=h.len
  intro m
  induction m with
  | zero =>
    intro b hb _
    refine Ev_succ ?_
    simp only [impl_NextGrowing.l2]
    exact evneg (by omega) (Ev.now _)
  | succ m ih =>
    intro b hb hr
    have hp:=Tr.nxt_pos h (beg:=b) (by omega)
    have hx:=Tr.rd_range hp
    refine Ev_succ ?_
    simp only [impl_NextGrowing.l2]
    refine evpos (by omega) (Ev.bind (ev_nexts h b (by omega)) (evpos (by omega) (evpos (by omega) ?_)))
    exact ih (b++[rd (Tr.nxt t b) 0]) (by simp;omega) (by
      intro c hc
      simp only [List.mem_append,List.mem_singleton] at hc
      rcases hc with hc|rfl
      · exact hr c hc
      · exact hx)
theorem ev_NextGrowing_s1 {d:List Int} {t:Tr.F} (h:Tr.Tree d t) {L:List Int} (ho:Tr.isOrd t.size L) {i:Nat} (hi:i<t.size) {R:List Int × Int} (hR:Ev (fun k=>spec_NextGrowing.l0 k L ((i:Int) - 1) d) R):∀ (l pre:List Int),pre++l=Tr.nxt t (L.take i) →
    Ev (fun k=>spec_NextGrowing.l1 k L (i:Int) (pre++l) (pre.length:Int) d) (match Tr.firstGt (rd L (i:Int)) l with|some v=>(Tr.fillL t (t.size - (i+1)) (L.take i++[v]),0)|none=>R):=by
  have hle:=h.le
  have hlen:=h.len
  have hol:=ho.1
  intro l
  induction l with
  | nil =>
    intro pre _
    refine Ev_succ ?_
    simp only [spec_NextGrowing.l1]
    rw [Tr.wrap_id (x:=(i:Int) - 1) (by omega) (by omega)]
    refine evneg (by simp) ?_
    exact hR
  | cons v l ih =>
    intro pre hpre
    have hnl:=Tr.nxt_len t (L.take i)
    rw [← hpre] at hnl
    simp only [List.length_append,List.length_cons] at hnl
    have e:rd (pre++v :: l) (pre.length:Int)=v:=by rw [Tr.rd_app0];exact Tr.rd_cons0 _ _
    have hv:0≤v∧v<t.size:=Tr.nxt_range (t:=t) (beg:=L.take i) (by rw [← hpre];simp)
    have e3:wrap64 ((pre.length:Int)+1)=((pre++[v]).length:Int):=by rw [Tr.wrap_id (by omega) (by omega)];simp
    refine Ev_succ ?_
    simp only [spec_NextGrowing.l1,Tr.firstGt]
    rw [e,e3,Int.toNat_natCast]
    refine evpos (by simp;omega) (evpos (by omega) (evpos (by omega) (evpos (by omega) ?_)))
    by_cases hvx:v≤rd L (i:Int)
    · refine evneg (by omega) ?_
      rw [if_pos hvx]
      have:=ih (pre++[v]) (by simpa using hpre)
      simpa using this
    · refine evpos (by omega) (evpos (by omega) ?_)
      rw [if_neg hvx,l01Own_eq _ (by simp;omega)]
      refine evsome (evsome (evpos (by simp;omega) ?_))
      refine Ev.bind (a:=Tr.fillL t (t.size - (i+1)) (L.take i++[v])) ?_ (Ev.now _)
      unfold spec_l09Fill.f
      rw [l01Own_eq _ (by simp;omega)]
      refine evsome (ev_l09Fill_least h _ _ (by simp;omega) ?_)
      intro c hc
      simp only [List.mem_append,List.mem_singleton] at hc
      rcases hc with hc|rfl
      · exact ho.2.2 c (List.mem_of_mem_take hc)
      · exact hv
theorem ev_NextGrowing_i1 {d:List Int} {t:Tr.F} (h:Tr.Tree d t) {L:List Int} (ho:Tr.isOrd t.size L) {i:Nat} (hi:i<t.size) {R:List Int × Int} (hR:Ev (fun k=>impl_NextGrowing.l0 k L ((i:Int) - 1) d) R):∀ (l pre:List Int) (n:Int),pre++l=Tr.nxt t (L.take i)→n=((pre++l).length:Int) →
    Ev (fun k=>impl_NextGrowing.l1 k L (i:Int) (pre++l) n (pre.length:Int) d) (match Tr.firstGt (rd L (i:Int)) l with|some v=>(Tr.fillL t (t.size - (i+1)) (L.take i++[v]),0)|none=>R):=by
  have hle:=h.le
  have hlen:=h.len
  have hol:=ho.1
  intro l
  induction l with
  | nil =>
    intro pre n _ hn
    refine Ev_succ ?_
    simp only [impl_NextGrowing.l1]
    rw [Tr.wrap_id (x:=(i:Int) - 1) (by omega) (by omega)]
    refine evneg (by rw [hn];simp) ?_
    exact hR
  | cons v l ih =>
    intro pre n hpre hn
    have hnl:=Tr.nxt_len t (L.take i)
    rw [← hpre] at hnl
    have hn':=hn
    simp only [List.length_append,List.length_cons] at hnl hn
    have e:rd (pre++v :: l) (pre.length:Int)=v:=by rw [Tr.rd_app0];exact Tr.rd_cons0 _ _
    have hv:0≤v∧v<t.size:=Tr.nxt_range (t:=t) (beg:=L.take i) (by rw [← hpre];simp)
    have e3:wrap64 ((pre.length:Int)+1)=((pre++[v]).length:Int):=by rw [Tr.wrap_id (by omega) (by omega)];simp
    refine Ev_succ ?_
    simp only [impl_NextGrowing.l1,Tr.firstGt]
    rw [e,e3,Int.toNat_natCast]
    refine evpos (by omega) (evpos (by omega) (evpos (by simp;omega) (evpos (by omega) (evpos (by omega) ?_))))
    by_cases hvx:v≤rd L (i:Int)
    · refine evpos hvx ?_
      rw [if_pos hvx]
      have:=ih (pre++[v]) n (by simpa using hpre) (by rw [hn'];simp)
      simpa using this
    · refine evneg hvx (evpos (by omega) ?_)
      rw [if_neg hvx,show slices_Clone.f (L.take i)=some (L.take i) by unfold slices_Clone.f;rw [if_pos (by simp;omega)]]
      refine evsome (evpos (by simp;omega) ?_)
      refine ev_NextGrowing_l2 h L hol _ _ (by simp;omega) ?_
      intro c hc
      simp only [List.mem_append,List.mem_singleton] at hc
      rcases hc with hc|rfl
      · exact ho.2.2 c (List.mem_of_mem_take hc)
      · exact hv
theorem ev_NextGrowing_l0 {d:List Int} {t:Tr.F} (h:Tr.Tree d t) {L:List Int} (ho:Tr.isOrd t.size L):∀ i:Nat,i≤t.size →
    Ev (fun k=>spec_NextGrowing.l0 k L ((i:Int) - 1) d) (Tr.nextG t L i)∧Ev (fun k=>impl_NextGrowing.l0 k L ((i:Int) - 1) d) (Tr.nextG t L i):=by
  have hle:=h.le
  have hlen:=h.len
  have hol:=ho.1
  intro i
  induction i with
  | zero =>
    intro _
    refine ⟨Ev_succ ?_,Ev_succ ?_⟩
    · simp only [spec_NextGrowing.l0]
      exact evneg (by simp) (Ev.now _)
    · simp only [impl_NextGrowing.l0]
      exact evneg (by simp) (Ev.now _)
  | succ i ih =>
    intro hi
    obtain ⟨h1,h2⟩:=ih (by omega)
    have e:((i+1:Nat):Int) - 1=(i:Int):=by omega
    have hb:∀ c∈L.take i,0≤c∧c<t.size:=fun c hc=>ho.2.2 c (List.mem_of_mem_take hc)
    rw [e]
    refine ⟨Ev_succ ?_,Ev_succ ?_⟩
    · simp only [spec_NextGrowing.l0]
      rw [Int.toNat_natCast]
      refine evpos (by omega) (evpos (by omega) (evpos (by omega) (Ev.bind (ev_l09Next h hb (by simp;omega)) ?_)))
      exact ev_NextGrowing_s1 h ho (by omega) h1 (Tr.nxt t (L.take i)) [] rfl
    · simp only [impl_NextGrowing.l0]
      rw [Int.toNat_natCast]
      refine evpos (by omega) (evpos (by omega) (evpos (by omega) (Ev.bind (ev_nexts h _ (by simp;omega)) ?_)))
      exact ev_NextGrowing_i1 h ho (by omega) h2 (Tr.nxt t (L.take i)) [] _ rfl rfl
theorem Tr_nextG_len (t:Tr.F) (L:List Int) (hL:t.size≤L.length):∀ i:Nat,i≤t.size→(Tr.nextG t L i).1.length≤t.size:=by
  intro i
  induction i with
  | zero=>intro _;simp [Tr.nextG]
  | succ i ih =>
    intro hi
    unfold Tr.nextG
    split
    · rw [Tr.fillL_len];simp;omega
    · exact ih (by omega)
theorem ev_NextGrowing (d l:List Int) (hl:l.length≤100000000):∃ r:List Int × Int,Ev (fun k=>spec_NextGrowing.f k d l) r∧Ev (fun k=>impl_NextGrowing.f k d l) r∧r.1.length≤1000:=by
  rcases Tr.isT_cases d with h|⟨t,h⟩
  · refine ⟨([],1),?_,?_,by simp⟩
    · unfold spec_NextGrowing.f;exact Ev.bind (ev_l09Code_bad h l) (evneg (by omega) (Ev.now _))
    · unfold impl_NextGrowing.f;exact Ev.bind (ev_growingCode_bad h l hl) (evneg (by omega) (Ev.now _))
  have hle:=h.le
  have hlen:=h.len
  by_cases hc:Tr.codeG d l t=0
  · have ho:Tr.isOrd t.size l:=by rw [← hlen];exact (Tr.codeG_zero.mp hc).1
    have hol:=ho.1
    obtain ⟨h1,h2⟩:=ev_NextGrowing_l0 h ho t.size (Nat.le_refl _)
    refine ⟨Tr.nextG t l t.size,?_,?_,?_⟩
    · unfold spec_NextGrowing.f
      refine Ev.bind (ev_l09Code h l hl) (evpos hc ?_)
      rw [Tr.wrap_id (by omega) (by omega),hol];exact h1
    · unfold impl_NextGrowing.f
      refine Ev.bind (ev_growingCode h l hl) (evpos hc ?_)
      rw [Tr.wrap_id (by omega) (by omega),hol];exact h2
    · have:=Tr_nextG_len t l (by omega) t.size (Nat.le_refl _);omega
  · refine ⟨([],Tr.codeG d l t),?_,?_,by simp⟩
    · unfold spec_NextGrowing.f;exact Ev.bind (ev_l09Code h l hl) (evneg hc (Ev.now _))
    · unfold impl_NextGrowing.f;exact Ev.bind (ev_growingCode h l hl) (evneg hc (Ev.now _))
theorem ev_cntS {d:List Int} {t:Tr.F} (h:Tr.Tree d t) (hs:t.size≤20) {beg:List Int} (hc:Tr.closed t beg) (hl:beg.length≤1000):Ev (fun k=>spec_l09Count.f k d beg) (Tr.cnt t beg:Int) :=
  ev_l09Count h hs (Tr.leftS t beg) beg hc.1 hl rfl (Tr.left_dvd h hc)
theorem others_eq {d:List Int} {t:Tr.F} (h:Tr.Tree d t) {beg:List Int} (hl:beg.length≤1000):impl_others.f d beg=some ((Tr.left t beg).map (fun v:Nat=>(v:Int))):=by
  have hle:=h.le
  have hlen:=h.len
  have hpos:=h.pos
  unfold impl_others.f
  rw [if_pos ⟨by omega,by omega,by omega⟩]
  congr 1
  unfold impl_others.upto Tr.left
  rw [List.filter_map,hlen]
  congr 1
  apply List.filter_congr
  intro v _
  simp [Function.comp]
theorem ev_cntW {d:List Int} {t:Tr.F} (h:Tr.Tree d t) (hs:t.size≤20) {beg:List Int} (hc:Tr.closed t beg):Ev (fun k=>impl_ways.f k (Tr.sizesL t) ((Tr.left t beg).map (fun v:Nat=>(v:Int)))) (Tr.cnt t beg:Int):=by
  have hll:(Tr.left t beg).length≤t.size:=by
    unfold Tr.left
    have:=List.length_filter_le (fun v:Nat=>decide (¬ (v:Int)∈beg)) (List.range t.size)
    simpa using this
  have hd:=Tr.left_dvd h hc
  have e:(Tr.leftS t beg).length=(Tr.left t beg).length:=by unfold Tr.leftS;simp
  have hw:=ev_ways (Tr.sizesL t) (fun v=>1+(t.sub v).size) (Tr.left t beg) (by omega) (fun v hv=>by
    have hv':v<t.size:=by
      have:=(List.mem_filter.1 hv).1
      simpa using this
    exact ⟨by rw [Tr.sizesL,Tr.each_len];exact hv',Tr.each_rd hv',by omega⟩) (by rw [← e];exact hd)
  unfold Tr.cnt
  rw [e]
  exact hw
theorem ev_RankOfGrowing_s1 {d:List Int} {t:Tr.F} (h:Tr.Tree d t) (hs:t.size≤20) {L:List Int} (ho:Tr.isOrd t.size L) (hg:Tr.growing t L=true) {i:Nat} (hi:i<t.size) {r:Int × Int}:∀ (l pre:List Int) (a:Int),pre++l=Tr.nxt t (L.take i)→rd L (i:Int)∈l→l.Pairwise (fun x y=>x<y) →
    Ev (fun k=>spec_RankOfGrowing.l0 k L (Tr.accIn t (L.take i) (rd L (i:Int)) l a) ((i+1:Nat):Int) d) r→Ev (fun k=>spec_RankOfGrowing.l1 k L a (i:Int) (pre++l) (pre.length:Int) d) r:=by
  have hle:=h.le
  have hlen:=h.len
  have hol:=ho.1
  intro l
  induction l with
  | nil=>intro pre a _ hm;simp at hm
  | cons v l ih =>
    intro pre a hpre hm hp hr
    have hnl:=Tr.nxt_len t (L.take i)
    rw [← hpre] at hnl
    simp only [List.length_append,List.length_cons] at hnl
    have e:rd (pre++v :: l) (pre.length:Int)=v:=by rw [Tr.rd_app0];exact Tr.rd_cons0 _ _
    have hvn:v∈Tr.nxt t (L.take i):=by rw [← hpre];simp
    have e3:wrap64 ((pre.length:Int)+1)=((pre++[v]).length:Int):=by rw [Tr.wrap_id (by omega) (by omega)];simp
    have e4:wrap64 ((i:Int)+1)=((i+1:Nat):Int):=Tr.wrap_succ (by omega)
    have hcl:=Tr.closed_next h (Tr.grows_closed h ho hg i) hvn
    rw [List.pairwise_cons] at hp
    refine Ev_succ ?_
    simp only [spec_RankOfGrowing.l1]
    rw [e,e3,e4,Int.toNat_natCast]
    clear e e3 e4
    refine evpos (by omega) (evpos (by simp;omega) (evpos (by omega) (evpos (by omega) ?_)))
    by_cases hx:v=rd L (i:Int)
    · refine evpos hx ?_
      rw [Tr.accIn,if_neg (by omega),Tr.accIn_ge _ _ _ _ _ (fun w hw=>by have:=hp.1 w hw;omega)] at hr
      exact hr
    · have hml:rd L (i:Int)∈l:=by
        rcases List.mem_cons.1 hm with q|q
        · exact absurd q.symm hx
        · exact q
      have hlt:=hp.1 _ hml
      refine evneg hx (evpos (by omega) ?_)
      rw [l01Own_eq _ (by simp;omega)]
      refine evsome (evsome (evpos (by simp;omega) (Ev.bind (ev_cntS h hs hcl (by simp;omega)) ?_)))
      rw [Tr.accIn,if_pos hlt] at hr
      have:=ih (pre++[v]) (wrap64 (a+(Tr.cnt t (L.take i++[v]):Int))) (by simpa using hpre) hml hp.2 hr
      simpa using this
theorem ev_RankOfGrowing_i1 {d:List Int} {t:Tr.F} (h:Tr.Tree d t) (hs:t.size≤20) {L:List Int} (ho:Tr.isOrd t.size L) (hg:Tr.growing t L=true) {i:Nat} (hi:i<t.size) (x30:List Int) (x31:Int) {r:Int × Int}:∀ (l pre:List Int) (a n:Int),pre++l=Tr.nxt t (L.take i)→n=((pre++l).length:Int) →
    Ev (fun k=>impl_RankOfGrowing.l0 k L d (Tr.accIn t (L.take i) (rd L (i:Int)) l a) (Tr.sizesL t) x30 x31 ((i+1:Nat):Int)) r→Ev (fun k=>impl_RankOfGrowing.l1 k L d a (Tr.sizesL t) (i:Int) (rd L (i:Int)) x30 x31 (i:Int) (pre++l) n (pre.length:Int)) r:=by
  have hle:=h.le
  have hlen:=h.len
  have hol:=ho.1
  intro l
  induction l with
  | nil =>
    intro pre a n _ hn hr
    refine Ev_succ ?_
    simp only [impl_RankOfGrowing.l1]
    rw [show wrap64 ((i:Int)+1)=((i+1:Nat):Int) from Tr.wrap_succ (by omega)]
    exact evneg (by rw [hn];simp) hr
  | cons v l ih =>
    intro pre a n hpre hn hr
    have hnl:=Tr.nxt_len t (L.take i)
    rw [← hpre] at hnl
    have hn':=hn
    simp only [List.length_append,List.length_cons] at hnl hn
    have e:rd (pre++v :: l) (pre.length:Int)=v:=by rw [Tr.rd_app0];exact Tr.rd_cons0 _ _
    have hvn:v∈Tr.nxt t (L.take i):=by rw [← hpre];simp
    have e3:wrap64 ((pre.length:Int)+1)=((pre++[v]).length:Int):=by rw [Tr.wrap_id (by omega) (by omega)];simp
    have hcl:=Tr.closed_next h (Tr.grows_closed h ho hg i) hvn
    refine Ev_succ ?_
    simp only [impl_RankOfGrowing.l1]
    rw [e,e3,Int.toNat_natCast]
    clear e e3
    refine evpos (by omega) (evpos (by omega) (evpos (by simp;omega) ?_))
    rw [Tr.accIn] at hr
    by_cases hx:v<rd L (i:Int)
    · rw [if_pos hx] at hr
      refine evpos hx (evpos (by omega) (evpos (by omega) ?_))
      rw [show slices_Clone.f (L.take i)=some (L.take i) by unfold slices_Clone.f;rw [if_pos (by simp;omega)]]
      refine evsome (evpos (by simp;omega) ?_)
      rw [others_eq h (by simp;omega)]
      refine evsome (Ev.bind (ev_cntW h hs hcl) ?_)
      have:=ih (pre++[v]) (wrap64 (a+(Tr.cnt t (L.take i++[v]):Int))) n (by simpa using hpre) (by rw [hn'];simp) hr
      simpa using this
    · rw [if_neg hx] at hr
      refine evneg hx ?_
      have:=ih (pre++[v]) a n (by simpa using hpre) (by rw [hn'];simp) hr
      simpa using this
theorem ev_RankOfGrowing_l0 {d:List Int} {t:Tr.F} (h:Tr.Tree d t) (hs:t.size≤20) {L:List Int} (ho:Tr.isOrd t.size L) (hg:Tr.growing t L=true):∀ (m i:Nat) (a:Int),i+m=t.size →
    Ev (fun k=>spec_RankOfGrowing.l0 k L a (i:Int) d) (Tr.rankFrom t L m i a,0)∧Ev (fun k=>impl_RankOfGrowing.l0 k L d a (Tr.sizesL t) L (L.length:Int) (i:Int)) (Tr.rankFrom t L m i a,0):=by
  have hle:=h.le
  have hlen:=h.len
  have hol:=ho.1
  intro m
  induction m with
  | zero =>
    intro i a hi
    refine ⟨Ev_succ ?_,Ev_succ ?_⟩
    · simp only [spec_RankOfGrowing.l0]
      exact evneg (by omega) (Ev.now _)
    · simp only [impl_RankOfGrowing.l0]
      exact evneg (by omega) (Ev.now _)
  | succ m ih =>
    intro i a hi
    obtain ⟨h1,h2⟩:=ih (i+1) (Tr.accIn t (L.take i) (rd L (i:Int)) (Tr.nxt t (L.take i)) a) (by omega)
    have hb:∀ c∈L.take i,0≤c∧c<t.size:=fun c hc=>ho.2.2 c (List.mem_of_mem_take hc)
    refine ⟨Ev_succ ?_,Ev_succ ?_⟩
    · simp only [spec_RankOfGrowing.l0]
      rw [Int.toNat_natCast]
      refine evpos (by omega) (evpos (by omega) (evpos (by omega) (Ev.bind (ev_l09Next h hb (by simp;omega)) ?_)))
      exact ev_RankOfGrowing_s1 h hs ho hg (by omega) (Tr.nxt t (L.take i)) [] a rfl (Tr.grows_next h ho hg (by omega)) (Tr.nxt_sorted _ _) h1
    · simp only [impl_RankOfGrowing.l0]
      rw [Int.toNat_natCast]
      refine evpos (by omega) (evpos (by omega) (evpos (by omega) (evpos (by omega) (Ev.bind (ev_nexts h _ (by simp;omega)) ?_))))
      exact ev_RankOfGrowing_i1 h hs ho hg (by omega) L (L.length:Int) (Tr.nxt t (L.take i)) [] a _ rfl rfl h2
theorem ev_RankV (d l:List Int) (hl:l.length≤100000000):∃ r:Int × Int,Ev (fun k=>spec_RankOfGrowing.f k d l) r∧Ev (fun k=>impl_RankOfGrowing.f k d l) r∧(r.2=0→∃ t,Tr.Tree d t∧t.size≤20∧Tr.isOrd t.size l∧Tr.growing t l=true∧r.1=Tr.rankFrom t l t.size 0 0):=by
  rcases Tr.isT_cases d with h|⟨t,h⟩
  · refine ⟨(0,1),?_,?_,fun h=>absurd h (by decide)⟩
    · unfold spec_RankOfGrowing.f
      refine Ev.bind (ev_l09Code_bad h l) (evneg (by omega) (Ev_succ ?_))
      simp only [spec_RankOfGrowing.j0]
      exact evneg (by omega) (Ev.now _)
    · unfold impl_RankOfGrowing.f;exact Ev.bind (ev_growingCode_bad h l hl) (evneg (by omega) (Ev.now _))
  have hle:=h.le
  have hlen:=h.len
  by_cases hc:Tr.codeG d l t=0
  · have ho:Tr.isOrd t.size l:=by rw [← hlen];exact (Tr.codeG_zero.mp hc).1
    have hg:=(Tr.codeG_zero.mp hc).2
    by_cases hs:t.size≤20
    · obtain ⟨h1,h2⟩:=ev_RankOfGrowing_l0 h hs ho hg t.size 0 0 (by omega)
      refine ⟨(Tr.rankFrom t l t.size 0 0,0),?_,?_,fun _=>⟨t,h,hs,ho,hg,rfl⟩⟩
      · unfold spec_RankOfGrowing.f
        refine Ev.bind (ev_l09Code h l hl) (evpos hc (Ev.bind (a:=0) ?_ (Ev_succ ?_)))
        · unfold spec_l09Few.f
          refine Ev.bind (ev_l01Is d) (evpos h.isT ?_)
          rw [l01N_eq]
          exact evsome (evneg (by omega) (Ev.now _))
        · simp only [spec_RankOfGrowing.j0]
          exact evpos (by simp) h1
      · unfold impl_RankOfGrowing.f
        refine Ev.bind (ev_growingCode h l hl) (evpos hc (Ev.bind (a:=0) ?_ (evpos rfl (Ev.bind (ev_sizesOf h) h2))))
        unfold impl_grownCode.f
        exact Ev.bind (ev_IsTree d) (evpos h.isT (evneg (by omega) (Ev.now _)))
    · refine ⟨(0,3),?_,?_,fun h=>absurd h (by decide)⟩
      · unfold spec_RankOfGrowing.f
        refine Ev.bind (ev_l09Code h l hl) (evpos hc (Ev.bind (a:=3) ?_ (Ev_succ ?_)))
        · unfold spec_l09Few.f
          refine Ev.bind (ev_l01Is d) (evpos h.isT ?_)
          rw [l01N_eq]
          exact evsome (evpos (by omega) (Ev.now _))
        · simp only [spec_RankOfGrowing.j0]
          exact evneg (by omega) (Ev.now _)
      · unfold impl_RankOfGrowing.f
        refine Ev.bind (ev_growingCode h l hl) (evpos hc (Ev.bind (a:=3) ?_ (evneg (by omega) (Ev.now _))))
        unfold impl_grownCode.f
        exact Ev.bind (ev_IsTree d) (evpos h.isT (evpos (by omega) (Ev.now _)))
  · refine ⟨(0,Tr.codeG d l t),?_,?_,fun h=>absurd h hc⟩
    · unfold spec_RankOfGrowing.f
      refine Ev.bind (ev_l09Code h l hl) (evneg hc (Ev_succ ?_))
      simp only [spec_RankOfGrowing.j0]
      exact evneg hc (Ev.now _)
    · unfold impl_RankOfGrowing.f;exact Ev.bind (ev_growingCode h l hl) (evneg hc (Ev.now _))
theorem ev_GrowingOfRank_s1 {d:List Int} {t:Tr.F} (h:Tr.Tree d t) (hs:t.size≤20) {o:List Int} (hc:Tr.closed t o) (ho:o.length≤999) {r:List Int × Int}:∀ (l pre:List Int) (a:Int),pre++l=Tr.nxt t o→0≤a→a<(Tr.sumN t o l:Int)→a≤2432902008176640000 →
    Ev (fun k=>spec_GrowingOfRank.l0 k (Tr.pick t o l a).1 (o++[(Tr.pick t o l a).2]) d) r→Ev (fun k=>spec_GrowingOfRank.l1 k a o (pre++l) (pre.length:Int) d) r:=by
  intro l
  induction l with
  | nil=>intro pre a _ h0 h1;simp [Tr.sumN] at h1;omega
  | cons v l ih =>
    intro pre a hpre h0 h1 h2 hr
    have hle:=h.le
    have hlen:=h.len
    have hnl:=Tr.nxt_len t o
    rw [← hpre] at hnl
    simp only [List.length_append,List.length_cons] at hnl
    have e:rd (pre++v :: l) (pre.length:Int)=v:=by rw [Tr.rd_app0];exact Tr.rd_cons0 _ _
    have hvn:v∈Tr.nxt t o:=by rw [← hpre];simp
    have e3:wrap64 ((pre.length:Int)+1)=((pre++[v]).length:Int):=by rw [Tr.wrap_id (by omega) (by omega)];simp
    have hcl:=Tr.closed_next h hc hvn
    have hcnt:=ev_cntS h hs hcl (by simp;omega)
    simp only [Tr.sumN,List.map_cons,List.sum_cons] at h1
    refine Ev_succ ?_
    simp only [spec_GrowingOfRank.l1]
    rw [e,e3,l01Own_eq o (by omega)]
    clear e e3
    refine evpos (by simp;omega) (evsome (evpos (by omega) (evsome (evpos (by simp;omega) (evsome (Ev.bind hcnt ?_))))))
    clear hcnt
    unfold Tr.pick at hr
    by_cases hlt:a<(Tr.cnt t (o++[v]):Int)
    · rw [if_pos hlt] at hr
      exact evpos hlt hr
    · rw [if_neg hlt] at hr
      refine evneg hlt ?_
      have e5:wrap64 (a - (Tr.cnt t (o++[v]):Int))=a - (Tr.cnt t (o++[v]):Int):=Tr.wrap_id (by omega) (by omega)
      rw [e5]
      have:=ih (pre++[v]) (a - (Tr.cnt t (o++[v]):Int)) (by simpa using hpre) (by omega) (by unfold Tr.sumN;omega) (by omega) hr
      simpa using this
theorem ev_GrowingOfRank_i1 {d:List Int} {t:Tr.F} (h:Tr.Tree d t) (hs:t.size≤20) {o:List Int} (hc:Tr.closed t o) (ho:o.length≤999) (N:Int) {r:List Int × Int}:∀ (l pre:List Int) (a n:Int),pre++l=Tr.nxt t o→n=((pre++l).length:Int)→0≤a→a<(Tr.sumN t o l:Int)→a≤2432902008176640000 →
    Ev (fun k=>impl_GrowingOfRank.l0 k (Tr.pick t o l a).1 d (o++[(Tr.pick t o l a).2]) (Tr.sizesL t) N ((o.length+1:Nat):Int)) r→Ev (fun k=>impl_GrowingOfRank.l1 k a d o (Tr.sizesL t) N (o.length:Int) (pre++l) n (pre.length:Int)) r:=by
  intro l
  induction l with
  | nil=>intro pre a n _ _ h0 h1;simp [Tr.sumN] at h1;omega
  | cons v l ih =>
    intro pre a n hpre hn h0 h1 h2 hr
    have hle:=h.le
    have hlen:=h.len
    have hnl:=Tr.nxt_len t o
    rw [← hpre] at hnl
    have hn':=hn
    simp only [List.length_append,List.length_cons] at hnl hn
    have e:rd (pre++v :: l) (pre.length:Int)=v:=by rw [Tr.rd_app0];exact Tr.rd_cons0 _ _
    have hvn:v∈Tr.nxt t o:=by rw [← hpre];simp
    have e3:wrap64 ((pre.length:Int)+1)=((pre++[v]).length:Int):=by rw [Tr.wrap_id (by omega) (by omega)];simp
    have e4:wrap64 ((o.length:Int)+1)=((o.length+1:Nat):Int):=Tr.wrap_succ (by omega)
    have hcl:=Tr.closed_next h hc hvn
    have hcnt:=ev_cntW h hs hcl
    have hclo:slices_Clone.f o=some o:=by unfold slices_Clone.f;rw [if_pos (Nat.le_trans ho (by decide))]
    simp only [Tr.sumN,List.map_cons,List.sum_cons] at h1
    refine Ev_succ ?_
    simp only [impl_GrowingOfRank.l1]
    rw [e,e3,e4,hclo]
    clear e e3 e4
    refine evpos (by omega) (evpos (by omega) (evpos (by simp;omega) (evsome (evpos (by omega) (evsome ?_)))))
    rw [others_eq h (by simp;omega)]
    refine evsome (Ev.bind hcnt ?_)
    clear hcnt
    unfold Tr.pick at hr
    by_cases hlt:a<(Tr.cnt t (o++[v]):Int)
    · rw [if_pos hlt] at hr
      exact evpos hlt hr
    · rw [if_neg hlt] at hr
      refine evneg hlt ?_
      have e5:wrap64 (a - (Tr.cnt t (o++[v]):Int))=a - (Tr.cnt t (o++[v]):Int):=Tr.wrap_id (by omega) (by omega)
      rw [e5]
      have:=ih (pre++[v]) (a - (Tr.cnt t (o++[v]):Int)) n (by simpa using hpre) (by rw [hn'];simp) (by omega) (by unfold Tr.sumN;omega) (by omega) hr
      simpa using this
theorem ev_GrowingOfRank_l0 {d:List Int} {t:Tr.F} (h:Tr.Tree d t) (hs:t.size≤20):∀ (m:Nat) (o:List Int) (a:Int),o.length+m=t.size→Tr.closed t o→0≤a→a<(Tr.cnt t o:Int) →
    Ev (fun k=>spec_GrowingOfRank.l0 k a o d) (Tr.unrank t m o a,0)∧Ev (fun k=>impl_GrowingOfRank.l0 k a d o (Tr.sizesL t) (d.length:Int) (o.length:Int)) (Tr.unrank t m o a,0):=by
  intro m
  induction m with
  | zero =>
    intro o a hm hc h0 h1
    have hle:=h.le
    have hlen:=h.len
    refine ⟨Ev_succ ?_,Ev_succ ?_⟩
    · simp only [spec_GrowingOfRank.l0,l01N_eq]
      exact evsome (evneg (by omega) (Ev.now _))
    · simp only [impl_GrowingOfRank.l0]
      exact evneg (by omega) (Ev.now _)
  | succ m ih =>
    intro o a hm hc h0 h1
    have hle:=h.le
    have hlen:=h.len
    have hcb:=Tr.cnt_le h hs o
    have hsum:=Tr.sumN_nxt h hc (by omega)
    obtain ⟨p1,p2,p3⟩:=Tr.pick_mem t o (Tr.nxt t o) a h0 (by rw [hsum];exact h1)
    have hcl:=Tr.closed_next h hc p1
    obtain ⟨h2,h3⟩:=ih (o++[(Tr.pick t o (Tr.nxt t o) a).2]) (Tr.pick t o (Tr.nxt t o) a).1 (by simp;omega) hcl p2 p3
    rw [List.length_append,List.length_singleton] at h3
    refine ⟨Ev_succ ?_,Ev_succ ?_⟩
    · simp only [spec_GrowingOfRank.l0,l01N_eq]
      refine evsome (evpos (by omega) (Ev.bind (ev_l09Next h hc.1 (by omega)) ?_))
      exact ev_GrowingOfRank_s1 h hs hc (by omega) (Tr.nxt t o) [] a rfl h0 (by rw [hsum];exact h1) (by omega) h2
    · simp only [impl_GrowingOfRank.l0]
      refine evpos (by omega) (Ev.bind (ev_nexts h o (by omega)) ?_)
      exact ev_GrowingOfRank_i1 h hs hc (by omega) (d.length:Int) (Tr.nxt t o) [] a _ rfl rfl h0 (by rw [hsum];exact h1) (by omega) h3
theorem ev_GrowingOfRank (d:List Int) (a:Int):∃ r:List Int × Int,Ev (fun k=>spec_GrowingOfRank.f k d a) r∧Ev (fun k=>impl_GrowingOfRank.f k d a) r∧r.1.length≤1000:=by
  rcases Tr.isT_cases d with h|⟨t,h⟩
  · refine ⟨([],1),?_,?_,by simp⟩
    · unfold spec_GrowingOfRank.f;exact Ev.bind (ev_l01Is d) (evneg (by simp [h]) (Ev.now _))
    · unfold impl_GrowingOfRank.f;exact Ev.bind (ev_IsTree d) (evneg (by simp [h]) (Ev.now _))
  have hle:=h.le
  have hlen:=h.len
  by_cases h0:a<0
  · refine ⟨([],2),?_,?_,by simp⟩
    · unfold spec_GrowingOfRank.f;exact Ev.bind (ev_l01Is d) (evpos h.isT (evpos h0 (Ev.now _)))
    · unfold impl_GrowingOfRank.f;exact Ev.bind (ev_IsTree d) (evpos h.isT (evpos h0 (Ev.now _)))
  by_cases hs:t.size≤20
  · have hl0:Tr.left t []=List.range t.size:=by unfold Tr.left;exact List.filter_eq_self.2 (fun v _=>by simp)
    have hcs:=ev_cntS h hs (Tr.closed_nil t) (by simp)
    have hcw:=ev_cntW h hs (Tr.closed_nil t)
    have e:Tr.upto d.length=(Tr.left t []).map (fun v:Nat=>(v:Int)):=by rw [hl0,hlen];rfl
    rw [← e] at hcw
    have goS:∀ r,Ev (fun k=>if a≥(Tr.cnt t []:Int) then some (([]:List Int),4) else spec_GrowingOfRank.l0 k a [] d) r→Ev (fun k=>spec_GrowingOfRank.f k d a) r:=by
      intro r hr
      unfold spec_GrowingOfRank.f
      refine Ev.bind (ev_l01Is d) (evpos h.isT (evneg h0 ?_))
      rw [l01N_eq]
      exact evsome (evneg (by omega) (Ev.bind hcs hr))
    have goI:∀ r,Ev (fun k=>if a≥(Tr.cnt t []:Int) then some (([]:List Int),4) else impl_GrowingOfRank.l0 k a d [] (Tr.sizesL t) (d.length:Int) 0) r→Ev (fun k=>impl_GrowingOfRank.f k d a) r:=by
      intro r hr
      unfold impl_GrowingOfRank.f
      exact Ev.bind (ev_IsTree d) (evpos h.isT (evneg h0 (evneg (by omega) (Ev.bind (ev_sizesOf h) (Ev.bind (ev_preorder d (by omega)) (Ev.bind hcw hr))))))
    by_cases h1:a≥(Tr.cnt t []:Int)
    · exact ⟨([],4),goS _ (evpos h1 (Ev.now _)),goI _ (evpos h1 (Ev.now _)),by simp⟩
    · obtain ⟨h2,h3⟩:=ev_GrowingOfRank_l0 h hs t.size [] a (by simp) (Tr.closed_nil t) (by omega) (by omega)
      refine ⟨(Tr.unrank t t.size [] a,0),goS _ (evneg h1 h2),goI _ (evneg h1 h3),?_⟩
      show (Tr.unrank t t.size [] a).length≤1000
      rw [Tr.unrank_len];simp;omega
  · refine ⟨([],3),?_,?_,by simp⟩
    · unfold spec_GrowingOfRank.f
      refine Ev.bind (ev_l01Is d) (evpos h.isT (evneg h0 ?_))
      rw [l01N_eq]
      exact evsome (evpos (by omega) (Ev.now _))
    · unfold impl_GrowingOfRank.f
      exact Ev.bind (ev_IsTree d) (evpos h.isT (evneg h0 (evpos (by omega) (Ev.now _))))
theorem ev_FirstGrowing (d:List Int):∃ r:List Int × Int,Ev (fun k=>spec_FirstGrowing.f k d) r∧Ev (fun k=>impl_FirstGrowing.f k d) r∧r.1.length≤1000:=by
  rcases Tr.isT_cases d with h|⟨t,h⟩
  · refine ⟨([],1),?_,?_,by simp⟩
    · unfold spec_FirstGrowing.f;exact Ev.bind (ev_l01Is d) (evneg (by simp [h]) (Ev.now _))
    · unfold impl_FirstGrowing.f;exact Ev.bind (ev_IsTree d) (evneg (by simp [h]) (Ev.now _))
  · have hle:=h.le
    refine ⟨(Tr.upto t.size,0),?_,?_,?_⟩
    · unfold spec_FirstGrowing.f;exact Ev.bind (ev_l01Is d) (evpos h.isT (Ev.bind (ev_l09Fill_all h) (Ev.now _)))
    · unfold impl_FirstGrowing.f;refine Ev.bind (ev_IsTree d) (evpos h.isT (Ev.bind (ev_preorder d (by omega)) (evnow ?_)));rw [h.len]
    · have:=h.few;simp only [Tr.upto,Tr.each_len];omega
def Cod (C:List Int):Prop:=C.length≤1000000∧∀ x∈C,0≤x∧x≤255
theorem cod_rd {C:List Int} (h:Cod C) (i:Int):0≤rd C i∧rd C i≤255:=by
  unfold rd
  rw [List.getD_eq_getElem?_getD]
  cases hl:C[i.toNat]? with
  | none=>simp
  | some x=>simpa using h.2 x (List.mem_of_getElem? hl)
theorem next_ok {C:List Int} (hC:Cod C) {a h:Int} (ha:0≤a∧a≤(C.length:Int)) (n:Int):∃ r a' h',spec_l01Next.f C a h n=some (r,a',h')∧0≤r∧(r<n∨r=0)∧(0≤a'∧a'≤(C.length:Int)):=by
  have hl:=hC.1
  have hr:=cod_rd hC a
  have hh:=Dr.hash_in (IntKind.u64.wrap (h*6364136223846793005)+1442695040888963407)
  unfold spec_l01Next.f
  generalize Go.bits .and .u64 (IntKind.u64.wrap (IntKind.u64.wrap (h*6364136223846793005)+1442695040888963407) / 8589934592) 16777215=X at hh ⊢
  have eX:wrap64 X=X:=Tr.wrap_id (by omega) (by omega)
  rw [eX]
  by_cases h1:n<1
  · rw [if_pos h1];exact ⟨0,a,h,rfl,by omega,.inr rfl,ha⟩
  · rw [if_neg h1]
    by_cases h2:a<(C.length:Int)
    · rw [if_pos h2,if_pos ha.1,if_neg (by omega)]
      have e1:wrap64 (rd C a)=rd C a:=Tr.wrap_id (by omega) (by omega)
      have e2:wrap64 (a+1)=a+1:=Tr.wrap_id (by omega) (by omega)
      rw [e1,e2]
      clear e1 e2 eX
      rw [Tr.wrap_id (x:=X+rd C a) (by omega) (by omega)]
      have ht:=Dr.tmod_in (a:=X+rd C a) (b:=n) (by omega) (by omega)
      exact ⟨_,_,_,rfl,ht.1,.inl ht.2,by omega,by omega⟩
    · rw [if_neg h2,if_neg (by omega)]
      have ht:=Dr.tmod_in (a:=X) (b:=n) (by omega) (by omega)
      exact ⟨_,_,_,rfl,ht.1,.inl ht.2,ha⟩
theorem pick_ok {C:List Int} (hC:Cod C) {a h:Int} (ha:0≤a∧a≤(C.length:Int)) (l:List Int) (hl:1≤l.length):∃ r a' h',spec_l01Pick.f C a h l=some (r,a',h')∧r∈l∧(0≤a'∧a'≤(C.length:Int)):=by
  obtain ⟨r,a',h',h1,h2,h3,h4⟩:=next_ok hC (h:=h) ha (l.length:Int)
  unfold spec_l01Pick.f
  rw [h1,Option.bind_some]
  dsimp only
  rw [if_pos h2,if_pos (by omega)]
  exact ⟨_,_,_,rfl,Tr.rd_mem h2 (by omega),h4⟩
theorem near_ok {C:List Int} (hC:Cod C) {a h:Int} (ha:0≤a∧a≤(C.length:Int)) (n:Int):∃ r a' h',spec_l01Near.f C a h n=some (r,a',h')∧(0≤a'∧a'≤(C.length:Int)):=by
  obtain ⟨r,a1,h1,e1,_,_,h2⟩:=next_ok hC (h:=h) ha 14
  unfold spec_l01Near.f
  simp only [e1,Option.bind_some]
  by_cases h0:r=0
  · rw [if_pos h0]
    have hLl:1≤([(-1),wrap64 (n+1),1099511627776,(-4611686018427387904)]:List Int).length:=Nat.succ_le_succ (Nat.zero_le _)
    generalize ([(-1),wrap64 (n+1),1099511627776,(-4611686018427387904)]:List Int)=L at hLl ⊢
    obtain ⟨r2,a2,h3,e2,_,h4⟩:=pick_ok hC (h:=h1) h2 L hLl
    simp only [e2,Option.bind_some]
    exact ⟨_,_,_,rfl,h4⟩
  · rw [if_neg h0]
    obtain ⟨r2,a2,h3,e2,_,_,h4⟩:=next_ok hC (h:=h1) h2 (wrap64 (n+1))
    simp only [e2,Option.bind_some]
    exact ⟨_,_,_,rfl,h4⟩
theorem evat {α β:Type} {g:Option α} {a:α} {f:Nat→α→Option β} {r:β} (e:g=some a) (h:Ev (fun n=>f n a) r):Ev (fun n=>g.bind (f n)) r:=by subst e;exact h
theorem ev_l01DrawOf_l1 {C:List Int} (hC:Cod C) {n:Int} {X:(List Int × Int × Int)→Prop} (deg way:List Int) (deep v:Int) (hd:deg.length≤1000) (hw:way.length≤1000) (hw1:1≤way.length) (hway:∀ x∈way,0≤x∧x<(deg.length:Int))
    (hfin:∀ (deg' way':List Int) (a h:Int),deg'.length=deg.length+1→1≤way'.length→way'.length≤way.length+1→(∀ x∈way',(0≤x∧x<(deg.length:Int))∨x=v)→(0≤a∧a≤(C.length:Int))→∃ r,X r∧Ev (fun k=>spec_l01DrawOf.l0 k n deg' way' deep (wrap64 (v+1)) C a h) r):∀ (m:Nat) (a h:Int),m<way.length→(0≤a∧a≤(C.length:Int)) →
    ∃ r,X r∧Ev (fun k=>spec_l01DrawOf.l1 k n deg way deep v (m:Int) C a h) r:=by
  have hput:∀ (m:Nat) (a h:Int),m<way.length→(0≤a∧a≤(C.length:Int))→∃ r,X r∧Ev (fun k=>(if 0≤(m:Int) then (if (m:Int)<(way.length:Int) then (if 0≤(rd way (m:Int)) then (if (rd way (m:Int))<(deg.length:Int) then ((some (deg.set ((rd way (m:Int)):Int).toNat (wrap64 ((rd deg (rd way (m:Int)))+1)):List Int)).bind fun y163=>(if 0≤(wrap64 ((m:Int)+1)) then (if (wrap64 ((m:Int)+1))≤(way.length:Int) then ((spec_l01Own.f (way.take ((wrap64 ((m:Int)+1)):Int).toNat)).bind fun t168=>(if t168.length<17592186044416 then (if y163.length<17592186044416 then (spec_l01DrawOf.l0 k n (y163++[0]) (t168++[v]) deep (wrap64 (v+1)) C a h) else (none)) else (none))) else (none)) else (none))) else (none)) else (none)) else (none)) else (none))) r:=by
    intro m a h hm ha
    have hx:=hway (rd way (m:Int)) (Tr.rd_mem (by omega) (by omega))
    obtain ⟨r,h1,h2⟩:=hfin (deg.set (rd way (m:Int)).toNat (wrap64 (rd deg (rd way (m:Int))+1))++[0]) (way.take (m+1)++[v]) a h (by simp) (by simp) (by simp;omega) (fun x hx=>by
      rcases List.mem_append.mp hx with hx|hx
      · exact .inl (hway x (List.mem_of_mem_take hx))
      · exact .inr (by simpa using hx)) ha
    refine ⟨r,h1,?_⟩
    rw [Tr.wrap_succ (by omega),Int.toNat_natCast]
    have ho:spec_l01Own.f (way.take (m+1))=some (way.take (m+1)):=by
      unfold spec_l01Own.f
      rw [Option.bind_some,if_pos (by rw [List.length_nil,List.length_take];omega)];rfl
    rw [ho]
    exact evpos (by omega) (evpos (by omega) (evpos hx.1 (evpos hx.2 (evsome (evpos (by omega) (evpos (by omega) (evsome (evpos (by rw [List.length_take];omega) (evpos (by rw [List.length_set];omega) h2)))))))))
  intro m
  induction m with
  | zero =>
    intro a h hm ha
    obtain ⟨r,h1,h2⟩:=hput 0 a h hm ha
    refine ⟨r,h1,Ev_succ ?_⟩
    simp only [spec_l01DrawOf.l1]
    exact evneg (by omega) h2
  | succ m ih =>
    intro a h hm ha
    obtain ⟨q,a',h',e1,_,_,h2⟩:=next_ok hC (h:=h) ha deep
    by_cases hq:q=0
    · obtain ⟨r,h3,h4⟩:=ih a' h' (by omega) h2
      refine ⟨r,h3,Ev_succ ?_⟩
      simp only [spec_l01DrawOf.l1]
      refine evpos (by omega) (evat e1 (evpos hq ?_))
      rw [show wrap64 (((m+1:Nat):Int) - 1)=(m:Int) by rw [Tr.wrap_id (by omega) (by omega)];omega]
      exact h4
    · obtain ⟨r,h3,h4⟩:=hput (m+1) a' h' hm h2
      refine ⟨r,h3,Ev_succ ?_⟩
      simp only [spec_l01DrawOf.l1]
      exact evpos (by omega) (evat e1 (evneg hq h4))
theorem ev_l01DrawOf_l0 {C:List Int} (hC:Cod C) {n:Nat} (hn:n≤100) {deep:Int}:∀ (m v:Nat) (deg way:List Int) (a h:Int),v+m=max n 1→deg.length=v→1≤v→1≤way.length→way.length≤v→(∀ x∈way,0≤x∧x<(v:Int))→(0≤a∧a≤(C.length:Int)) →
    ∃ r,(r.1.length=max n 1∧(0≤r.2.1∧r.2.1≤(C.length:Int)))∧Ev (fun k=>spec_l01DrawOf.l0 k (n:Int) deg way deep (v:Int) C a h) r:=by
  intro m
  induction m with
  | zero =>
    intro v deg way a h hv hd h1 hw1 hw hway ha
    refine ⟨(deg,a,h),⟨by simp only;omega,ha⟩,Ev_succ ?_⟩
    simp only [spec_l01DrawOf.l0]
    exact evneg (by omega) (Ev.now _)
  | succ m ih =>
    intro v deg way a h hv hd h1 hw1 hw hway ha
    obtain ⟨r,h2,h3⟩:=ev_l01DrawOf_l1 hC (n:=(n:Int)) (X:=fun r=>r.1.length=max n 1∧(0≤r.2.1∧r.2.1≤(C.length:Int))) deg way deep (v:Int) (by omega) (by omega) hw1 (by rw [hd];exact hway) (fun deg' way' a' h' l1 l2 l3 l4 l5=>by
      rw [Tr.wrap_succ (by omega)]
      exact ih (v+1) deg' way' a' h' (by omega) (by omega) (by omega) l2 (by omega) (fun x hx=>by rcases l4 x hx with q|q <;> omega) l5) (way.length - 1) a h (by omega) ha
    refine ⟨r,h2,Ev_succ ?_⟩
    simp only [spec_l01DrawOf.l0]
    refine evpos (by omega) ?_
    rw [show wrap64 ((way.length:Int) - 1)=((way.length - 1:Nat):Int) by rw [Tr.wrap_id (by omega) (by omega)];omega]
    exact h3
theorem ev_l01DrawOf {C:List Int} (hC:Cod C) {a h:Int} (ha:0≤a∧a≤(C.length:Int)) (n:Nat) (hn:n≤100):∃ r,(r.1.length=max n 1∧(0≤r.2.1∧r.2.1≤(C.length:Int)))∧Ev (fun k=>spec_l01DrawOf.f k C a h (n:Int)) r:=by
  obtain ⟨d,a',h',e1,_,h2⟩:=pick_ok hC (h:=h) ha [1,2,4,30] (by simp)
  obtain ⟨r,h3,h4⟩:=ev_l01DrawOf_l0 hC hn (deep:=d) (max n 1 - 1) 1 [0] [0] a' h' (by omega) rfl (by omega) (by simp) (by simp) (by simp) h2
  refine ⟨r,h3,?_⟩
  unfold spec_l01DrawOf.f
  rw [e1]
  exact evsome h4
theorem ev_l01Small {C:List Int} (hC:Cod C) {a h:Int} (ha:0≤a∧a≤(C.length:Int)):∃ r,((1≤r.1.length∧r.1.length≤24)∧(0≤r.2.1∧r.2.1≤(C.length:Int)))∧Ev (fun k=>spec_l01Small.f k C a h) r:=by
  obtain ⟨n,a1,h1,e1,n0,n1,s1⟩:=next_ok hC (h:=h) ha 6
  obtain ⟨m,hm⟩:=Int.eq_ofNat_of_zero_le n0
  obtain ⟨r,⟨l,s2⟩,h2⟩:=ev_l01DrawOf hC (h:=h1) s1 (m+1) (by omega)
  refine ⟨r,⟨by omega,s2⟩,?_⟩
  unfold spec_l01Small.f
  refine evat e1 ?_
  dsimp only
  rw [show wrap64 (1+n)=((m+1:Nat):Int) by rw [Tr.wrap_id (by omega) (by omega)];omega]
  exact Ev.bind h2 (Ev.now _)
theorem ev_l01Join_l0 (L:List S27) (hL:L.length≤1000) (hs:∀ x∈L,x.f0.length≤1000):∀ (S Pre:List S27) (acc:List Int),L=Pre++S→1≤acc.length→acc.length≤24→∃ r,(r.2=true→1≤r.1.length∧r.1.length≤24)∧Ev (fun k=>spec_l01Join.l0 k L acc (Pre.length:Int)) r:=by
  intro S
  induction S with
  | nil =>
    intro Pre acc hS h1 h2
    rw [List.append_nil] at hS
    subst hS
    refine ⟨(acc,true),fun _=>⟨h1,h2⟩,Ev_succ ?_⟩
    simp only [spec_l01Join.l0]
    exact evneg (by omega) (Ev.now _)
  | cons x S ih =>
    intro Pre acc hS h1 h2
    have hlen:L.length=Pre.length+(S.length+1):=by rw [hS];simp
    have hx:=hs x (by rw [hS];simp)
    have e:rd_T27 L (Pre.length:Int)=x:=by
      unfold rd_T27
      first
        | (rw [hS,List.getD_eq_getElem?_getD,Int.toNat_natCast,List.getElem?_append_right (Nat.le_refl _),Nat.sub_self];rfl)
        | (unfold rdOf;rw [hS,List.getD_eq_getElem?_getD,Int.toNat_natCast,List.getElem?_append_right (Nat.le_refl _),Nat.sub_self];rfl)
    by_cases h3:((acc++x.f0).length:Int)>24
    · refine ⟨([],false),fun h=>(by cases h),Ev_succ ?_⟩
      simp only [spec_l01Join.l0,e]
      exact evpos (by omega) (evpos (by omega) (evpos (by omega) (evsome (evpos h3 (Ev.now _)))))
    · obtain ⟨r,h4,h5⟩:=ih (Pre++[x]) (acc++x.f0) (by rw [hS];simp) (by rw [List.length_append];omega) (by omega)
      refine ⟨r,h4,Ev_succ ?_⟩
      simp only [spec_l01Join.l0,e]
      rw [show wrap64 ((Pre.length:Int)+1)=((Pre++[x]).length:Int) by rw [Tr.wrap_id (by omega) (by omega)];simp]
      exact evpos (by omega) (evpos (by omega) (evpos (by omega) (evsome (evneg h3 h5))))
theorem ev_l01Join (L:List S27) (hL:L.length≤1000) (hs:∀ x∈L,x.f0.length≤1000):∃ r,(r.2=true→1≤r.1.length∧r.1.length≤24)∧Ev (fun k=>spec_l01Join.f k L) r:=by
  unfold spec_l01Join.f
  exact ev_l01Join_l0 L hL hs L [] _ rfl (by simp) (by simp)
theorem ev_l01Draw_rest {C:List Int} (hC:Cod C) {a h:Int} (ha:0≤a∧a≤(C.length:Int)):∃ r,((1≤r.1.length∧r.1.length≤24)∧(0≤r.2.1∧r.2.1≤(C.length:Int)))∧Ev (fun k=>((spec_l01Pick.f C a h (([8,12,24]:List Int))).bind fun bt259=>((spec_l01Next.f C bt259.2.1 bt259.2.2 bt259.1).bind fun bt262=>((spec_l01DrawOf.f k C bt262.2.1 bt262.2.2 (wrap64 (1+bt262.1))).bind fun bt265=>(some (bt265.1,bt265.2.1,bt265.2.2)))))) r:=by
  obtain ⟨n,a1,h1,e1,n1,s1⟩:=pick_ok hC (h:=h) ha [8,12,24] (by simp)
  obtain ⟨q,a2,h2,e2,q0,q1,s2⟩:=next_ok hC (h:=h1) s1 n
  have hn:8≤n∧n≤24:=by
    simp only [List.mem_cons,List.mem_nil_iff,or_false] at n1
    omega
  obtain ⟨m,hm⟩:=Int.eq_ofNat_of_zero_le q0
  obtain ⟨r,⟨l,s3⟩,h3⟩:=ev_l01DrawOf hC (h:=h2) s2 (m+1) (by omega)
  refine ⟨r,⟨by omega,s3⟩,evat e1 (evat e2 ?_)⟩
  dsimp only
  rw [show wrap64 (1+q)=((m+1:Nat):Int) by rw [Tr.wrap_id (by omega) (by omega)];omega]
  exact Ev.bind h3 (Ev.now _)
theorem ev_l01Draw_l0 {C u:List Int} (hC:Cod C) (hu:u.length≤1000):∀ (m:Nat) (L:List S27) (a h:Int),L.length+m≤100→(∀ x∈L,x.f0.length≤1000)→(0≤a∧a≤(C.length:Int))→∃ r,((1≤r.1.length∧r.1.length≤24)∧(0≤r.2.1∧r.2.1≤(C.length:Int)))∧Ev (fun k=>spec_l01Draw.l0 k L (m:Int) C a h u) r:=by
  intro m
  induction m with
  | zero =>
    intro L a h hL hs ha
    obtain ⟨j,hj1,hj2⟩:=ev_l01Join L (by omega) hs
    by_cases hj:j.2=true
    · refine ⟨(j.1,a,h),⟨hj1 hj,ha⟩,Ev_succ ?_⟩
      simp only [spec_l01Draw.l0]
      exact evneg (by omega) (Ev.bind hj2 (evpos hj (Ev.now _)))
    · obtain ⟨r,h1,h2⟩:=ev_l01Draw_rest hC (h:=h) ha
      refine ⟨r,h1,Ev_succ ?_⟩
      simp only [spec_l01Draw.l0]
      exact evneg (by omega) (Ev.bind hj2 (evneg hj h2))
  | succ m ih =>
    intro L a h hL hs ha
    obtain ⟨r,h1,h2⟩:=ih (L++[⟨u⟩]) a h (by simp;omega) (fun x hx=>by
      rcases List.mem_append.mp hx with hx|hx
      · exact hs x hx
      · rw [List.mem_singleton] at hx;subst hx;exact hu) ha
    refine ⟨r,h1,Ev_succ ?_⟩
    simp only [spec_l01Draw.l0]
    rw [show wrap64 (((m+1:Nat):Int) - 1)=(m:Int) by rw [Tr.wrap_id (by omega) (by omega)];omega]
    exact evpos (by omega) (evpos (by omega) h2)
theorem ev_l01Draw {C:List Int} (hC:Cod C) {a h:Int} (ha:0≤a∧a≤(C.length:Int)):∃ r,((1≤r.1.length∧r.1.length≤24)∧(0≤r.2.1∧r.2.1≤(C.length:Int)))∧Ev (fun k=>spec_l01Draw.f k C a h) r:=by
  obtain ⟨n,a1,h1,e1,n0,n1,s1⟩:=next_ok hC (h:=h) ha 5
  unfold spec_l01Draw.f
  by_cases c0:n=0
  · obtain ⟨r,h2,h3⟩:=ev_l01Small hC (h:=h1) s1
    exact ⟨r,h2,evat e1 (evpos c0 (Ev.bind h3 (Ev.now _)))⟩
  by_cases c1:n=1
  · obtain ⟨q,a2,h2,e2,q0,q1,s2⟩:=next_ok hC (h:=h1) s1 5
    obtain ⟨m,hm⟩:=Int.eq_ofNat_of_zero_le q0
    obtain ⟨u,⟨l,s3⟩,h3⟩:=ev_l01DrawOf hC (h:=h2) s2 (m+1) (by omega)
    obtain ⟨p,a4,h4,e4,p0,p1,s4⟩:=next_ok hC (h:=u.2.2) s3 5
    obtain ⟨w,hw⟩:=Int.eq_ofNat_of_zero_le p0
    obtain ⟨r,h5,h6⟩:=ev_l01Draw_l0 hC (u:=u.1) (by omega) w [] a4 h4 (by simp;omega) (by simp) s4
    refine ⟨r,h5,evat e1 (evneg c0 (evpos c1 (evat e2 ?_)))⟩
    dsimp only
    rw [show wrap64 (1+q)=((m+1:Nat):Int) by rw [Tr.wrap_id (by omega) (by omega)];omega]
    refine Ev.bind h3 (evat e4 ?_)
    dsimp only
    rw [hw]
    exact h6
  · obtain ⟨r,h2,h3⟩:=ev_l01Draw_rest hC (h:=h1) s1
    exact ⟨r,h2,evat e1 (evneg c0 (evneg c1 h3))⟩
theorem ev_l01From_l0 {C:List Int} (hC:Cod C):∀ (m i:Nat) (h:Int),i+m=C.length→∃ h',Ev (fun k=>spec_l01From.l0 k C (i:Int) C 0 h) (C,0,h'):=by
  have hl:=hC.1
  intro m
  induction m with
  | zero =>
    intro i h hi
    refine ⟨h,Ev_succ ?_⟩
    simp only [spec_l01From.l0]
    exact evneg (by omega) (Ev.now _)
  | succ m ih =>
    intro i h hi
    by_cases c:(i:Int)<4096
    · obtain ⟨h',h2⟩:=ih (i+1) (IntKind.u64.wrap ((IntKind.u64.wrap ((IntKind.u64.wrap (h*1099511628211))+(IntKind.u64.wrap (rd C (i:Int)))))+233)) (by omega)
      refine ⟨h',Ev_succ ?_⟩
      simp only [spec_l01From.l0]
      rw [Tr.wrap_succ (by omega)]
      exact evpos (by omega) (evpos c (evpos (by omega) h2))
    · refine ⟨h,Ev_succ ?_⟩
      simp only [spec_l01From.l0]
      exact evpos (by omega) (evneg c (Ev.now _))
theorem ev_l01From {C:List Int} (hC:Cod C):∃ h',Ev (fun k=>spec_l01From.f k C) (C,0,h'):=by
  unfold spec_l01From.f
  exact ev_l01From_l0 hC C.length 0 _ (by omega)
theorem ev_l01Bad {C:List Int} (hC:Cod C) {a h:Int} (ha:0≤a∧a≤(C.length:Int)) (d:List Int) (hd:1≤d.length∧d.length≤24):∃ r,(r.1.length≤25∧(0≤r.2.1∧r.2.1≤(C.length:Int)))∧spec_l01Bad.f C a h d=some r:=by
  obtain ⟨n,a1,h1,e1,n0,n1,s1⟩:=next_ok hC (h:=h) ha 50
  have hc:spec_l01Copy.f d=some d:=by
    unfold spec_l01Copy.f
    rw [l01Make_eq d (by omega)];rfl
  obtain ⟨q,a2,h2,e2,q0,q1,s2⟩:=next_ok hC (h:=h1) s1 (d.length:Int)
  obtain ⟨x,a3,h3,e3,_,s3⟩:=pick_ok hC (h:=h2) s2 [(-1),0,1,2,25] (by simp)
  unfold spec_l01Bad.f
  rw [hc,Option.bind_some,e1,Option.bind_some]
  dsimp only
  by_cases c0:n=0
  · rw [if_pos c0];exact ⟨_,⟨by simp,s1⟩,rfl⟩
  rw [if_neg c0]
  by_cases c1:n=1
  · rw [if_pos c1,l01N_eq,Option.bind_some,e2,Option.bind_some]
    dsimp only
    rw [e3,Option.bind_some]
    dsimp only
    rw [if_pos q0,if_pos (by omega)]
    exact ⟨_,⟨by rw [List.length_set];omega,s3⟩,rfl⟩
  rw [if_neg c1]
  by_cases c2:n=2
  · rw [if_pos c2,if_pos (by omega)]
    exact ⟨_,⟨by rw [List.length_append,List.length_singleton];omega,s1⟩,rfl⟩
  · rw [if_neg c2];exact ⟨_,⟨by simp only;omega,s1⟩,rfl⟩
theorem ev_l01Spoil {C:List Int} (hC:Cod C) {a h:Int} (ha:0≤a∧a≤(C.length:Int)):∃ r,(r.1.length≤25∧(0≤r.2.1∧r.2.1≤(C.length:Int)))∧Ev (fun k=>spec_l01Spoil.f k C a h) r:=by
  obtain ⟨u,⟨hu,s1⟩,h1⟩:=ev_l01Draw hC (h:=h) ha
  obtain ⟨r,h2,h3⟩:=ev_l01Bad hC (h:=u.2.2) s1 u.1 hu
  refine ⟨r,h2,?_⟩
  unfold spec_l01Spoil.f
  exact Ev.bind h1 (evat h3 (Ev.now _))
theorem ev_likeInts_l0 (xs:List Int) (hb:xs.length≤1000000):∀ (n i:Nat),i+n=xs.length→Ev (fun k=>laws_likeInts.l0 k xs xs (i:Int)) true:=by
  intro n
  induction n with
  | zero=>intro i h;refine Ev_succ ?_;simp only [laws_likeInts.l0];exact evneg (by omega) (Ev.now _)
  | succ n ih =>
    intro i h
    refine Ev_succ ?_
    simp only [laws_likeInts.l0]
    refine evpos (by omega) (evpos (by omega) (evpos (by omega) (evpos (by first|rfl|trivial) ?_)))
    rw [Tr.wrap_succ (by omega)]
    exact ih (i+1) (by omega)
theorem ev_likeInts (xs:List Int) (hb:xs.length≤1000000):Ev (fun k=>laws_likeInts.f k xs xs) true:=by
  unfold laws_likeInts.f
  exact evpos rfl (ev_likeInts_l0 xs hb xs.length 0 (by omega))
theorem ev_impl_IsGrowing {d l:List Int} {t:Tr.F} (h:Tr.Tree d t) (hl:l.length≤100000000) (ho:Tr.isOrd d.length l) (hg:Tr.growing t l=true):Ev (fun k=>impl_IsGrowing.f k d l) (true,0):=by
  unfold impl_IsGrowing.f
  refine Ev.bind (ev_orderCode d l hl) ?_
  unfold Tr.codeO
  rw [if_pos h.isT,if_pos ho]
  have:=ev_isGrowing h ho
  rw [hg] at this
  exact evpos rfl (Ev.bind this (Ev.now _))
theorem ev_DrawOfT_l1 {C:List Int} (hC:Cod C) {n:Int} {X:(List Int × Int × Int)→Prop} (deg way:List Int) (deep v:Int) (hd:deg.length≤1000) (hok:Tr.okw deg 1∧∀ x∈deg,0≤x∧x<deg.length) (hw:way.length≤1000) (hw1:1≤way.length) (hway:∀ x∈way,0≤x∧x<(deg.length:Int))
    (hfin:∀ (deg' way':List Int) (a h:Int),deg'.length=deg.length+1→(Tr.okw deg' 1∧∀ x∈deg',0≤x∧x<deg'.length)→1≤way'.length→way'.length≤way.length+1→(∀ x∈way',(0≤x∧x<(deg.length:Int))∨x=v)→(0≤a∧a≤(C.length:Int))→∃ r,X r∧Ev (fun k=>spec_l01DrawOf.l0 k n deg' way' deep (wrap64 (v+1)) C a h) r):∀ (m:Nat) (a h:Int),m<way.length→(0≤a∧a≤(C.length:Int)) →
    ∃ r,X r∧Ev (fun k=>spec_l01DrawOf.l1 k n deg way deep v (m:Int) C a h) r:=by
  have hput:∀ (m:Nat) (a h:Int),m<way.length→(0≤a∧a≤(C.length:Int))→∃ r,X r∧Ev (fun k=>(if 0≤(m:Int) then (if (m:Int)<(way.length:Int) then (if 0≤(rd way (m:Int)) then (if (rd way (m:Int))<(deg.length:Int) then ((some (deg.set ((rd way (m:Int)):Int).toNat (wrap64 ((rd deg (rd way (m:Int)))+1)):List Int)).bind fun y163=>(if 0≤(wrap64 ((m:Int)+1)) then (if (wrap64 ((m:Int)+1))≤(way.length:Int) then ((spec_l01Own.f (way.take ((wrap64 ((m:Int)+1)):Int).toNat)).bind fun t168=>(if t168.length<17592186044416 then (if y163.length<17592186044416 then (spec_l01DrawOf.l0 k n (y163++[0]) (t168++[v]) deep (wrap64 (v+1)) C a h) else (none)) else (none))) else (none)) else (none))) else (none)) else (none)) else (none)) else (none))) r:=by
    intro m a h hm ha
    have hx:=hway (rd way (m:Int)) (Tr.rd_mem (by omega) (by omega))
    obtain ⟨w,hw0⟩:=Int.eq_ofNat_of_zero_le hx.1
    have hdw:=hok.2 (rd deg (w:Int)) (Tr.rd_mem (by omega) (by omega))
    have hwr:wrap64 (rd deg (rd way (m:Int))+1)=rd deg (rd way (m:Int))+1:=by rw [hw0];exact Tr.wrap_id (by omega) (by omega)
    obtain ⟨r,h1,h2⟩:=hfin (deg.set (rd way (m:Int)).toNat (wrap64 (rd deg (rd way (m:Int))+1))++[0]) (way.take (m+1)++[v]) a h (by simp) (by
      rw [hwr,hw0,Int.toNat_natCast]
      refine ⟨Tr.okw_add deg 1 w hok.1 (by omega),fun x hx=>?_⟩
      have hl:(deg.set w (rd deg (w:Int)+1)++[0]).length=deg.length+1:=by simp
      rw [hl]
      rcases List.mem_append.mp hx with hx|hx
      · rcases List.mem_or_eq_of_mem_set hx with hx|hx
        · have:=hok.2 x hx;omega
        · omega
      · rw [List.mem_singleton] at hx;omega) (by simp) (by simp;omega) (fun x hx=>by
      rcases List.mem_append.mp hx with hx|hx
      · exact .inl (hway x (List.mem_of_mem_take hx))
      · exact .inr (by simpa using hx)) ha
    refine ⟨r,h1,?_⟩
    rw [Tr.wrap_succ (by omega),Int.toNat_natCast]
    have ho:spec_l01Own.f (way.take (m+1))=some (way.take (m+1)):=by
      unfold spec_l01Own.f
      rw [Option.bind_some,if_pos (by rw [List.length_nil,List.length_take];omega)];rfl
    rw [ho]
    exact evpos (by omega) (evpos (by omega) (evpos hx.1 (evpos hx.2 (evsome (evpos (by omega) (evpos (by omega) (evsome (evpos (by rw [List.length_take];omega) (evpos (by rw [List.length_set];omega) h2)))))))))
  intro m
  induction m with
  | zero =>
    intro a h hm ha
    obtain ⟨r,h1,h2⟩:=hput 0 a h hm ha
    refine ⟨r,h1,Ev_succ ?_⟩
    simp only [spec_l01DrawOf.l1]
    exact evneg (by omega) h2
  | succ m ih =>
    intro a h hm ha
    obtain ⟨q,a',h',e1,_,_,h2⟩:=next_ok hC (h:=h) ha deep
    by_cases hq:q=0
    · obtain ⟨r,h3,h4⟩:=ih a' h' (by omega) h2
      refine ⟨r,h3,Ev_succ ?_⟩
      simp only [spec_l01DrawOf.l1]
      refine evpos (by omega) (evat e1 (evpos hq ?_))
      rw [show wrap64 (((m+1:Nat):Int) - 1)=(m:Int) by rw [Tr.wrap_id (by omega) (by omega)];omega]
      exact h4
    · obtain ⟨r,h3,h4⟩:=hput (m+1) a' h' hm h2
      refine ⟨r,h3,Ev_succ ?_⟩
      simp only [spec_l01DrawOf.l1]
      exact evpos (by omega) (evat e1 (evneg hq h4))
theorem ev_DrawOfT_l0 {C:List Int} (hC:Cod C) {n:Nat} (hn:n≤100) {deep:Int}:∀ (m v:Nat) (deg way:List Int) (a h:Int),v+m=max n 1→deg.length=v→1≤v→(Tr.okw deg 1∧∀ x∈deg,0≤x∧x<deg.length)→1≤way.length→way.length≤v→(∀ x∈way,0≤x∧x<(v:Int))→(0≤a∧a≤(C.length:Int)) →
    ∃ r,(r.1.length=max n 1∧Tr.okw r.1 1∧(0≤r.2.1∧r.2.1≤(C.length:Int)))∧Ev (fun k=>spec_l01DrawOf.l0 k (n:Int) deg way deep (v:Int) C a h) r:=by
  intro m
  induction m with
  | zero =>
    intro v deg way a h hv hd h1 hok hw1 hw hway ha
    refine ⟨(deg,a,h),⟨by simp only;omega,hok.1,ha⟩,Ev_succ ?_⟩
    simp only [spec_l01DrawOf.l0]
    exact evneg (by omega) (Ev.now _)
  | succ m ih =>
    intro v deg way a h hv hd h1 hok hw1 hw hway ha
    obtain ⟨r,h2,h3⟩:=ev_DrawOfT_l1 hC (n:=(n:Int)) (X:=fun r=>r.1.length=max n 1∧Tr.okw r.1 1∧(0≤r.2.1∧r.2.1≤(C.length:Int))) deg way deep (v:Int) (by omega) hok (by omega) hw1 (by rw [hd];exact hway) (fun deg' way' a' h' l1 lo l2 l3 l4 l5=>by
      rw [Tr.wrap_succ (by omega)]
      exact ih (v+1) deg' way' a' h' (by omega) (by omega) (by omega) lo l2 (by omega) (fun x hx=>by rcases l4 x hx with q|q <;> omega) l5) (way.length - 1) a h (by omega) ha
    refine ⟨r,h2,Ev_succ ?_⟩
    simp only [spec_l01DrawOf.l0]
    refine evpos (by omega) ?_
    rw [show wrap64 ((way.length:Int) - 1)=((way.length - 1:Nat):Int) by rw [Tr.wrap_id (by omega) (by omega)];omega]
    exact h3
theorem ev_DrawOfT {C:List Int} (hC:Cod C) {a h:Int} (ha:0≤a∧a≤(C.length:Int)) (n:Nat) (h1:1≤n) (hn:n≤24):∃ (d:List Int) (t:Tr.F) (a' h':Int),Tr.Tree d t∧d.length=n∧(0≤a'∧a'≤(C.length:Int))∧Ev (fun k=>spec_l01DrawOf.f k C a h (n:Int)) (d,a',h'):=by
  obtain ⟨dp,a',h',e1,_,h2⟩:=pick_ok hC (h:=h) ha [1,2,4,30] (by simp)
  obtain ⟨⟨d,a2,h3⟩,⟨l1,l2,l3⟩,h4⟩:=ev_DrawOfT_l0 hC (n:=n) (by omega) (deep:=dp) (max n 1 - 1) 1 [0] [0] a' h' (by omega) rfl (by omega) ⟨by simp [Tr.okw],by simp⟩ (by simp) (by simp) (by simp) h2
  have l1':d.length=max n 1:=l1
  obtain ⟨t,ht⟩:=Tr.okw_tree l2 (by show d.length≤24;omega)
  refine ⟨d,t,a2,h3,ht,by omega,l3,?_⟩
  unfold spec_l01DrawOf.f
  rw [e1]
  exact evsome h4
theorem ev_DrawOrder_l0 {C:List Int} (hC:Cod C) {n:Nat} (hn:n≤1000):∀ (m v:Nat) (L:List Int) (a h:Int),v+m=n→L.length=v→(0≤a∧a≤(C.length:Int)) →
    ∃ (r:List Int) (a' h':Int),r.length=n∧(0≤a'∧a'≤(C.length:Int))∧Ev (fun k=>spec_l01DrawOrder.l0 k (n:Int) L (v:Int) C a h) (r,a',h'):=by
  intro m
  induction m with
  | zero =>
    intro v L a h hv hL ha
    refine ⟨L,a,h,by omega,ha,Ev_succ ?_⟩
    simp only [spec_l01DrawOrder.l0]
    exact evneg (by omega) (Ev.now _)
  | succ m ih =>
    intro v L a h hv hL ha
    obtain ⟨q,a1,h1,e1,q0,q1,s1⟩:=next_ok hC (h:=h) ha ((v:Int)+1)
    obtain ⟨j,hj⟩:=Int.eq_ofNat_of_zero_le q0
    obtain ⟨r,a2,h2,l1,l2,h3⟩:=ih (v+1) (L.take j++[(v:Int)]++L.drop j) a1 h1 (by omega) (by simp;omega) s1
    refine ⟨r,a2,h2,l1,l2,Ev_succ ?_⟩
    simp only [spec_l01DrawOrder.l0]
    rw [Tr.wrap_succ (by omega)]
    rw [← Int.natCast_succ] at e1
    refine evpos (by omega) (evat e1 (evpos (by omega) (evpos (by omega) ?_)))
    rw [hj,Int.toNat_natCast]
    have ho:spec_l01Own.f (L.take j)=some (L.take j):=by
      unfold spec_l01Own.f
      rw [Option.bind_some,if_pos (by rw [List.length_nil,List.length_take];omega)];rfl
    rw [ho]
    exact evsome (evsome (evpos (by simp;omega) (evsome (evsome (evpos (by simp;omega) h3)))))
theorem ev_DrawOrder {C:List Int} (hC:Cod C) {a h:Int} (ha:0≤a∧a≤(C.length:Int)) (n:Nat) (hn:n≤1000):∃ (r:List Int) (a' h':Int),r.length=n∧(0≤a'∧a'≤(C.length:Int))∧Ev (fun k=>spec_l01DrawOrder.f k C a h (n:Int)) (r,a',h'):=by
  unfold spec_l01DrawOrder.f
  exact ev_DrawOrder_l0 hC hn n 0 [] a h (by omega) rfl ha
theorem ev_uniq {α:Type} {g:Nat→Option α} {a b:α} (h1:Ev g a) (h2:Ev g b):a=b:=by
  obtain ⟨k1,q1⟩:=h1
  obtain ⟨k2,q2⟩:=h2
  have e1:=q1 (max k1 k2) (by omega)
  have e2:=q2 (max k1 k2) (by omega)
  rw [e1] at e2
  exact Option.some.inj e2
theorem ev_l09FillLast {d:List Int} {t:Tr.F} (h:Tr.Tree d t):∀ (m v:Nat) (beg:List Int),v+m=t.size→beg.length=v→(∀ c∈beg,0≤c∧c<t.size) →
    ∃ r:List Int,Ev (fun k=>spec_l09Fill.l0 k false beg d) r∧r.length=t.size:=by
  have hle:=h.le
  have hlen:=h.len
  intro m
  induction m with
  | zero =>
    intro v beg hv hb _
    refine ⟨beg,Ev_succ ?_,by omega⟩
    simp only [spec_l09Fill.l0,l01N_eq]
    exact evsome (evneg (by omega) (Ev.now _))
  | succ m ih =>
    intro v beg hv hb hc
    have hpos:=Tr.nxt_pos h (beg:=beg) (by omega)
    have hmem:rd (Tr.nxt t beg) (((Tr.nxt t beg).length:Int) - 1)∈Tr.nxt t beg:=Tr.rd_mem (by omega) (by omega)
    have hnl:(Tr.nxt t beg).length≤t.size:=Tr.nxtTo_len t beg t.size
    obtain ⟨u,hu,hus,_⟩:=Tr.nxt_mem.1 hmem
    obtain ⟨r,h1,h3⟩:=ih (v+1) (beg++[rd (Tr.nxt t beg) (((Tr.nxt t beg).length:Int) - 1)]) (by omega) (by simp;omega) (fun c hc'=>by
      simp only [List.mem_append,List.mem_singleton] at hc'
      rcases hc' with hc'|rfl
      · exact hc c hc'
      · rw [hu];omega)
    clear hu hmem
    have hn1:=ev_l09Next h hc (by omega)
    generalize Tr.nxt t beg=L at hpos hnl h1 hn1
    refine ⟨r,Ev_succ ?_,h3⟩
    simp only [spec_l09Fill.l0,l01N_eq]
    refine evsome (evpos (by omega) (Ev.bind hn1 (evneg (by simp) ?_)))
    rw [Tr.wrap_id (by omega) (by omega)]
    exact evpos (by omega) (evpos (by omega) (evpos (by omega) h1))
theorem ev_l09Draw_l0 {C:List Int} (hC:Cod C) {d:List Int} {t:Tr.F} (ht:Tr.Tree d t):∀ (m:Nat) (beg:List Int) (a h:Int),beg.length+m=t.size→(∀ c∈beg,0≤c∧c<t.size)→(0≤a∧a≤(C.length:Int)) →
    ∃ (o:List Int) (a' h':Int),o.length=t.size∧(0≤a'∧a'≤(C.length:Int))∧Ev (fun k=>spec_l09Draw.l0 k beg C a h d) (d,o,a',h'):=by
  have hle:=ht.le
  have hlen:=ht.len
  intro m
  induction m with
  | zero =>
    intro beg a h hb hc ha
    obtain ⟨q,a1,h1,e1,_,_,s1⟩:=next_ok hC (h:=h) ha 6
    by_cases c0:q=0
    · refine ⟨Tr.upto t.size,a1,h1,by simp [Tr.upto,Tr.each_len],s1,Ev_succ ?_⟩
      simp only [spec_l09Draw.l0,l01N_eq]
      exact evsome (evneg (by omega) (evat e1 (evpos c0 (Ev.bind (ev_l09Fill_all ht) (Ev.now _)))))
    by_cases c1:q=1
    · obtain ⟨r,h2,h3⟩:=ev_l09FillLast ht t.size 0 [] (by omega) rfl (by simp)
      refine ⟨r,a1,h1,h3,s1,Ev_succ ?_⟩
      simp only [spec_l09Draw.l0,l01N_eq]
      have hF:Ev (fun k=>spec_l09Fill.f k d [] false) r:=by
        unfold spec_l09Fill.f
        rw [l01Own_eq [] (by simp)]
        exact evsome h2
      exact evsome (evneg (by omega) (evat e1 (evneg c0 (evpos c1 (Ev.bind hF (Ev.now _))))))
    · refine ⟨beg,a1,h1,by omega,s1,Ev_succ ?_⟩
      simp only [spec_l09Draw.l0,l01N_eq]
      exact evsome (evneg (by omega) (evat e1 (evneg c0 (evneg c1 (Ev.now _)))))
  | succ m ih =>
    intro beg a h hb hc ha
    have hpos:=Tr.nxt_pos ht (beg:=beg) (by omega)
    have hnl:(Tr.nxt t beg).length≤t.size:=Tr.nxtTo_len t beg t.size
    obtain ⟨q,a1,h1,e1,q0,q1,s1⟩:=next_ok hC (h:=h) ha ((Tr.nxt t beg).length:Int)
    have hmem:rd (Tr.nxt t beg) q∈Tr.nxt t beg:=Tr.rd_mem q0 (by omega)
    obtain ⟨u,hu,hus,_⟩:=Tr.nxt_mem.1 hmem
    obtain ⟨o,a2,h2,l1,l2,h3⟩:=ih (beg++[rd (Tr.nxt t beg) q]) a1 h1 (by simp;omega) (fun c hc'=>by
      simp only [List.mem_append,List.mem_singleton] at hc'
      rcases hc' with hc'|rfl
      · exact hc c hc'
      · rw [hu];omega) s1
    have hn1:=ev_l09Next ht hc (by omega)
    refine ⟨o,a2,h2,l1,l2,Ev_succ ?_⟩
    simp only [spec_l09Draw.l0,l01N_eq]
    exact evsome (evpos (by omega) (Ev.bind hn1 (evat e1 (evpos q0 (evpos (by simp only;omega) (evpos (by omega) h3))))))
theorem ev_l09Draw {C:List Int} (hC:Cod C) {a h:Int} (ha:0≤a∧a≤(C.length:Int)):∃ (d o:List Int) (t:Tr.F) (a' h':Int),Tr.Tree d t∧o.length=t.size∧(0≤a'∧a'≤(C.length:Int))∧Ev (fun k=>spec_l09Draw.f k C a h) (d,o,a',h'):=by
  obtain ⟨n,a1,h1,e1,n1,s1⟩:=pick_ok hC (h:=h) ha [5,9,14,24] (by simp)
  have hn:5≤n∧n≤24:=by
    simp only [List.mem_cons,List.mem_nil_iff,or_false] at n1
    omega
  obtain ⟨m,a2,h2,e2,m0,m1,s2⟩:=next_ok hC (h:=h1) s1 n
  obtain ⟨j,hj⟩:=Int.eq_ofNat_of_zero_le m0
  obtain ⟨d,t,a3,h3,ht,hd,s3,e3⟩:=ev_DrawOfT hC (h:=h2) s2 (j+1) (by omega) (by omega)
  obtain ⟨o,a4,h4,l1,s4,e4⟩:=ev_l09Draw_l0 hC ht t.size [] a3 h3 (by simp) (by simp) s3
  refine ⟨d,o,t,a4,h4,ht,l1,s4,?_⟩
  unfold spec_l09Draw.f
  refine evat e1 (evat e2 ?_)
  dsimp only
  rw [show wrap64 (1+m)=((j+1:Nat):Int) by rw [Tr.wrap_id (by omega) (by omega)];omega]
  exact Ev.bind e3 e4
theorem ev_l09Given {C:List Int} (hC:Cod C):∃ (d o:List Int),o.length≤1000∧Ev (fun k=>spec_l09Given.f k C) (d,o):=by
  obtain ⟨h0,e0⟩:=ev_l01From hC
  obtain ⟨d,o,t,a1,h1,ht,lo,s1,e1⟩:=ev_l09Draw hC (h:=h0) (a:=0) ⟨by omega,by omega⟩
  have hle:=ht.le
  have hlen:=ht.len
  have hpos:=ht.pos
  obtain ⟨q,a2,h2,e2,_,_,s2⟩:=next_ok hC (h:=h1) s1 16
  by_cases c0:q=0
  · obtain ⟨r,_,e3⟩:=ev_l01Bad hC (h:=h2) s2 d (by omega)
    refine ⟨r.1,o++[0],by simp;omega,?_⟩
    unfold spec_l09Given.f
    exact Ev.bind e0 (Ev.bind e1 (evat e2 (evpos c0 (evpos (by simp only;omega) (evat e3 (Ev.now _))))))
  by_cases c1:q=1
  · obtain ⟨w,a3,h3,l1,s3,e3⟩:=ev_DrawOrder hC (h:=h2) s2 d.length (by omega)
    obtain ⟨r,_,e4⟩:=ev_l01Bad hC (h:=h3) s3 d (by omega)
    refine ⟨r.1,w,by omega,?_⟩
    unfold spec_l09Given.f
    refine Ev.bind e0 (Ev.bind e1 (evat e2 (evneg c0 (evpos c1 ?_))))
    dsimp only
    rw [l01N_eq]
    exact evsome (Ev.bind e3 (evat e4 (Ev.now _)))
  by_cases c2:q=2
  · obtain ⟨p,a3,h3,e3,_,s3⟩:=pick_ok hC (h:=h2) s2 [(-1),(d.length:Int),1] (by simp)
    obtain ⟨r,_,e4⟩:=ev_l01Bad hC (h:=h3) s3 d (by omega)
    refine ⟨r.1,o.set 0 p,by simp;omega,?_⟩
    unfold spec_l09Given.f
    refine Ev.bind e0 (Ev.bind e1 (evat e2 (evneg c0 (evneg c1 (evpos c2 ?_)))))
    dsimp only
    rw [l01N_eq]
    exact evsome (evat e3 (evpos (by omega) (evat e4 (Ev.now _))))
  · obtain ⟨r,_,e3⟩:=ev_l01Bad hC (h:=h2) s2 d (by omega)
    refine ⟨r.1,o,by omega,?_⟩
    unfold spec_l09Given.f
    exact Ev.bind e0 (Ev.bind e1 (evat e2 (evneg c0 (evneg c1 (evneg c2 (evat e3 (Ev.now _)))))))
theorem ev_DrawRankOfGrowing {C:List Int} (hC:Cod C):∃ (d o:List Int),o.length≤1000∧Ev (fun k=>spec_DrawRankOfGrowing.f k C) (d,o):=by
  obtain ⟨d,o,l1,e1⟩:=ev_l09Given hC
  exact ⟨d,o,l1,Ev.bind e1 (Ev.now _)⟩
theorem ev_DrawIsGrowing {C:List Int} (hC:Cod C):∃ (d o:List Int),o.length≤1000∧Ev (fun k=>spec_DrawIsGrowing.f k C) (d,o):=by
  obtain ⟨d,o,l1,e1⟩:=ev_l09Given hC
  exact ⟨d,o,l1,Ev.bind e1 (Ev.now _)⟩
theorem ev_DrawExchangeAt {C:List Int} (hC:Cod C):∃ (d o:List Int) (i:Int),o.length≤1000∧Ev (fun k=>spec_DrawExchangeAt.f k C) (d,o,i):=by
  obtain ⟨d,o,l1,e1⟩:=ev_l09Given hC
  obtain ⟨h0,e0⟩:=ev_l01From hC
  obtain ⟨r,a1,h1,e2,_⟩:=near_ok hC (h:=h0) (a:=0) ⟨by omega,by omega⟩ (mx (wrap64 ((o.length:Int) - 2)) 0)
  exact ⟨d,o,r,l1,Ev.bind e1 (Ev.bind e0 (evat e2 (Ev.now _)))⟩
theorem ev_DrawCountGrowing {C:List Int} (hC:Cod C):∃ d:List Int,Ev (fun k=>spec_DrawCountGrowing.f k C) d:=by
  obtain ⟨h0,e0⟩:=ev_l01From hC
  obtain ⟨r,_,e1⟩:=ev_l01Spoil hC (h:=h0) (a:=0) ⟨by omega,by omega⟩
  exact ⟨r.1,Ev.bind e0 (Ev.bind e1 (Ev.now _))⟩
theorem ev_DrawGrowingOfRank_j1 {C d:List Int} (hC:Cod C) (hd:1≤d.length∧d.length≤24) {a h:Int} (ha:0≤a∧a≤(C.length:Int)) (x:Int):∃ r,Ev (fun k=>spec_DrawGrowingOfRank.j1 k x C a h d) r:=by
  obtain ⟨q,a1,h1,e1,_,_,s1⟩:=next_ok hC (h:=h) ha 16
  by_cases c:q=0
  · obtain ⟨p,a2,h2,e2,_,s2⟩:=pick_ok hC (h:=h1) s1 [(-1),4611686018427387904] (by simp)
    obtain ⟨r,_,e3⟩:=ev_l01Bad hC (h:=h2) s2 d hd
    refine ⟨(r.1,p),Ev_succ ?_⟩
    simp only [spec_DrawGrowingOfRank.j1]
    exact evat e1 (evpos c (evat e2 (evat e3 (Ev.now _))))
  · obtain ⟨r,_,e3⟩:=ev_l01Bad hC (h:=h1) s1 d hd
    refine ⟨(r.1,x),Ev_succ ?_⟩
    simp only [spec_DrawGrowingOfRank.j1]
    exact evat e1 (evneg c (evat e3 (Ev.now _)))
theorem ev_DrawGrowingOfRank {C:List Int} (hC:Cod C):∃ r,Ev (fun k=>spec_DrawGrowingOfRank.f k C) r:=by
  obtain ⟨h0,e0⟩:=ev_l01From hC
  obtain ⟨n,a1,h1,e1,n1,s1⟩:=pick_ok hC (h:=h0) (a:=0) ⟨by omega,by omega⟩ [4,8,20,24] (by simp)
  have hn:4≤n∧n≤24:=by
    simp only [List.mem_cons,List.mem_nil_iff,or_false] at n1
    omega
  obtain ⟨m,a2,h2,e2,m0,m1,s2⟩:=next_ok hC (h:=h1) s1 n
  obtain ⟨j,hj⟩:=Int.eq_ofNat_of_zero_le m0
  obtain ⟨d,t,a3,h3,ht,hd,s3,e3⟩:=ev_DrawOfT hC (h:=h2) s2 (j+1) (by omega) (by omega)
  obtain ⟨p,a4,h4,e4,_,s4⟩:=pick_ok hC (h:=h3) s3 [2,10,1000] (by simp)
  obtain ⟨q,a5,h5,e5,_,_,s5⟩:=next_ok hC (h:=h4) s4 p
  have go:∀ r,Ev (fun k=>if (d.length:Int)≤20 then ((spec_l01Next.f C a5 h5 3).bind fun bt968=>spec_DrawGrowingOfRank.j0 k q (decide (bt968.1>0)) C bt968.2.1 bt968.2.2 d) else spec_DrawGrowingOfRank.j0 k q false C a5 h5 d) r→Ev (fun k=>spec_DrawGrowingOfRank.f k C) r:=by
    intro r hr
    unfold spec_DrawGrowingOfRank.f
    refine Ev.bind e0 (evat e1 (evat e2 ?_))
    dsimp only
    rw [show wrap64 (1+m)=((j+1:Nat):Int) by rw [Tr.wrap_id (by omega) (by omega)];omega]
    refine Ev.bind e3 (evat e4 (evat e5 ?_))
    dsimp only
    rw [l01N_eq]
    exact evsome hr
  by_cases c:(d.length:Int)≤20
  · obtain ⟨w,a6,h6,e6,_,_,s6⟩:=next_ok hC (h:=h5) s5 3
    by_cases c1:w>0
    · obtain ⟨x,a7,h7,e7,_,_,s7⟩:=next_ok hC (h:=h6) s6 (Tr.cnt t []:Int)
      obtain ⟨r,hr⟩:=ev_DrawGrowingOfRank_j1 hC (d:=d) ⟨by omega,by omega⟩ (h:=h7) s7 x
      have hs:=ht.len
      refine ⟨r,go r (evpos c (evat e6 (Ev_succ ?_)))⟩
      simp only [spec_DrawGrowingOfRank.j0]
      exact evpos (by simpa using c1) (Ev.bind (ev_cntS ht (by omega) (Tr.closed_nil t) (by simp)) (evat e7 hr))
    · obtain ⟨r,hr⟩:=ev_DrawGrowingOfRank_j1 hC (d:=d) ⟨by omega,by omega⟩ (h:=h6) s6 q
      refine ⟨r,go r (evpos c (evat e6 (Ev_succ ?_)))⟩
      simp only [spec_DrawGrowingOfRank.j0]
      exact evneg (by simpa using c1) hr
  · obtain ⟨r,hr⟩:=ev_DrawGrowingOfRank_j1 hC (d:=d) ⟨by omega,by omega⟩ (h:=h5) s5 q
    refine ⟨r,go r (evneg c (Ev_succ ?_))⟩
    simp only [spec_DrawGrowingOfRank.j0]
    exact evneg (by simp) hr
section
variable {d L:List Int} {t:Tr.F}
theorem gro_code (G:Tr.Gro d t L):Tr.codeG d L t=0:=by
  have:=G.h.len
  exact Tr.codeG_zero.mpr ⟨by rw [this];exact G.ho,G.hg⟩
theorem ev_RankG (G:Tr.Gro d t L):Ev (fun k=>impl_RankOfGrowing.f k d L) ((Tr.rk t L t.size 0:Int),0):=by
  have hs:=G.hs
  have hlen:=G.h.len
  have hL:=G.ho.1
  obtain ⟨_,h2⟩:=ev_RankOfGrowing_l0 G.h hs G.ho G.hg t.size 0 0 (by omega)
  rw [G.rank0] at h2
  unfold impl_RankOfGrowing.f
  refine Ev.bind (ev_growingCode G.h L (by omega)) (evpos (gro_code G) (Ev.bind (a:=0) ?_ (evpos rfl (Ev.bind (ev_sizesOf G.h) h2))))
  unfold impl_grownCode.f
  exact Ev.bind (ev_IsTree d) (evpos G.h.isT (evneg (by omega) (Ev.now _)))
theorem ev_cntU (h:Tr.Tree d t) (hs:t.size≤20):Ev (fun k=>impl_ways.f k (Tr.sizesL t) (Tr.upto d.length)) (Tr.cnt t []:Int):=by
  have hl0:Tr.left t []=List.range t.size:=by unfold Tr.left;exact List.filter_eq_self.2 (fun v _=>by simp)
  have hcw:=ev_cntW h hs (Tr.closed_nil t)
  have e:Tr.upto d.length=(Tr.left t []).map (fun v:Nat=>(v:Int)):=by rw [hl0,h.len];rfl
  rw [← e] at hcw
  exact hcw
theorem ev_GrowG (G:Tr.Gro d t L):Ev (fun k=>impl_GrowingOfRank.f k d (Tr.rk t L t.size 0:Int)) (L,0):=by
  have hs:=G.hs
  have hlen:=G.h.len
  have hlt:=G.rk_lt t.size 0 (by omega)
  rw [List.take_zero] at hlt
  obtain ⟨_,h3⟩:=ev_GrowingOfRank_l0 G.h hs t.size [] (Tr.rk t L t.size 0:Int) (by simp) (Tr.closed_nil t) (by omega) (by omega)
  have hu:=G.unrank t.size 0 (by omega)
  rw [List.take_zero] at hu
  rw [hu] at h3
  unfold impl_GrowingOfRank.f
  exact Ev.bind (ev_IsTree d) (evpos G.h.isT (evneg (by omega) (evneg (by omega) (Ev.bind (ev_sizesOf G.h) (Ev.bind (ev_preorder d (by omega)) (Ev.bind (ev_cntU G.h hs) (evneg (by omega) h3)))))))
theorem ev_CountG (h:Tr.Tree d t) (hs:t.size≤20):Ev (fun k=>impl_CountGrowing.f k d) ((Tr.cnt t []:Int),0):=by
  have hlen:=h.len
  unfold impl_CountGrowing.f impl_grownCode.f
  exact Ev.bind (a:=0) (Ev.bind (ev_IsTree d) (evpos h.isT (evneg (by omega) (Ev.now _)))) (evpos rfl (Ev.bind (ev_sizesOf h) (Ev.bind (ev_preorder d (by omega)) (Ev.bind (ev_cntU h hs) (Ev.now _)))))
theorem ev_NextG (G:Tr.Gro d t L):Ev (fun k=>impl_NextGrowing.f k d L) (Tr.nextG t L t.size):=by
  have hs:=G.hs
  have hL:=G.ho.1
  obtain ⟨_,h2⟩:=ev_NextGrowing_l0 G.h G.ho t.size (Nat.le_refl _)
  unfold impl_NextGrowing.f
  refine Ev.bind (ev_growingCode G.h L (by omega)) (evpos (gro_code G) ?_)
  rw [Tr.wrap_id (by omega) (by omega),hL];exact h2
theorem ev_LabG (G:Tr.Gro d t L):Ev (fun k=>impl_LabelsOf.f k d L) (Tr.labels L t.size,0):=by
  have hs:=G.hs
  have hL:=G.ho.1
  unfold impl_LabelsOf.f
  exact Ev.bind (ev_growingCode G.h L (by omega)) (evpos (gro_code G) (Ev.bind (ev_labelsOf G.ho (by omega)) (Ev.now _)))
theorem ev_ExchI (h:Tr.Tree d t) (ho:Tr.isOrd d.length L) (hg:Tr.growing t L=true) {i:Nat} (hi:i+1<L.length) (hf:¬ rd (Tr.parentsL t) (rd L ((i+1:Nat):Int))=rd L (i:Int)):Ev (fun k=>impl_ExchangeAt.f k d L (i:Int)) ((L.set i (rd L ((i+1:Nat):Int))).set (i+1) (rd L (i:Int)),0):=by
  have hle:=h.le
  have hlen:=h.len
  have hol:=ho.1
  have hcO:Tr.codeO d L=0:=by unfold Tr.codeO;rw [if_pos h.isT,if_pos ho]
  have hq:=Tr.isOrd_rd ho (i:=i+1) (by omega)
  have hpl:(Tr.parentsL t).length=t.size:=Tr.each_len _ _
  unfold impl_ExchangeAt.f
  refine Ev.bind (ev_orderCode d L (by omega)) (evpos hcO (evneg (by omega) ?_))
  rw [Tr.wrap_id (by omega) (by omega),decide_eq_false (by omega)]
  refine Ev_succ ?_
  simp only [impl_ExchangeAt.j0]
  rw [Tr.wrap_succ (by omega)]
  refine evneg (by simp) (Ev.bind (ev_isGrowing h ho) (evpos hg (Ev.bind (ev_parentsOf h) ?_)))
  rw [hpl,show slices_Clone.f L=some L by unfold slices_Clone.f;rw [if_pos (by omega)]]
  refine evpos (by omega) (evpos (by omega) (evpos (by omega) (evpos (by omega) (evpos (by omega) (evpos (by omega) (evneg hf ?_))))))
  refine evsome ?_
  exact evpos (by omega) (evpos (by omega) (Ev.now _))
theorem ev_FreeG (h:Tr.Tree d t) (ho:Tr.isOrd d.length L) (hg:Tr.growing t L=true):Ev (fun k=>impl_FreePlaces.f k d L) (Tr.frees (Tr.parentsL t) L (L.length - 1) 0,0):=by
  have hle:=h.le
  have hlen:=h.len
  have hpos:=h.pos
  have hol:=ho.1
  have:=ev_FreePlaces_impl h ho (L.length - 1) 0 [] (by omega) (by simp)
  unfold impl_FreePlaces.f
  exact Ev.bind (ev_growingCode h L (by omega)) (evpos (Tr.codeG_zero.mpr ⟨ho,hg⟩) (Ev.bind (ev_parentsOf h) (by simpa using this)))
end
theorem ev_hasInt_l0 (x:Int):∀ (s pre:List Int),(pre++s).length≤1000→x∈s→Ev (fun k=>laws_hasInt.l0 k (pre++s) x (pre.length:Int)) true:=by
  intro s
  induction s with
  | nil=>intro pre _ h;simp at h
  | cons y s ih =>
    intro pre hl hm
    have hl':=hl
    simp only [List.length_append,List.length_cons] at hl
    refine Ev_succ ?_
    simp only [laws_hasInt.l0]
    rw [Tr.rd_app0,Tr.rd_cons0,Tr.wrap_succ (by omega)]
    refine evpos (by simp;omega) (evpos (by omega) ?_)
    by_cases c:y=x
    · exact evpos c (Ev.now _)
    · have:=ih (pre++[y]) (by simpa using hl') (by
        rcases List.mem_cons.1 hm with q|q
        · exact absurd q.symm c
        · exact q)
      refine evneg c ?_
      simpa using this
theorem ev_hasInt {s:List Int} {x:Int} (hl:s.length≤1000) (hx:x∈s):Ev (fun k=>laws_hasInt.f k s x) true:=ev_hasInt_l0 x s [] (by simpa using hl) hx
theorem ev_FnGrowing_j8 {C:List Int} (hC:Cod C):Ev (fun k=>laws_FnGrowing.j8 k C) true:=by
  obtain ⟨d,o,l1,e1⟩:=ev_DrawIsGrowing hC
  obtain ⟨r,r1,r2⟩:=ev_IsGrowing d o (by omega)
  obtain ⟨z,e2⟩:=ev_DrawCountGrowing hC
  obtain ⟨s,s1,s2⟩:=ev_CountGrowing z
  obtain ⟨p,p1,p2,p3⟩:=ev_FirstGrowing z
  obtain ⟨q,q1,q2,q3⟩:=ev_LastGrowing z
  obtain ⟨u,e3⟩:=ev_DrawGrowingOfRank hC
  obtain ⟨v,v1,v2,v3⟩:=ev_GrowingOfRank u.1 u.2
  refine Ev_succ ?_
  simp only [laws_FnGrowing.j8]
  exact Ev.bind e1 (Ev.bind r2 (Ev.bind r1 (Ev.bind e2 (Ev.bind s2 (Ev.bind s1 (Ev.bind p2 (Ev.bind p1 (Ev.bind q2 (Ev.bind q1 (Ev.bind e3 (Ev.bind v2 (Ev.bind v1 (evpos rfl (evpos (by simp) (evpos rfl (evpos rfl (evpos rfl (Ev.bind (ev_likeInts _ (by omega)) (evpos rfl (evpos rfl (Ev.bind (ev_likeInts _ (by omega)) (evpos rfl (evpos rfl (Ev.bind (ev_likeInts _ (by omega)) (Ev.now _)))))))))))))))))))))))))
theorem ev_FnGrowing_j5 {C:List Int} (hC:Cod C):Ev (fun k=>laws_FnGrowing.j5 k C) true:=by
  have h8:=ev_FnGrowing_j8 hC
  obtain ⟨d,o,i,l1,e1⟩:=ev_DrawExchangeAt hC
  obtain ⟨r,r1,r2,r3,r4⟩:=ev_ExchV d o i (by omega)
  obtain ⟨p,p1,p2,p3⟩:=ev_FreePlaces d o (by omega)
  refine Ev_succ ?_
  simp only [laws_FnGrowing.j5]
  refine Ev.bind e1 (Ev.bind r2 (Ev.bind r1 (Ev.bind p2 (Ev.bind p1 (evpos rfl (Ev.bind (ev_likeInts _ (by omega)) (evpos rfl (evpos rfl (Ev.bind (ev_likeInts _ (by omega)) ?_)))))))))
  refine Ev_succ ?_
  simp only [laws_FnGrowing.j6]
  refine evneg (by simp) ?_
  by_cases c:r.2=0
  · obtain ⟨t,j,ht,rfl,ho,hj,hg,hf,e⟩:=r4 c
    have hle:=ht.le
    have hlen:=ht.len
    have hol:=ho.1
    obtain ⟨M,hM,m1,m2,m3,m4⟩:=Tr.swap_ok ho hlen hg hj hf
    have hml:=m1.1
    have b1:=ev_ExchI ht m1 m2 (i:=j) (by omega) m3
    rw [m4] at b1
    rw [e,← hM]
    have hp:p=(Tr.frees (Tr.parentsL t) o (o.length - 1) 0,0):=ev_uniq p2 (ev_FreeG ht ho hg)
    refine evpos c (Ev.bind b1 (Ev.bind (ev_impl_IsGrowing ht (by omega) m1 m2) (evpos rfl (evpos rfl (Ev.bind (ev_likeInts o (by omega)) (evpos rfl (evpos rfl (Ev.bind (ev_hasInt p3 (by rw [hp];exact Tr.frees_mem _ _ j hf _ _ (by omega) (by omega))) ?_))))))))
    refine Ev_succ ?_
    simp only [laws_FnGrowing.j7]
    exact evneg (by simp) h8
  · exact evneg c h8
theorem ev_FnGrowing_l0 {C d L:List Int} {t:Tr.F} (hC:Cod C) (G:Tr.Gro d t L):∀ (m i:Nat),i+m=t.size→Ev (fun k=>laws_FnGrowing.l0 k C L (Tr.labels L t.size) (L.length:Int) (i:Int)) true:=by
  have hs:=G.hs
  have hL:=G.ho.1
  have hll:(Tr.labels L t.size).length=t.size:=Tr.each_len _ _
  intro m
  induction m with
  | zero =>
    intro i hi
    refine Ev_succ ?_
    simp only [laws_FnGrowing.l0]
    exact evneg (by omega) (ev_FnGrowing_j5 hC)
  | succ m ih =>
    intro i hi
    have hr:=Tr.isOrd_rd G.ho (i:=i) (by omega)
    refine Ev_succ ?_
    simp only [laws_FnGrowing.l0]
    rw [Tr.wrap_succ (by omega),hll]
    exact evpos (by omega) (evpos (by omega) (evpos (by omega) (evpos (by omega) (evpos (by omega) (evpos (Tr.labels_back G.ho (by omega)) (ih (i+1) (by omega)))))))
theorem pure_FnGrowing (C:List Int) (hl:C.length≤maxLen) (hw:∀ x∈C,(Lit.int .u8 x).wf=true):∃ k,laws_FnGrowing.f k C=some true:=by
  refine Ev.rounds ?_
  unfold laws_FnGrowing.f laws_big.f
  by_cases hb:(C.length:Int)>4096
  · exact evsome (evpos (by simpa using hb) (Ev.now _))
  have hC:Cod C:=⟨by omega,fun x hx=>by
      have:=hw x hx
      have h3:IntKind.u8.min≤x∧x≤IntKind.u8.max:=by simpa [Lit.wf] using this
      exact h3⟩
  obtain ⟨d,L,l1,e1⟩:=ev_DrawRankOfGrowing hC
  obtain ⟨r,r1,r2,r3⟩:=ev_RankV d L (by omega)
  obtain ⟨n,n1,n2,n3⟩:=ev_NextGrowing d L (by omega)
  obtain ⟨b,b1,b2,b3⟩:=ev_LabelsOf d L (by omega)
  obtain ⟨q,q1,q2,q3⟩:=ev_BreaksOf d L (by omega)
  refine evsome (evneg (by simpa using hb) (Ev.bind e1 (Ev.bind r2 (Ev.bind r1 (Ev.bind n2 (Ev.bind n1 (Ev.bind b2 (Ev.bind b1 (Ev.bind q2 (Ev.bind q1 (evpos rfl (evpos rfl (evpos rfl (Ev.bind (ev_likeInts _ (by omega)) (evpos rfl (evpos rfl (Ev.bind (ev_likeInts _ (by omega)) (evpos rfl (evpos rfl (Ev.bind (ev_likeInts _ (by omega)) ?_))))))))))))))))))))
  refine Ev_succ ?_
  simp only [laws_FnGrowing.j0]
  refine evneg (by simp) ?_
  by_cases c:r.2=0
  · obtain ⟨t,ht,hs,ho,hg,e⟩:=r3 c
    have G:Tr.Gro d t L:=⟨ht,hs,ho,hg⟩
    have hb':b=(Tr.labels L t.size,0):=ev_uniq b2 (ev_LabG G)
    have hn':=ev_uniq n2 (ev_NextG G)
    have hlt:=G.rk_lt t.size 0 (by omega)
    rw [List.take_zero] at hlt
    have hcl:=Tr.cnt_le ht hs []
    have h3:Ev (fun k=>laws_FnGrowing.j3 k C L (Tr.labels L t.size)) true:=by
      refine Ev_succ ?_
      simp only [laws_FnGrowing.j3]
      exact ev_FnGrowing_l0 hC G t.size 0 (by omega)
    rw [e,G.rank0,hb']
    refine evpos c (Ev.bind (ev_GrowG G) (Ev.bind (ev_CountG ht hs) (evpos rfl (evpos rfl (Ev.bind (ev_likeInts L (by omega)) (evpos rfl (evneg (by omega) (evneg (by simp only;omega) ?_))))))))
    refine Ev_succ ?_
    simp only [laws_FnGrowing.j1]
    rw [Tr.wrap_id (by omega) (by omega)]
    rcases G.next with ⟨g1,g2⟩|⟨g1,g2,g3,g4⟩
    · rw [← hn'] at g1
      refine evneg ?_ (evneg (by omega) h3)
      rw [g1,decide_eq_false (by omega)]
      simp
    · rw [← hn'] at g1 g2 g3
      refine evneg ?_ (evpos g1 (Ev.bind (ev_RankG g2) (evpos rfl ?_)))
      · rw [g1,decide_eq_true (by omega)]
        simp
      · refine Ev_succ ?_
        simp only [laws_FnGrowing.j2]
        refine evneg ?_ h3
        rw [g3]
        simp
  · exact evneg c (ev_FnGrowing_j5 hC)
end Go.Proofs.YtlppkilencpmeaaGreat.QFnGrowing
